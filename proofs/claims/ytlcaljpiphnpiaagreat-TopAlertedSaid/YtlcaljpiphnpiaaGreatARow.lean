/- TopAlerted answers true at every input, and its argument reads behind the call as it read before. No condition. -/
import Derived.Test.YtlcaljpiphnpiaaGreatAR1
import Derived.Test.YtlcaljpiphnpiaaGreatAR2
import Derived.Test.YtlcaljpiphnpiaaGreatAR3
import Derived.Test.YtlcaljpiphnpiaaGreatAR4
import Derived.Test.YtlcaljpiphnpiaaGreatAR5
import Derived.Test.YtlcaljpiphnpiaaGreatAR6
import Derived.Test.YtlcaljpiphnpiaaGreatAR7
import Derived.Test.YtlcaljpiphnpiaaGreatAR8
import Derived.Test.YtlcaljpiphnpiaaGreatAR9
import Derived.Test.YtlcaljpiphnpiaaGreatAF1
import Derived.Test.YtlcaljpiphnpiaaGreatAF2
import Derived.Test.YtlcaljpiphnpiaaGreatAF3
import Derived.Test.YtlcaljpiphnpiaaGreatAF4
import Derived.Test.YtlcaljpiphnpiaaGreatAF5
import Derived.Test.YtlcaljpiphnpiaaGreatAF6
import Derived.Test.YtlcaljpiphnpiaaGreatRows
import Derived.ChangeSlices
import Derived.ChangeSame
import Derived.JoinedOf
import Derived.JoinedAt
import Derived.SizedLaws
import Derived.Maps.OwnSet
import Derived.WideKeyElems2
import Derived.Seven
/- TopAlerted: its body answers true. -/
namespace Go.Sim
noncomputable section
open Go.RowKit

theorem a_push (q : Nat) (hq : q < 8) (V : Vals) (ok) : chkN (thPush q) [⟨0, 0⟩, ⟨4, 0⟩] (psQ (q + 1)) (pbQ (q + 1)) (@codeD ⟨V, pcPush, ok⟩ progA cfg (@ev ⟨V, pcPush, ok⟩ progA cfg 1000) loopA ⟨stA, psQ q, []⟩ (patH (pbQ q))) = true := by
  match q, hq with
  | 0, _ => exact a_push0 V ok
  | 1, _ => exact a_push1 V ok
  | 2, _ => exact a_push2 V ok
  | 3, _ => exact a_push3 V ok
  | 4, _ => exact a_push4 V ok
  | 5, _ => exact a_push5 V ok
  | 6, _ => exact a_push6 V ok
  | 7, _ => exact a_push7 V ok
  | n + 8, h => omega

theorem a_pop (q : Nat) (hq : q < 8) (V : Vals) (ok) : chkN (thPop q) [⟨0, 0⟩, ⟨1, 1⟩] (psQ q) (pbQ q) (@codeD ⟨V, pcPop, ok⟩ progA cfg (@ev ⟨V, pcPop, ok⟩ progA cfg 1000) loopA ⟨stA, psQ (q + 1), []⟩ (patH (pbQ (q + 1)))) = true := by
  match q, hq with
  | 0, _ => exact a_pop1 V ok
  | 1, _ => exact a_pop2 V ok
  | 2, _ => exact a_pop3 V ok
  | 3, _ => exact a_pop4 V ok
  | 4, _ => exact a_pop5 V ok
  | 5, _ => exact a_pop6 V ok
  | 6, _ => exact a_pop7 V ok
  | 7, _ => exact a_pop8 V ok
  | n + 8, h => omega

theorem a_end1 (q : Nat) (hq : q < 9) (V : Vals) (ok) : chkX 0 [] [⟨0, 0⟩, ⟨1, 0⟩] (psQ q) (pbQ q) (@codeD ⟨V, pcEnd1, ok⟩ progA cfg (@ev ⟨V, pcEnd1, ok⟩ progA cfg 1000) loopA ⟨stA, psQ q, []⟩ (patH (pbQ q))) = true := by
  match q, hq with
  | 0, _ => exact a_end1Q0 V ok
  | 1, _ => exact a_end1Q1 V ok
  | 2, _ => exact a_end1Q2 V ok
  | 3, _ => exact a_end1Q3 V ok
  | 4, _ => exact a_end1Q4 V ok
  | 5, _ => exact a_end1Q5 V ok
  | 6, _ => exact a_end1Q6 V ok
  | 7, _ => exact a_end1Q7 V ok
  | 8, _ => exact a_end1Q8 V ok
  | n + 9, h => omega

theorem a_end2 (q : Nat) (hq : q < 9) (V : Vals) (ok) : chkX 0 [] [⟨0, 0⟩, ⟨1, 0⟩] (psQ q) (pbQ q) (@codeD ⟨V, pcEnd2, ok⟩ progA cfg (@ev ⟨V, pcEnd2, ok⟩ progA cfg 1000) loopA ⟨stA, psQ q, []⟩ (patH (pbQ q))) = true := by
  match q, hq with
  | 0, _ => exact a_end2Q0 V ok
  | 1, _ => exact a_end2Q1 V ok
  | 2, _ => exact a_end2Q2 V ok
  | 3, _ => exact a_end2Q3 V ok
  | 4, _ => exact a_end2Q4 V ok
  | 5, _ => exact a_end2Q5 V ok
  | 6, _ => exact a_end2Q6 V ok
  | 7, _ => exact a_end2Q7 V ok
  | 8, _ => exact a_end2Q8 V ok
  | n + 9, h => omega

theorem a_fin (q : Nat) (hq : q < 9) (V : Vals) (ok) : chkR 2 (@codeD ⟨V, [], ok⟩ progA cfg (@ev ⟨V, [], ok⟩ progA cfg 1000) restA ⟨stA, psQ q, []⟩ (patH (pbQ q))) = true := by
  match q, hq with
  | 0, _ => exact a_fin0 V ok
  | 1, _ => exact a_fin1 V ok
  | 2, _ => exact a_fin2 V ok
  | 3, _ => exact a_fin3 V ok
  | 4, _ => exact a_fin4 V ok
  | 5, _ => exact a_fin5 V ok
  | 6, _ => exact a_fin6 V ok
  | 7, _ => exact a_fin7 V ok
  | 8, _ => exact a_fin8 V ok
  | n + 9, h => omega

/-- the state at the loop's head -/
def HeadA (W0 : World) (V : Vals) (act : Act) (w : World) : Prop := PatAt W0 V stA psN pbN act w ∨ ∃ q, q < 9 ∧ PatAt W0 V stA (psQ q) (pbQ q) act w

theorem wrapA {x : Int} (h0 : 0 ≤ x) (h1 : x < 60) : IntKind.i64.wrap (x + 1) = x + 1 := by
  unfold IntKind.wrap
  simp [IntKind.signed, IntKind.bits, IntKind.max, IntKind.min]
  omega

theorem ok_base {V : Vals} (h0 : 0 ≤ V.v 1) (h1 : V.v 1 < V.v 0) (h2 : V.v 1 < 60) : ∀ f, f ∈ baseA → cmpV f.1 (f.2.1.eval V) (f.2.2.1.eval V) = some f.2.2.2 := by
  intro f hf
  simp only [baseA, List.mem_cons, List.not_mem_nil, or_false] at hf
  rcases hf with rfl | rfl | rfl
  · simp [cmpV, SX.eval, h1]
  · simp [cmpV, SX.eval, h2]
  · simp [cmpV, SX.eval, h0]

theorem ok_test {V : Vals} {b : Bool} (hb : decide ((V.arr 0 (V.v 1).toNat 0).tmod 5 < 2) = b) {l : List (BinOp × SX × SX × Bool)} (hl : ∀ f, f ∈ l → cmpV f.1 (f.2.1.eval V) (f.2.2.1.eval V) = some f.2.2.2) :
    ∀ f, f ∈ testA b :: l → cmpV f.1 (f.2.1.eval V) (f.2.2.1.eval V) = some f.2.2.2 := by
  intro f hf
  rcases List.mem_cons.1 hf with rfl | hf
  · show cmpV .lss _ _ = some b
    rw [← hb]; rfl
  · exact hl f hf

section
variable {W0 : World} (hm : progA.follows .mixedOrders = true) (hN : Named progA) (hP : ∀ I : Val, @PrimOk I anyC progA cfg)
include hm hN hP

/-- a round -/
theorem roundA {V : Vals} {act : Act} {w : World} (hJ : HeadA W0 V act w) (h0 : 0 ≤ V.v 1) (h6 : V.v 1 ≤ 60) :
    loopA.wpIn Fence.wide 0 progA (fun e act' w' => (e = .normal ∧ ∃ V', HeadA W0 V' act' w' ∧ V'.v 1 = V.v 1 + 1 ∧ V.v 1 < 60) ∨ (e = .exit 0 ∧ ∃ V', HeadA W0 V' act' w')) act w := by
  by_cases h1 : V.v 1 < V.v 0
  · by_cases h2 : V.v 1 < 60
    · have nx : ∀ (th : List SX), th[1]? = some iA → (nextV V th).v 1 = V.v 1 + 1 := by
        intro th hth
        show (((th[1]?).getD (SX.atom 1)).eval V) = _
        rw [hth]
        exact wrapA h0 h2
      have done : ∀ (th : List SX) (act' : Act) (w' : World), th[1]? = some iA → HeadA W0 (nextV V th) act' w' →
          (Exit.normal = .normal ∧ ∃ V', HeadA W0 V' act' w' ∧ V'.v 1 = V.v 1 + 1 ∧ V.v 1 < 60) ∨ (Exit.normal = .exit 0 ∧ ∃ V', HeadA W0 V' act' w') := fun th act' w' hth hh => .inl ⟨rfl, _, hh, nx th hth, h2⟩
      cases hb : decide ((V.arr 0 (V.v 1).toNat 0).tmod 5 < 2) with
      | false =>
        have ok : ∀ f, f ∈ pcPush → cmpV f.1 (f.2.1.eval V) (f.2.2.1.eval V) = some f.2.2.2 := ok_test hb (ok_base h0 h1 h2)
        rcases hJ with hp | ⟨q, hq, hp⟩
        · exact pat_norm hm hN hP hp ⟨V, pcPush, ok⟩ rfl (a_nPush V ok) rfl fun act' w' h => done _ act' w' rfl (.inr ⟨1, by omega, h⟩)
        · by_cases h8 : q < 8
          · exact pat_norm hm hN hP hp ⟨V, pcPush, ok⟩ rfl (a_push q h8 V ok) rfl fun act' w' h => done _ act' w' rfl (.inr ⟨q + 1, by omega, h⟩)
          · have : q = 8 := by omega
            subst this
            exact pat_norm hm hN hP hp ⟨V, pcPush, ok⟩ rfl (a_push8 V ok) rfl fun act' w' h => done _ act' w' rfl (.inr ⟨8, by omega, h⟩)
      | true =>
        have ok : ∀ f, f ∈ pcPop → cmpV f.1 (f.2.1.eval V) (f.2.2.1.eval V) = some f.2.2.2 := ok_test hb (ok_base h0 h1 h2)
        rcases hJ with hp | ⟨q, hq, hp⟩
        · exact pat_norm hm hN hP hp ⟨V, pcPop, ok⟩ rfl (a_nPop V ok) rfl fun act' w' h => done _ act' w' rfl (.inl h)
        · cases q with
          | zero => exact pat_norm hm hN hP hp ⟨V, pcPop, ok⟩ rfl (a_pop0 V ok) rfl fun act' w' h => done _ act' w' rfl (.inr ⟨0, by omega, h⟩)
          | succ q => exact pat_norm hm hN hP hp ⟨V, pcPop, ok⟩ rfl (a_pop q (by omega) V ok) rfl fun act' w' h => done _ act' w' rfl (.inr ⟨q, by omega, h⟩)
    · have ok : ∀ f, f ∈ pcEnd2 → cmpV f.1 (f.2.1.eval V) (f.2.2.1.eval V) = some f.2.2.2 := by
        intro f hf
        simp only [pcEnd2, List.mem_cons, List.not_mem_nil, or_false] at hf
        rcases hf with rfl | rfl
        · show some (decide (V.v 1 < V.v 0)) = some true
          rw [decide_eq_true h1]
        · show some (decide (V.v 1 < 60)) = some false
          rw [decide_eq_false h2]
      rcases hJ with hp | ⟨q, hq, hp⟩
      · exact pat_exit hm hN hP hp ⟨V, pcEnd2, ok⟩ rfl (a_end2N V ok) rfl fun act' w' h => .inr ⟨rfl, _, .inl h⟩
      · exact pat_exit hm hN hP hp ⟨V, pcEnd2, ok⟩ rfl (a_end2 q hq V ok) rfl fun act' w' h => .inr ⟨rfl, _, .inr ⟨q, hq, h⟩⟩
  · have ok : ∀ f, f ∈ pcEnd1 → cmpV f.1 (f.2.1.eval V) (f.2.2.1.eval V) = some f.2.2.2 := by
      intro f hf
      simp only [pcEnd1, List.mem_cons, List.not_mem_nil, or_false] at hf
      rcases hf with rfl
      show some (decide (V.v 1 < V.v 0)) = some false
      rw [decide_eq_false h1]
    rcases hJ with hp | ⟨q, hq, hp⟩
    · exact pat_exit hm hN hP hp ⟨V, pcEnd1, ok⟩ rfl (a_end1N V ok) rfl fun act' w' h => .inr ⟨rfl, _, .inl h⟩
    · exact pat_exit hm hN hP hp ⟨V, pcEnd1, ok⟩ rfl (a_end1 q hq V ok) rfl fun act' w' h => .inr ⟨rfl, _, .inr ⟨q, hq, h⟩⟩

theorem bodyA_ok {V : Vals} {act : Act} {w : World} (hp : PatAt W0 V stA [(0, .lx [.u8] (.atom 0) 0)] [] act w) :
    bodyA.wpIn Fence.wide 0 progA (fun e act' w' => e = .ret ∧ act'.defers = [] ∧ act'.tmps.getD 2 undef = .bool true ∧ FrW W0 w') act w := by
  have noF : ∀ f, f ∈ ([] : List (BinOp × SX × SX × Bool)) → cmpV f.1 (f.2.1.eval V) (f.2.2.1.eval V) = some f.2.2.2 := fun f hf => by cases hf
  refine pat_take hm hN hP hp ⟨V, [], noF⟩ rfl 4 (a_pre V noF) rfl (fun act1 w1 hp1 => ?_)
  rw [split1]
  refine wpIn_seq (wpIn_seq ?_)
  generalize hV1 : nextV V [] = V1 at hp1
  refine pat_norm hm hN hP hp1 ⟨V1, [], fun f hf => by cases hf⟩ rfl (a_ld V1 _) rfl (fun act2 w2 hp2 => ?_)
  refine wpIn_block ?_
  -- behind the loop
  have fin : ∀ V' act' w', HeadA W0 V' act' w' → restA.wpIn Fence.wide 0 progA (fun e act' w' => e = .ret ∧ act'.defers = [] ∧ act'.tmps.getD 2 undef = .bool true ∧ FrW W0 w') act' w' := by
    intro V' act' w' hh
    rcases hh with hp | ⟨q, hq, hp⟩
    · exact pat_ret hm hN hP hp ⟨V', [], fun f hf => by cases hf⟩ rfl (a_finN V' _) rfl fun act' w' h1 h2 h3 => ⟨rfl, h1, h2, h3⟩
    · exact pat_ret hm hN hP hp ⟨V', [], fun f hf => by cases hf⟩ rfl (a_fin q hq V' _) rfl fun act' w' h1 h2 h3 => ⟨rfl, h1, h2, h3⟩
  haveI : Val := ⟨V, [], noF⟩
  refine wpIn_loopN (m := 60) (fun m act' w' => ∃ V', HeadA W0 V' act' w' ∧ 0 ≤ V'.v 1 ∧ V'.v 1 ≤ 60 ∧ (60 - V'.v 1).toNat = m) ?_ ?_
  · refine ⟨_, .inl hp2, ?_, ?_, ?_⟩
    · show (0 : Int) ≤ 0; omega
    · show (0 : Int) ≤ 60; omega
    · rfl
  · rintro m act' w' ⟨V', hh, h0, h6, hmm⟩
    refine wpIn_mono (roundA hm hN hP hh h0 h6) (fun e act3 w3 hc => ?_)
    rcases hc with ⟨rfl, V3, hh3, hv, hlt⟩ | ⟨rfl, V3, hh3⟩
    · exact ⟨(60 - V3.v 1).toNat, by rw [hv, ← hmm]; omega, V3, hh3, by omega, by omega, rfl⟩
    · exact fin V3 act3 w3 hh3

end
end
end Go.Sim
namespace Go.Proofs.YtlcaljpiphnpiaaGreat.Alerted
open Go.ChangeShapes Go.WideShapes Go.ChangeAt Go.RowKit Go.WideElems Go.Maps

theorem own : ownKnob Tryz.prog.godebug = none := by kernel_rfl
theorem laidOut : laidOutB Tryz.prog = true := by kernel_rfl
theorem cells5 : Tryz.prog.cellsOf 5 = 1 := by kernel_rfl

theorem mixed : Sim.progA.follows .mixedOrders = true := Checked.mixed Tryz.checked

theorem namedB : (Sim.progA.funcs.toList.all fun fn => !(fn.name == "runtime.NumGoroutine")) = true := by kernel_rfl

theorem named : Sim.Named Sim.progA := fun f fn hf => by
  have h := List.all_eq_true.1 namedB fn (by
    have := Array.mem_of_getElem? hf
    simpa using this)
  simpa using h

theorem primsB : (Sim.infos.all fun i => Nat.beq i.prim 0) = true := by kernel_rfl

theorem prims (I : Sim.Val) : @Sim.PrimOk I Sim.anyC Sim.progA Sim.cfg := by
  intro f ds h r hp
  exfalso
  have h0 : Nat.beq (Sim.cfg f).prim 0 = true := by
    unfold Sim.cfg
    cases hq : Sim.infos[f]? with
    | none => rfl
    | some i => exact List.all_eq_true.1 primsB i (List.mem_of_getElem? hq)
  rw [h0] at hp
  cases hp

theorem spot_none {W : World} {a : Addr} {v : Value} (h : W.cell? a = some v) : a.spot = none := by
  unfold World.cell? at h
  split at h
  · split at h
    · cases h
    · rename_i hs
      cases hq : a.spot with
      | none => rfl
      | some _ => rw [hq] at hs; exact (hs rfl).elim
  · cases h

theorem block_lt {W : World} {a : Addr} {v : Value} (h : W.cell? a = some v) : a.block < W.heap.size := by
  unfold World.cell? at h
  split at h
  · rename_i hb
    exact (Array.getElem?_eq_some_iff.1 hb).1
  · cases h

/-- the call, at a slice of bytes -/
theorem alerted (v : Value) (W : World) (hv : v = .slice none 0 0 ∨ ∃ (a : Addr) (len cap : Nat) (zs : List Int), v = .slice (some a) len cap ∧ len ≤ cap ∧ len ≤ zs.length ∧ ∀ i, i < zs.length → W.cell? (a.add i) = some (.int .u8 (zs.getD i 0))) :
    Calls Tryz.prog 3 #[v] W fun e W' => e = .returned (.bool true) ∧ Below W.heap.size W W' := by
  have main : ∀ (V : Sim.Vals) (n : Nat), V.v 0 = n →
      ((∃ a cap, v = .slice (some a) n cap ∧ n ≤ cap ∧ ∀ (i r : Nat) k, i < n → [IntKind.u8][r]? = some k → a.block < W.heap.size ∧ a.spot = none ∧ W.cell? ⟨a.block, a.off + (i * [IntKind.u8].length + r), none⟩ = some (.int k (V.arr 0 i r))) ∨ (v = .slice none 0 0 ∧ n = 0)) →
      Calls Tryz.prog 3 #[v] W fun e W' => e = .returned (.bool true) ∧ Below W.heap.size W W' := by
    intro V n hn hvv
    have hpat := Sim.enter_list (w := W) (V := V) (Sim.cfg 3) (fn := Tryz.f3) hvv hn (by rw [Tryz.ntmps3]; omega)
    rw [Tryz.ntmps3] at hpat
    have hb := Sim.bodyA_ok (W0 := W) mixed named prims hpat
    have hc : Calls Sim.progA 3 #[v] W fun e W' => e = .returned (.bool true) ∧ Sim.FrW W W' := by
      refine Sim.calls_top (t := 2) Tryz.func3 Sim.body_eq Tryz.results3 ?_
      rw [Tryz.ntmps3]
      exact hb
    exact hc.mono fun e W' h => ⟨h.1, h.2.os, h.2.tape, h.2.output, h.2.size, h.2.keep⟩
  rcases hv with rfl | ⟨a, len, cap, zs, rfl, hl, hz, hcell⟩
  · exact main ⟨fun _ => 0, fun _ _ _ => 0⟩ 0 rfl (.inr ⟨rfl, rfl⟩)
  · refine main ⟨fun _ => len, fun _ i _ => zs.getD i 0⟩ len rfl (.inl ⟨a, cap, rfl, hl, fun i r k hi hk => ?_⟩)
    have h0 := hcell 0 (by omega)
    have hs : a.spot = none := spot_none (by simpa [Addr.add] using h0)
    have hi := hcell i (by omega)
    cases r with
    | succ r => cases hk
    | zero =>
      cases hk
      obtain ⟨ab, ao, asp⟩ := a
      simp only at hs
      subst hs
      have hadd : (⟨ab, ao, none⟩ : Addr).add i = ⟨ab, ao + i, none⟩ := by unfold Addr.add; split <;> simp_all
      rw [hadd] at hi
      exact ⟨block_lt (a := ⟨ab, ao + i, none⟩) hi, rfl, by simpa using hi⟩

set_option maxRecDepth 100000 in
theorem lifted (os : Os) (started : os.Started) (H : Type) (enc : TypeId × Value → H) :
    ReturnsInHanded {} Tryz.checked os 3 .any (Rows.topAlertedSpec.pre6 enc Tryz.prog Tryz.f3 Rows.topAlertedRow.domain false) (Rows.topAlertedSpec.post enc Tryz.prog Tryz.f3 false true false false) := by
  refine returnsInHanded_of_change (C := Tryz.checked) own started (by kernel_rfl) Tryz.func3
    (ChangeSpec.witness6 (enc := enc) (C := Tryz.checked) false ⟨#[], #[.slice none 0 0], []⟩ 8 (by kernel_rfl) (by kernel_rfl) (by kernel_rfl) (by kernel_rfl)) ?_
  intro W base args ds gs before hval0 hW _ _
  have hval : ∀ (j : Nat) t v, Tryz.f3.params[j]? = some t → args[j]? = some v → Value.okWide Tryz.prog W .any base t v := hval0
  have hW' := hW
  obtain ⟨p, q, hA0, hV, rfl, _, _⟩ := hW
  have hA : DataW.TrodAll enc Tryz.prog W 0 (fun _ => true) true Tryz.f3.params.toList args.toList ds p := hA0
  rw [Tryz.params3] at hA hval
  obtain ⟨v0, d0, rfl, rfl, h0⟩ := trodAll_one hA
  obtain ⟨rfl, rfl⟩ := trodVars_none hV
  have h0k := h0
  obtain ⟨fuel, hf⟩ := h0
  clear hA0 hval0
  simp only [List.append_nil] at hW'
  have hlt : ∀ x ∈ p, x.block < W.heap.size := fun x hx => by simpa using hW'.lt x hx
  have hargs : ∀ W', Below W.heap.size W W' → DataW.Trod enc Tryz.prog W' 0 (fun b => decide (b < W.heap.size)) true 22 v0 d0 p := fun W' hb =>
    Below.trod laidOut (by kernel_rfl) (of_decide_eq_true (by kernel_rfl)) h0k hb hlt
  have fin : (v0 = .slice none 0 0 ∨ ∃ (a : Addr) (len cap : Nat) (zs : List Int), v0 = .slice (some a) len cap ∧ len ≤ cap ∧ len ≤ zs.length ∧ ∀ i, i < zs.length → W.cell? (a.add i) = some (.int .u8 (zs.getD i 0))) →
      Calls Tryz.prog 3 #[v0] W fun e W' => ∃ v, e = .returned v ∧ Rows.topAlertedSpec.post enc Tryz.prog Tryz.f3 false true false false W #[v0] v W' := by
    intro hv
    refine (alerted v0 W hv).mono fun e W' ⟨he, hb⟩ => ?_
    subst he
    exact ⟨_, rfl, ⟨_, _, _, [], _, [], hW', trodAll_mk1 (shut_bool Tryz.underlying4 _), trodAll_mk1 (hargs W' hb), rfl, hb.frame _, fun h => by cases h⟩⟩
  obtain ⟨a0, len, cap, rfl⟩ := okWide_slice Tryz.underlying22 (hval 0 22 v0 rfl rfl)
  rcases open_ints Tryz.underlying22 Tryz.underlying5 cells5 hf with ⟨hcs, hx⟩ | ⟨a, len', cap', zs, hcs, _, hl, hm, hz, hx, hcell, hwz⟩
  · simp [Value.cells] at hcs
    obtain ⟨rfl, rfl, rfl⟩ := hcs
    exact fin (.inl rfl)
  · simp [Value.cells] at hcs
    obtain ⟨rfl, rfl, rfl⟩ := hcs
    simp only [if_true] at hz
    exact fin (.inr ⟨a, len, cap, zs, rfl, hl, by omega, hcell⟩)

set_option maxRecDepth 100000 in
theorem closed : joinedFacts Tryz.prog 3 Tryz.f3 Rows.topAlertedSpec Rows.topAlertedRow = true := by
  unfold joinedFacts
  simp only [Bool.and_eq_true]
  exact ⟨⟨⟨⟨⟨⟨⟨⟨⟨⟨⟨⟨⟨⟨⟨⟨⟨⟨⟨⟨⟨⟨⟨⟨⟨⟨⟨⟨⟨⟨⟨fact0, fact1⟩, fact2⟩, fact3⟩, fact4⟩, fact5⟩, fact6⟩, fact7⟩, fact8⟩, fact9⟩, fact10⟩, fact11⟩, fact12⟩, fact13⟩, fact14⟩, fact15⟩, fact16⟩, fact17⟩, fact18⟩, fact19⟩, fact20⟩, fact21⟩, fact22⟩, fact23⟩, fact24⟩, fact25⟩, fact26⟩, fact27⟩, fact28⟩, fact29⟩, fact30⟩, fact31⟩

theorem nameOk : Tryz.prog.funcNamed Rows.topAlertedRow.func = some 3 := by kernel_rfl

theorem wrapOk : Tryz.f3.isWrapper Tryz.prog Rows.topAlertedRow.wrapper Rows.topAlertedRow.mainSum := by
  unfold Func.isWrapper
  rw [if_neg (by decide +kernel)]
  exact ⟨rfl, rfl⟩

theorem instOk : Tryz.f3.isInstance Tryz.prog Rows.topAlertedRow.origin Rows.topAlertedRow.targs := of_decide_eq_true (by kernel_rfl)

theorem over : Rows.TopAlertedSaid :=
  OpenClaim.holds_of_wide 3 Tryz.f3 rfl rfl rfl rfl rfl rfl rfl ⟨rfl, rfl, rfl, rfl, rfl⟩ rfl rfl rfl rfl rfl nameOk Tryz.func3 closed instOk wrapOk
    (fun os started H enc _ => lifted os started H enc)

end Go.Proofs.YtlcaljpiphnpiaaGreat.Alerted
