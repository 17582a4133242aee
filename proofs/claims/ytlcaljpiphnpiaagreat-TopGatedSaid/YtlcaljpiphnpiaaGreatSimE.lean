/- The interpreter is sound; states seen as patterns; a function by patterns. -/
import Derived.Test.YtlcaljpiphnpiaaGreatSimD
import Derived.Calls
/- Deferred calls, with recover. -/
namespace Go.Sim
variable [Val]
noncomputable section
open Go.RowKit

section
variable {C : Code → Prop} {P : Program} {cfg : FuncId → FInfo} {E : Ev}

/-- how a piece of a deferred call's body has ended -/
def SPost (C : Code → Prop) (Γ : Gam) (F : Nat → Prop) (h : H) (w : World) (st : St) (res : Ex × A × PS × H) (c0 : Frame) (cs : List Frame) (e : Exit) (act : Act) (cs' : List Frame) (w' : World) : Prop :=
  ∃ Γ' F' u', cs' = { c0 with mode := u' } :: cs ∧ Step C h.lim Γ F h.get h.nx w Γ' F' res.2.2.2.get res.2.2.2.nx w' ∧ res.2.2.2.WF ∧ res.2.2.2.lim = h.lim ∧ ExR Γ' F' w' res.1 e ∧ ActR Γ' F' w' res.2.1 act ∧ res.2.1.st = st ∧ MR Γ' F' w' res.2.2.1 u'

theorem SPost.back {Γ Γ' : Gam} {F F' : Nat → Prop} {h k : H} {w w' w'' : World} {st st' : St} {res : Ex × A × PS × H} {e : Exit} {act : Act} {c0 : Frame} {cs cs' : List Frame} {u : FrameMode} (hr : Rel C Γ F w h.get)
    (hs : Step C h.lim Γ F h.get h.nx w Γ' F' k.get k.nx w') (hl : k.lim = h.lim) (hst : st' = st) (hc : SPost C Γ' F' k w' st' res { c0 with mode := u } cs e act cs' w'') : SPost C Γ F h w st res c0 cs e act cs' w'' := by
  obtain ⟨Γ2, F2, u2, h0, h1, h2, h3, h4, h5, h6, h7⟩ := hc
  rw [hl] at h1
  exact ⟨Γ2, F2, u2, h0, hs.trans h1 hr, h2, h3.trans hl, h4, h5, h6.trans hst, h7⟩

theorem recD_rel {Γ : Gam} {F : Nat → Prop} {w : World} {p : PS} {u : FrameMode} (hm : MR Γ F w p u) (c0 : Frame) (cs : List Frame) :
    (∃ v u', recoverD ({ c0 with mode := u } :: cs) = some (v, { c0 with mode := u' } :: cs) ∧ VRel Γ F w (recD p).1 v ∧ MR Γ F w (recD p).2 u') ∨
    (recoverD ({ c0 with mode := u } :: cs) = none ∧ (recD p).1 = .nili ∧ MR Γ F w (recD p).2 u) := by
  cases p with
  | none =>
    have hm : u = .returning := hm
    subst hm
    exact .inr ⟨rfl, rfl, rfl⟩
  | some q =>
    obtain ⟨d, b⟩ := q
    obtain ⟨v, hu, hv⟩ := hm
    subst hu
    cases b with
    | true => exact .inr ⟨rfl, rfl, v, rfl, hv⟩
    | false => exact .inl ⟨v, .panicking [{ v, recovered := true }], rfl, hv, v, rfl, hv⟩

theorem opsS_sound {ops : Array Oper} {c0 : Frame} {cs : List Frame} : ∀ (os : List Oper) (is : List Nat), (∀ k : Nat, is.length = os.length ∧ ∀ (i : Nat) (o : Oper), is[k]? = some i → os[k]? = some o → ops[i]? = some o) →
    ∀ (a : A) (p : PS) (h : H) (res : Ex × A × PS × H), opsS P os a p h = some res → ∀ (Γ : Gam) (F : Nat → Prop) (w : World) (act : Act) (u : FrameMode), At C Γ F h w → ActR Γ F w a act → MR Γ F w p u →
    ∀ (n : Nat) (Q : Exit → Act → List Frame → World → Prop), (∀ e act' cs' w', SPost C Γ F h w a.st res c0 cs e act' cs' w' → Q e act' cs' w') → wpOpsSIn Fence.wide n P ops Q is act ({ c0 with mode := u } :: cs) w
  | [], is, hi, a, p, h, res, hs, Γ, F, w, act, u, hA, ha, hm, n, Q, hq => by
    have : is = [] := List.eq_nil_of_length_eq_zero (hi 0).1
    subst this
    cases hs
    exact hq .normal act _ w ⟨Γ, F, u, rfl, Step.refl hA.rel hA.top, hA.wf, rfl, trivial, ha, rfl, hm⟩
  | o :: os, is, hi, a, p, h, res, hs, Γ, F, w, act, u, hA, ha, hm, n, Q, hq => by
    cases is with
    | nil => have := (hi 0).1; simp at this
    | cons i is =>
      have hoi : ops[i]? = some o := (hi 0).2 i o rfl rfl
      have hi' : ∀ k : Nat, is.length = os.length ∧ ∀ (i : Nat) (o : Oper), is[k]? = some i → os[k]? = some o → ops[i]? = some o := fun k =>
        ⟨by have := (hi 0).1; simpa using this, fun i o h1 h2 => (hi (k + 1)).2 i o (by simpa using h1) (by simpa using h2)⟩
      obtain ⟨hgd, hs1⟩ := cnd_none.1 (show cnd (o.guard.isSome || isDefer o.op) none (cnd (isRec o) ((putA a o.dst (recD p).1).ob fun a => opsS P os a (recD p).2 h) ((basicD P h a.env o.op).ob fun
        | .val d h => (putA a o.dst d).ob fun a => opsS P os a p h
        | .pan _ _ => none)) = some res from hs)
      have hg : o.guard = none := by
        cases hq : o.guard with
        | none => rfl
        | some _ => rw [hq] at hgd; cases hgd
      have hw : Region.wanted o (yielded ops act.tmps) = true := by unfold Region.wanted; rw [hg]
      simp only [wpOpsSIn, hoi]
      rw [hw]
      refine ⟨fun f _ => trivial, ?_⟩
      simp only [if_true]
      have hρ : OpR Γ F w a.env act.eval := opR_of_env ha.env
      cases hrc : isRec o with
      | true =>
        rw [hrc] at hs1
        obtain ⟨a', ha', hs2⟩ := ob_some.1 (show (putA a o.dst (recD p).1).ob (fun a => opsS P os a (recD p).2 h) = some res from hs1)
        have hrun : (execOp act.eval o).run P w = .ok .recover w := by
          unfold isRec at hrc
          cases ho : o.op <;> rw [ho] at hrc <;> first | (cases hrc; done) | skip
          rename_i c
          cases hc : c.callee <;> simp only [hc] at hrc <;> first | (cases hrc; done) | skip
          rename_i b
          cases b <;> first | (cases hrc; done) | skip
          simp only [execOp, ho, resolve, hc, invoke, Sem.run_bind, Sem.run_pure, Result.andThen_ok]
          simp [builtin]
        rw [hrun]
        simp only
        rcases recD_rel hm c0 cs with ⟨v, u', hr1, hr2, hr3⟩ | ⟨hr1, hr2, hr3⟩
        · rw [hr1]
          obtain ⟨k1, k2⟩ := putA_rel ha' ha hr2
          simp only
          refine opsS_sound os is hi' a' _ h res hs2 Γ F w _ u' hA k1 hr3 n Q (fun e act' cs' w' hc => hq e act' cs' w' ?_)
          rw [k2] at hc; exact hc
        · rw [hr1]
          obtain ⟨k1, k2⟩ := putA_rel (v := .nilIface) ha' ha (by rw [hr2]; exact .nili)
          simp only
          refine opsS_sound os is hi' a' _ h res hs2 Γ F w _ u hA k1 hr3 n Q (fun e act' cs' w' hc => hq e act' cs' w' ?_)
          rw [k2] at hc; exact hc
      | false =>
        rw [hrc] at hs1
        obtain ⟨sr, hsr, hs2⟩ := ob_some.1 (show (basicD P h a.env o.op).ob (fun
          | .val d h => (putA a o.dst d).ob fun a => opsS P os a p h
          | .pan _ _ => none) = some res from hs1)
        obtain ⟨y, hy, hb⟩ := ob_some.1 hsr
        obtain ⟨k, hk, hb⟩ := ob_some.1 hb
        cases hb
        obtain ⟨a', ha', hs3⟩ := ob_some.1 (show (putA a o.dst y.1).ob (fun a => opsS P os a p k) = some res from hs2)
        obtain ⟨v, w', Γ', hran, hst, hv⟩ := stepB_good (C := C) (Γ := Γ) (F := F) (g := h.g) hy hA.rel hA.top hρ
        obtain ⟨q1, q2, q3, q4⟩ := Up.on_eq hA.wf hk hst
        have hst' : Step C h.lim Γ F h.get h.nx w Γ' F k.get k.nx w' := by rw [q3, q4]; exact hst
        obtain ⟨k1, k2⟩ := putA_rel ha' (ha.step hA.rel hst') hv
        have hm' := hm.mono hst'.ext hst'.fro (hst'.keep hA.rel)
        have fin := opsS_sound os is hi' a' p k res hs3 Γ' F w' _ u (.step hst' q1) k1 hm' n Q (fun e act' cs' w'' hc => hq e act' cs' w'' (SPost.back (u := u) hA.rel hst' q2 k2 hc))
        rcases hran with hr | ⟨hr, hvu⟩
        · rw [hr]; exact fin
        · rw [hr]; rw [hvu] at fin; exact fin

theorem plainS_sound (hcode : ∀ c, CodeOk C P cfg E c) {c : Code} {a : A} {p : PS} {h : H} {res : Ex × A × PS × H} (hs : plainS P cfg E c a p h = some res) {Γ : Gam} {F : Nat → Prop} {w : World} {act : Act} {u : FrameMode} (hA : At C Γ F h w)
    (ha : ActR Γ F w a act) (hrd : a.st.rd = none) (hm : MR Γ F w p u) (c0 : Frame) (cs : List Frame) : c.wpSIn Fence.wide 0 P (SPost C Γ F h w a.st res c0 cs) act ({ c0 with mode := u } :: cs) w := by
  obtain ⟨r, hr, hs⟩ := ob_some.1 hs
  cases hs
  refine wpSIn_of_wpIn rfl (wpIn_mono (hcode c a h r hr Γ F w act none hA ha (by rw [hrd]; trivial) 0) (fun e act' w' hc => ?_))
  obtain ⟨Γ', F', h1, h2, h3, h4, h5, h6⟩ := hc
  exact ⟨Γ', F', u, rfl, h1, h2, h3, h4, h5, h6, hm.mono h1.ext h1.fro (h1.keep hA.rel)⟩

theorem codeS_sound (hcode : ∀ c, CodeOk C P cfg E c) {c0 : Frame} {cs : List Frame} : ∀ (c : Code) (a : A) (p : PS) (h : H) (res : Ex × A × PS × H), codeS P cfg E c a p h = some res → ∀ (Γ : Gam) (F : Nat → Prop) (w : World) (act : Act) (u : FrameMode), At C Γ F h w →
    ActR Γ F w a act → a.st.rd = none → MR Γ F w p u → c.wpSIn Fence.wide 0 P (SPost C Γ F h w a.st res c0 cs) act ({ c0 with mode := u } :: cs) w := by
  intro c
  induction c with
  | seq x y ihx ihy =>
    intro a p h res hs Γ F w act u hA ha hrd hm
    have hs : cnd (hasRec x || hasRec y) ((codeS P cfg E x a p h).ob fun r =>
      match r.1 with
      | .normal => codeS P cfg E y r.2.1 r.2.2.1 r.2.2.2
      | _ => some r) (plainS P cfg E (.seq x y) a p h) = some res := hs
    cases hb : hasRec x || hasRec y with
    | false => rw [hb] at hs; exact plainS_sound hcode hs hA ha hrd hm c0 cs
    | true =>
      rw [hb] at hs
      obtain ⟨z, hz, hs1⟩ := ob_some.1 (show (codeS P cfg E x a p h).ob (fun r =>
        match r.1 with
        | .normal => codeS P cfg E y r.2.1 r.2.2.1 r.2.2.2
        | _ => some r) = some res from hs)
      refine wpSIn_seq ?_
      have hx := ihx a p h z hz Γ F w act u hA ha hrd hm
      intro b k hb1 hb2 hb3 hb4
      obtain ⟨e, a', cs', w', hl, hq, harr⟩ := hx b k hb1 hb2 hb3 hb4
      refine ⟨e, a', cs', w', hl, ?_, harr⟩
      have hq0 := hq
      obtain ⟨Γ', F', u', hc, h1, h2, h3, h4, h5, h6, h7⟩ := hq
      obtain ⟨ex, az, pz, kz⟩ := z
      cases ex with
      | normal =>
        cases e <;> first | exact h4.elim | skip
        subst hc
        have := ihy az pz kz res hs1 Γ' F' w' a' u' (.step h1 h2) h5 (by rw [h6]; exact hrd) h7
        show y.wpSIn Fence.wide 0 P _ a' _ w'
        intro b2 k2 g1 g2 g3 g4
        obtain ⟨e2, a2, cs2, w2, l2, q2, r2⟩ := this b2 k2 g1 g2 g3 g4
        exact ⟨e2, a2, cs2, w2, l2, SPost.back (u := u') hA.rel h1 h3 h6 q2, r2⟩
      | exit i =>
        cases hs1
        cases e <;> first | exact h4.elim | exact hq0
      | ret =>
        cases hs1
        cases e <;> first | exact h4.elim | exact hq0
      | pan d =>
        cases hs1
        cases e <;> first | exact h4.elim | exact hq0
  | region i ops dr =>
    intro a p h res hs Γ F w act u hA ha hrd hm
    have hs : cnd (ops.toList.any isRec) (cnd dr none (opsS P ops.toList a p h)) (plainS P cfg E (.region i ops dr) a p h) = some res := hs
    cases hb : ops.toList.any isRec with
    | false => rw [hb] at hs; exact plainS_sound hcode hs hA ha hrd hm c0 cs
    | true =>
      rw [hb] at hs
      obtain ⟨hdr, hs1⟩ := cnd_none.1 (show cnd dr none (opsS P ops.toList a p h) = some res from hs)
      subst hdr
      refine wpSIn_region (opsS_sound ops.toList (List.range ops.size) (fun k => ⟨by simp, fun i o h1 h2 => ?_⟩) a p h res hs1 Γ F w act u hA ha hm 0 _ (fun e act' cs' w' hc => hc))
      rw [List.getElem?_range] at h1
      · cases h1; simpa using h2
      · have := (List.getElem?_eq_some_iff.1 h1).1; simpa using this
  | _ =>
    intro a p h res hs Γ F w act u hA ha hrd hm
    exact plainS_sound hcode hs hA ha hrd hm c0 cs

/-- deferred calls do as the interpreter says -/
theorem defers_ok (hN : Named P) (hcode : ∀ c, CodeOk C P cfg E c) : DOk C P cfg E := by
  intro f fn c ds p h x hf hb hle hs hend hdf hres Γ F w vs u hA har hm
  refine ⟨run_callFunc hN hf hb vs, callsDIn_of_wpSIn hf hb trivial (fun c0 cs hc0 => ?_)⟩
  have hact := enter_rel (cfg := cfg) (f := f) (fn := fn) har hle
  have hmain := codeS_sound hcode (c0 := c0) (cs := cs) c _ p h x hs Γ F w _ u hA hact rfl hm
  have hce : { c0 with mode := u } = c0 := by subst hc0; rfl
  rw [hce] at hmain
  intro b k g1 g2 g3 g4
  obtain ⟨e, a', cs', w', hl, hq, harr⟩ := hmain b k g1 g2 g3 g4
  refine ⟨e, a', cs', w', hl, ?_, harr⟩
  obtain ⟨Γ', F', u', hc, h1, h2, h3, h4, h5, h6, h7⟩ := hq
  have hdefs : a'.defers = [] := by
    have := h5.dfs
    rw [hdf] at this
    cases hd : a'.defers with
    | nil => rfl
    | cons _ _ => rw [hd] at this; exact this.elim
  have hv : ∃ v, (results fn a'.tmps).run P w' = .ok v w' := by
    obtain ⟨v, hv, _⟩ := results_run (P := P) (fn := fn) h1.rel h5.env (ds := []) (by rw [hres]; rfl)
    exact ⟨v, hv⟩
  obtain ⟨v, hv⟩ := hv
  have fin : a'.defers = [] ∧ ∃ u', cs' = { c0 with mode := u' } :: cs ∧ ∃ v, (results fn a'.tmps).run P w' = .ok v w' ∧ ∃ v0 Γ' F', Ending.returned v = .returned v0 ∧ Step C h.lim Γ F h.get h.nx w Γ' F' x.2.2.2.get x.2.2.2.nx w' ∧ x.2.2.2.WF ∧ x.2.2.2.lim = h.lim ∧ MR Γ' F' w' x.2.2.1 u' :=
    ⟨hdefs, u', hc, v, hv, v, Γ', F', rfl, h1, h2, h3, h7⟩
  obtain ⟨ex, az, pz, kz⟩ := x
  cases ex with
  | normal => cases e <;> first | exact h4.elim | exact fin
  | ret => cases e <;> first | exact h4.elim | exact fin
  | exit i => cases hend
  | pan d => cases hend

end
end
end Go.Sim
/- A range over a function. -/
namespace Go.Sim
variable [Val]
noncomputable section
open Go.RowKit

section
variable {C : Code → Prop} {P : Program} {cfg : FuncId → FInfo} {E : Ev} {Γ : Gam} {F : Nat → Prop} {h : H} {w : World}

/-- a new block that holds no cells -/
theorem new_obj (hA : At C Γ F h w) {x : Box} {o : Obj} (hz : fzB x = false) (hb : ∀ Γ' : Gam, (∀ id i, Γ id = some i → Γ' id = some i) → BoxRel C Γ' F (w.alloc o) ⟨w.heap.size, 0, 0, 0, 0⟩ x) :
    ∃ Γ', Γ' h.nx = some ⟨w.heap.size, 0, 0, 0, 0⟩ ∧ Step C h.lim Γ F h.get h.nx w Γ' F (h.upd h.nx (some x)).get (h.upd h.nx (some x)).nx (w.alloc o) ∧ (h.upd h.nx (some x)).WF ∧ (h.upd h.nx (some x)).lim = h.lim ∧
      (h.upd h.nx (some x)).nx = h.nx + 1 := by
  have hext := updG_ext (Γ := Γ) (nx := h.nx) (i := ⟨w.heap.size, 0, 0, 0, 0⟩) hA.top
  obtain ⟨k1, k2, k3, k4⟩ := H.upd_wf hA.wf (id := h.nx) (b := some x) (.inr (Nat.le_refl _))
  have k4' : (h.upd h.nx (some x)).nx = h.nx + 1 := by rw [k4]; simp
  refine ⟨updF Γ h.nx (some ⟨w.heap.size, 0, 0, 0, 0⟩), by simp, ?_, k1, k2, k4'⟩
  rw [k3, k4']
  exact Step.new hA.rel hA.top rfl hz (hb _ hext)

/-- the part of a range over a function that is the same for both kinds -/
theorem range_core (hFE : FEOk C P cfg E) (hL : LOk C P E) (hC : ∀ c, C c) {f : FuncId} {fs cs : List D} {g : Operand} {ps : Array Tmp} {asg body : Code} {a a2 : A} {h h2 : H} {res : Ex × A × H} {l : Nat} {x : SR} (hpr : Nat.beq (cfg f).prim 0 = true)
    (hx : callF cfg E f (fs ++ [.yield l] ++ cs) h2 = some x) (hs : rangeEnd E l a2 x = some res) {act : Act} {r : Option Nat} (hA : At C Γ F h w) (n : Nat)
    {us vs : Array Value} (hxs : AR Γ F w fs us) (hys : AR Γ F w cs vs) (hg : act.eval g = .func (.func f) us vs) {Γ2 : Gam} {w2 : World} {lb : Nat} {mark : List Deferred}
    {fn : FuncId} (henter : (Instr.enterLoop fn act.tmps ps asg body (W r).round).run P w = .ok (lb, mark) w2) (h1 : Step C h.lim Γ F h.get h.nx w Γ2 F h2.get h2.nx w2) (h2w : h2.WF) (h2l : h2.lim = h.lim) {i : BI} (hi : Γ2 l = some i) (hib : i.b = lb)
    (hlim : h.lim ≤ l) (hact : ActR Γ2 F w2 a2 { act with defers := mark ++ act.defers }) (hst : a2.st = a.st) (hrd : RdR Γ2 a2.st.rd r) :
    ∃ (l : Nat) (mark : List Deferred) (w₁ : World) (d : Deferred) (w₁' : World) (f : FuncId) (args : Array Value) (w₂ : World),
      (Instr.enterLoop fn act.tmps ps asg body (W r).round).run P w = .ok (l, mark) w₁ ∧ (resolve act.eval (rangeCall g l) 0).run P w₁ = .ok d w₁' ∧ (∀ f', Target.leads P w₁' d.target d.args = some f' → (W r).fn f') ∧
      (invoke d.target d.args).run P w₁' = .ok (.enter f args) w₂ ∧ ((W r).depth.isSome = true → 1 ≤ n) ∧ CallsIn (W r) (n - 1) P f args w₂ (rangePost (W r) n P l (CPost C Γ F h w a.st res) { act with defers := mark ++ act.defers }) := by
  have hA2 : At C Γ2 F h2 w2 := .step h1 h2w
  have har2 : AR Γ2 F w2 (fs ++ [.yield l] ++ cs) (us ++ #[.func (.yield lb) #[] #[]] ++ vs) := by
    refine AR.append (AR.append (hxs.mono h1.ext h1.fro (h1.keep hA.rel)) ⟨rfl, fun k d v hd hv => ?_⟩) (hys.mono h1.ext h1.fro (h1.keep hA.rel))
    cases k with
    | zero => cases hd; simp at hv; subst hv; rw [← hib]; exact .yield l i hi
    | succ k => cases hd
  obtain ⟨hrun, hcall⟩ := hFE f _ h2 x hpr hx Γ2 F w2 _ hA2 har2
  refine ⟨lb, mark, w2, { target := .fn (.func f) vs, args := us ++ #[.func (.yield lb) #[] #[]] }, w2, f, us ++ #[.func (.yield lb) #[] #[]] ++ vs, w2, henter, ?_, fun f' _ => W_fn r f', ?_, fun hd => by simp at hd, ?_⟩
  · simp only [resolve, hg]
    simp [go_sem, Act.eval]
  · simp only [invoke]
    exact hrun
  · have hact' : ActR Γ2 F w2 a2 { act with defers := mark ++ act.defers } := hact
    refine (callsW hcall).mono fun e w3 he => ?_
    cases x with
    | pan d k =>
      obtain ⟨Γ', F', v, rfl, k1, k2, k3, k4⟩ := he
      cases hs
      rw [h2l] at k1 k3
      exact ⟨Γ', F', h1.trans k1 hA.rel, k2, k3, ⟨v, rfl, k4⟩, ⟨hact'.size, k1.envR hA2.rel hact'.env, hact'.dfs.mono k1.ext k1.fro (k1.keep hA2.rel)⟩, hst⟩
    | val d k =>
      obtain ⟨Γ', F', v, rfl, k1, k2, k3, k4⟩ := he
      obtain ⟨rr, hrr, hs1⟩ := ob_some.1 (show (boxLoop (k.get l)).ob (fun r =>
        match r.st with
        | .busy => none
        | _ =>
          match r.pend with
          | none => some (.normal, a2, k.upd l (some (.loop { r with st := .exhausted })))
          | some c => E.loop c a2 (k.upd l (some (.loop { r with st := .exhausted })))) = some res from hs)
      have hg := boxLoop_eq hrr
      have hA3 : At C Γ' F' k w3 := .step k1 k2
      have hi3 := k1.ext l i hi
      obtain ⟨i', hi', hlt, hbr, _⟩ := hA3.rel.box l _ hg
      have hii : i' = i := Option.some.inj (hi'.symm.trans hi3)
      subst hii
      obtain ⟨L, hLo, hrel⟩ := hbr
      have hact3 : ActR Γ' F' w3 a2 { act with defers := mark ++ act.defers } := ⟨hact'.size, k1.envR hA2.rel hact'.env, hact'.dfs.mono k1.ext k1.fro (k1.keep hA2.rel)⟩
      have hkl : k.lim = h.lim := k3.trans h2l
      obtain ⟨q1, q2, q3⟩ := loop_put (r' := { rr with st := .exhausted }) hA3 hg (by rw [hkl]; exact hlim) hi3 hLo (fun L => { L with state := .exhausted }) ⟨rfl, hrel.pend, hrel.params, hrel.assign, hrel.body, hrel.size, hrel.env, hrel.ok1, hrel.ok2⟩
      rw [h2l] at k1
      have hst3 := h1.trans k1 hA.rel
      have q1' := q1
      rw [hkl] at q1'
      have hst4 := hst3.trans q1' hA.rel
      have q3' : (k.upd l (some (.loop { rr with st := .exhausted }))).lim = h.lim := q3.trans hkl
      have hact4 := hact3.step hA3.rel q1
      have hbusy : L.state ≠ .busy := by
        rw [hrel.state]
        intro hb
        rw [hb] at hs1
        cases hs1
      have fin : (match rr.pend with
          | none => some (.normal, a2, k.upd l (some (.loop { rr with st := .exhausted })))
          | some c => E.loop c a2 (k.upd l (some (.loop { rr with st := .exhausted })))) = some res := by
        cases hq : rr.st <;> rw [hq] at hs1 <;> first | exact hs1 | (cases hs1; done)
      rw [← hib]
      refine ⟨L.pending, _, run_endLoop hLo hbusy, ?_⟩
      split
      · rename_i hpl
        have hpd : rr.pend = none := by rw [← hrel.pend]; exact hpl
        split at fin
        · cases fin
          exact ⟨Γ', F', hst4, q2, q3', trivial, hact4, hst⟩
        · rename_i heq; rw [hpd] at heq; cases heq
      · rename_i c hpl
        have hpd : rr.pend = some c := by rw [← hrel.pend]; exact hpl
        split at fin
        · rename_i heq; rw [hpd] at heq; cases heq
        · rename_i c' heq
          rw [hpd] at heq; cases heq
          refine wpIn_mono (hL c (hC c) a2 _ res fin Γ' F' _ _ r (.step q1 q2) hact4 (hrd.mono (fun id j hj => k1.ext id j hj)) n) (fun e a' w' hc => hc.back hA.rel hst4 q3' hst)

theorem range_ok (hFE : FEOk C P cfg E) (hL : LOk C P E) (hC : ∀ c, C c) {g : Operand} {ps : Array Tmp} {asg body : Code} : CodeOk C P cfg E (.rangeFunc g ps asg body) := by
  intro a h res hs Γ F w act r hA ha hrd n
  have hs : rangeD cfg E g ps asg body a h = some res := hs
  obtain ⟨d, hd, hs1⟩ := ob_some.1 hs
  have hv := opR_of_env ha.env g d hd
  generalize hgv : act.eval g = gv at hv
  cases hv <;> first | (cases hs1; done) | skip
  rename_i f xs ys us vs hxs hys hx1 hy1
  obtain ⟨hpr0, hs2⟩ := cnd_some.1 (show cnd (Nat.beq (cfg f).prim 0 && Nat.ble h.lim h.nx) (match a.st.rd with
      | none =>
        (callF cfg E f (xs ++ [.yield (h.nx + 1)] ++ ys) ((h.upd h.nx (some .dfr)).upd (h.nx + 1) (some (.loop ⟨a, 0, ps.toList, asg, body, .ready, none⟩)))).ob fun x =>
          rangeEnd E (h.nx + 1) (pushD a (.mark h.nx)) x
      | some l => (boxLoop (h.get l)).ob fun _ =>
        (callF cfg E f (xs ++ [.yield h.nx] ++ ys) (h.upd h.nx (some (.loop ⟨a, 0, ps.toList, asg, body, .ready, none⟩)))).ob fun x =>
          rangeEnd E h.nx a x) none = some res from hs1)
  rw [Bool.and_eq_true] at hpr0
  have hpr := hpr0.1
  have hlm := Nat.le_of_ble_eq_true hpr0.2
  have mkLoop : ∀ (Γ1 : Gam) (h1 : H) (w1 : World) (fn : FuncId) (df : Nat), At C Γ1 F h1 w1 → ActR Γ1 F w1 a act → ∀ Γ' : Gam, (∀ id i, Γ1 id = some i → Γ' id = some i) →
      BoxRel C Γ' F (w1.alloc (.loop { state := .ready, pending := none, fn, tmps := act.tmps, params := ps, assign := asg, body, defers := df })) ⟨w1.heap.size, 0, 0, 0, 0⟩ (.loop ⟨a, 0, ps.toList, asg, body, .ready, none⟩) := by
    intro Γ1 h1 w1 fn df hA1 ha1 Γ' hext
    refine ⟨_, World.alloc_heap_new w1 _, rfl, rfl, rfl, rfl, rfl, ha1.size, ?_, hC _, hC _⟩
    exact ha1.env.mono hext (fun _ h => h) (fun b hb => Below.heap_alloc _ _ _ (hA1.rel.fro b hb))
  refine wpIn_rangeFunc (fun fn _ => ?_)
  cases hrd0 : a.st.rd with
  | none =>
    rw [hrd0] at hs2
    have hr0 : r = none := by
      cases r with
      | none => rfl
      | some _ => rw [hrd0] at hrd; exact hrd.elim
    subst hr0
    obtain ⟨x, hx, hs3⟩ := ob_some.1 hs2
    -- the block for the rounds' deferred calls
    obtain ⟨Γ1, hΓ1, s1, s2, s3, s4⟩ := new_obj (x := .dfr) (o := .deferred (some [])) hA rfl (fun Γ' _ => World.alloc_heap_new w _)
    have hA1 := At.step s1 s2
    have ha1 := ha.step hA.rel s1
    obtain ⟨Γ2, hΓ2, t1, t2, t3, t4⟩ := new_obj (x := .loop ⟨a, 0, ps.toList, asg, body, .ready, none⟩) (o := .loop { state := .ready, pending := none, fn := fn, tmps := act.tmps, params := ps, assign := asg, body := body, defers := w.heap.size }) hA1 rfl
      (mkLoop Γ1 _ _ fn w.heap.size hA1 ha1)
    have hst : Step C h.lim Γ F h.get h.nx w Γ2 F _ _ _ := s1.trans (by rw [s3] at t1; exact t1) hA.rel
    have ha2 := ha1.step hA1.rel t1
    rw [← s4] at hx hs3
    refine range_core hFE hL hC hpr hx hs3 (act := act) hA n ⟨hxs, hx1⟩ ⟨hys, hy1⟩ hgv (mark := [{ target := .collected w.heap.size, args := #[] }]) (run_enterLoop_outer fn act.tmps ps asg body) hst t2 (t3.trans s3) hΓ2 (by simp) (by rw [s4]; omega)
      ⟨ha2.size, ha2.env, ⟨⟨w.heap.size, 0, 0, 0, 0⟩, t1.ext _ _ hΓ1, rfl⟩, ha2.dfs⟩ rfl ?_
    show RdR Γ2 a.st.rd none
    rw [hrd0]; trivial
  | some l =>
    rw [hrd0] at hs2
    obtain ⟨rr, hrr, hs3⟩ := ob_some.1 hs2
    obtain ⟨x, hx, hs4⟩ := ob_some.1 hs3
    rw [hrd0] at hrd
    cases r with
    | none => exact hrd.elim
    | some b =>
      obtain ⟨ib, hib1, hib2⟩ := hrd
      obtain ⟨i', hi', hlt, hbr, _⟩ := hA.rel.box l _ (boxLoop_eq hrr)
      have hii : i' = ib := Option.some.inj (hi'.symm.trans hib1)
      subst hii
      obtain ⟨L, hLo, hrel⟩ := hbr
      rw [hib2] at hLo
      have henter : (Instr.enterLoop fn act.tmps ps asg body (some b)).run P w = .ok (w.heap.size, []) (w.alloc (.loop { state := .ready, pending := none, fn := fn, tmps := act.tmps, params := ps, assign := asg, body := body, defers := L.defers })) := by
        unfold Instr.enterLoop
        simp only [Sem.run_bind, run_getLoop hLo, Result.andThen_ok, Sem.run_pure, run_newObj_alloc]
      obtain ⟨Γ1, hΓ1, s1, s2, s3, s4⟩ := new_obj (x := .loop ⟨a, 0, ps.toList, asg, body, .ready, none⟩) (o := .loop { state := .ready, pending := none, fn := fn, tmps := act.tmps, params := ps, assign := asg, body := body, defers := L.defers }) hA rfl
        (mkLoop Γ h w fn L.defers hA ha)
      have ha1 := ha.step hA.rel s1
      refine range_core hFE hL hC hpr hx hs4 (act := act) hA n ⟨hxs, hx1⟩ ⟨hys, hy1⟩ hgv (mark := []) (W_round (some b) ▸ henter) s1 s2 s3 hΓ1 rfl hlm ⟨ha1.size, ha1.env, ha1.dfs⟩ rfl ?_
      show RdR Γ1 a.st.rd (some b)
      rw [hrd0]
      exact ⟨i', s1.ext _ _ hib1, hib2⟩


end
end
end Go.Sim
/- The interpreter is sound. -/
namespace Go.Sim
variable [Val]
noncomputable section
open Go.RowKit

section
variable {P : Program} {cfg : FuncId → FInfo}

def anyC : Code → Prop := fun _ => True

theorem region_ok {E : Ev} (hm : P.follows .mixedOrders = true) (hF : FOk anyC P cfg E) (hR : ROk anyC P E) {id : Nat} {ops : Array Oper} {dr : Bool} : CodeOk anyC P cfg E (.region id ops dr) := by
  intro a h res hs Γ F w act r hA ha hrd n
  cases dr with
  | false => exact region_sound hF hR hs hA ha hrd n
  | true => exact region_draw_sound hm hF hR hs hA ha n

theorem all_ok (hm : P.follows .mixedOrders = true) (hN : Named P) (hP : PrimOk anyC P cfg) : ∀ n, COk anyC P (ev P cfg n) ∧ ∀ c, CodeOk anyC P cfg (ev P cfg n) c := by
  intro n
  induction n using Nat.strongRecOn with
  | _ n ih =>
    have hC : COk anyC P (ev P cfg n) := by
      cases n with
      | zero => intro f ds h x hx; cases hx
      | succ k =>
        obtain ⟨_, h2⟩ := ih k (Nat.lt_succ_self k)
        exact callD_sound hN (fun f fn c _ _ => h2 c) (defers_ok hN h2)
    have hL : LOk anyC P (ev P cfg n) := by
      cases n with
      | zero => intro c _ a h res hs; cases hs
      | succ k =>
        obtain ⟨_, h2⟩ := ih k (Nat.lt_succ_self k)
        intro c _ a h res hs Γ F w act r hA ha hrd m
        exact h2 c a h res hs Γ F w act r hA ha hrd m
    have hR := rounds_ok hL
    have hF := callF_sound (cfg := cfg) hC hP
    have hFE := callE_sound (cfg := cfg) hC
    refine ⟨hC, fun c => ?_⟩
    induction c with
    | skip => intro a h res hs Γ F w act r hA ha hrd n; cases hs; exact wpIn_skip (CPost.here hA ha trivial)
    | region id ops dr => exact region_ok hm hF hR
    | seq x y ihx ihy => exact seq_ok ihx ihy
    | cond c x y ihx ihy => exact cond_ok ihx ihy
    | block id x ihx => exact block_ok ihx
    | loop x ihx =>
      refine loop_ok fun j hj => ?_
      rcases Nat.lt_or_ge j n with h | h
      · exact (ih j h).2 x
      · have : j = n := by omega
        subst this; exact ihx
    | rangeFunc f ps a b iha ihb => exact range_ok hFE hL (fun _ => trivial)
    | exit id => intro a h res hs Γ F w act r hA ha hrd n; cases hs; exact wpIn_exit (CPost.here hA ha rfl)
    | scope x ihx => intro a h res hs; cases hs
    | label l => intro a h res hs Γ F w act r hA ha hrd n; cases hs; exact wpIn_label (CPost.here hA ha trivial)
    | goto l => intro a h res hs; cases hs
    | ret => intro a h res hs Γ F w act r hA ha hrd n; cases hs; exact wpIn_ret (CPost.here hA ha trivial)
    | refuse w => intro a h res hs; cases hs

end
end
end Go.Sim
/- A state seen as another one: other names of boxes, other unknown numbers. -/
namespace Go.Sim
noncomputable section
open Go.RowKit

section
variable {I I' : Val} {th : List SX} {rho : List VB} {F : Nat → Prop} {w : World}

/-- the unknown numbers of the pattern are what the state's terms come to -/
def ThOk (I I' : Val) (th : List SX) : Prop := (∀ j, I'.V.v j = ((th[j]?).getD (.atom j)).eval I.V) ∧ I'.V.arr = I.V.arr

/-- the boxes of the pattern -/
def RhoOk (rho : List VB) (Γ Γ' : Gam) : Prop := ∀ (id : Nat) r i, rho[id]? = some r → Γ r.id = some i → ∃ i', Γ' id = some i' ∧ i'.b = i.b ∧ i'.s = i.s ∧ i'.c = i.c ∧ i'.o = i.o + r.off * i.s ∧ i'.n + r.off ≤ i.n

theorem sSub_eval (ht : ThOk I I' th) : ∀ e : SX, (sSub th e).eval I.V = e.eval I'.V
  | .atom j => (ht.1 j).symm
  | .lit n => rfl
  | .bin op k a b => by
    show arithI op k ((sSub th a).eval I.V) ((sSub th b).eval I.V) = arithI op k _ _
    rw [sSub_eval ht a, sSub_eval ht b]
  | .conv k a => by
    show k.wrap ((sSub th a).eval I.V) = k.wrap _
    rw [sSub_eval ht a]
  | .at el i r => by
    show I.V.arr el ((sSub th i).eval I.V).toNat r = I'.V.arr el _ r
    rw [sSub_eval ht i, ht.2]

theorem matX_eq (ht : ThOk I I' th) {p a : SX} (h : matX th p a = true) : p.eval I'.V = a.eval I.V := by
  have := same_eq h
  rw [← this, sSub_eval ht]

theorem sameKs_eq : ∀ {a b : List IntKind}, sameKs a b = true → a = b
  | [], [], _ => rfl
  | [], _ :: _, h => by cases h
  | _ :: _, [], h => by cases h
  | k :: ks, k' :: ks', h => by
    have h : (decide (k = k') && sameKs ks ks') = true := h
    rw [Bool.and_eq_true] at h
    rw [of_decide_eq_true h.1, sameKs_eq h.2]

theorem matDs_at : ∀ {n : Nat} {ps as : List D}, matDs th rho n ps as = true → ps.length = as.length ∧ ∀ (k : Nat) p, ps[k]? = some p → ∃ a m, as[k]? = some a ∧ m < n ∧ matD th rho m p a = true
  | 0, _, _, h => by unfold matDs at h; cases h
  | n + 1, [], [], _ => ⟨rfl, fun k p h => by cases h⟩
  | n + 1, [], _ :: _, h => by unfold matDs at h; cases h
  | n + 1, _ :: _, [], h => by unfold matDs at h; cases h
  | n + 1, p :: ps, a :: as, h => by
    unfold matDs at h
    rw [Bool.and_eq_true] at h
    obtain ⟨h1, h2⟩ := matDs_at h.2
    refine ⟨by simp [h1], fun k q hq => ?_⟩
    cases k with
    | zero => cases hq; exact ⟨a, n, rfl, Nat.lt_succ_self n, h.1⟩
    | succ k =>
      obtain ⟨b, m, h3, h4, h5⟩ := h2 k q (by simpa using hq)
      exact ⟨b, m, by simpa using h3, by omega, h5⟩

/-- cells of what matches match -/
theorem matD_cells {n : Nat} {p a : D} (h : matD th rho n p a = true) : (cells p).length = (cells a).length ∧ ∀ (k : Nat) q, (cells p)[k]? = some q → ∃ b m, (cells a)[k]? = some b ∧ m ≤ n ∧ matD th rho m q b = true := by
  cases n with
  | zero => unfold matD at h; cases h
  | succ n =>
    have one : (∀ cs, p ≠ .agg cs) → (∀ cs, a ≠ .agg cs) → (cells p).length = (cells a).length ∧ ∀ (k : Nat) q, (cells p)[k]? = some q → ∃ b m, (cells a)[k]? = some b ∧ m ≤ n + 1 ∧ matD th rho m q b = true := by
      intro h1 h2
      have e1 : cells p = [p] := by cases p <;> first | rfl | exact (h1 _ rfl).elim
      have e2 : cells a = [a] := by cases a <;> first | rfl | exact (h2 _ rfl).elim
      rw [e1, e2]
      refine ⟨rfl, fun k q hq => ?_⟩
      cases k with
      | zero => cases hq; exact ⟨a, n + 1, rfl, Nat.le_refl _, h⟩
      | succ k => cases hq
    cases p <;> first | (unfold matD at h; cases h; done) | (cases a <;> first | (unfold matD at h; cases h; done) | (refine one ?_ ?_ <;> (intro cs hcs; cases hcs; done)) | skip)
    rename_i cs cs'
    unfold matD at h
    obtain ⟨h1, h2⟩ := matDs_at h
    refine ⟨h1, fun k q hq => ?_⟩
    obtain ⟨b, m, h3, h4, h5⟩ := h2 k q hq
    exact ⟨b, m, h3, by omega, h5⟩

theorem matDs_flat {n : Nat} : ∀ {ps as : List D}, matDs th rho n ps as = true → (flat ps).length = (flat as).length ∧ ∀ (k : Nat) q, (flat ps)[k]? = some q → ∃ b m, (flat as)[k]? = some b ∧ m < n ∧ matD th rho m q b = true := by
  have hfc : ∀ (e : D) (es : List D), flat (e :: es) = cells e ++ flat es := fun e es => by simp [flat]
  induction n with
  | zero => intro ps as h; unfold matDs at h; cases h
  | succ n ih =>
    intro ps as h
    cases ps with
    | nil =>
      cases as with
      | nil => exact ⟨rfl, fun k q hq => by cases hq⟩
      | cons _ _ => unfold matDs at h; cases h
    | cons p ps =>
      cases as with
      | nil => unfold matDs at h; cases h
      | cons a as =>
        unfold matDs at h
        rw [Bool.and_eq_true] at h
        obtain ⟨h1, h2⟩ := matD_cells h.1
        obtain ⟨h3, h4⟩ := ih h.2
        rw [hfc, hfc]
        refine ⟨by rw [List.length_append, List.length_append, h1, h3], fun k q hq => ?_⟩
        by_cases hk : k < (cells p).length
        · rw [List.getElem?_append_left hk] at hq
          obtain ⟨b, m, h5, h6, h7⟩ := h2 k q hq
          exact ⟨b, m, by rw [List.getElem?_append_left (by omega)]; exact h5, by omega, h7⟩
        · rw [List.getElem?_append_right (by omega)] at hq
          obtain ⟨b, m, h5, h6, h7⟩ := h4 _ q hq
          exact ⟨b, m, by rw [List.getElem?_append_right (by omega), ← h1]; exact h5, by omega, h7⟩

theorem matDs_even {n : Nat} {ps as : List D} (h : matDs th rho n ps as = true) {s : Nat} (he : Even s as) : Even s ps := by
  obtain ⟨_, h2⟩ := matDs_at h
  intro p hp
  obtain ⟨k, hk⟩ := List.mem_iff_getElem?.1 hp
  obtain ⟨a, m, h3, _, h5⟩ := h2 k p hk
  rw [(matD_cells h5).1]
  exact he a (List.mem_of_getElem? h3)

/-- a value of a state, seen as the pattern's -/
theorem matD_sound (ht : ThOk I I' th) : ∀ (n : Nat) {p a : D} {v : Value} {Γ Γ' : Gam}, matD th rho n p a = true → RhoOk rho Γ Γ' → @VR I F w Γ a v → @VR I' F w Γ' p v := by
  intro n
  induction n using Nat.strongRecOn with
  | _ n ih =>
    intro p a v Γ Γ' h hr hv
    cases n with
    | zero => unfold matD at h; cases h
    | succ n =>
      have lists : ∀ {ps as : List D} {vs : Array Value}, matDs th rho n ps as = true → vs.size = as.length → (∀ (k : Nat) d v, as[k]? = some d → vs[k]? = some v → @VR I F w Γ d v) →
          vs.size = ps.length ∧ ∀ (k : Nat) d v, ps[k]? = some d → vs[k]? = some v → @VR I' F w Γ' d v := by
        intro ps as vs hm hs hall
        obtain ⟨h1, h2⟩ := matDs_at hm
        refine ⟨by rw [hs, h1], fun k d v hd hv => ?_⟩
        obtain ⟨b, m, h3, h4, h5⟩ := h2 k d hd
        exact ih m (by omega) h5 hr (hall k b v h3 hv)
      have hr0 : RhoOk rho G0 G0 := fun id r i _ h => by cases h
      have flats : ∀ {ps as : List D} {vs : Nat → Value} {a : Addr}, matDs th rho n ps as = true →
          (∀ k d, (flat as)[k]? = some d → F a.block ∧ a.spot = none ∧ w.cell? ⟨a.block, a.off + k, none⟩ = some (vs k) ∧ (vs k).oneCell' = true) → (∀ k d, (flat as)[k]? = some d → @VR I F w G0 d (vs k)) →
          (∀ k d, (flat ps)[k]? = some d → F a.block ∧ a.spot = none ∧ w.cell? ⟨a.block, a.off + k, none⟩ = some (vs k) ∧ (vs k).oneCell' = true) ∧ ∀ k d, (flat ps)[k]? = some d → @VR I' F w G0 d (vs k) := by
        intro ps as vs a hm h1 h2
        obtain ⟨_, h4⟩ := matDs_flat hm
        constructor
        · intro k d hd
          obtain ⟨b, m, h5, _, _⟩ := h4 k d hd
          exact h1 k b h5
        · intro k d hd
          obtain ⟨b, m, h5, h6, h7⟩ := h4 k d hd
          exact ih m (by omega) h7 hr0 (h2 k b h5)
      cases p <;> first | (unfold matD at h; cases h; done) | skip
      case bool b =>
        cases a <;> first | (unfold matD at h; cases h; done) | skip
        unfold matD at h
        cases hv
        rename_i c
        have : b = c := by cases b <;> cases c <;> first | rfl | (cases h; done)
        subst this
        exact @VR.bool I' F w Γ' _
      case int k m =>
        cases a <;> first | (unfold matD at h; cases h; done) | skip
        unfold matD at h
        rw [Bool.and_eq_true] at h
        cases hv
        rw [of_decide_eq_true h.1, of_decide_eq_true h.2]
        exact @VR.int I' F w Γ' _ _
      case sx k e =>
        cases a <;> first | (unfold matD at h; cases h; done) | skip
        · unfold matD at h
          rw [Bool.and_eq_true] at h
          cases hv
          have := matX_eq ht h.2
          rw [of_decide_eq_true h.1]
          have hx := @VR.sx I' F w Γ' (by assumption) e
          rw [this] at hx
          exact hx
        · unfold matD at h
          rw [Bool.and_eq_true] at h
          cases hv
          have := matX_eq ht h.2
          rw [of_decide_eq_true h.1, ← this]
          exact @VR.sx I' F w Γ' _ e
      case str s =>
        cases a <;> first | (unfold matD at h; cases h; done) | skip
        rename_i s'
        unfold matD at h
        have h := of_decide_eq_true h
        cases hv
        have : s = s' := by
          obtain ⟨⟨l⟩⟩ := s
          obtain ⟨⟨l'⟩⟩ := s'
          simp at h
          rw [h]
        subst this
        exact @VR.str I' F w Γ' _
      case ptr id off =>
        cases a <;> first | (unfold matD at h; cases h; done) | skip
        unfold matD at h
        cases hq : rho[id]? with
        | none => simp only [hq] at h; cases h
        | some r =>
          simp only [hq, Bool.and_eq_true] at h
          cases hv
          rename_i id' off' i hi
          have e1 := Nat.eq_of_beq_eq_true h.1
          have e2 := Nat.eq_of_beq_eq_true h.2.2
          subst e1 e2
          obtain ⟨i', hi', hb, _⟩ := hr id r i hq hi
          rw [← hb]
          exact @VR.ptr I' F w Γ' id off i' hi'
      case sl id off len =>
        cases a <;> first | (unfold matD at h; cases h; done) | skip
        unfold matD at h
        cases hq : rho[id]? with
        | none => simp only [hq] at h; cases h
        | some r =>
          simp only [hq, Bool.and_eq_true] at h
          obtain ⟨h1, h2, h3⟩ := h
          have e1 := Nat.eq_of_beq_eq_true h1
          have e2 := Nat.eq_of_beq_eq_true h2
          have e3 := Nat.eq_of_beq_eq_true h3
          subst e1 e2 e3
          cases hv with
          | sl _ _ _ cap ad i hi hb hs ho hc hn hz =>
          obtain ⟨i', hi', k1, k2, k3, k4, k5⟩ := hr id r i hq hi
          refine @VR.sl I' F w Γ' id off len cap ad i' hi' (by rw [k1]; exact hb) hs ?_ hc (by omega) ?_
          · rcases ho with ho | ho
            · left
              rw [ho, k4, k2, Nat.add_mul]; omega
            · exact .inr ho
          · rcases hz with hz | hz
            · left
              rw [k3, k4, k2]
              refine Nat.le_trans (Nat.le_of_eq ?_) hz
              rw [show off + r.off + cap = r.off + (off + cap) by omega, Nat.add_mul r.off]; omega
            · exact .inr hz
      case lst es =>
        cases a <;> first | (unfold matD at h; cases h; done) | skip
        unfold matD at h
        cases hv with
        | lst es' ad cap s hs hc vs hw hv' =>
        obtain ⟨h1, h2⟩ := flats h hw hv'
        have hl := (matDs_at h).1
        rw [← hl]
        exact @VR.lst I' F w Γ' es ad cap s (matDs_even h hs) (by omega) vs h1 h2
      case lx ks m el =>
        cases a <;> first | (unfold matD at h; cases h; done) | skip
        unfold matD at h
        rw [Bool.and_eq_true, Bool.and_eq_true] at h
        have e1 := sameKs_eq h.1
        have e2 := matX_eq ht h.2.1
        have e3 := Nat.eq_of_beq_eq_true h.2.2
        subst e1 e3
        cases hv with
        | lx _ _ _ ad len cap hn hc hw =>
          refine @VR.lx I' F w Γ' ks m el ad len cap (by rw [e2]; exact hn) hc ?_
          rw [ht.2]; exact hw
        | lx0 _ _ _ hn =>
          exact @VR.lx0 I' F w Γ' ks m el (by rw [e2]; exact hn)
      case nilp => cases a <;> first | (unfold matD at h; cases h; done) | (cases hv; exact @VR.nilp I' F w Γ')
      case nils => cases a <;> first | (unfold matD at h; cases h; done) | (cases hv; exact @VR.nils I' F w Γ')
      case e0 => cases a <;> first | (unfold matD at h; cases h; done) | (cases hv; exact @VR.e0 I' F w Γ' _)
      case nilf => cases a <;> first | (unfold matD at h; cases h; done) | (cases hv; exact @VR.nilf I' F w Γ')
      case nili => cases a <;> first | (unfold matD at h; cases h; done) | (cases hv; exact @VR.nili I' F w Γ')
      case nilm => cases a <;> first | (unfold matD at h; cases h; done) | (cases hv; exact @VR.nilm I' F w Γ')
      case agg cs =>
        cases a <;> first | (unfold matD at h; cases h; done) | skip
        unfold matD at h
        cases hv with
        | agg cs' vs hn ho hall =>
        obtain ⟨h1, h2⟩ := lists h hn hall
        exact @VR.agg I' F w Γ' cs vs h1 ho h2
      case tup cs =>
        cases a <;> first | (unfold matD at h; cases h; done) | skip
        unfold matD at h
        cases hv with
        | tup cs' vs hn hall =>
        obtain ⟨h1, h2⟩ := lists h hn hall
        exact @VR.tup I' F w Γ' cs vs h1 h2
      case iface t d =>
        cases a <;> first | (unfold matD at h; cases h; done) | skip
        unfold matD at h
        rw [Bool.and_eq_true] at h
        cases hv with
        | iface _ _ _ hd =>
        rw [Nat.eq_of_beq_eq_true h.1]
        exact @VR.iface I' F w Γ' _ _ _ (ih n (Nat.lt_succ_self n) h.2 hr hd)
      case fn f xs ys =>
        cases a <;> first | (unfold matD at h; cases h; done) | skip
        unfold matD at h
        rw [Bool.and_eq_true, Bool.and_eq_true] at h
        cases hv with
        | fn _ xs' ys' us vs hx hy h1 h2 =>
        obtain ⟨k1, k2⟩ := lists h.2.1 hx h1
        obtain ⟨k3, k4⟩ := lists h.2.2 hy h2
        rw [Nat.eq_of_beq_eq_true h.1]
        exact @VR.fn I' F w Γ' _ xs ys us vs k1 k3 k2 k4

end
end
end Go.Sim
/- A state seen as another one: boxes. -/
namespace Go.Sim
noncomputable section
open Go.RowKit

theorem patH_get [Val] (pb : List Box) (id : Nat) : (patH pb).get id = pb[id]? := by
  rw [H.get_eq]
  show (if id < pb.length then (((pb.map some).reverse)[pb.length - 1 - id]?).getD none else none) = _
  by_cases hl : id < pb.length
  · rw [if_pos hl, List.getElem?_reverse (by simp; omega), List.length_map, show pb.length - 1 - (pb.length - 1 - id) = id by omega, List.getElem?_map, List.getElem?_eq_getElem hl]
    rfl
  · rw [if_neg hl, List.getElem?_eq_none (by omega)]

theorem distinct_eq [Val] : ∀ {l : List Nat}, distinct l = true → ∀ i j x : Nat, l[i]? = some x → l[j]? = some x → i = j
  | [], _, i, _, x, h, _ => by cases h
  | y :: l, h, i, j, x, hi, hj => by
    have h : (!(hasN l y) && distinct l) = true := h
    rw [Bool.and_eq_true] at h
    have hn : ∀ k, l[k]? = some y → False := fun k hk => by
      have := hasN_iff.2 (List.mem_of_getElem? hk)
      rw [this] at h
      cases h.1
    cases i with
    | zero =>
      cases j with
      | zero => rfl
      | succ j => cases hi; exact (hn j (by simpa using hj)).elim
    | succ i =>
      cases j with
      | zero => cases hj; exact (hn i (by simpa using hi)).elim
      | succ j => rw [distinct_eq h.2 i j x (by simpa using hi) (by simpa using hj)]

section
variable {I I' : Val} {th : List SX} {rho : List VB} {F : Nat → Prop} {w : World}

theorem matBs_at {hp : H} : ∀ {rs : List VB} {ps : List Box}, matBs th rho hp rs ps = true → rs.length = ps.length ∧ ∀ (k : Nat) p, ps[k]? = some p → ∃ r, rs[k]? = some r ∧ matB th rho r.off p (hp.get r.id) = true
  | [], [], _ => ⟨rfl, fun k p h => by cases h⟩
  | [], _ :: _, h => by cases h
  | _ :: _, [], h => by cases h
  | r :: rs, p :: ps, h => by
    have h : (matB th rho r.off p (hp.get r.id) && matBs th rho hp rs ps) = true := h
    rw [Bool.and_eq_true] at h
    obtain ⟨h1, h2⟩ := matBs_at h.2
    refine ⟨by simp [h1], fun k q hq => ?_⟩
    cases k with
    | zero => cases hq; exact ⟨r, rfl, h.1⟩
    | succ k =>
      obtain ⟨r', h3, h4⟩ := h2 k q (by simpa using hq)
      exact ⟨r', by simpa using h3, h4⟩

/-- what is known of a box of the pattern -/
def patI (i : BI) (off : Nat) : Box → BI
  | .arr _ es _ => ⟨i.b, i.s, es.length, i.c, i.o + off * i.s⟩
  | _ => ⟨i.b, i.s, i.n - off, i.c, i.o + off * i.s⟩

def patG (rho : List VB) (pb : List Box) (Γ : Gam) : Gam := fun id => (rho[id]?).bind fun r => (Γ r.id).bind fun i => (pb[id]?).map fun p => patI i r.off p

theorem patG_some {pb : List Box} {Γ : Gam} {id : Nat} {r : VB} {i : BI} {p : Box} (h1 : rho[id]? = some r) (h2 : Γ r.id = some i) (h3 : pb[id]? = some p) : patG rho pb Γ id = some (patI i r.off p) := by
  unfold patG; rw [h1]; simp [h2, h3]

theorem cells_mat (ht : ThOk I I' th) {Γ Γ' : Gam} (hr : RhoOk rho Γ Γ') {n : Nat} {ps as : List D} {c : Array Value} (hm : matDs th rho n ps as = true) (h : @CellsRel I Γ F w as c) : @CellsRel I' Γ' F w ps c := fun k d hd => by
  obtain ⟨_, h2⟩ := matDs_at hm
  obtain ⟨a, m, h3, _, h5⟩ := h2 k d hd
  obtain ⟨v, h6, h7, h8⟩ := h k a h3
  exact ⟨v, h6, matD_sound ht m h5 hr h7, h8⟩

theorem matS_sound (ht : ThOk I I' th) {ps : Env} {pb : List Box} {a : A} {h : H} (hm : matS th rho ps pb a h = true) {Γ : Gam} {act : Act} (hA : @At I anyC Γ F h w) (ha : @ActR I Γ F w a act) :
    ∃ Γ', @At I' anyC Γ' F (patH pb) w ∧ @ActR I' Γ' F w ⟨a.st, ps, []⟩ act ∧ ∀ b, wrB Γ' (patH pb).get 0 b → wrB Γ h.get 0 b := by
  unfold matS at hm
  simp only [Bool.and_eq_true] at hm
  obtain ⟨hE, hB, hD, hdf, _⟩ := hm
  obtain ⟨hwf, ⟨hbox, hinj, hfro⟩, htop⟩ := hA
  obtain ⟨hasz, haenv, hadfs⟩ := ha
  obtain ⟨hlen, hbx⟩ := matBs_at hB
  -- what a box of the pattern stands for
  have core : ∀ (id : Nat) p, pb[id]? = some p → ∃ r i y, rho[id]? = some r ∧ Γ r.id = some i ∧ h.get r.id = some y ∧ matB th rho r.off p (some y) = true ∧ i.b < w.heap.size ∧ @BoxRel I anyC Γ F w i y ∧ (fzB y = true ↔ F i.b) := by
    intro id p hp
    obtain ⟨r, h1, h2⟩ := hbx id p hp
    cases hg : h.get r.id with
    | none => rw [hg] at h2; cases p <;> cases h2
    | some y =>
      rw [hg] at h2
      obtain ⟨i, k1, k2, k3, k4⟩ := hbox r.id y hg
      exact ⟨r, i, y, h1, k1, hg, h2, k2, k3, k4⟩
  have arrs : ∀ {s s' : Nat} {es es' : List D} {fz fz' : Bool} {wo : Nat}, matB th rho wo (.arr s es fz) (some (.arr s' es' fz')) = true → s = s' ∧ fz = fz' ∧ wo + es.length ≤ es'.length ∧ matDs th rho maFuel es ((es'.drop wo).take es.length) = true := by
    intro s s' es es' fz fz' wo hm
    have hm : (Nat.beq s s' && (cnd fz fz' (!fz') && (Nat.ble (wo + es.length) es'.length && matDs th rho maFuel es ((es'.drop wo).take es.length)))) = true := hm
    simp only [Bool.and_eq_true] at hm
    refine ⟨Nat.eq_of_beq_eq_true hm.1, ?_, Nat.le_of_ble_eq_true hm.2.2.1, hm.2.2.2⟩
    have := hm.2.1
    cases fz <;> cases fz' <;> first | rfl | (cases this; done)
  have vars : ∀ {cs cs' : List D} {wo : Nat}, matB th rho wo (.var cs) (some (.var cs')) = true → wo = 0 ∧ matDs th rho maFuel cs cs' = true := by
    intro cs cs' wo hm
    have hm : (Nat.beq wo 0 && matDs th rho maFuel cs cs') = true := hm
    rw [Bool.and_eq_true] at hm
    exact ⟨Nat.eq_of_beq_eq_true hm.1, hm.2⟩
  have hrho : RhoOk rho Γ (patG rho pb Γ) := by
    intro id r i hq hi
    have hid : id < pb.length := by rw [← hlen]; exact (List.getElem?_eq_some_iff.1 hq).1
    have hp : pb[id]? = some pb[id] := List.getElem?_eq_getElem hid
    obtain ⟨r', i', y, h1, h2, h3, h4, h5, h6, _⟩ := core id _ hp
    rw [hq] at h1; cases h1
    rw [hi] at h2; cases h2
    refine ⟨_, patG_some hq hi hp, ?_⟩
    generalize pb[id] = p at h4
    cases p with
    | arr s es fz =>
      cases y <;> first | (cases h4; done) | skip
      obtain ⟨_, _, k3, _⟩ := arrs h4
      obtain ⟨c, t, fr, _, _, _, _, hn, _⟩ := h6
      refine ⟨rfl, rfl, rfl, rfl, ?_⟩
      show es.length + r.off ≤ i.n
      omega
    | var cs =>
      cases y <;> first | (cases h4; done) | skip
      obtain ⟨k1, _⟩ := vars h4
      refine ⟨rfl, rfl, rfl, rfl, ?_⟩
      show i.n - r.off + r.off ≤ i.n
      omega
    | map kv => cases h4
    | loop l => cases h4
    | dfr => cases h4
  refine ⟨patG rho pb Γ, ⟨?_, ⟨fun id x hx => ?_, fun id id' x x' j j' hx hx' hj hj' he => ?_, hfro⟩, fun id hid => ?_⟩, ⟨hasz, fun t => ?_, ?_⟩, ?_⟩
  · show ((pb.map some).reverse).length = pb.length
    simp
  · rw [patH_get] at hx
    obtain ⟨r, i, y, h1, h2, h3, h4, h5, h6, h7⟩ := core id x hx
    refine ⟨_, patG_some h1 h2 hx, ?_, ?_, ?_⟩
    · cases x <;> exact h5
    · cases x with
      | var cs =>
        cases y <;> first | (cases h4; done) | skip
        obtain ⟨k1, k2⟩ := vars h4
        obtain ⟨c, t, fr, g1, g2, g3, g4, g5⟩ := h6
        refine ⟨c, t, fr, g1, g2, g3, ?_, cells_mat ht hrho k2 g5⟩
        rw [(matDs_at k2).1]; exact g4
      | arr s es fz =>
        cases y <;> first | (cases h4; done) | skip
        rename_i s' es' fz'
        obtain ⟨k1, k2, k3, k4⟩ := arrs h4
        subst k1
        obtain ⟨c, t, fr, g1, g2, g3, g4, g5, g6, g7, g8⟩ := h6
        have hev : Even s ((es'.drop r.off).take es.length) := (g6.drop _).take _
        refine ⟨c, t, fr, g1, g2, g3, g4, rfl, matDs_even k4 hev, ?_, fun k d hd => ?_⟩
        · show i.o + r.off * i.s + es.length * i.s ≤ i.c
          rw [Nat.add_assoc, ← Nat.add_mul]
          refine Nat.le_trans (Nat.add_le_add_left (Nat.mul_le_mul_right _ ?_) _) g7
          omega
        · have hd : (List.replicate (i.o + r.off * i.s) D.undef ++ flat es)[k]? = some d := hd
          have hsub : flat ((es'.drop r.off).take es.length) = ((flat es').drop (r.off * s)).take (es.length * s) := by
            rw [flat_take (g6.drop _), flat_drop g6]
          by_cases hk : k < i.o + r.off * i.s
          · rw [List.getElem?_append_left (by simpa using hk)] at hd
            have hdu : d = .undef := by
              rw [List.getElem?_replicate] at hd
              split at hd
              · cases hd; rfl
              · first | (cases hd; done) | rfl | contradiction
            subst hdu
            -- some cell stands there
            have hex : ∃ d', (pad i.o es')[k]? = some d' := by
              have hl : k < (pad i.o es').length := by
                unfold pad
                rw [List.length_append, List.length_replicate, g6.length, g5]
                have : r.off * i.s ≤ i.n * s := by rw [← g4]; exact Nat.mul_le_mul_right _ (by omega)
                omega
              exact ⟨_, List.getElem?_eq_getElem hl⟩
            obtain ⟨d', hd'⟩ := hex
            obtain ⟨v, v1, _, v3⟩ := g8 k d' hd'
            exact ⟨v, v1, @VR.undef I' F w _ v, v3⟩
          · rw [List.getElem?_append_right (by simpa using hk), List.length_replicate] at hd
            obtain ⟨_, m2⟩ := matDs_flat k4
            obtain ⟨b, m, q1, _, q3⟩ := m2 _ d hd
            rw [hsub, List.getElem?_take] at q1
            split at q1
            · rw [List.getElem?_drop] at q1
              have hpd : (pad i.o es')[k]? = some b := by
                unfold pad
                rw [g4] at q1
                rw [List.getElem?_append_right (by rw [List.length_replicate]; omega), List.length_replicate, ← q1]
                congr 1
                omega
              obtain ⟨v, v1, v2, v3⟩ := g8 k b hpd
              exact ⟨v, v1, matD_sound ht m q3 hrho v2, v3⟩
            · cases q1
      | map kv => cases h4
      | loop l => cases h4
      | dfr => cases h4
    · have hfz : fzB x = fzB y := by
        cases x with
        | arr s es fz =>
          cases y <;> first | (cases h4; done) | skip
          exact (arrs h4).2.1
        | var cs => cases y <;> first | (cases h4; done) | rfl
        | map kv => cases h4
        | loop l => cases h4
        | dfr => cases h4
      rw [hfz]
      have : (patI i r.off x).b = i.b := by cases x <;> rfl
      rw [this]; exact h7
  · rw [patH_get] at hx hx'
    obtain ⟨r, i, y, h1, h2, h3, _⟩ := core id x hx
    obtain ⟨r', i', y', h1', h2', h3', _⟩ := core id' x' hx'
    rw [patG_some h1 h2 hx] at hj; cases hj
    rw [patG_some h1' h2' hx'] at hj'; cases hj'
    have e1 : (patI i r.off x).b = i.b := by cases x <;> rfl
    have e2 : (patI i' r'.off x').b = i'.b := by cases x' <;> rfl
    rw [e1, e2] at he
    have := hinj r.id r'.id y y' i i' h3 h3' h2 h2' he
    refine distinct_eq hD id id' r.id ?_ ?_
    · rw [List.getElem?_map, h1]; rfl
    · rw [List.getElem?_map, h1', this]; rfl
  · have hid : pb.length ≤ id := hid
    unfold patG
    rw [List.getElem?_eq_none (by omega)]; rfl
  · show @VR I' F w _ (look ps t) _
    have hall : ∀ (l : Env), (∀ p ∈ l, matD th rho maFuel p.2 (look a.env p.1) = true) → look l t = .undef ∨ matD th rho maFuel (look l t) (look a.env t) = true := by
      intro l
      induction l with
      | nil => intro _; exact .inl (look_nil t)
      | cons p l ih =>
        intro hl
        obtain ⟨u, d⟩ := p
        by_cases hu : u = t
        · subst hu
          rw [look_cons_same]
          exact .inr (hl (u, d) (by simp))
        · rw [look_cons_ne _ _ hu]
          exact ih fun q hq => hl q (by simp [hq])
    rcases hall ps (fun p hp => List.all_eq_true.1 hE p hp) with h1 | h1
    · rw [h1]; exact @VR.undef I' F w _ _
    · exact matD_sound ht _ h1 hrho (haenv t)
  · have : a.dfs = [] := List.isEmpty_iff.1 hdf
    have hd := hadfs
    rw [this] at hd
    show @DfsR I' _ F w [] act.defers
    cases hq : act.defers with
    | nil => trivial
    | cons _ _ => rw [hq] at hd; exact hd.elim
  · rintro b ⟨id, x, i', hx, _, hi, hb, hz⟩
    rw [patH_get] at hx
    obtain ⟨r, i, y, h1, h2, h3, h4, _⟩ := core id x hx
    rw [patG_some h1 h2 hx] at hi; cases hi
    have e1 : (patI i r.off x).b = i.b := by cases x <;> rfl
    refine ⟨r.id, y, i, h3, Nat.zero_le _, h2, by rw [← e1]; exact hb, ?_⟩
    rw [← hz]
    cases x with
    | arr s es fz =>
      cases y <;> first | (cases h4; done) | skip
      exact (arrs h4).2.1.symm
    | var cs => cases y <;> first | (cases h4; done) | rfl
    | map kv => cases h4
    | loop l => cases h4
    | dfr => cases h4

end
end
end Go.Sim
/- A function's body by patterns: what the interpreter says at a pattern, the code does. -/
namespace Go.Sim
noncomputable section
open Go.RowKit

/-- nothing that was there ahead has turned -/
structure FrW (W0 w : World) : Prop where
  keep : ∀ b, b < W0.heap.size → w.heap[b]? = W0.heap[b]?
  size : W0.heap.size ≤ w.heap.size
  os : w.os = W0.os
  tape : w.tape = W0.tape
  output : w.output = W0.output

structure Fr (W0 : World) (Γ : Gam) (F : Nat → Prop) (get : Nat → Option Box) (w : World) : Prop where
  fw : FrW W0 w
  fro : ∀ b, b < W0.heap.size → F b
  own : ∀ b, wrB Γ get 0 b → W0.heap.size ≤ b

theorem Fr.step [Val] {C : Code → Prop} {W0 : World} {Γ Γ' : Gam} {F F' : Nat → Prop} {get get' : Nat → Option Box} {nx nx' : Nat} {w w' : World} (h : Fr W0 Γ F get w) (hr : Rel C Γ F w get) (hs : Step C 0 Γ F get nx w Γ' F' get' nx' w') : Fr W0 Γ' F' get' w' where
  fw := ⟨fun b hb => (hs.frame b (Nat.lt_of_lt_of_le hb h.fw.size) (fun hw => by have := h.own b hw; omega)).trans (h.fw.keep b hb), Nat.le_trans h.fw.size hs.size, hs.os.trans h.fw.os, hs.tape.trans h.fw.tape, hs.output.trans h.fw.output⟩
  fro := fun b hb => hs.fro b (h.fro b hb)
  own := fun b hb => by
    rcases hs.wr_back hr hb with h1 | h1
    · exact Nat.le_trans h.fw.size h1
    · exact h.own b h1

/-- the state is as a pattern says, its unknown numbers being V -/
def PatAt (W0 : World) (V : Vals) (st : St) (ps : Env) (pb : List Box) (act : Act) (w : World) : Prop :=
  ∀ I : Val, I.V = V → ∃ Γ F, @At I anyC Γ F (patH pb) w ∧ @ActR I Γ F w ⟨st, ps, []⟩ act ∧ Fr W0 Γ F (patH pb).get w

/-- the unknown numbers of the next pattern -/
def nextV (V : Vals) (th : List SX) : Vals := ⟨fun j => ((th[j]?).getD (.atom j)).eval V, V.arr⟩

section
variable {P : Program} {cfg : FuncId → FInfo} {W0 : World} {V : Vals} {st : St} {ps : Env} {pb : List Box} {act : Act} {w : World}

theorem pat_code (hm : P.follows .mixedOrders = true) (hN : Named P) (hP : ∀ I : Val, @PrimOk I anyC P cfg) (hpat : PatAt W0 V st ps pb act w) (I : Val) (hI : I.V = V) {m : Nat} {c : Code} {res : Ex × A × H}
    (hres : @codeD I P cfg (@ev I P cfg m) c ⟨st, ps, []⟩ (patH pb) = some res) (hrd : st.rd = none) :
    c.wpIn Fence.wide 0 P (fun e act' w' => ∃ Γ' F', @At I anyC Γ' F' res.2.2 w' ∧ @ExR I Γ' F' w' res.1 e ∧ @ActR I Γ' F' w' res.2.1 act' ∧ res.2.1.st = st ∧ Fr W0 Γ' F' res.2.2.get w') act w := by
  obtain ⟨Γ, F, hA, ha, hfr⟩ := hpat I hI
  letI := I
  have hok := ((all_ok hm hN (hP I) m).2 c) ⟨st, ps, []⟩ (patH pb) res hres Γ F w act none hA ha (by rw [hrd]; trivial) 0
  refine wpIn_mono hok (fun e act' w' hc => ?_)
  obtain ⟨Γ', F', h1, h2, h3, h4, h5, h6⟩ := hc
  exact ⟨Γ', F', At.step h1 h2, h4, h5, h6, hfr.step hA.rel h1⟩

theorem pat_next {I : Val} (hI : I.V = V) {th : List SX} {rho : List VB} {ps' : Env} {pb' : List Box} {a : A} {h : H} (hm : matS th rho ps' pb' a h = true) {Γ : Gam} {F : Nat → Prop} (hA : @At I anyC Γ F h w) (ha : @ActR I Γ F w a act)
    (hfr : Fr W0 Γ F h.get w) (hst : a.st = st) : PatAt W0 (nextV V th) st ps' pb' act w := by
  intro I' hI'
  have ht : ThOk I I' th := by
    constructor
    · intro j; rw [hI', hI]; rfl
    · rw [hI', hI]; rfl
  obtain ⟨Γ', h1, h2, h3⟩ := matS_sound ht hm hA ha
  rw [hst] at h2
  exact ⟨Γ', F, h1, h2, hfr.fw, hfr.fro, fun b hb => hfr.own b (h3 b hb)⟩

/-- a piece of code comes from a pattern to a pattern -/
theorem pat_norm (hm : P.follows .mixedOrders = true) (hN : Named P) (hP : ∀ I : Val, @PrimOk I anyC P cfg) (hpat : PatAt W0 V st ps pb act w) (I : Val) (hI : I.V = V) {m : Nat} {c : Code} {th : List SX} {rho : List VB} {ps' : Env} {pb' : List Box}
    (hchk : chkN th rho ps' pb' (@codeD I P cfg (@ev I P cfg m) c ⟨st, ps, []⟩ (patH pb)) = true) (hrd : st.rd = none) {Q : Exit → Act → World → Prop} (hq : ∀ act' w', PatAt W0 (nextV V th) st ps' pb' act' w' → Q .normal act' w') :
    c.wpIn Fence.wide 0 P Q act w := by
  cases hr : @codeD I P cfg (@ev I P cfg m) c ⟨st, ps, []⟩ (patH pb) with
  | none => rw [hr] at hchk; cases hchk
  | some res =>
    obtain ⟨ex, a', h'⟩ := res
    rw [hr] at hchk
    cases ex <;> first | (cases hchk; done) | skip
    refine wpIn_mono (pat_code hm hN hP hpat I hI hr hrd) (fun e act' w' hc => ?_)
    obtain ⟨Γ', F', h1, h2, h3, h4, h5⟩ := hc
    cases e <;> first | exact h2.elim | skip
    exact hq act' w' (pat_next hI hchk h1 h3 h5 h4)

/-- a piece of code leaves a block -/
theorem pat_exit (hm : P.follows .mixedOrders = true) (hN : Named P) (hP : ∀ I : Val, @PrimOk I anyC P cfg) (hpat : PatAt W0 V st ps pb act w) (I : Val) (hI : I.V = V) {m id : Nat} {c : Code} {th : List SX} {rho : List VB} {ps' : Env} {pb' : List Box}
    (hchk : chkX id th rho ps' pb' (@codeD I P cfg (@ev I P cfg m) c ⟨st, ps, []⟩ (patH pb)) = true) (hrd : st.rd = none) {Q : Exit → Act → World → Prop} (hq : ∀ act' w', PatAt W0 (nextV V th) st ps' pb' act' w' → Q (.exit id) act' w') :
    c.wpIn Fence.wide 0 P Q act w := by
  cases hr : @codeD I P cfg (@ev I P cfg m) c ⟨st, ps, []⟩ (patH pb) with
  | none => rw [hr] at hchk; cases hchk
  | some res =>
    obtain ⟨ex, a', h'⟩ := res
    rw [hr] at hchk
    cases ex <;> first | (cases hchk; done) | skip
    rename_i j
    have hchk : (Nat.beq j id && matS th rho ps' pb' a' h') = true := hchk
    rw [Bool.and_eq_true] at hchk
    have hj := Nat.eq_of_beq_eq_true hchk.1
    subst hj
    refine wpIn_mono (pat_code hm hN hP hpat I hI hr hrd) (fun e act' w' hc => ?_)
    obtain ⟨Γ', F', h1, h2, h3, h4, h5⟩ := hc
    cases e <;> first | exact h2.elim | skip
    have h2 : j = _ := h2
    subst h2
    exact hq act' w' (pat_next hI hchk.2 h1 h3 h5 h4)

/-- a piece of code returns 'true' -/
theorem pat_ret (hm : P.follows .mixedOrders = true) (hN : Named P) (hP : ∀ I : Val, @PrimOk I anyC P cfg) (hpat : PatAt W0 V st ps pb act w) (I : Val) (hI : I.V = V) {m t : Nat} {c : Code}
    (hchk : chkR t (@codeD I P cfg (@ev I P cfg m) c ⟨st, ps, []⟩ (patH pb)) = true) (hrd : st.rd = none) {Q : Exit → Act → World → Prop}
    (hq : ∀ act' w', act'.defers = [] → act'.tmps.getD t undef = .bool true → FrW W0 w' → Q .ret act' w') : c.wpIn Fence.wide 0 P Q act w := by
  cases hr : @codeD I P cfg (@ev I P cfg m) c ⟨st, ps, []⟩ (patH pb) with
  | none => rw [hr] at hchk; cases hchk
  | some res =>
    obtain ⟨ex, a', h'⟩ := res
    rw [hr] at hchk
    cases ex <;> first | (cases hchk; done) | skip
    have hchk : (a'.dfs.isEmpty && (match look a'.env t with
    | .bool b => b
    | _ => false)) = true := hchk
    rw [Bool.and_eq_true] at hchk
    refine wpIn_mono (pat_code hm hN hP hpat I hI hr hrd) (fun e act' w' hc => ?_)
    obtain ⟨Γ', F', h1, h2, h3, h4, h5⟩ := hc
    cases e <;> first | exact h2.elim | skip
    obtain ⟨_, henv, hdf⟩ := h3
    refine hq act' w' ?_ ?_ h5.fw
    · have : a'.dfs = [] := List.isEmpty_iff.1 hchk.1
      have hdf : @DfsR I Γ' F' w' a'.dfs act'.defers := hdf
      rw [this] at hdf
      cases hd : act'.defers with
      | nil => rfl
      | cons _ _ => rw [hd] at hdf; exact hdf.elim
    · have hv := henv t
      have hb := hchk.2
      have hv : @VR I F' w' Γ' (look a'.env t) _ := hv
      generalize look a'.env t = d at hv hb
      cases d <;> first | (cases hb; done) | skip
      have hb : _ = true := hb
      subst hb
      generalize act'.tmps.getD t undef = u at hv
      cases hv
      rfl

/-- the head of a chain of codes -/
theorem take_ok [Val] {E : Ev} (hcode : ∀ c, CodeOk anyC P cfg E c) : ∀ (k : Nat) (c : Code) (a : A) (h : H) (res : Ex × A × H), codeD P cfg E (takeS k c) a h = some res → ∀ (Γ : Gam) (F : Nat → Prop) (w : World) (act : Act) (r : Option Nat), At anyC Γ F h w →
    ActR Γ F w a act → RdR Γ a.st.rd r → ∀ (n : Nat) (Q : Exit → Act → World → Prop), (∀ e act' w', CPost anyC Γ F h w a.st res e act' w' → Exit.then ((dropS k c).wpIn (W r) n P Q) Q e act' w') → c.wpIn (W r) n P Q act w := by
  have stop : ∀ (c : Code) (a : A) (h : H) (res : Ex × A × H), some (Ex.normal, a, h) = some res → ∀ (Γ : Gam) (F : Nat → Prop) (w : World) (act : Act) (r : Option Nat), At anyC Γ F h w →
    ActR Γ F w a act → ∀ (n : Nat) (Q : Exit → Act → World → Prop), (∀ e act' w', CPost anyC Γ F h w a.st res e act' w' → Exit.then (c.wpIn (W r) n P Q) Q e act' w') → c.wpIn (W r) n P Q act w := by
    intro c a h res hs Γ F w act r hA ha n Q hq
    cases hs
    exact hq .normal act w (CPost.here hA ha trivial)
  intro k
  induction k with
  | zero => intro c a h res hs Γ F w act r hA ha hrd n Q hq; exact stop c a h res hs Γ F w act r hA ha n Q hq
  | succ k ih =>
    intro c a h res hs Γ F w act r hA ha hrd n Q hq
    cases c with
    | seq x y =>
      obtain ⟨z, hz, hs⟩ := ob_some.1 (show (codeD P cfg E x a h).ob (thenD (codeD P cfg E (takeS k y))) = some res from hs)
      refine wpIn_seq (wpIn_mono (hcode x a h z hz Γ F w act r hA ha hrd n) (fun e act' w' hc => ?_))
      have hq' : ∀ e act' w', CPost anyC Γ F h w a.st res e act' w' → Exit.then ((dropS k y).wpIn (W r) n P Q) Q e act' w' := hq
      obtain ⟨ex, a', h'⟩ := z
      have hc0 := hc
      obtain ⟨Γ', F', h1, h2, h3, h4, h5, h6⟩ := hc
      cases ex with
      | normal =>
        cases e <;> first | exact h4.elim | skip
        exact ih y a' h' res hs Γ' F' w' act' r (.step h1 h2) h5 (by have h6 : a'.st = a.st := h6; rw [h6]; exact hrd.mono h1.ext) n Q (fun e a2 w2 hc2 => hq' e a2 w2 (hc2.back hA.rel h1 h3 h6))
      | exit i =>
        cases hs
        cases e <;> first | exact h4.elim | exact hq' _ _ _ hc0
      | ret =>
        cases hs
        cases e <;> first | exact h4.elim | exact hq' _ _ _ hc0
      | pan d =>
        cases hs
        cases e <;> first | exact h4.elim | exact hq' _ _ _ hc0
    | _ => exact stop _ a h res hs Γ F w act r hA ha n Q hq

/-- the head of a chain comes from a pattern to a pattern -/
theorem pat_take (hm : P.follows .mixedOrders = true) (hN : Named P) (hP : ∀ I : Val, @PrimOk I anyC P cfg) (hpat : PatAt W0 V st ps pb act w) (I : Val) (hI : I.V = V) {m : Nat} (k : Nat) {c : Code} {th : List SX} {rho : List VB} {ps' : Env} {pb' : List Box}
    (hchk : chkN th rho ps' pb' (@codeD I P cfg (@ev I P cfg m) (takeS k c) ⟨st, ps, []⟩ (patH pb)) = true) (hrd : st.rd = none) {Q : Exit → Act → World → Prop}
    (hq : ∀ act' w', PatAt W0 (nextV V th) st ps' pb' act' w' → (dropS k c).wpIn Fence.wide 0 P Q act' w') : c.wpIn Fence.wide 0 P Q act w := by
  cases hr : @codeD I P cfg (@ev I P cfg m) (takeS k c) ⟨st, ps, []⟩ (patH pb) with
  | none => rw [hr] at hchk; cases hchk
  | some res =>
    obtain ⟨ex, a', h'⟩ := res
    rw [hr] at hchk
    cases ex <;> first | (cases hchk; done) | skip
    obtain ⟨Γ, F, hA, ha, hfr⟩ := hpat I hI
    letI := I
    refine take_ok (fun c => (all_ok hm hN (hP I) m).2 c) k c _ _ _ hr Γ F w act none hA ha (by rw [hrd]; trivial) 0 Q (fun e act' w' hc => ?_)
    obtain ⟨Γ', F', h1, h2, h3, h4, h5, h6⟩ := hc
    cases e <;> first | exact h4.elim | skip
    exact hq act' w' (pat_next hI hchk (At.step h1 h2) h5 (hfr.step hA.rel h1) h6)

/-- a function that answers 'true' -/
theorem calls_top {f : FuncId} {fn : Func} {c : Code} {t : Nat} {vs : Array Value} (hf : P.funcs[f]? = some fn) (hb : fn.body = some c) (hres : fn.results = #[.tmp t])
    (h : c.wpIn Fence.wide 0 P (fun e act' w' => e = .ret ∧ act'.defers = [] ∧ act'.tmps.getD t undef = .bool true ∧ FrW W0 w') { tmps := vs ++ Array.replicate (fn.ntmps - vs.size) undef, defers := [] } w) :
    Calls P f vs w (fun e w' => e = .returned (.bool true) ∧ FrW W0 w') := by
  rw [← callsIn_wide (n := 0)]
  refine callsIn_of_wp_marks hf hb trivial (wpIn_mono h (fun e act' w' hq => ?_))
  obtain ⟨rfl, hd, ht, hw⟩ := hq
  show LeavesInM Fence.wide 0 P fn act'.tmps _ act'.defers .returning w'
  rw [hd]
  refine ⟨.bool true, ?_, rfl, hw⟩
  unfold results
  rw [hres]
  rw [Array.getD_eq_getD_getElem?] at ht
  simp [ht]

/-- the state at the entry: a slice of unknown numbers -/
theorem enter_list (cfgf : FInfo) {fn : Func} {ks : List IntKind} {v : Value} {n : Nat} (hv : (∃ a cap, v = .slice (some a) n cap ∧ n ≤ cap ∧ ∀ (i r : Nat) k, i < n → ks[r]? = some k → a.block < w.heap.size ∧ a.spot = none ∧ w.cell? ⟨a.block, a.off + (i * ks.length + r), none⟩ = some (.int k (V.arr 0 i r))) ∨
    (v = .slice none 0 0 ∧ n = 0)) (hn : V.v 0 = n) (hnt : 1 ≤ fn.ntmps) :
    PatAt w V ⟨fn.ntmps, cfgf.mask, none⟩ [(0, .lx ks (.atom 0) 0)] [] { tmps := #[v] ++ Array.replicate (fn.ntmps - 1) undef, defers := [] } w := by
  intro I hI
  subst hI
  refine ⟨G0, fun b => b < w.heap.size, ?_, ?_, ⟨⟨fun _ _ => rfl, Nat.le_refl _, rfl, rfl, rfl⟩, fun _ h => h, ?_⟩⟩
  · letI := I
    exact ⟨rfl, ⟨(fun id x hx => by rw [H.get_ge _ (Nat.zero_le _)] at hx; cases hx), (fun id id' x x' i i' hx => by rw [H.get_ge _ (Nat.zero_le _)] at hx; cases hx), fun b h => h⟩, fun _ _ => rfl⟩
  · refine ⟨?_, fun t => ?_, trivial⟩
    · show (#[v] ++ Array.replicate (fn.ntmps - 1) undef).size = fn.ntmps
      simp; omega
    · show @VR I _ w G0 (look [(0, .lx ks (.atom 0) 0)] t) ((#[v] ++ Array.replicate (fn.ntmps - 1) undef).getD t undef)
      by_cases ht : 0 = t
      · subst ht
        letI := I
        rw [look_cons_same]
        have : (#[v] ++ Array.replicate (fn.ntmps - 1) undef).getD 0 undef = v := by simp [Array.getD]
        rw [this]
        rcases hv with ⟨a, cap, rfl, hc, hw⟩ | ⟨rfl, rfl⟩
        · exact .lx ks _ 0 a n cap hn hc hw
        · exact .lx0 ks _ 0 hn
      · letI := I
        rw [look_cons_ne _ _ ht, look_nil]
        exact .undef _
  · rintro b ⟨id, x, i, hx, _⟩
    letI := I
    rw [H.get_ge _ (Nat.zero_le _)] at hx; cases hx

/-- a function without arguments that answers true, whatever the state: known once, taken as known from then on -/
theorem prims_true {cfg0 : FuncId → FInfo} (hm : P.follows .mixedOrders = true) (hN : Named P) (h0 : ∀ I : Val, @PrimOk I anyC P cfg0)
    (hp : ∀ f, Nat.beq (cfg f).prim 0 = false → (cfg f).prim = 3 ∧ Nat.beq (cfg0 f).prim 0 = true ∧ ∃ m, ∀ (I : Val) (h : H), @callF cfg0 (@ev I P cfg0 m) f [] h = some (.val (.bool true) h)) : ∀ I : Val, @PrimOk I anyC P cfg := by
  intro I f ds h r hpr hs Γ F w vs hA har
  obtain ⟨h3, hp0, m, hcall⟩ := hp f hpr
  rw [h3] at hs
  have hds : ds = [] ∧ r = (.bool true, h) := by
    cases ds with
    | nil => cases hs; exact ⟨rfl, rfl⟩
    | cons _ _ => cases hs
  obtain ⟨rfl, rfl⟩ := hds
  letI := I
  exact (callE_sound (all_ok hm hN (h0 I) m).1 f [] h _ hp0 (hcall I h) Γ F w vs hA har).ok

/-- the state at the entry -/
theorem enter_any (f : FuncId) {fn : Func} {ds : List D} {vs : Array Value} (h : ∀ I : Val, I.V = V → @AR I G0 (fun b => b < w.heap.size) w ds vs) (hle : ds.length ≤ fn.ntmps) :
    PatAt w V ⟨fn.ntmps, (cfg f).mask, none⟩ ((List.range ds.length).zip ds) [] { tmps := vs ++ Array.replicate (fn.ntmps - vs.size) undef, defers := [] } w := by
  intro I hI
  have har := h I hI
  refine ⟨G0, fun b => b < w.heap.size, ?_, ?_, ⟨⟨fun _ _ => rfl, Nat.le_refl _, rfl, rfl, rfl⟩, fun _ h => h, ?_⟩⟩
  · letI := I
    exact ⟨rfl, ⟨(fun id x hx => by rw [H.get_ge _ (Nat.zero_le _)] at hx; cases hx), (fun id id' x x' i i' hx => by rw [H.get_ge _ (Nat.zero_le _)] at hx; cases hx), fun b h => h⟩, fun _ _ => rfl⟩
  · letI := I
    exact enter_rel (cfg := cfg) (f := f) (fn := fn) har hle
  · rintro b ⟨id, x, i, hx, _⟩
    letI := I
    rw [H.get_ge _ (Nat.zero_le _)] at hx; cases hx

end
end
end Go.Sim
