/- A region that draws its order does as the interpreter says, in any order. -/
import Derived.Test.YtlcaljpiphnpiaaGreatSimC
import Derived.OrdersIn
/- Regions that draw their order: steps over any set of boxes; replays. -/
namespace Go.Sim
variable [Val]
noncomputable section
open Go.RowKit

/-- from one state to the next, the boxes that there are by a predicate -/
structure StepP (C : Code → Prop) (lim : Nat) (Γ : Gam) (F : Nat → Prop) (get : Nat → Option Box) (O : Nat → Prop) (w : World)
    (Γ' : Gam) (F' : Nat → Prop) (get' : Nat → Option Box) (O' : Nat → Prop) (w' : World) : Prop where
  rel : Rel C Γ' F' w' get'
  ext : ∀ id i, Γ id = some i → Γ' id = some i
  top : ∀ id, ¬ O' id → Γ' id = none
  old : ∀ id, O id → Γ' id = Γ id
  fro : ∀ b, F b → F' b
  frn : ∀ b, F' b → F b ∨ w.heap.size ≤ b ∨ wrB Γ get lim b
  frame : ∀ b, b < w.heap.size → ¬ wrB Γ get lim b → w'.heap[b]? = w.heap[b]?
  own : ∀ id x i, ¬ O id → get' id = some x → Γ' id = some i → w.heap.size ≤ i.b ∨ wrB Γ get lim i.b
  dead : ∀ id, O id → get id = none → get' id = none
  frz : ∀ id x, O id → get id = some x → fzB x = true → get' id = some x ∨ get' id = none
  low : ∀ id, O id → id < lim → get' id = get id
  le : ∀ id, O id → O' id
  size : w.heap.size ≤ w'.heap.size
  os : w'.os = w.os
  tape : w'.tape = w.tape
  output : w'.output = w.output

section
variable {C : Code → Prop} {lim : Nat} {Γ Γ' Γ'' : Gam} {F F' F'' : Nat → Prop} {get get' get'' : Nat → Option Box} {O O' O'' : Nat → Prop} {w w' w'' : World}

theorem StepP.keep (h : StepP C lim Γ F get O w Γ' F' get' O' w') (hr : Rel C Γ F w get) (b : Nat) (hb : F b) : w'.heap[b]? = w.heap[b]? :=
  h.frame b (hr.fro b hb) (hr.not_wr hb)

theorem StepP.wr_back (h : StepP C lim Γ F get O w Γ' F' get' O' w') (hr : Rel C Γ F w get) {b : Nat} (hb : wrB Γ' get' lim b) :
    w.heap.size ≤ b ∨ wrB Γ get lim b := by
  obtain ⟨id, x, i, hx, hl, hi, rfl, hz⟩ := hb
  by_cases hid : O id
  · right
    cases h0 : get id with
    | none => have := h.dead id hid h0; rw [hx] at this; cases this
    | some x0 =>
      obtain ⟨i0, hi0, _, _, _⟩ := hr.box id x0 h0
      have := h.ext id i0 hi0
      rw [hi] at this; cases this
      refine ⟨id, x0, i, h0, hl, hi0, rfl, ?_⟩
      cases hz0 : fzB x0 with
      | false => rfl
      | true =>
        rcases h.frz id x0 hid h0 hz0 with h1 | h1
        · rw [hx] at h1; cases h1; rw [hz] at hz0; cases hz0
        · rw [hx] at h1; cases h1
  · exact h.own id x i hid hx hi

theorem StepP.trans (h : StepP C lim Γ F get O w Γ' F' get' O' w') (k : StepP C lim Γ' F' get' O' w' Γ'' F'' get'' O'' w'') (hr : Rel C Γ F w get) :
    StepP C lim Γ F get O w Γ'' F'' get'' O'' w'' where
  rel := k.rel
  ext := fun id i hi => k.ext id i (h.ext id i hi)
  top := k.top
  old := fun id hid => (k.old id (h.le id hid)).trans (h.old id hid)
  fro := fun b hb => k.fro b (h.fro b hb)
  frn := fun b hb => by
    rcases k.frn b hb with h1 | h1 | h1
    · exact h.frn b h1
    · exact .inr (.inl (Nat.le_trans h.size h1))
    · exact .inr (h.wr_back hr h1)
  frame := fun b hb hn => by
    refine (k.frame b (Nat.lt_of_lt_of_le hb h.size) fun hw => ?_).trans (h.frame b hb hn)
    rcases h.wr_back hr hw with h1 | h1
    · omega
    · exact hn h1
  own := fun id x i hid hx hi => by
    by_cases h1 : O' id
    · cases h0 : get' id with
      | none => have := k.dead id h1 h0; rw [hx] at this; cases this
      | some x0 =>
        obtain ⟨i0, hi0, _⟩ := h.rel.box id x0 h0
        have := k.ext id i0 hi0
        rw [hi] at this; cases this
        exact h.own id x0 i hid h0 hi0
    · rcases k.own id x i h1 hx hi with h2 | h2
      · exact .inl (Nat.le_trans h.size h2)
      · exact h.wr_back hr h2
  dead := fun id hid h0 => k.dead id (h.le id hid) (h.dead id hid h0)
  frz := fun id x hid hx hz => by
    rcases h.frz id x hid hx hz with h1 | h1
    · exact k.frz id x (h.le id hid) h1 hz
    · exact .inr (k.dead id (h.le id hid) h1)
  low := fun id hid hl => (k.low id (h.le id hid) hl).trans (h.low id hid hl)
  le := fun id hid => k.le id (h.le id hid)
  size := Nat.le_trans h.size k.size
  os := k.os.trans h.os
  tape := k.tape.trans h.tape
  output := k.output.trans h.output

theorem StepP.step {nx nx' : Nat} (h : StepP C lim Γ F get (· < nx) w Γ' F' get' (· < nx') w') (hle : nx ≤ nx') : Step C lim Γ F get nx w Γ' F' get' nx' w' where
  rel := h.rel
  ext := h.ext
  top := fun id hid => h.top id (by omega)
  old := h.old
  fro := h.fro
  frn := h.frn
  frame := h.frame
  own := fun id x i hid => h.own id x i (by omega)
  dead := h.dead
  frz := h.frz
  low := h.low
  le := hle
  size := h.size
  os := h.os
  tape := h.tape
  output := h.output

theorem StepP.refl (hr : Rel C Γ F w get) (ht : ∀ id, ¬ O id → Γ id = none) : StepP C lim Γ F get O w Γ F get O w where
  rel := hr
  ext := fun _ _ h => h
  top := ht
  old := fun _ _ => rfl
  fro := fun _ h => h
  frn := fun _ h => .inl h
  frame := fun _ _ _ => rfl
  own := fun id x i hid _ hi => by rw [ht id hid] at hi; cases hi
  dead := fun _ _ h => h
  frz := fun _ _ _ h _ => .inl h
  low := fun _ _ _ => rfl
  le := fun _ h => h
  size := Nat.le_refl _
  os := rfl
  tape := rfl
  output := rfl
end

/-! ### replays -/

section
variable {κ β : Type} (t : Nat → κ → Bool) (v : Nat → κ → β) (x0 : κ → β)

/-- what is left of the writes of those in S, in the text's order -/
def rep (S : Nat → Bool) : Nat → κ → β
  | 0 => x0
  | i + 1 => fun k => cnd (S i && t i k) (v i k) (rep S i k)

omit [Val] in
theorem rep_same {S T : Nat → Bool} {k : κ} : ∀ n, (∀ j, j < n → t j k = true → S j = T j) → rep t v x0 S n k = rep t v x0 T n k
  | 0, _ => rfl
  | n + 1, h => by
    have ih := rep_same n fun j hj => h j (by omega)
    show cnd (S n && t n k) _ (rep t v x0 S n k) = cnd (T n && t n k) _ (rep t v x0 T n k)
    rw [ih]
    cases hb : t n k with
    | false => simp
    | true => rw [h n (by omega) hb]

omit [Val] in
theorem rep_stop {S : Nat → Bool} {k : κ} {m : Nat} : ∀ n, m ≤ n → (∀ j, m ≤ j → j < n → t j k = true → S j = false) → rep t v x0 S n k = rep t v x0 S m k
  | 0, hm, _ => by have : m = 0 := by omega
                   subst this; rfl
  | n + 1, hm, h => by
    by_cases e : m = n + 1
    · subst e; rfl
    · have ih := rep_stop n (by omega) fun j h1 h2 => h j h1 (by omega)
      show cnd (S n && t n k) _ (rep t v x0 S n k) = _
      rw [ih]
      cases hb : t n k with
      | false => simp
      | true => rw [h n (by omega) (by omega) hb]; rfl

def allS : Nat → Bool := fun _ => true

/-- one more -/
def addS (S : Nat → Bool) (i : Nat) : Nat → Bool := fun j => cnd (Nat.beq j i) true (S j)

omit [Val] in
theorem addS_same (S : Nat → Bool) (i : Nat) : addS S i i = true := by unfold addS; rw [beq_self]; rfl
omit [Val] in
theorem addS_ne (S : Nat → Bool) {i j : Nat} (h : j ≠ i) : addS S i j = S j := by unfold addS; rw [beq_ne h]; rfl

omit [Val] in
theorem rep_add {S : Nat → Bool} {k : κ} {i n : Nat} (hi : i < n) (hS : S i = false) (h : ∀ j, i < j → j < n → S j = true → t i k = true → t j k = false) :
    rep t v x0 (addS S i) n k = cnd (t i k) (v i k) (rep t v x0 S n k) := by
  cases hb : t i k with
  | false =>
    refine rep_same t v x0 n fun j hj hjt => ?_
    refine addS_ne S fun e => ?_
    subst e; rw [hb] at hjt; cases hjt
  | true =>
    have h1 : rep t v x0 (addS S i) n k = rep t v x0 (addS S i) (i + 1) k := rep_stop t v x0 n hi fun j h1 h2 h3 => by
      rw [addS_ne S (by omega)]
      cases hs : S j with
      | false => rfl
      | true => rw [h j (by omega) h2 hs hb] at h3; cases h3
    rw [h1]
    show cnd (addS S i i && t i k) _ _ = _
    rw [addS_same, hb]; rfl

omit [Val] in
/-- where those in S and those of the text agree on what touches a place -/
theorem rep_text {S : Nat → Bool} {k : κ} {i n : Nat} (hi : i ≤ n) (h1 : ∀ j, j < i → t j k = true → S j = true) (h2 : ∀ j, i ≤ j → j < n → t j k = true → S j = false) :
    rep t v x0 S n k = rep t v x0 allS i k := by
  rw [rep_stop t v x0 n hi h2]
  exact rep_same t v x0 i fun j hj hjt => h1 j hj hjt

end

def cut (Γ : Gam) (n : Nat) : Gam := fun id => if id < n then Γ id else none

omit [Val] in
theorem cut_lt {Γ : Gam} {n id : Nat} (h : id < n) : cut Γ n id = Γ id := by simp [cut, h]
omit [Val] in
theorem cut_ge {Γ : Gam} {n id : Nat} (h : n ≤ id) : cut Γ n id = none := by simp [cut]; omega
omit [Val] in
theorem cut_some {Γ : Gam} {n id : Nat} {i : BI} (h : cut Γ n id = some i) : id < n ∧ Γ id = some i := by
  unfold cut at h
  split at h
  · exact ⟨by assumption, h⟩
  · cases h
omit [Val] in
theorem cut_mono {Γ : Gam} {n m : Nat} (h : n ≤ m) : ∀ id i, cut Γ n id = some i → cut Γ m id = some i := fun id i hi => by
  obtain ⟨h1, h2⟩ := cut_some hi
  rw [cut_lt (by omega)]; exact h2
omit [Val] in
theorem cut_ext {Γ Γ' : Gam} {n : Nat} (h : ∀ id i, Γ id = some i → Γ' id = some i) : ∀ id i, cut Γ n id = some i → cut Γ' n id = some i := fun id i hi => by
  obtain ⟨h1, h2⟩ := cut_some hi
  rw [cut_lt h1]; exact h _ _ h2

end
end Go.Sim
/- A region that draws its order: what holds of memory when some of its operations have run. -/
namespace Go.Sim
variable [Val]
noncomputable section
open Go.RowKit

/-- an operation: what it may see, whether it may write that, the boxes it makes, the boxes behind it, what it reads and sets -/
structure AOp where
  R : Nat → Bool
  wf : Bool
  lo : Nat
  hi : Nat
  out : Nat → Option Box
  rd : List Nat
  dst : Option Nat
  d : D

def AOp.W (o : AOp) (id : Nat) : Bool := o.wf && (o.R id && decide (id < o.lo))
def AOp.made (o : AOp) (id : Nat) : Bool := decide (o.lo ≤ id) && decide (id < o.hi)
def AOp.touch (o : AOp) (id : Nat) : Bool := o.W id || o.made id
def AOp.sets (o : AOp) (t : Nat) : Bool := match o.dst with | some u => decide (u = t) | none => false

omit [Val] in
theorem AOp.W_iff {o : AOp} {id : Nat} : o.W id = true ↔ o.wf = true ∧ o.R id = true ∧ id < o.lo := by simp [AOp.W]
omit [Val] in
theorem AOp.made_iff {o : AOp} {id : Nat} : o.made id = true ↔ o.lo ≤ id ∧ id < o.hi := by simp [AOp.made]
omit [Val] in
theorem AOp.touch_iff {o : AOp} {id : Nat} : o.touch id = true ↔ (o.wf = true ∧ o.R id = true ∧ id < o.lo) ∨ (o.lo ≤ id ∧ id < o.hi) := by
  unfold AOp.touch; rw [Bool.or_eq_true, AOp.W_iff, AOp.made_iff]
omit [Val] in
theorem AOp.sets_iff {o : AOp} {t : Nat} : o.sets t = true ↔ o.dst = some t := by
  unfold AOp.sets; cases o.dst <;> simp

section
variable (A : Nat → AOp) (g0 : Nat → Option Box) (e0 : Nat → D) (nx0 : Nat)

def hv (S : Nat → Bool) (n : Nat) : Nat → Option Box × Nat := rep (fun i => (A i).touch) (fun i id => ((A i).out id, (A i).hi)) (fun id => (g0 id, nx0)) S n
def evn (S : Nat → Bool) (n : Nat) : Nat → D × Nat := rep (fun i => (A i).sets) (fun i _ => ((A i).d, (A i).hi)) (fun t => (e0 t, nx0)) S n

/-- what an operation sees -/
def hin (i : Nat) : Nat → Option Box := fun id => cnd ((A i).R id && decide (id < (A i).lo)) (hv A g0 nx0 allS i id).1 none

def OS (n : Nat) (S : Nat → Bool) (id : Nat) : Prop := id < nx0 ∨ ∃ j, j < n ∧ S j = true ∧ (A j).made id = true

/-- the operations keep out of one another's way -/
structure Plan (n : Nat) (bef : Nat → Nat → Bool) : Prop where
  le : ∀ i, i < n → (A i).lo ≤ (A i).hi
  mono : ∀ i j, i < j → j < n → (A i).hi ≤ (A j).lo
  base : ∀ i, i < n → nx0 ≤ (A i).lo
  c1 : ∀ i j, j < i → i < n → bef i j = false → ∀ id, id < (A i).lo → (A i).R id = true → (A j).touch id = false
  c2 : ∀ i j, j < i → i < n → bef i j = false → ∀ id, (A i).W id = true → id < (A j).lo → (A j).R id = false
  t1 : ∀ i j, j < i → i < n → bef i j = false → ∀ t, (A j).sets t = true → t ∉ (A i).rd
  t2 : ∀ i j, j < i → i < n → bef i j = false → ∀ t, (A i).sets t = true → t ∉ (A j).rd
  t3 : ∀ i j, j < i → i < n → bef i j = false → ∀ t, (A i).sets t = true → (A j).sets t = false

/-- S may have run, and i may run next -/
structure Nxt (n : Nat) (bef : Nat → Nat → Bool) (S : Nat → Bool) (i : Nat) : Prop where
  lt : i < n
  not : S i = false
  pre : ∀ j, bef i j = true → S j = true
  down : ∀ k, k < n → S k = true → ∀ j, bef k j = true → S j = true
end

section
variable {A : Nat → AOp} {g0 : Nat → Option Box} {e0 : Nat → D} {nx0 n i : Nat} {bef : Nat → Nat → Bool} {S : Nat → Bool}

omit [Val] in
theorem rep_ind {κ β : Type} {t : Nat → κ → Bool} {v : Nat → κ → β} {x0 : κ → β} {p : β → Prop} {k : κ} : ∀ n, p (x0 k) → (∀ j, j < n → t j k = true → S j = true → p (v j k)) → p (rep t v x0 S n k)
  | 0, h, _ => h
  | n + 1, h, hv => by
    show p (cnd (S n && t n k) (v n k) (rep t v x0 S n k))
    cases hb : S n && t n k with
    | false => exact rep_ind n h fun j hj => hv j (by omega)
    | true => rw [Bool.and_eq_true] at hb; exact hv n (by omega) hb.2 hb.1

omit [Val] in
theorem Plan.top_le (pl : Plan A nx0 n bef) (hi : i < n) (id : Nat) : (hv A g0 nx0 allS i id).2 ≤ (A i).lo :=
  rep_ind (p := fun x : Option Box × Nat => x.2 ≤ (A i).lo) i (pl.base i hi) fun j hj _ _ => pl.mono j i hj hi

omit [Val] in
theorem Plan.etop_le (pl : Plan A nx0 n bef) (hi : i < n) (t : Nat) : (evn A e0 nx0 allS i t).2 ≤ (A i).lo :=
  rep_ind (p := fun x : D × Nat => x.2 ≤ (A i).lo) i (pl.base i hi) fun j hj _ _ => pl.mono j i hj hi

omit [Val] in
theorem Nxt.free (hN : Nxt n bef S i) {j : Nat} (hj : j < n) (hS : S j = true) : bef j i = false := by
  cases h : bef j i with
  | false => rfl
  | true => have := hN.down j hj hS i h; rw [hN.not] at this; cases this

omit [Val] in
theorem agree_h (pl : Plan A nx0 n bef) (hN : Nxt n bef S i) {id : Nat} (hlt : id < (A i).lo) (hR : (A i).R id = true) : hv A g0 nx0 S n id = hv A g0 nx0 allS i id := by
  refine rep_text _ _ _ (Nat.le_of_lt hN.lt) (fun j hj ht => ?_) (fun j hj hjn ht => ?_)
  · cases hb : bef i j with
    | true => exact hN.pre j hb
    | false => have := pl.c1 i j hj hN.lt hb id hlt hR; rw [this] at ht; cases ht
  · cases hs : S j with
    | false => rfl
    | true =>
      by_cases e : j = i
      · subst e; rw [hN.not] at hs; cases hs
      · have hij : i < j := by omega
        have hb := hN.free hjn hs
        rcases AOp.touch_iff.1 ht with h1 | h1
        · have := pl.c2 j i hij hjn hb id (AOp.W_iff.2 h1) hlt; rw [hR] at this; cases this
        · have h2 := pl.le i hN.lt
          have h3 := pl.mono i j hij hjn
          omega

omit [Val] in
theorem agree_e (pl : Plan A nx0 n bef) (hN : Nxt n bef S i) {t : Nat} (hR : t ∈ (A i).rd) : evn A e0 nx0 S n t = evn A e0 nx0 allS i t := by
  refine rep_text _ _ _ (Nat.le_of_lt hN.lt) (fun j hj ht => ?_) (fun j hj hjn ht => ?_)
  · cases hb : bef i j with
    | true => exact hN.pre j hb
    | false => exact (pl.t1 i j hj hN.lt hb t ht hR).elim
  · cases hs : S j with
    | false => rfl
    | true =>
      by_cases e : j = i
      · subst e; rw [hN.not] at hs; cases hs
      · exact (pl.t2 j i (by omega) hjn (hN.free hjn hs) t ht hR).elim

omit [Val] in
theorem touch_apart (pl : Plan A nx0 n bef) (hN : Nxt n bef S i) {id j : Nat} (hij : i < j) (hjn : j < n) (hs : S j = true) (ht : (A i).touch id = true) : (A j).touch id = false := by
  cases hb : (A j).touch id with
  | false => rfl
  | true =>
    exfalso
    have hf := hN.free hjn hs
    have h2 := pl.le i hN.lt
    have h3 := pl.mono i j hij hjn
    rcases AOp.touch_iff.1 hb with h1 | h1
    · have := pl.c1 j i hij hjn hf id h1.2.2 h1.2.1
      rw [ht] at this; cases this
    · rcases AOp.touch_iff.1 ht with h4 | h4 <;> omega

omit [Val] in
theorem add_h (pl : Plan A nx0 n bef) (hN : Nxt n bef S i) (id : Nat) : hv A g0 nx0 (addS S i) n id = cnd ((A i).touch id) ((A i).out id, (A i).hi) (hv A g0 nx0 S n id) :=
  rep_add _ _ _ hN.lt hN.not fun _j h1 h2 h3 h4 => touch_apart pl hN h1 h2 h3 h4

omit [Val] in
theorem add_e (pl : Plan A nx0 n bef) (hN : Nxt n bef S i) (t : Nat) : evn A e0 nx0 (addS S i) n t = cnd ((A i).sets t) ((A i).d, (A i).hi) (evn A e0 nx0 S n t) :=
  rep_add _ _ _ hN.lt hN.not fun j h1 h2 h3 h4 => by
    cases hb : (A j).sets t with
    | false => rfl
    | true => have := pl.t3 j i h1 h2 (hN.free h2 h3) t hb; rw [h4] at this; cases this

omit [Val] in
theorem OS_add (hN : Nxt n bef S i) (id : Nat) : OS A nx0 n (addS S i) id ↔ OS A nx0 n S id ∨ (A i).made id = true := by
  constructor
  · rintro (h | ⟨j, h1, h2, h3⟩)
    · exact .inl (.inl h)
    · by_cases e : j = i
      · subst e; exact .inr h3
      · rw [addS_ne S e] at h2; exact .inl (.inr ⟨j, h1, h2, h3⟩)
  · rintro ((h | ⟨j, h1, h2, h3⟩) | h)
    · exact .inl h
    · refine .inr ⟨j, h1, ?_, h3⟩
      by_cases e : j = i
      · subst e; exact addS_same S _
      · rw [addS_ne S e]; exact h2
    · exact .inr ⟨i, hN.lt, addS_same S i, h⟩

omit [Val] in
theorem OS_new (pl : Plan A nx0 n bef) (hN : Nxt n bef S i) {id : Nat} (hm : (A i).made id = true) : ¬ OS A nx0 n S id := by
  have hm := AOp.made_iff.1 hm
  rintro (h | ⟨j, h1, h2, h3⟩)
  · have := pl.base i hN.lt; omega
  · have h3 := AOp.made_iff.1 h3
    have : j ≠ i := by rintro rfl; rw [hN.not] at h2; cases h2
    rcases Nat.lt_or_ge j i with h | h
    · have := pl.mono j i h hN.lt; omega
    · have := pl.mono i j (by omega) h1; omega

end

section
variable {C : Code → Prop} {A : Nat → AOp} {g0 : Nat → Option Box} {e0 : Nat → D} {nx0 n i lim : Nat} {bef : Nat → Nat → Bool} {S : Nat → Bool} {Γ0 : Gam} {F0 : Nat → Prop} {w0 : World}

/-- memory, when those in S have run -/
structure HInv (C : Code → Prop) (A : Nat → AOp) (g0 : Nat → Option Box) (nx0 n lim : Nat) (Γ0 : Gam) (F0 : Nat → Prop) (w0 : World) (S : Nat → Bool) (Γ : Gam) (F : Nat → Prop) (w : World) : Prop where
  st : StepP C lim Γ0 F0 g0 (· < nx0) w0 Γ F (fun id => (hv A g0 nx0 S n id).1) (OS A nx0 n S) w
  box : ∀ id x i, (hv A g0 nx0 S n id).1 = some x → Γ id = some i → BoxRel C (cut Γ (hv A g0 nx0 S n id).2) F w i x

/-- temporaries, when those in S have run -/
def EInv (A : Nat → AOp) (e0 : Nat → D) (nx0 n : Nat) (S : Nat → Bool) (Γ : Gam) (F : Nat → Prop) (w : World) (tmps : Array Value) : Prop :=
  ∀ t, VRel (cut Γ (evn A e0 nx0 S n t).2) F w (evn A e0 nx0 S n t).1 (tmps.getD t undef)

def AOp.limOf (o : AOp) (lim : Nat) : Nat := cnd o.wf lim o.lo

/-- what there is of a box behind an operation -/
def joinG (o : AOp) (Γ Γ' : Gam) : Gam := fun id => cnd (o.made id) (Γ' id) (Γ id)

omit [Val] in
theorem hin_some {id : Nat} {x : Box} (h : hin A g0 nx0 i id = some x) : (A i).R id = true ∧ id < (A i).lo ∧ (hv A g0 nx0 allS i id).1 = some x := by
  unfold hin at h
  cases hb : (A i).R id && decide (id < (A i).lo) with
  | false => rw [hb] at h; cases h
  | true =>
    rw [hb] at h
    simp at hb
    exact ⟨hb.1, hb.2, h⟩

variable {Γ : Gam} {F : Nat → Prop} {w : World}

omit [Val] in
theorem hin_get (pl : Plan A nx0 n bef) (hN : Nxt n bef S i) {id : Nat} {x : Box} (h : hin A g0 nx0 i id = some x) : (A i).R id = true ∧ id < (A i).lo ∧ (hv A g0 nx0 S n id).1 = some x := by
  obtain ⟨h1, h2, h3⟩ := hin_some h
  exact ⟨h1, h2, by rw [agree_h pl hN h2 h1]; exact h3⟩

theorem hin_rel (pl : Plan A nx0 n bef) (hN : Nxt n bef S i) (hI : HInv C A g0 nx0 n lim Γ0 F0 w0 S Γ F w) : Rel C (cut Γ (A i).lo) F w (hin A g0 nx0 i) where
  box := fun id x hx => by
    obtain ⟨h1, h2, h3⟩ := hin_get pl hN hx
    obtain ⟨j, hj, hlt, _, hf⟩ := hI.st.rel.box id x h3
    refine ⟨j, by rw [cut_lt h2]; exact hj, hlt, ?_, hf⟩
    refine (hI.box id x j h3 hj).mono (cut_mono ?_) (fun _ h => h) (fun _ _ => rfl) rfl
    rw [agree_h pl hN h2 h1]; exact pl.top_le hN.lt id
  inj := fun id id' x x' j j' hx hx' hj hj' h => by
    obtain ⟨h1, h2, h3⟩ := hin_get pl hN hx
    obtain ⟨k1, k2, k3⟩ := hin_get pl hN hx'
    exact hI.st.rel.inj id id' x x' j j' h3 k3 (cut_some hj).2 (cut_some hj').2 h
  fro := hI.st.rel.fro

theorem e_rel (pl : Plan A nx0 n bef) (hN : Nxt n bef S i) {tmps : Array Value} (hE : EInv A e0 nx0 n S Γ F w tmps) {t : Nat} (ht : t ∈ (A i).rd) : VRel (cut Γ (A i).lo) F w (evn A e0 nx0 allS i t).1 (tmps.getD t undef) := by
  have := hE t
  rw [agree_e pl hN ht] at this
  exact this.mono (cut_mono (pl.etop_le hN.lt t)) (fun _ h => h) (fun _ _ => rfl)

end

end
end Go.Sim
/- A region that draws its order: one more operation runs. -/
namespace Go.Sim
variable [Val]
noncomputable section
open Go.RowKit

section
variable {C : Code → Prop} {A : Nat → AOp} {g0 : Nat → Option Box} {e0 : Nat → D} {nx0 n i lim : Nat} {bef : Nat → Nat → Bool} {S : Nat → Bool} {Γ0 Γ Γ' : Gam} {F0 F F' : Nat → Prop} {w0 w w' : World}

omit [Val] in
theorem wr_up (pl : Plan A nx0 n bef) (hN : Nxt n bef S i) {b : Nat} (h : wrB (cut Γ (A i).lo) (hin A g0 nx0 i) ((A i).limOf lim) b) :
    ∃ id x j, (hv A g0 nx0 S n id).1 = some x ∧ lim ≤ id ∧ Γ id = some j ∧ j.b = b ∧ fzB x = false ∧ (A i).touch id = true := by
  obtain ⟨id, x, j, hx, hl, hj, hb, hz⟩ := h
  obtain ⟨h1, h2, h3⟩ := hin_get pl hN hx
  have hj := (cut_some hj).2
  cases hw : (A i).wf with
  | false =>
    unfold AOp.limOf at hl
    rw [hw] at hl
    have hl : (A i).lo ≤ id := hl
    omega
  | true =>
    unfold AOp.limOf at hl
    rw [hw] at hl
    exact ⟨id, x, j, h3, hl, hj, hb, hz, AOp.touch_iff.2 (.inl ⟨hw, h1, h2⟩)⟩

/-- one more operation has run -/
theorem heap_lift (pl : Plan A nx0 n bef) (hN : Nxt n bef S i) (hr0 : Rel C Γ0 F0 w0 g0) (hI : HInv C A g0 nx0 n lim Γ0 F0 w0 S Γ F w)
    (hs : Step C ((A i).limOf lim) (cut Γ (A i).lo) F (hin A g0 nx0 i) (A i).lo w Γ' F' (A i).out (A i).hi w') :
    HInv C A g0 nx0 n lim Γ0 F0 w0 (addS S i) (joinG (A i) Γ Γ') F' w' ∧ (∀ id j, Γ id = some j → joinG (A i) Γ Γ' id = some j) ∧ (∀ id, cut (joinG (A i) Γ Γ') (A i).hi id = Γ' id) ∧
      (∀ b, F b → F' b) ∧ (∀ b, F b → w'.heap[b]? = w.heap[b]?) := by
  have hrel := hI.st.rel
  have hnone : ∀ id, (A i).made id = true → Γ id = none := fun id h => hI.st.top id (OS_new pl hN h)
  have hext : ∀ id j, Γ id = some j → joinG (A i) Γ Γ' id = some j := fun id j h => by
    unfold joinG
    cases hm : (A i).made id with
    | false => exact h
    | true => rw [hnone id hm] at h; cases h
  have hin_r := hin_rel pl hN hI
  have hlo : ∀ id, id < (A i).lo → joinG (A i) Γ Γ' id = Γ id := fun id h => by
    unfold joinG
    cases hm : (A i).made id with
    | false => rfl
    | true => have := AOp.made_iff.1 hm; omega
  have hcut : ∀ id, cut (joinG (A i) Γ Γ') (A i).hi id = Γ' id := fun id => by
    rcases Nat.lt_or_ge id (A i).lo with h | h
    · have h2 := pl.le i hN.lt
      rw [cut_lt (by omega), hlo id h, hs.old id h, cut_lt h]
    · rcases Nat.lt_or_ge id (A i).hi with h' | h'
      · rw [cut_lt h']
        unfold joinG
        rw [AOp.made_iff.2 ⟨h, h'⟩]; rfl
      · rw [cut_ge h', hs.top id h']
  have hΓ' : ∀ id j, Γ' id = some j → joinG (A i) Γ Γ' id = some j := fun id j h => by
    rw [← hcut id] at h; exact (cut_some h).2
  have hget : ∀ id, (hv A g0 nx0 (addS S i) n id) = cnd ((A i).touch id) ((A i).out id, (A i).hi) (hv A g0 nx0 S n id) := fun id => add_h pl hN id
  have hgt : ∀ id, (A i).touch id = true → (hv A g0 nx0 (addS S i) n id) = ((A i).out id, (A i).hi) := fun id h => by rw [hget, h]; rfl
  have hgf : ∀ id, (A i).touch id = false → (hv A g0 nx0 (addS S i) n id) = hv A g0 nx0 S n id := fun id h => by rw [hget, h]; rfl
  -- what could be written could be written
  have hwr : ∀ b, wrB (cut Γ (A i).lo) (hin A g0 nx0 i) ((A i).limOf lim) b → wrB Γ (fun id => (hv A g0 nx0 S n id).1) lim b := fun b h => by
    obtain ⟨id, x, j, h1, h2, h3, h4, h5, _⟩ := wr_up pl hN h
    exact ⟨id, x, j, h1, h2, h3, h4, h5⟩
  -- a box that is not touched
  have hnw : ∀ id x j, (A i).touch id = false → (hv A g0 nx0 S n id).1 = some x → Γ id = some j → ¬ wrB (cut Γ (A i).lo) (hin A g0 nx0 i) ((A i).limOf lim) j.b := fun id x j ht hx hj h => by
    obtain ⟨id', x', j', h1, _, h3, h4, _, h6⟩ := wr_up pl hN h
    have := hrel.inj id id' x x' j j' hx h1 hj h3 h4.symm
    subst this
    rw [ht] at h6; cases h6
  have hkeep := hs.keep hin_r
  have hblk : ∀ id x j, (A i).touch id = false → (hv A g0 nx0 S n id).1 = some x → Γ id = some j → w'.heap[j.b]? = w.heap[j.b]? := fun id x j ht hx hj => by
    obtain ⟨j', hj', hlt, _, _⟩ := hrel.box id x hx
    rw [hj] at hj'; cases hj'
    exact hs.frame j.b hlt (hnw id x j ht hx hj)
  -- a touched box that was there ahead
  have htl : ∀ id x, (A i).touch id = true → id < (A i).lo → (A i).out id = some x → ∃ x0, (hv A g0 nx0 S n id).1 = some x0 ∧ hin A g0 nx0 i id = some x0 := fun id x ht hlt hx => by
    rcases AOp.touch_iff.1 ht with h | h
    · cases h0 : hin A g0 nx0 i id with
      | none => have := hs.dead id hlt h0; rw [hx] at this; cases this
      | some x0 => exact ⟨x0, (hin_get pl hN h0).2.2, rfl⟩
    · omega
  have hOlt : ∀ id, (A i).touch id = true → OS A nx0 n S id → id < (A i).lo ∧ (A i).R id = true ∧ (A i).wf = true := fun id ht hO => by
    rcases AOp.touch_iff.1 ht with h | h
    · exact ⟨h.2.2, h.2.1, h.1⟩
    · exact (OS_new pl hN (AOp.made_iff.2 h) hO).elim
  have hrel' : Rel C (joinG (A i) Γ Γ') F' w' (fun id => (hv A g0 nx0 (addS S i) n id).1) := by
    refine ⟨fun id x hx => ?_, fun a b y y' j j' hy hy' hj hj' h => ?_, hs.rel.fro⟩
    · have hx : (hv A g0 nx0 (addS S i) n id).1 = some x := hx
      cases ht : (A i).touch id with
      | true =>
        rw [hgt id ht] at hx
        obtain ⟨j, hj, hlt, hb, hf⟩ := hs.rel.box id x hx
        exact ⟨j, hΓ' id j hj, hlt, hb.mono hΓ' (fun _ h => h) (fun _ _ => rfl) rfl, hf⟩
      | false =>
        rw [hgf id ht] at hx
        obtain ⟨j, hj, hlt, hb, hf⟩ := hrel.box id x hx
        refine ⟨j, hext id j hj, Nat.lt_of_lt_of_le hlt hs.size, hb.mono hext hs.fro hkeep (hblk id x j ht hx hj), fun h => hs.fro _ (hf.1 h), fun h => ?_⟩
        rcases hs.frn j.b h with h1 | h1 | h1
        · exact hf.2 h1
        · omega
        · exact (hnw id x j ht hx hj h1).elim
    · have hy : (hv A g0 nx0 (addS S i) n a).1 = some y := hy
      have hy' : (hv A g0 nx0 (addS S i) n b).1 = some y' := hy'
      -- one touched, one not
      have mix : ∀ a b y y' j j', (A i).touch a = true → (A i).touch b = false → (A i).out a = some y → (hv A g0 nx0 S n b).1 = some y' → joinG (A i) Γ Γ' a = some j → joinG (A i) Γ Γ' b = some j' → j.b = j'.b → a = b := by
        intro a b y y' j j' ta tb hy hy' hj hj' h
        obtain ⟨j2, hj2, hlt2, _, _⟩ := hrel.box b y' hy'
        have := hext b j2 hj2
        rw [hj'] at this; cases this
        obtain ⟨j1, hj1, _⟩ := hs.rel.box a y hy
        have h1 := hΓ' a j1 hj1
        rw [hj] at h1; cases h1
        rcases Nat.lt_or_ge a (A i).lo with hlt | hge
        · obtain ⟨x0, hx0, _⟩ := htl a y ta hlt hy
          rw [hlo a hlt] at hj
          exact hrel.inj a b x0 y' j j' hx0 hy' hj hj2 h
        · rcases hs.own a y j hge hy hj1 with h2 | h2
          · omega
          · rw [h] at h2; exact (hnw b y' j' tb hy' hj2 h2).elim
      cases ta : (A i).touch a with
      | true =>
        rw [hgt a ta] at hy
        cases tb : (A i).touch b with
        | true =>
          rw [hgt b tb] at hy'
          obtain ⟨j1, hj1, _⟩ := hs.rel.box a y hy
          obtain ⟨j2, hj2, _⟩ := hs.rel.box b y' hy'
          have h1 := hΓ' a j1 hj1
          have h2 := hΓ' b j2 hj2
          rw [hj] at h1; cases h1
          rw [hj'] at h2; cases h2
          exact hs.rel.inj a b y y' j j' hy hy' hj1 hj2 h
        | false =>
          rw [hgf b tb] at hy'
          exact mix a b y y' j j' ta tb hy hy' hj hj' h
      | false =>
        rw [hgf a ta] at hy
        cases tb : (A i).touch b with
        | true =>
          rw [hgt b tb] at hy'
          exact (mix b a y' y j' j tb ta hy' hy hj' hj h.symm).symm
        | false =>
          rw [hgf b tb] at hy'
          obtain ⟨j1, hj1, _⟩ := hrel.box a y hy
          obtain ⟨j2, hj2, _⟩ := hrel.box b y' hy'
          have h1 := hext a j1 hj1
          have h2 := hext b j2 hj2
          rw [hj] at h1; cases h1
          rw [hj'] at h2; cases h2
          exact hrel.inj a b y y' j j' hy hy' hj1 hj2 h
  have hst : StepP C lim Γ F (fun id => (hv A g0 nx0 S n id).1) (OS A nx0 n S) w (joinG (A i) Γ Γ') F' (fun id => (hv A g0 nx0 (addS S i) n id).1) (OS A nx0 n (addS S i)) w' := by
    refine ⟨hrel', hext, fun id hO => ?_, fun id hO => ?_, hs.fro, fun b hb => ?_, fun b hb hn => hs.frame b hb fun h => hn (hwr b h), fun id x j hO hx hj => ?_, fun id hO h0 => ?_, fun id x hO hx hz => ?_,
      fun id hO hl => ?_, fun id hO => (OS_add hN id).2 (.inl hO), hs.size, hs.os, hs.tape, hs.output⟩
    · have h1 : ¬ OS A nx0 n S id := fun h => hO ((OS_add hN id).2 (.inl h))
      have h2 : (A i).made id = false := by
        cases hm : (A i).made id with
        | false => rfl
        | true => exact (hO ((OS_add hN id).2 (.inr hm))).elim
      unfold joinG; rw [h2]; exact hI.st.top id h1
    · unfold joinG
      cases hm : (A i).made id with
      | false => rfl
      | true => exact (OS_new pl hN hm hO).elim
    · rcases hs.frn b hb with h1 | h1 | h1
      · exact .inl h1
      · exact .inr (.inl h1)
      · exact .inr (.inr (hwr b h1))
    · have hx : (hv A g0 nx0 (addS S i) n id).1 = some x := hx
      cases ht : (A i).touch id with
      | false =>
        rw [hgf id ht] at hx
        obtain ⟨j1, hj1, _⟩ := hrel.box id x hx
        rw [hI.st.top id hO] at hj1; cases hj1
      | true =>
        rw [hgt id ht] at hx
        rcases Nat.lt_or_ge id (A i).lo with hlt | hge
        · obtain ⟨x0, hx0, _⟩ := htl id x ht hlt hx
          obtain ⟨j1, hj1, _⟩ := hrel.box id x0 hx0
          rw [hI.st.top id hO] at hj1; cases hj1
        · obtain ⟨j1, hj1, _⟩ := hs.rel.box id x hx
          have h1 := hΓ' id j1 hj1
          rw [hj] at h1; cases h1
          rcases hs.own id x j hge hx hj1 with h2 | h2
          · exact .inl h2
          · exact .inr (hwr _ h2)
    · show (hv A g0 nx0 (addS S i) n id).1 = none
      cases ht : (A i).touch id with
      | false => rw [hgf id ht]; exact h0
      | true =>
        obtain ⟨h1, h2, _⟩ := hOlt id ht hO
        rw [hgt id ht]
        refine hs.dead id h1 ?_
        cases hh : hin A g0 nx0 i id with
        | none => rfl
        | some y => have h3 := (hin_get (S := S) pl hN hh).2.2; have h0 : (hv A g0 nx0 S n id).1 = none := h0; rw [h0] at h3; cases h3
    · show (hv A g0 nx0 (addS S i) n id).1 = some x ∨ (hv A g0 nx0 (addS S i) n id).1 = none
      cases ht : (A i).touch id with
      | false => rw [hgf id ht]; exact .inl hx
      | true =>
        obtain ⟨h1, h2, _⟩ := hOlt id ht hO
        rw [hgt id ht]
        refine hs.frz id x h1 ?_ hz
        unfold hin
        rw [h2, decide_eq_true h1, ← agree_h pl hN h1 h2]
        exact hx
    · show (hv A g0 nx0 (addS S i) n id).1 = (hv A g0 nx0 S n id).1
      cases ht : (A i).touch id with
      | false => rw [hgf id ht]
      | true =>
        obtain ⟨h1, h2, h3⟩ := hOlt id ht hO
        rw [hgt id ht]
        have : (A i).out id = hin A g0 nx0 i id := hs.low id h1 (by unfold AOp.limOf; rw [h3]; exact hl)
        show (A i).out id = _
        rw [this]
        unfold hin
        rw [h2, decide_eq_true h1, ← agree_h pl hN h1 h2]
        rfl
  refine ⟨⟨hI.st.trans hst hr0, fun id x j hx hj => ?_⟩, hext, hcut, hs.fro, hkeep⟩
  cases ht : (A i).touch id with
  | true =>
    rw [hgt id ht] at hx
    rw [hgt id ht]
    obtain ⟨j1, hj1, _, hb, _⟩ := hs.rel.box id x hx
    have h1 := hΓ' id j1 hj1
    rw [hj] at h1; cases h1
    exact hb.mono (fun id i hi => by rw [hcut]; exact hi) (fun _ h => h) (fun _ _ => rfl) rfl
  | false =>
    rw [hgf id ht] at hx
    rw [hgf id ht]
    obtain ⟨j1, hj1, _⟩ := hrel.box id x hx
    have h1 := hext id j1 hj1
    rw [hj] at h1; cases h1
    exact (hI.box id x j hx hj1).mono (cut_ext hext) hs.fro hkeep (hblk id x j ht hx hj1)

theorem env_lift (pl : Plan A nx0 n bef) (hN : Nxt n bef S i) {tmps : Array Value} (hE : EInv A e0 nx0 n S Γ F w tmps) (hext : ∀ id j, Γ id = some j → joinG (A i) Γ Γ' id = some j)
    (hcut : ∀ id, cut (joinG (A i) Γ Γ') (A i).hi id = Γ' id) (hF : ∀ b, F b → F' b) (hk : ∀ b, F b → w'.heap[b]? = w.heap[b]?) {v : Value} (hv : VRel Γ' F' w' (A i).d v)
    (hd : ∀ t, (A i).dst = some t → t < tmps.size) (a : Act) (ha : a.tmps = tmps) : EInv A e0 nx0 n (addS S i) (joinG (A i) Γ Γ') F' w' (a.put (A i).dst v).tmps := fun t => by
  rw [add_e pl hN t]
  cases hs : (A i).sets t with
  | true =>
    have hdst := AOp.sets_iff.1 hs
    have hlt := hd t hdst
    rw [hdst]
    show VRel (cut (joinG (A i) Γ Γ') (A i).hi) F' w' (A i).d ((a.tmps.setIfInBounds t v).getD t undef)
    rw [ha]
    have e : (tmps.setIfInBounds t v).getD t undef = v := by simp [Array.getD, hlt]
    rw [e]
    exact hv.mono (fun id i hi => by rw [hcut]; exact hi) (fun _ h => h) (fun _ _ => rfl)
  | false =>
    have hne : ∀ u, (A i).dst = some u → u ≠ t := fun u hu e => by
      subst e
      rw [AOp.sets_iff.2 hu] at hs; cases hs
    have e : (a.put (A i).dst v).tmps.getD t undef = tmps.getD t undef := by
      cases hdst : (A i).dst with
      | none => rw [← ha]; rfl
      | some u =>
        show (a.tmps.setIfInBounds u v).getD t undef = _
        rw [ha]
        simp only [Array.getD_eq_getD_getElem?]
        rw [Array.getElem?_setIfInBounds_ne (hne u hdst)]
    rw [e]
    exact (hE t).mono (cut_ext hext) hF hk

end
end
end Go.Sim
/- A region that draws its order: any order will do. -/
namespace Go.Sim
variable [Val]
noncomputable section
open Go.RowKit

section
variable {F : Fence} {nn : Nat} {P : Program} {ops : Array Oper} {Q : Exit → Act → World → Prop} {bef : Nat → Nat → Bool} {Inv : (Nat → Bool) → Act → World → Prop}

def listS (l : Array Bool) : Nat → Bool := fun j => l.getD j false

omit [Val] in
theorem listS_set {l : Array Bool} {i : Nat} (hi : i < l.size) : listS (l.setIfInBounds i true) = addS (listS l) i := by
  funext j
  unfold listS
  by_cases e : j = i
  · subst e
    rw [addS_same]
    simp [Array.getD, hi]
  · rw [addS_ne _ e]
    simp only [Array.getD_eq_getD_getElem?]
    rw [Array.getElem?_setIfInBounds_ne (fun h => e h.symm)]

/-- how many are left -/
def left (l : Array Bool) : Nat := (List.range l.size).countP fun i => !(l.getD i true)

omit [Val] in
theorem left_set {l : Array Bool} {i : Nat} (hi : i < l.size) (h : l.getD i true = false) : left (l.setIfInBounds i true) + 1 = left l := by
  have hsz : (l.setIfInBounds i true).size = l.size := by simp
  unfold left
  rw [hsz]
  have key : ∀ n, n ≤ l.size → (List.range n).countP (fun j => !((l.setIfInBounds i true).getD j true)) + (if i < n then 1 else 0) = (List.range n).countP (fun j => !(l.getD j true)) := by
    intro n
    induction n with
    | zero => intro _; simp
    | succ n ih =>
      intro hn
      have ih := ih (by omega)
      rw [List.range_succ, List.countP_append, List.countP_append]
      by_cases e : n = i
      · subst e
        have h1 : (l.setIfInBounds n true).getD n true = true := by simp [Array.getD, hi]
        have h0 : ¬ n < n := by omega
        rw [if_neg h0] at ih
        rw [if_pos (show n < n + 1 by omega)]
        simp only [List.countP_singleton, h1, h]
        simp at ih ⊢
        omega
      · have h1 : (l.setIfInBounds i true).getD n true = l.getD n true := by
          simp only [Array.getD_eq_getD_getElem?]
          rw [Array.getElem?_setIfInBounds_ne (fun h => e h.symm)]
        simp only [List.countP_singleton, h1]
        by_cases hin : i < n
        · rw [if_pos hin] at ih; rw [if_pos (show i < n + 1 by omega)]; omega
        · rw [if_neg hin] at ih; rw [if_neg (show ¬ i < n + 1 by omega)]; omega
  have := key l.size (Nat.le_refl _)
  rw [if_pos hi] at this
  exact this

omit [Val] in
theorem left_zero {l : Array Bool} (h : left l = 0) : ∀ i, i < l.size → l.getD i true = true := fun i hi => by
  unfold left at h
  rw [List.countP_eq_zero] at h
  have := h i (List.mem_range.2 hi)
  simpa using this

omit [Val] in
theorem getD_tf {l : Array Bool} {i : Nat} (hi : i < l.size) : l.getD i true = l.getD i false := by
  simp [Array.getD, hi]

omit [Val] in
theorem any_sound (hmask : ∀ i o, ops[i]? = some o → ∀ j, bef i j = true → ∃ e ∈ o.after, Region.binds .any e = true ∧ (e.on = j ∨ bef e.on j = true))
    (hlow : ∀ i o, ops[i]? = some o → ∀ e ∈ o.after, Region.binds .any e = true → e.on < i)
    (hstep : ∀ S i o act w, ops[i]? = some o → Nxt ops.size bef S i → Inv S act w → wpOpIn F nn P ops Q i (fun a w => Inv (addS S i) a w) act w)
    (hend : ∀ S act w, (∀ j, j < ops.size → S j = true) → Inv S act w → Q .normal act w) :
    ∀ fuel (l : Array Bool) act w, l.size = ops.size → left l ≤ fuel → (∀ k, k < ops.size → listS l k = true → ∀ j, bef k j = true → listS l j = true) → Inv (listS l) act w → wpAnyIn F nn P .any ops Q fuel l act w := by
  -- where none is ready, all have run
  have hall : ∀ (l : Array Bool), l.size = ops.size → Region.ready .any ops l = [] → ∀ j, j < ops.size → listS l j = true := by
    intro l hsz hr j
    induction j using Nat.strongRecOn with
    | _ j ih =>
      intro hj
      cases hb : listS l j with
      | true => rfl
      | false =>
        have : j ∈ Region.ready .any ops l := by
          refine mem_ready.2 ⟨?_, ops[j], by simp [hj], fun e he hbd => ?_⟩
          · rw [getD_tf (by omega)]; exact hb
          · have := hlow j ops[j] (by simp [hj]) e he hbd
            exact ih e.on this (by omega)
        rw [hr] at this; cases this
  have rdy : ∀ (l : Array Bool), l.size = ops.size → (∀ k, k < ops.size → listS l k = true → ∀ j, bef k j = true → listS l j = true) → ∀ i ∈ Region.ready .any ops l,
      ∃ o, ops[i]? = some o ∧ Nxt ops.size bef (listS l) i ∧ l.getD i true = false := by
    intro l hsz hdown i hi
    obtain ⟨h1, o, ho, h2⟩ := mem_ready.1 hi
    have hlt : i < ops.size := (Array.getElem?_eq_some_iff.1 ho).1
    refine ⟨o, ho, ⟨hlt, ?_, fun j hj => ?_, hdown⟩, h1⟩
    · unfold listS; rw [← getD_tf (by omega)]; exact h1
    · obtain ⟨e, he, hbd, h⟩ := hmask i o ho j hj
      have hon := h2 e he hbd
      rcases h with rfl | h
      · exact hon
      · refine hdown e.on ?_ hon j h
        have := hlow i o ho e he hbd
        omega
  intro fuel
  induction fuel with
  | zero =>
    intro l act w hsz hl hdown hI
    have h0 := left_zero (l := l) (by omega)
    have hr : Region.ready .any ops l = [] := by
      rw [List.eq_nil_iff_forall_not_mem]
      intro i hi
      obtain ⟨o, ho, hN, h1⟩ := rdy l hsz hdown i hi
      have := hN.lt
      rw [h0 i (by omega)] at h1; cases h1
    exact ⟨hr, hend _ _ _ (hall l hsz hr) hI⟩
  | succ fuel ih =>
    intro l act w hsz hl hdown hI
    refine ⟨fun hr => hend _ _ _ (hall l hsz hr) hI, fun i hi => ?_⟩
    obtain ⟨o, ho, hN, h1⟩ := rdy l hsz hdown i hi
    have hlt := hN.lt
    have hi' : i < l.size := by omega
    refine wpOpIn_mono (fun a w' h => ?_) (hstep _ i o act w ho hN hI)
    have hls := listS_set hi'
    have := left_set hi' h1
    refine ih (l.setIfInBounds i true) a w' (by simpa using hsz) (by omega) ?_ (by rw [hls]; exact h)
    rw [hls]
    intro k hk hs j hj
    by_cases e : k = i
    · subst e
      by_cases e2 : j = k
      · subst e2; exact addS_same _ _
      · rw [addS_ne _ e2]; exact hN.pre j hj
    · rw [addS_ne _ e] at hs
      by_cases e2 : j = i
      · subst e2; exact addS_same _ _
      · rw [addS_ne _ e2]; exact hdown k hk hs j hj

end

end
end Go.Sim
/- A region that draws its order: what it comes to. -/
namespace Go.Sim
variable [Val]
noncomputable section
open Go.RowKit

section
variable {C : Code → Prop} {A : Nat → AOp} {g0 : Nat → Option Box} {e0 : Nat → D} {nx0 n lim : Nat} {bef : Nat → Nat → Bool} {S : Nat → Bool} {Γ0 Γ : Gam} {F0 F : Nat → Prop} {w0 w : World}

omit [Val] in
theorem bef_lt {ops : Array Oper} (hmask : ∀ i o, ops[i]? = some o → ∀ j, bef i j = true → ∃ e ∈ o.after, Region.binds .any e = true ∧ (e.on = j ∨ bef e.on j = true))
    (hlow : ∀ i o, ops[i]? = some o → ∀ e ∈ o.after, Region.binds .any e = true → e.on < i) : ∀ i, i < ops.size → ∀ j, bef i j = true → j < i := by
  intro i
  induction i using Nat.strongRecOn with
  | _ i ih =>
    intro hi j hj
    obtain ⟨e, he, hb, h⟩ := hmask i ops[i] (by simp [hi]) j hj
    have hl := hlow i ops[i] (by simp [hi]) e he hb
    rcases h with rfl | h
    · exact hl
    · have := ih e.on hl (by omega) j h; omega

omit [Val] in
theorem nxs_mono {nxs : Nat → Nat} (hle : ∀ i, i < n → nxs i ≤ nxs (i + 1)) : ∀ j, j ≤ n → ∀ i, i ≤ j → nxs i ≤ nxs j
  | 0, _, i, hi => by have : i = 0 := by omega
                      subst this; exact Nat.le_refl _
  | j + 1, hj, i, hi => by
    by_cases e : i = j + 1
    · subst e; exact Nat.le_refl _
    · exact Nat.le_trans (nxs_mono hle j (by omega) i (by omega)) (hle j (by omega))

omit [Val] in
theorem OS_text {nxs : Nat → Nat} (h0 : nxs 0 = nx0) (hle : ∀ i, i < n → nxs i ≤ nxs (i + 1)) (hlo : ∀ i, i < n → (A i).lo = nxs i ∧ (A i).hi = nxs (i + 1)) {m : Nat} (hm : m ≤ n)
    (h1 : ∀ j, j < m → ∀ id, (A j).touch id = true → S j = true) (h2 : ∀ j, m ≤ j → j < n → ∀ id, (A j).touch id = true → S j = false) (id : Nat) : OS A nx0 n S id ↔ id < nxs m := by
  constructor
  · rintro (h | ⟨j, hj, hs, hmd⟩)
    · have := nxs_mono hle m hm 0 (Nat.zero_le _); omega
    · have ht : (A j).touch id = true := AOp.touch_iff.2 (.inr (AOp.made_iff.1 hmd))
      rcases Nat.lt_or_ge j m with hlt | hge
      · have hmd := AOp.made_iff.1 hmd
        rw [(hlo j hj).2] at hmd
        have := nxs_mono hle m hm (j + 1) (by omega)
        omega
      · rw [h2 j hge hj id ht] at hs; cases hs
  · intro h
    by_cases hb : id < nx0
    · exact .inl hb
    · right
      have key : ∀ k, k ≤ m → id < nxs k → ∃ j, j < k ∧ nxs j ≤ id ∧ id < nxs (j + 1) := by
        intro k
        induction k with
        | zero => intro _ h; omega
        | succ k ih =>
          intro hk h
          by_cases hc : id < nxs k
          · obtain ⟨j, a, b, c⟩ := ih (by omega) hc
            exact ⟨j, by omega, b, c⟩
          · exact ⟨k, by omega, by omega, h⟩
      obtain ⟨j, hj, hl, hh⟩ := key m (Nat.le_refl _) h
      have hmd : (A j).made id = true := AOp.made_iff.2 (by rw [(hlo j (by omega)).1, (hlo j (by omega)).2]; exact ⟨hl, hh⟩)
      exact ⟨j, by omega, h1 j hj id (AOp.touch_iff.2 (.inr (AOp.made_iff.1 hmd))), hmd⟩

theorem fin_step {nxs : Nat → Nat} (h0 : nxs 0 = nx0) (hle : ∀ i, i < n → nxs i ≤ nxs (i + 1)) (hlo : ∀ i, i < n → (A i).lo = nxs i ∧ (A i).hi = nxs (i + 1)) {m : Nat} (hm : m ≤ n)
    (h1 : ∀ j, j < m → ∀ id, (A j).touch id = true → S j = true) (h2 : ∀ j, m ≤ j → j < n → ∀ id, (A j).touch id = true → S j = false)
    (hI : HInv C A g0 nx0 n lim Γ0 F0 w0 S Γ F w) : Step C lim Γ0 F0 g0 nx0 w0 Γ F (fun id => (hv A g0 nx0 allS m id).1) (nxs m) w := by
  have hst := hI.st
  have hg : (fun id => (hv A g0 nx0 S n id).1) = fun id => (hv A g0 nx0 allS m id).1 := by
    funext id
    have : hv A g0 nx0 S n id = hv A g0 nx0 allS m id := rep_text _ _ _ hm (fun j hj ht => h1 j hj id ht) (fun j hj hjn ht => h2 j hj hjn id ht)
    rw [this]
  have ho : OS A nx0 n S = (· < nxs m) := by
    funext id
    exact propext (OS_text h0 hle hlo hm h1 h2 id)
  rw [hg, ho] at hst
  exact hst.step (by rw [← h0]; exact nxs_mono hle m hm 0 (Nat.zero_le _))
end

/-- an operation of the region does as it should -/
def Snd (C : Code → Prop) (P : Program) (ops : Array Oper) (r : Option Nat) (nn lim N : Nat) (A : Nat → AOp) (g0 : Nat → Option Box) (e0 : Nat → D) (nx0 i : Nat) (o : Oper) : Prop :=
  ∀ (Q : Exit → Act → World → Prop) (Γ : Gam) (F : Nat → Prop) (w : World) (act : Act), act.tmps.size = N → Rel C Γ F w (hin A g0 nx0 i) → (∀ id, (A i).lo ≤ id → Γ id = none) →
    (∀ t ∈ (A i).rd, VRel Γ F w (evn A e0 nx0 allS i t).1 (act.tmps.getD t undef)) →
    ∀ Z : Value → World → Prop, (∀ Γ' F' v w', Step C ((A i).limOf lim) Γ F (hin A g0 nx0 i) (A i).lo w Γ' F' (A i).out (A i).hi w' → VRel Γ' F' w' (A i).d v → Z v w') →
      wpOpIn (W r) nn P ops Q i (fun a' w' => ∃ v, a' = act.put o.dst v ∧ Z v w') act w

/-- an operation of the region panics -/
def SndP (C : Code → Prop) (P : Program) (ops : Array Oper) (r : Option Nat) (nn lim N : Nat) (A : Nat → AOp) (g0 : Nat → Option Box) (e0 : Nat → D) (nx0 i : Nat) : Prop :=
  ∀ (Q : Exit → Act → World → Prop) (K : Act → World → Prop) (Γ : Gam) (F : Nat → Prop) (w : World) (act : Act), act.tmps.size = N → Rel C Γ F w (hin A g0 nx0 i) → (∀ id, (A i).lo ≤ id → Γ id = none) →
    (∀ t ∈ (A i).rd, VRel Γ F w (evn A e0 nx0 allS i t).1 (act.tmps.getD t undef)) →
    (∀ Γ' F' v w', Step C ((A i).limOf lim) Γ F (hin A g0 nx0 i) (A i).lo w Γ' F' (A i).out (A i).hi w' → VRel Γ' F' w' (A i).d v → Q (.panic [{ v, recovered := false }]) act w') →
      wpOpIn (W r) nn P ops Q i K act w

theorem draw_sound {C : Code → Prop} {P : Program} {ops : Array Oper} {r : Option Nat} {nn lim N : Nat} {A : Nat → AOp} {g0 : Nat → Option Box} {e0 : Nat → D} {nx0 : Nat} {bef : Nat → Nat → Bool} {Γ0 : Gam} {F0 : Nat → Prop} {w0 : World}
    {act0 : Act} {nxs : Nat → Nat} {pan : Option Nat} {Q : Exit → Act → World → Prop}
    (hmask : ∀ i o, ops[i]? = some o → ∀ j, bef i j = true → ∃ e ∈ o.after, Region.binds .any e = true ∧ (e.on = j ∨ bef e.on j = true))
    (hlow : ∀ i o, ops[i]? = some o → ∀ e ∈ o.after, Region.binds .any e = true → e.on < i)
    (pl : Plan A nx0 ops.size bef) (h0 : nxs 0 = nx0) (hlo : ∀ i, i < ops.size → (A i).lo = nxs i ∧ (A i).hi = nxs (i + 1))
    (hr0 : Rel C Γ0 F0 w0 g0) (ht0 : ∀ id, nx0 ≤ id → Γ0 id = none) (hsz : act0.tmps.size = N) (he0 : ∀ t, VRel Γ0 F0 w0 (e0 t) (act0.tmps.getD t undef))
    (hdst : ∀ i o, ops[i]? = some o → (∀ p, pan = some p → i ≠ p ∧ bef i p = false) → (A i).dst = o.dst ∧ ∀ t, o.dst = some t → t < N)
    (hval : ∀ i o, ops[i]? = some o → (∀ p, pan = some p → i ≠ p ∧ bef i p = false) → Snd C P ops r nn lim N A g0 e0 nx0 i o)
    (hpan : ∀ p, pan = some p → p < ops.size ∧ SndP C P ops r nn lim N A g0 e0 nx0 p)
    (hnoth : ∀ p, pan = some p → ∀ j, j < ops.size → j ≠ p → bef p j = false → ∀ id, (A j).touch id = true → bef j p = true)
    (hQn : pan = none → ∀ Γ F act w, Step C lim Γ0 F0 g0 nx0 w0 Γ F (fun id => (hv A g0 nx0 allS ops.size id).1) (nxs ops.size) w → (∀ t, VRel Γ F w (evn A e0 nx0 allS ops.size t).1 (act.tmps.getD t undef)) → act.tmps.size = N →
      act.defers = act0.defers → Q .normal act w)
    (hQp : ∀ p, pan = some p → ∀ Γ F act v w, Step C lim Γ0 F0 g0 nx0 w0 Γ F (fun id => (hv A g0 nx0 allS (p + 1) id).1) (nxs (p + 1)) w → VRel Γ F w (A p).d v →
      (∀ t, (∀ j, j < ops.size → bef j p = false → (A j).sets t = false) → VRel Γ F w (e0 t) (act.tmps.getD t undef)) → act.tmps.size = N → act.defers = act0.defers → Q (.panic [{ v, recovered := false }]) act w) :
    wpAnyIn (W r) nn P .any ops Q ops.size (Array.replicate ops.size false) act0 w0 := by
  have hle : ∀ i, i < ops.size → nxs i ≤ nxs (i + 1) := fun i hi => by
    have := pl.le i hi
    rw [(hlo i hi).1, (hlo i hi).2] at this; exact this
  have hbl := bef_lt hmask hlow
  let Inv : (Nat → Bool) → Act → World → Prop := fun S act w => ∃ Γ F, HInv C A g0 nx0 ops.size lim Γ0 F0 w0 S Γ F w ∧ EInv A e0 nx0 ops.size S Γ F w act.tmps ∧ act.tmps.size = N ∧ act.defers = act0.defers ∧
    (∀ p, pan = some p → S p = false) ∧ (∀ k, k < ops.size → S k = true → ∀ p, pan = some p → bef k p = false)
  have hfull : ∀ {β : Type} (x : Nat → β) (c : Nat → β), (fun i => c i) = c := fun _ _ => rfl
  have hls : listS (Array.replicate ops.size false) = fun _ => false := by
    funext j
    simp [listS, Array.getD]
  refine any_sound (Inv := Inv) hmask hlow (fun S i o act w ho hN hI => ?_) (fun S act w hall hI => ?_) ops.size _ act0 w0 (by simp) ?_ ?_ ?_
  · obtain ⟨Γ, F, hH, hE, hsz', hdf, hnp, hnb⟩ := hI
    have hrel := hin_rel pl hN hH
    have htop : ∀ id, (A i).lo ≤ id → cut Γ (A i).lo id = none := fun id h => cut_ge h
    have hrd : ∀ t ∈ (A i).rd, VRel (cut Γ (A i).lo) F w (evn A e0 nx0 allS i t).1 (act.tmps.getD t undef) := fun t ht => e_rel pl hN hE ht
    have hbf : ∀ p, pan = some p → bef i p = false := fun p hp => by
      cases hb : bef i p with
      | false => rfl
      | true => have := hN.pre p hb; rw [hnp p hp] at this; cases this
    by_cases hip : pan = some i
    · refine (hpan i hip).2 Q _ _ F w act hsz' hrel htop hrd (fun Γ' F' v w' hs hv => ?_)
      obtain ⟨hH', hext, hcut, hFF, hk⟩ := heap_lift pl hN hr0 hH hs
      -- all that is not forced ahead did nothing
      have h1 : ∀ j, j < i + 1 → ∀ id, (A j).touch id = true → addS S i j = true := fun j hj id ht => by
        by_cases e : j = i
        · subst e; exact addS_same _ _
        · rw [addS_ne _ e]
          cases hb : bef i j with
          | true => exact hN.pre j hb
          | false =>
            have hjl := hN.lt
            have := hbl j (by omega) i (hnoth i hip j (by omega) e hb id ht)
            omega
      have h2 : ∀ j, i + 1 ≤ j → j < ops.size → ∀ id, (A j).touch id = true → addS S i j = false := fun j hj hjn id ht => by
        rw [addS_ne _ (by omega)]
        cases hs : S j with
        | false => rfl
        | true =>
          cases hb : bef i j with
          | true => have := hbl i hN.lt j hb; omega
          | false =>
            have h3 := hnoth i hip j hjn (by omega) hb id ht
            rw [hnb j hjn hs i hip] at h3; cases h3
      have hlt := hN.lt
      have hst := fin_step h0 hle hlo (by omega) h1 h2 hH'
      refine hQp i hip _ F' act v w' hst (hv.mono (fun id j hj => ?_) (fun _ h => h) (fun _ _ => rfl)) (fun t ht => ?_) hsz' hdf
      · rw [← hcut id] at hj; exact (cut_some hj).2
      · have h4 := hE t
        have h5 : evn A e0 nx0 S ops.size t = (e0 t, nx0) := by
          unfold evn
          rw [rep_stop _ _ _ (m := 0) ops.size (Nat.zero_le _) (fun j _ hj hjt => ?_)]
          · rfl
          · cases hs : S j with
            | false => rfl
            | true =>
              have hjt : (A j).sets t = true := hjt
              rw [ht j hj (hnb j hj hs i hip)] at hjt; cases hjt
        rw [h5] at h4
        exact h4.mono (fun id j hj => hext id j (cut_some hj).2) hFF hk
    · have hd := hdst i o ho (fun p hp => ⟨fun e => hip (by rw [e]; exact hp), hbf p hp⟩)
      refine wpOpIn_mono (fun a' w' h => ?_) (hval i o ho (fun p hp => ⟨fun e => hip (by rw [e]; exact hp), hbf p hp⟩) Q _ F w act hsz' hrel htop hrd (fun v w' => Inv (addS S i) (act.put o.dst v) w') (fun Γ' F' v w' hs hv => ?_))
      · obtain ⟨v, rfl, hz⟩ := h
        exact hz
      · obtain ⟨hH', hext, hcut, hFF, hk⟩ := heap_lift pl hN hr0 hH hs
        have hE' := env_lift pl hN hE hext hcut hFF hk hv (fun t ht => by rw [hsz']; exact hd.2 t (by rw [← hd.1]; exact ht)) act rfl
        rw [hd.1] at hE'
        refine ⟨_, F', hH', hE', ?_, ?_, fun p hp => ?_, fun k hk hs p hp => ?_⟩
        · cases o.dst with
          | none => exact hsz'
          | some t => show (act.tmps.setIfInBounds t v).size = N; simpa using hsz'
        · cases o.dst with
          | none => exact hdf
          | some t => exact hdf
        · rw [addS_ne _ (fun e => hip (by rw [← e]; exact hp))]; exact hnp p hp
        · by_cases e : k = i
          · subst e; exact hbf p hp
          · rw [addS_ne _ e] at hs; exact hnb k hk hs p hp
  · obtain ⟨Γ, F, hH, hE, hsz', hdf, hnp, hnb⟩ := hI
    cases hpn : pan with
    | some p => have := hnp p hpn; rw [hall p (hpan p hpn).1] at this; cases this
    | none =>
      have hst := fin_step h0 hle hlo (Nat.le_refl _) (fun j hj _ _ => hall j hj) (fun j h1 h2 => by omega) hH
      refine hQn hpn Γ F act w hst (fun t => ?_) hsz' hdf
      have h4 := hE t
      have h5 : evn A e0 nx0 S ops.size t = evn A e0 nx0 allS ops.size t := rep_same _ _ _ ops.size fun j hj _ => hall j hj
      rw [h5] at h4
      exact h4.mono (fun id j hj => (cut_some hj).2) (fun _ h => h) (fun _ _ => rfl)
  · unfold left
    refine Nat.le_trans List.countP_le_length (by simp)
  · rw [hls]
    intro k _ h
    cases h
  · rw [hls]
    have hv0 : ∀ m, hv A g0 nx0 (fun _ => false) m = fun id => (g0 id, nx0) := fun m => by
      funext id
      exact rep_stop _ _ _ (m := 0) m (Nat.zero_le _) (fun _ _ _ _ => rfl)
    have ev0 : ∀ m, evn A e0 nx0 (fun _ => false) m = fun t => (e0 t, nx0) := fun m => by
      funext id
      exact rep_stop _ _ _ (m := 0) m (Nat.zero_le _) (fun _ _ _ _ => rfl)
    have hos : OS A nx0 ops.size (fun _ => false) = (· < nx0) := by
      funext id
      refine propext ⟨?_, fun h => .inl h⟩
      rintro (h | ⟨j, _, h, _⟩)
      · exact h
      · cases h
    have hcut0 : ∀ id j, Γ0 id = some j → cut Γ0 nx0 id = some j := fun id j h => by
      rw [cut_lt]
      · exact h
      · rcases Nat.lt_or_ge id nx0 with h' | h'
        · exact h'
        · rw [ht0 id h'] at h; cases h
    refine ⟨Γ0, F0, ⟨?_, fun id x j hx hj => ?_⟩, fun t => ?_, hsz, rfl, fun _ _ => rfl, fun _ _ h => by cases h⟩
    · rw [hv0, hos]
      exact StepP.refl hr0 fun id h => ht0 id (by omega)
    · rw [hv0] at hx ⊢
      obtain ⟨j', hj', _, hb, _⟩ := hr0.box id x hx
      rw [hj] at hj'; cases hj'
      exact hb.mono hcut0 (fun _ h => h) (fun _ _ => rfl) rfl
    · rw [ev0]
      exact (he0 t).mono hcut0 (fun _ h => h) (fun _ _ => rfl)

end
end Go.Sim
/- What an operation comes to hangs on its operands alone. -/
namespace Go.Sim
variable [Val]
noncomputable section
open Go.RowKit

section
variable {env env' : Env} {P : Program} {g : G} {cfg : FuncId → FInfo} {E : Ev} {h : H}

def SameOn (env env' : Env) (xs : List Operand) : Prop := ∀ x ∈ xs, opd env x = opd env' x

omit [Val] in
theorem opds_congr : ∀ (l : List Operand), SameOn env env' l → opds env l = opds env' l
  | [], _ => rfl
  | x :: r, h => by
    show (opd env x).ob _ = (opd env' x).ob _
    rw [h x (by simp), opds_congr r fun y hy => h y (by simp [hy])]

omit [Val] in
theorem parts_congr : ∀ (l : List (Nat × Operand)), SameOn env env' (l.map (·.2)) → parts env l = parts env' l
  | [], _ => rfl
  | x :: r, h => by
    obtain ⟨i, o⟩ := x
    show (opd env o).ob _ = (opd env' o).ob _
    rw [h o (by simp), parts_congr r fun y hy => h y (by simp at hy ⊢; exact .inr hy)]

omit [Val] in
theorem optD_congr (o : Option Operand) (h : SameOn env env' o.toList) : optD env o = optD env' o := by
  cases o with
  | none => rfl
  | some x => show (opd env x).ob _ = (opd env' x).ob _; rw [h x (by simp)]

theorem stepB_congr {op : Op} (h : SameOn env env' op.operands.toList) : stepB P g env op = stepB P g env' op := by
  have h1 : ∀ x, x ∈ op.operands.toList → opd env x = opd env' x := h
  cases op <;> first
    | rfl
    | (simp only [Op.operands] at h1
       simp only [stepB, bMove, bBox, bLoad, bNil, bUn, bConv, bS2ap, bIface, bFieldAddr, bField, bAssert, bExtract]
       rw [h1 _ (by simp)]; done)
    | (simp only [Op.operands] at h1
       simp only [stepB, bStore, bBin, bMakeSlice, bIndexAddr, bIndex]
       rw [h1 _ (List.mem_cons_self ..), h1 _ (List.mem_cons_of_mem _ (List.mem_cons_self ..))]; done)
    | skip
  case pick c a b =>
    simp only [Op.operands] at h1
    simp only [stepB, bPick]
    rw [h1 c (by simp), h1 a (by simp), h1 b (by simp)]
  case build t ps =>
    simp only [stepB, bBuild]
    rw [parts_congr ps.toList (by simpa [SameOn, Op.operands] using h1)]
  case buildSlice t n ps =>
    simp only [stepB, bBuildSlice]
    rw [parts_congr ps.toList (by simpa [SameOn, Op.operands] using h1)]
  case makeFunc f a c =>
    cases f <;> first | rfl | skip
    simp only [Op.operands, Array.toList_append, List.mem_append] at h1
    simp only [stepB, bFunc]
    rw [opds_congr a.toList fun x hx => h1 x (.inl hx), opds_congr c.toList fun x hx => h1 x (.inr hx)]
  case slice t x lo hi mx =>
    simp only [Op.operands, Array.toList_append, List.mem_append] at h1
    simp only [stepB, bSlice]
    rw [h1 x (by simp), optD_congr lo fun y hy => h1 y (by simp at hy ⊢; simp [hy]), optD_congr hi fun y hy => h1 y (by simp at hy ⊢; simp [hy]), optD_congr mx fun y hy => h1 y (by simp at hy ⊢; simp [hy])]

omit [Val] in
theorem bBuiltin_congr {b : Builtin} {ts : Array TypeId} {args : Array Operand} (h : SameOn env env' args.toList) : bBuiltin P g env b ts args = bBuiltin P g env' b ts args := by
  simp only [bBuiltin]
  rw [opds_congr _ h]

theorem basicB_congr {op : Op} (h : SameOn env env' op.operands.toList) : basicB P g env op = basicB P g env' op := by
  unfold basicB
  cases op <;> first | rfl | exact stepB_congr h | skip
  case call c =>
    cases hc : c.callee <;> first | (simp only [hc]; done) | skip
    simp only [hc]
    refine bBuiltin_congr fun x hx => h x ?_
    simp only [Op.operands, Call.operands, hc]
    simpa using hx

omit [Val] in
theorem bCall_congr {h' : H} {c : Call} {f : Operand} (hc : c.callee = .value f) (h : SameOn env env' (Op.call c).operands.toList) : bCall cfg E h' env f c.args = bCall cfg E h' env' f c.args := by
  have h1 : ∀ x, x ∈ (Op.call c).operands.toList → opd env x = opd env' x := h
  simp only [Op.operands, Call.operands, hc] at h1
  simp only [bCall]
  rw [opds_congr c.args.toList fun x hx => h1 x (by simp at hx ⊢; simp [hx]), h1 f (by simp)]

end
end
end Go.Sim
/- An operation of a region that draws its order. -/
namespace Go.Sim
variable [Val]
noncomputable section
open Go.RowKit

omit [Val] in
theorem maskL_get (f : Nat → Bool) : ∀ (l : List (Option Box)) (n k : Nat), (maskL f l n)[k]? = (l[k]?).map fun b => cnd (f (n - 1 - k)) b none
  | [], n, k => by simp [maskL]
  | b :: l, n, k => by
    cases k with
    | zero => simp [maskL]
    | succ k =>
      simp only [maskL, List.getElem?_cons_succ]
      rw [maskL_get f l (n - 1) k, show n - 1 - 1 - k = n - 1 - (k + 1) by omega]

omit [Val] in
theorem maskL_length (f : Nat → Bool) : ∀ (l : List (Option Box)) (n : Nat), (maskL f l n).length = l.length
  | [], _ => rfl
  | _ :: l, n => by simp [maskL, maskL_length f l (n - 1)]

omit [Val] in
theorem mergeL_get (f : Nat → Bool) : ∀ (l l' : List (Option Box)) (n k : Nat), l.length ≤ l'.length → k < l.length → (mergeL f l l' n)[k]? = cnd (f (n - 1 - k)) l'[k]? l[k]?
  | [], _, _, _, _, hk => by simp at hk
  | b :: l, [], _, _, hl, _ => by simp at hl
  | b :: l, c :: l', n, k, hl, hk => by
    cases k with
    | zero => simp only [mergeL, List.getElem?_cons_zero]; cases f (n - 1 - 0) <;> simp_all
    | succ k =>
      simp only [mergeL, List.getElem?_cons_succ]
      rw [mergeL_get f l l' (n - 1) k (by simpa using hl) (by simpa using hk), show n - 1 - 1 - k = n - 1 - (k + 1) by omega]

omit [Val] in
theorem mergeL_length (f : Nat → Bool) : ∀ (l l' : List (Option Box)) (n : Nat), (mergeL f l l' n).length = l.length
  | [], _, _ => rfl
  | _ :: _, [], _ => rfl
  | _ :: l, _ :: l', n => by simp [mergeL, mergeL_length f l l' (n - 1)]

omit [Val] in
theorem maskH_wf {q pl : Bool} {vis : Nat → Bool} {h : H} (hw : h.WF) : (maskH q pl vis h).WF := by
  obtain ⟨nx, bx, lim⟩ := h
  have hw : bx.length = nx := hw
  cases pl with
  | true => exact hw
  | false => show (maskL vis bx nx).length = nx; rw [maskL_length]; exact hw

omit [Val] in
theorem maskH_get {q pl : Bool} {vis : Nat → Bool} {h : H} (id : Nat) : (maskH q pl vis h).get id = cnd (pl || vis id) (h.get id) none := by
  obtain ⟨nx, bx, lim⟩ := h
  rw [H.get_eq, H.get_eq]
  show (if id < nx then ((cnd pl bx (maskL vis bx nx))[nx - 1 - id]?).getD none else none) = cnd (pl || vis id) (if id < nx then ((bx)[nx - 1 - id]?).getD none else none) none
  by_cases hl : id < nx
  · rw [if_pos hl, if_pos hl]
    cases pl with
    | true => rfl
    | false =>
      show ((maskL vis bx nx)[nx - 1 - id]?).getD none = cnd (vis id) _ none
      rw [maskL_get, show nx - 1 - (nx - 1 - id) = id by omega]
      cases bx[nx - 1 - id]? <;> cases vis id <;> rfl
  · rw [if_neg hl, if_neg hl]
    cases (pl || vis id) <;> rfl

omit [Val] in
theorem mergeH_get {q pl : Bool} {vis : Nat → Bool} {h h' k : H} (hw : h.WF) (hpl : pl = true → ∀ id, vis id = true) (hm : mergeH q pl vis h h' = some k) :
    k.WF ∧ k.lim = h.lim ∧ h.nx ≤ k.nx ∧ k.nx = h'.nx ∧ ∀ id, k.get id = cnd ((q && (vis id && decide (id < h.nx))) || (decide (h.nx ≤ id) && decide (id < k.nx))) (h'.get id) (h.get id) := by
  obtain ⟨nx, bx, lim⟩ := h
  obtain ⟨nx', bx', lim'⟩ := h'
  have hw : bx.length = nx := hw
  obtain ⟨hb, hm⟩ := cnd_some.1 hm
  cases hm
  rw [Bool.and_eq_true] at hb
  have hl' : bx'.length = nx' := Nat.eq_of_beq_eq_true hb.1
  have hle : nx ≤ nx' := Nat.le_of_ble_eq_true hb.2
  -- what stands behind the new boxes
  have key : ∀ tl : List (Option Box), tl.length = nx → ∀ id, id < nx' → ((bx'.take (nx' - nx) ++ tl)[nx' - 1 - id]?).getD none = if id < nx then (tl[nx - 1 - id]?).getD none else (bx'[nx' - 1 - id]?).getD none := by
    intro tl htl id hid
    have hlen : (bx'.take (nx' - nx)).length = nx' - nx := by rw [List.length_take]; omega
    by_cases hl : id < nx
    · rw [if_pos hl, List.getElem?_append_right (by omega), hlen, show nx' - 1 - id - (nx' - nx) = nx - 1 - id by omega]
    · rw [if_neg hl, List.getElem?_append_left (by omega), List.getElem?_take, if_pos (by omega)]
  have tail : ∃ tl : List (Option Box), tl.length = nx ∧ (∀ id, id < nx → (tl[nx - 1 - id]?).getD none = cnd (q && vis id) ((bx'[nx' - 1 - id]?).getD none) ((bx[nx - 1 - id]?).getD none)) ∧
      cnd q (cnd pl bx' (bx'.take (nx' - nx) ++ mergeL vis bx (bx'.drop (nx' - nx)) nx)) (bx'.take (nx' - nx) ++ bx) = bx'.take (nx' - nx) ++ tl := by
    cases q with
    | false => exact ⟨bx, hw, fun id hid => rfl, rfl⟩
    | true =>
      cases hp : pl with
      | true =>
        refine ⟨bx'.drop (nx' - nx), by rw [List.length_drop]; omega, fun id hid => ?_, (List.take_append_drop _ _).symm⟩
        rw [hpl hp id, List.getElem?_drop, show nx' - nx + (nx - 1 - id) = nx' - 1 - id by omega]
        rfl
      | false =>
        refine ⟨_, (mergeL_length _ _ _ _).trans hw, fun id hid => ?_, rfl⟩
        rw [mergeL_get _ _ _ _ _ (by rw [List.length_drop]; omega) (by omega), show nx - 1 - (nx - 1 - id) = id by omega, List.getElem?_drop, show nx' - nx + (nx - 1 - id) = nx' - 1 - id by omega]
        show Option.getD (cnd (vis id) _ _) none = cnd (vis id) _ _
        cases vis id <;> rfl
  obtain ⟨tl, h1, h2, h3⟩ := tail
  rw [h3]
  refine ⟨?_, rfl, hle, rfl, fun id => ?_⟩
  · show (bx'.take (nx' - nx) ++ tl).length = nx'
    rw [List.length_append, List.length_take]; omega
  · rw [H.get_eq, H.get_eq, H.get_eq]
    show (if id < nx' then ((bx'.take (nx' - nx) ++ tl)[nx' - 1 - id]?).getD none else none) =
      cnd ((q && (vis id && decide (id < nx))) || (decide (nx ≤ id) && decide (id < nx'))) (if id < nx' then (bx'[nx' - 1 - id]?).getD none else none) (if id < nx then (bx[nx - 1 - id]?).getD none else none)
    by_cases hl : id < nx
    · rw [if_pos (by omega), key tl h1 id (by omega), if_pos hl, h2 id hl, if_pos (by omega), if_pos hl, decide_eq_true hl, decide_eq_false (show ¬ nx ≤ id by omega)]
      simp
    · by_cases hl' : id < nx'
      · rw [if_pos hl', key tl h1 id hl', if_neg hl, if_pos hl', if_neg hl, decide_eq_true hl', decide_eq_true (show nx ≤ id by omega)]
        simp
      · rw [if_neg hl', if_neg hl', if_neg hl]
        generalize (q && (vis id && decide (id < nx)) || decide (nx ≤ id) && decide (id < nx')) = b
        cases b <;> rfl

def srH : SR → H
  | .val _ k => k
  | .pan _ k => k

def srD : SR → D
  | .val d _ => d
  | .pan d _ => d

/-- what an operation sees, by its record -/
def vin (rec : Rec) (h : H) : Nat → Option Box := fun id => cnd (rec.vis id && decide (id < h.nx)) (h.get id) none

/-- what must be shown behind an operation of a drawn region -/
def DPost (C : Code → Prop) (lim : Nat) (vi : Nat → Option Box) (lo : Nat) (out : Nat → Option Box) (hi : Nat) (o : Oper) (Γ : Gam) (F : Nat → Prop) (w : World) (act : Act) (sr : SR) (next : Act → World → Prop)
    (Q : Exit → Act → World → Prop) : Prop :=
  match sr with
  | .val d _ => ∀ Γ' F' v w', Step C lim Γ F vi lo w Γ' F' out hi w' → VRel Γ' F' w' d v → next (act.put o.dst v) w'
  | .pan d _ => ∀ Γ' F' v w', Step C lim Γ F vi lo w Γ' F' out hi w' → VRel Γ' F' w' d v → Q (.panic [{ v, recovered := false }]) act w'

def RecOk (s : Rec) : Prop := (s.ro = true → ∀ id, s.wr id = false) ∧ (s.emp = true → ∀ id, s.vis id = false)

structure StepRes (C : Code → Prop) (P : Program) (m i : Nat) (h : H) (env : Env) (o : Oper) (rs : List Rec) (sr : SR) (rec : Rec) (out : Nat → Option Box) : Prop where
  wf : (srH sr).WF
  lim : (srH sr).lim = h.lim
  le : h.nx ≤ (srH sr).nx
  idx : rec.idx = i
  lo : rec.lo = h.nx
  hi : rec.hi = (srH sr).nx
  wr : rec.ro = false → ∀ id, rec.vis id = true → rec.wr id = true
  ok : RecOk rec
  get : ∀ id, (srH sr).get id = cnd ((!rec.ro && (rec.vis id && decide (id < h.nx))) || (decide (h.nx ≤ id) && decide (id < (srH sr).nx))) (out id) (h.get id)
  c1 : ∀ s ∈ rs, ordd m s = false → ∀ id, rec.vis id = true → s.touch id = false
  c2 : ∀ s ∈ rs, ordd m s = false → rec.ro = false → ∀ id, rec.vis id = true → s.vis id = false
  snd : ∀ (Γ : Gam) (F : Nat → Prop) (w : World) (act : Act) (env' : Env), SameOn env env' o.op.operands.toList → Rel C Γ F w (vin rec h) → (∀ id, h.nx ≤ id → Γ id = none) → OpR Γ F w env' act.eval →
    ∀ (next : Act → World → Prop) (Q : Exit → Act → World → Prop) (n : Nat) (r : Option Nat), DPost C (cnd (!rec.ro) h.lim h.nx) (vin rec h) h.nx out (srH sr).nx o Γ F w act sr next Q →
      o.uponIn (W r) n P act next Q ((execOp act.eval o).run P w)

omit [Val] in
theorem hasN_iff {l : List Nat} {t : Nat} : hasN l t = true ↔ t ∈ l := by
  unfold hasN
  rw [List.any_eq_true]
  constructor
  · rintro ⟨x, hx, h⟩
    rw [Nat.eq_of_beq_eq_true h]; exact hx
  · intro h
    exact ⟨t, h, Nat.beq_refl t⟩

section
variable {C : Code → Prop} {P : Program} {cfg : FuncId → FInfo} {E : Ev}

theorem basicB_good {Γ : Gam} {F : Nat → Prop} {g : G} {w : World} {env : Env} {ρ : Operand → Value} {o : Oper} {d : D} {up : Up} (h : basicB P g env o.op = some (d, up))
    (hr : Rel C Γ F w g.get) (ht : ∀ id, g.nx ≤ id → Γ id = none) (hρ : OpR Γ F w env ρ) : Good C P Γ F g w (execOp ρ o) d up := by
  unfold basicB at h
  cases ho : o.op <;> rw [ho] at h <;> first | (cases h; done) | exact stepB_good (by rw [ho]; exact h) hr ht hρ | skip
  case call c =>
    cases hc : c.callee <;> simp only [hc] at h <;> first | (cases h; done) | skip
    rename_i b
    have he : ∃ cs, (execOp ρ o).run P w = (builtin b c.argTypes o.type cs (c.args.map ρ)).run P w := by
      simp only [execOp, ho, resolve, hc, invoke, Sem.run_bind, Sem.run_pure, Result.andThen_ok]
      exact ⟨_, rfl⟩
    obtain ⟨cs, he⟩ := he
    obtain ⟨v, w', Γ', hran, hst, hv⟩ := bBuiltin_good (ty := o.type) (cs := cs) h hr ht hρ
    refine ⟨v, w', Γ', ?_, hst, hv⟩
    unfold Ran at hran ⊢
    rw [he]; exact hran

theorem drawB_res {m i : Nat} {h : H} {env : Env} {o : Oper} {rs : List Rec} {sr : SR} {rec : Rec} (hw : h.WF) (hs : drawB P m i h env o.op rs = some (sr, rec)) : ∃ out, StepRes C P m i h env o rs sr rec out := by
  obtain ⟨hap, hs1⟩ := cnd_some.1 hs
  obtain ⟨⟨d, up⟩, hr, hs2⟩ := ob_some.1 hs1
  obtain ⟨hok, hs3⟩ := cnd_some.1 hs2
  obtain ⟨k, hk, hs4⟩ := ob_some.1 hs3
  clear hs hs1 hs2 hs3
  cases hs4
  simp only at hk hok
  unfold apartB at hap
  rw [Bool.and_eq_true] at hap
  have hvs : ∀ id, hasN (visB env o.op) id = true → id < h.nx := fun id hid => Nat.le_of_ble_eq_true (List.all_eq_true.1 hap.1 id (hasN_iff.1 hid))
  generalize hvse : visB env o.op = vs at *
  generalize hwb : writesB o.op = wb at *
  let g := maskG h vs wb
  have hg : ∀ id, g.get id = cnd (hasN vs id) (h.get id) none := fun id => rfl
  -- the heap behind it
  have hkk : k.WF ∧ k.lim = h.lim ∧ k.nx = up.top h.nx ∧ k.get = up.ap h.get ∧ h.nx ≤ k.nx ∧ (∀ id, up.ap h.get id = cnd ((wb && hasN vs id) || (decide (h.nx ≤ id) && decide (id < k.nx))) (up.ap g.get id) (h.get id)) := by
    have hsame : ∀ id, hasN vs id = true → g.get id = h.get id := fun id hid => by rw [hg, hid]; rfl
    have hgt : ∀ id, h.nx ≤ id → g.get id = h.get id := fun id hid => by
      have : hasN vs id = false := by
        cases hb : hasN vs id with
        | false => rfl
        | true => have := hvs id hb; omega
      rw [hg, this, H.get_ge h hid]; rfl
    cases up with
    | nil =>
      cases hk
      refine ⟨hw, rfl, rfl, rfl, Nat.le_refl _, fun id => ?_⟩
      show h.get id = cnd _ (g.get id) (h.get id)
      cases hb : (wb && hasN vs id || decide (h.nx ≤ id) && decide (id < h.nx)) with
      | false => rfl
      | true =>
        rw [Bool.or_eq_true, Bool.and_eq_true, Bool.and_eq_true] at hb
        rcases hb with hb | hb
        · exact (hsame id hb.2).symm
        · simp at hb; omega
    | one id0 b =>
      cases b with
      | none => cases hk
      | some c =>
        cases hk
        have hid0 : id0 = h.nx ∨ (wb = true ∧ hasN vs id0 = true) := by
          unfold upOk at hok
          rw [Bool.or_eq_true, Bool.and_eq_true] at hok
          exact hok.imp Nat.eq_of_beq_eq_true id
        have hle : id0 ≤ h.nx := by
          rcases hid0 with e | ⟨_, e⟩
          · omega
          · have := hvs id0 e; omega
        obtain ⟨k1, k2, k3, k4⟩ := H.upd_wf hw (b := some c) (.inr hle)
        have k4' : (h.upd id0 (some c)).nx = if id0 = h.nx then h.nx + 1 else h.nx := by rw [k4]; simp
        refine ⟨k1, k2, k4', k3, by rw [k4']; split <;> omega, fun id => ?_⟩
        show updF h.get id0 (some c) id = cnd _ (updF g.get id0 (some c) id) (h.get id)
        cases hb : (wb && hasN vs id || decide (h.nx ≤ id) && decide (id < (h.upd id0 (some c)).nx)) with
        | false =>
          have hne : id ≠ id0 := by
            rintro rfl
            rw [Bool.or_eq_false_iff] at hb
            rcases hid0 with e | ⟨e1, e2⟩
            · subst e
              have := hb.2
              rw [k4', if_pos rfl] at this
              simp at this
            · rw [e1, e2] at hb; cases hb.1
          rw [updF_ne _ _ hne]; rfl
        | true =>
          show _ = updF g.get id0 (some c) id
          by_cases e : id = id0
          · subst e; rw [updF_same, updF_same]
          · rw [updF_ne _ _ e, updF_ne _ _ e]
            rw [Bool.or_eq_true, Bool.and_eq_true, Bool.and_eq_true] at hb
            rcases hb with hb | hb
            · exact (hsame id hb.2).symm
            · simp at hb; exact (hgt id hb.1).symm
    | two id0 b id1 b' =>
      cases b with
      | some _ => cases hk
      | none =>
        cases b' with
        | none => cases hk
        | some c =>
          cases hk
          unfold upOk at hok
          rw [Bool.and_eq_true, Bool.and_eq_true] at hok
          have hid1 : id1 = h.nx := Nat.eq_of_beq_eq_true hok.2
          have hid0 := hvs id0 hok.1.2
          subst hid1
          obtain ⟨k1, k2, k3, k4⟩ := H.upd_wf hw (id := id0) (b := none) (.inl rfl)
          have hnx : (h.upd id0 none).nx = h.nx := by rw [k4]; simp
          obtain ⟨j1, j2, j3, j4⟩ := H.upd_wf k1 (id := h.nx) (b := some c) (.inr (by omega))
          have j4' : ((h.upd id0 none).upd h.nx (some c)).nx = h.nx + 1 := by rw [j4, hnx]; simp
          refine ⟨j1, j2.trans k2, by rw [j4']; simp [Up.top], by rw [j3, k3]; rfl, by rw [j4']; omega, fun id => ?_⟩
          show updF (updF h.get id0 none) h.nx (some c) id = cnd _ (updF (updF g.get id0 none) h.nx (some c) id) (h.get id)
          rw [j4']
          cases hb : (wb && hasN vs id || decide (h.nx ≤ id) && decide (id < h.nx + 1)) with
          | false =>
            rw [Bool.or_eq_false_iff] at hb
            have hne : id ≠ h.nx := by
              rintro rfl
              have := hb.2
              simp at this
            have hne0 : id ≠ id0 := by
              rintro rfl
              rw [hok.1.1, hok.1.2] at hb; cases hb.1
            rw [updF_ne _ _ hne, updF_ne _ _ hne0]; rfl
          | true =>
            show _ = updF (updF g.get id0 none) h.nx (some c) id
            by_cases e : id = h.nx
            · subst e; rw [updF_same, updF_same]
            · rw [updF_ne _ _ e, updF_ne _ _ e]
              by_cases e0 : id = id0
              · subst e0; rw [updF_same, updF_same]
              · rw [updF_ne _ _ e0, updF_ne _ _ e0]
                rw [Bool.or_eq_true, Bool.and_eq_true, Bool.and_eq_true] at hb
                rcases hb with hb | hb
                · exact (hsame id hb.2).symm
                · simp at hb; exact (hgt id hb.1).symm
  obtain ⟨a1, a2, a3, a4, a5, a6⟩ := hkk
  have hvin : vin ⟨i, hasN vs, vs.isEmpty, cnd wb (hasN vs) noB, !wb, h.nx, k.nx⟩ h = g.get := by
    funext id
    rw [hg]
    show cnd (hasN vs id && decide (id < h.nx)) (h.get id) none = _
    cases hb : hasN vs id with
    | false => rfl
    | true => rw [decide_eq_true (hvs id hb)]; rfl
  refine ⟨up.ap g.get, ⟨a1, a2, a5, rfl, rfl, rfl, fun hro id hv => ?_, ⟨fun hro id => ?_, fun he id => ?_⟩, fun id => ?_, fun s hs ho id hv => ?_, fun s hs ho hro id hv => ?_, fun Γ F w act env' hso hr' ht hρ next Q n r hp => ?_⟩⟩
  · have : wb = true := by simpa using hro
    subst this
    exact hv
  · have : wb = false := by simpa using hro
    subst this
    rfl
  · have : vs = [] := List.isEmpty_iff.1 he
    subst this
    rfl
  · show k.get id = cnd (!(!wb) && (hasN vs id && decide (id < h.nx)) || _) (up.ap g.get id) (h.get id)
    rw [a4, a6 id]
    congr 1
    rw [Bool.not_not]
    cases hb : hasN vs id with
    | false => simp [srH] <;> rfl
    | true => rw [decide_eq_true (hvs id hb)]; simp [srH] <;> rfl
  · have h1 := List.all_eq_true.1 hap.2 s hs
    rw [ho, Bool.false_or] at h1
    have h2 := List.all_eq_true.1 h1 id (hasN_iff.1 hv)
    rw [Bool.and_eq_true] at h2
    simpa using h2.1
  · have h1 := List.all_eq_true.1 hap.2 s hs
    rw [ho, Bool.false_or] at h1
    have h2 := List.all_eq_true.1 h1 id (hasN_iff.1 hv)
    rw [Bool.and_eq_true] at h2
    have : wb = true := by simpa using hro
    rw [this] at h2
    simpa using h2.2
  · rw [hvin] at hr' hp
    rw [basicB_congr hso] at hr
    obtain ⟨v, w', Γ', hran, hst, hv⟩ := basicB_good (g := g) hr hr' ht hρ
    have hst' : Step C (cnd (!(!wb)) h.lim h.nx) Γ F g.get h.nx w Γ' F (up.ap g.get) k.nx w' := by
      rw [Bool.not_not, a3]; exact hst
    have hn := hp Γ' F v w' hst' hv
    rcases hran with hr | ⟨hr, rfl⟩
    · rw [hr]; exact hn
    · rw [hr]; exact hn

theorem drawC_res (hF : FOk C P cfg E) (hR : ROk C P E) {m i : Nat} {q : Bool} {h : H} {env : Env} {o : Oper} {rs : List Rec} {sr : SR} {rec : Rec} (hw : h.WF) (hrs : ∀ s ∈ rs, RecOk s) (hc : isCall o.op = true)
    (hs : drawC P cfg E m i q h env o.op rs = some (sr, rec)) : ∃ out, StepRes C P m i h env o rs sr rec out := by
  unfold drawC at hs
  simp only at hs
  generalize hq : (q && rs.all fun s => ordd m s || s.emp) = q' at hs
  generalize hpl : (rs.all fun s => ordd m s || s.nothing) = pl at hs
  obtain ⟨sr0, hsr, hs1⟩ := ob_some.1 hs
  have hvpl : pl = true → ∀ id, visC m pl rs id = true := fun hp id => by rw [hp]; rfl
  have core : ∀ (h' k : H), srH sr0 = h' → mergeH q' pl (visC m pl rs) h h' = some k → srH sr = k → srD sr = srD sr0 → ((∃ d x, sr = .val d x) ↔ ∃ d x, sr0 = .val d x) →
      rec = ⟨i, visC m pl rs, false, cnd q' (visC m pl rs) noB, !q', h.nx, k.nx⟩ → ∃ out, StepRes C P m i h env o rs sr rec out := by
    intro h' k hh' hm hk hd hkind hrec
    subst hrec
    obtain ⟨b1, b2, b3, b4, b5⟩ := mergeH_get hw hvpl hm
    have hvin : vin ⟨i, visC m pl rs, false, cnd q' (visC m pl rs) noB, !q', h.nx, k.nx⟩ h = (maskH q' pl (visC m pl rs) h).get := by
      funext id
      rw [maskH_get]
      show cnd (visC m pl rs id && decide (id < h.nx)) (h.get id) none = _
      have e : (pl || visC m pl rs id) = visC m pl rs id := by
        cases hp : pl with
        | false => rfl
        | true => rw [← hp, hvpl hp id, hp]; rfl
      rw [e]
      cases hb : visC m pl rs id with
      | false => rfl
      | true =>
        by_cases hl : id < h.nx
        · rw [decide_eq_true hl]; rfl
        · rw [decide_eq_false hl, H.get_ge h (by omega)]; rfl
    refine ⟨h'.get, ⟨by rw [hk]; exact b1, by rw [hk]; exact b2, by rw [hk]; exact b3, rfl, rfl, by rw [hk], fun hro id hv => ?_, ⟨fun hro id => ?_, fun he => (by cases he)⟩, fun id => ?_, fun s hs ho id hv => ?_, fun s hs ho hro id hv => ?_,
      fun Γ F w act env' hso hr' ht hρ next Q n r hp => ?_⟩⟩
    · have : q' = true := by simpa using hro
      rw [this]; exact hv
    · have : q' = false := by simpa using hro
      rw [this]; rfl
    · rw [hk, b5 id]
      show _ = cnd (!(!q') && _ || _) _ _
      rw [Bool.not_not]
    · have hv : visC m pl rs id = true := hv
      unfold visC at hv
      cases hp : pl with
      | false =>
        rw [hp] at hv
        have := List.all_eq_true.1 hv s hs
        rw [ho, Bool.false_or] at this
        simpa using this
      | true =>
        rw [hp] at hpl
        have := List.all_eq_true.1 hpl s hs
        rw [ho, Bool.false_or] at this
        unfold Rec.nothing at this
        rw [Bool.and_eq_true] at this
        have h1 := (hrs s hs).1 this.1 id
        have h2 := Nat.eq_of_beq_eq_true this.2
        unfold Rec.touch
        rw [h1, Bool.false_or, Bool.and_eq_false_iff]
        by_cases hl : s.lo ≤ id
        · right; exact blt_ge (by omega)
        · left
          cases hb : Nat.ble s.lo id with
          | false => rfl
          | true => exact (hl (Nat.le_of_ble_eq_true hb)).elim
    · have hq1 : q' = true := by simpa using hro
      rw [hq1, Bool.and_eq_true] at hq
      have := List.all_eq_true.1 hq.2 s hs
      rw [ho, Bool.false_or] at this
      exact (hrs s hs).2 this id
    · rw [hvin] at hr' hp
      cases hop : o.op <;> rw [hop] at hc <;> first | (cases hc; done) | skip
      rename_i c
      cases hcc : c.callee <;> simp only [isCall, hcc] at hc <;> first | (cases hc; done) | skip
      rename_i f
      have hsr' : stepOp P cfg E (maskH q' pl (visC m pl rs) h) env' o.op = some sr0 := by
        rw [hop] at hsr hso ⊢
        simp only [stepOp, hcc] at hsr ⊢
        rw [← bCall_congr hcc hso]; exact hsr
      have hA : At C Γ F (maskH q' pl (visC m pl rs) h) w := ⟨maskH_wf hw, hr', fun id hid => ht id (by
        have : (maskH q' pl (visC m pl rs) h).nx = h.nx := by obtain ⟨nx, bx, lim⟩ := h; rfl
        rw [this] at hid; exact hid)⟩
      have hnx : (maskH q' pl (visC m pl rs) h).nx = h.nx := by obtain ⟨nx, bx, lim⟩ := h; rfl
      have hlm : (maskH q' pl (visC m pl rs) h).lim = cnd q' h.lim h.nx := by obtain ⟨nx, bx, lim⟩ := h; rfl
      rw [Bool.not_not] at hp
      refine stepOp_sound hF hR hsr' hA hρ ?_ n
      cases sr0 with
      | val d0 k0 =>
        have hk0 : k0 = h' := hh'
        subst hk0
        obtain ⟨d, x, hsrv⟩ := hkind.2 ⟨d0, k0, rfl⟩
        subst hsrv
        have hx : x = k := hk
        have hdd : d = d0 := hd
        subst hx; subst hdd
        intro Γ' F' v w' h1 _ _ h4
        rw [hnx, hlm, ← b4] at h1
        exact hp Γ' F' v w' h1 h4
      | pan d0 k0 =>
        have hk0 : k0 = h' := hh'
        subst hk0
        cases sr with
        | val d x => obtain ⟨_, _, h⟩ := hkind.1 ⟨d, x, rfl⟩; cases h
        | pan d x =>
          have hx : x = k := hk
          have hdd : d = d0 := hd
          subst hx; subst hdd
          intro Γ' F' v w' h1 _ _ h4
          rw [hnx, hlm, ← b4] at h1
          exact hp Γ' F' v w' h1 h4
  cases sr0 with
  | val d h' =>
    obtain ⟨k, hk, hs2⟩ := ob_some.1 hs1
    cases hs2
    exact core h' k rfl hk rfl rfl (by simp) rfl
  | pan d h' =>
    obtain ⟨k, hk, hs2⟩ := ob_some.1 hs1
    cases hs2
    exact core h' k rfl hk rfl rfl (by simp) rfl

end
end
end Go.Sim
/- The masks of a region that draws its order; what has been laid down of its operations. -/
namespace Go.Sim
variable [Val]
noncomputable section
open Go.RowKit

omit [Val] in
theorem anyB_eq (e : Edge) : Region.binds .any e = anyB e := by
  unfold Region.binds anyB
  cases e.ground <;> rfl

omit [Val] in
theorem orMask_bit (ms : List Nat) (j : Nat) : ∀ (l : List Edge), (orMask ms l).testBit j = true → ∃ e ∈ l, anyB e = true ∧ (e.on = j ∨ ((ms[ms.length - 1 - e.on]?).getD 0).testBit j = true)
  | [], h => by simp [orMask] at h
  | e :: l, h => by
    have h : (cnd (anyB e) ((1 <<< e.on) ||| ((ms[ms.length - 1 - e.on]?).getD 0) ||| orMask ms l) (orMask ms l)).testBit j = true := h
    cases hb : anyB e with
    | false =>
      rw [hb] at h
      obtain ⟨e', h1, h2⟩ := orMask_bit ms j l h
      exact ⟨e', by simp [h1], h2⟩
    | true =>
      rw [hb] at h
      have h : ((1 <<< e.on) ||| ((ms[ms.length - 1 - e.on]?).getD 0) ||| orMask ms l).testBit j = true := h
      rw [Nat.testBit_or, Nat.testBit_or, Bool.or_eq_true, Bool.or_eq_true] at h
      rcases h with (h | h) | h
      · rw [Nat.one_shiftLeft, Nat.testBit_two_pow] at h
        exact ⟨e, by simp, hb, .inl (by simpa using h)⟩
      · exact ⟨e, by simp, hb, .inr h⟩
      · obtain ⟨e', h1, h2⟩ := orMask_bit ms j l h
        exact ⟨e', by simp [h1], h2⟩

omit [Val] in
theorem befs_spec : ∀ (l : List Oper) (ms : List Nat), ∃ ns, (befs ms l).reverse = ms.reverse ++ ns ∧ ns.length = l.length ∧
    ∀ (k : Nat) o, l[k]? = some o → ns[k]? = some (orMask ((ms.reverse ++ ns.take k).reverse) o.after.toList)
  | [], ms => ⟨[], by simp [befs], rfl, fun k o h => by cases h⟩
  | o :: l, ms => by
    obtain ⟨ns, h1, h2, h3⟩ := befs_spec l (orMask ms o.after.toList :: ms)
    refine ⟨orMask ms o.after.toList :: ns, by show (befs (orMask ms o.after.toList :: ms) l).reverse = _; rw [h1]; simp, by simp [h2], fun k o' h => ?_⟩
    cases k with
    | zero => cases h; simp
    | succ k =>
      have := h3 k o' (by simpa using h)
      simp only [List.getElem?_cons_succ, this, List.take_succ_cons]
      simp

/-- the masks of a region -/
def masks (ops : Array Oper) : List Nat := (befs [] ops.toList).reverse

def befM (ops : Array Oper) (i j : Nat) : Bool := ((masks ops)[i]?.getD 0).testBit j

omit [Val] in
theorem masks_length (ops : Array Oper) : (masks ops).length = ops.size := by
  obtain ⟨ns, h1, h2, _⟩ := befs_spec ops.toList []
  unfold masks
  rw [h1]; simpa using h2

omit [Val] in
theorem masked_get {ops : Array Oper} {i : Nat} {o : Oper} (h : ops[i]? = some o) : (masked ops)[i]? = some ((masks ops)[i]?.getD 0, o) := by
  have hi := (Array.getElem?_eq_some_iff.1 h).1
  unfold masked
  have hl : i < (masks ops).length := by rw [masks_length]; exact hi
  have h1 : (masks ops)[i]? = some (masks ops)[i] := List.getElem?_eq_getElem hl
  rw [List.getElem?_zip_eq_some]
  refine ⟨?_, by simpa using h⟩
  show (masks ops)[i]? = some ((masks ops)[i]?.getD 0)
  rw [h1]; rfl

omit [Val] in
theorem masked_length (ops : Array Oper) : (masked ops).length = ops.size := by
  unfold masked
  rw [List.length_zip]
  have := masks_length ops
  unfold masks at this
  rw [this]; simp

omit [Val] in
theorem mask_bit {ops : Array Oper} (hlow : ∀ i o, ops[i]? = some o → ∀ e ∈ o.after, anyB e = true → e.on < i) {i : Nat} {o : Oper} (h : ops[i]? = some o) {j : Nat} (hj : befM ops i j = true) :
    ∃ e ∈ o.after, Region.binds .any e = true ∧ (e.on = j ∨ befM ops e.on j = true) := by
  obtain ⟨ns, h1, h2, h3⟩ := befs_spec ops.toList []
  have hm : masks ops = ns := by unfold masks; rw [h1]; rfl
  have h4 := h3 i o (by simpa using h)
  unfold befM at hj
  rw [hm, h4] at hj
  obtain ⟨e, he, hb, h5⟩ := orMask_bit _ j _ hj
  have he' : e ∈ o.after := by simpa using he
  refine ⟨e, he', by rw [anyB_eq]; exact hb, h5.imp id fun h6 => ?_⟩
  have hl := hlow i o h e he' hb
  have hi := (Array.getElem?_eq_some_iff.1 h).1
  have hln : ns.length = ops.size := by simpa using h2
  unfold befM
  rw [hm]
  have e1 : (([] : List Nat).reverse ++ ns.take i).reverse[(([] : List Nat).reverse ++ ns.take i).reverse.length - 1 - e.on]? = ns[e.on]? := by
    simp only [List.reverse_nil, List.nil_append, List.length_reverse, List.length_take]
    have hmin : min i ns.length = i := by omega
    rw [hmin, List.getElem?_reverse (by rw [List.length_take, hmin]; omega), List.length_take, hmin, show i - 1 - (i - 1 - e.on) = e.on by omega, List.getElem?_take, if_pos hl]
  rw [e1] at h6
  exact h6

omit [Val] in
/-- what a region's check says -/
theorem drawOk_spec {ops : Array Oper} : ∀ (l : List (Nat × Oper)) (i : Nat) (ss : List (Nat × List Nat × Option Nat)), drawOk ops l i ss = true → ∀ (k : Nat) x, l[k]? = some x →
    (∀ e ∈ x.2.after, anyB e = true → e.on < i + k) ∧ (∀ s ∈ ss, pairOk x.1 (rdT ops x.2) x.2.dst s = true) ∧
    ∀ k' y, k' < k → l[k']? = some y → pairOk x.1 (rdT ops x.2) x.2.dst (i + k', rdT ops y.2, y.2.dst) = true
  | [], _, _, _, k, x, hx => by cases hx
  | z :: l, i, ss, h, k, x, hx => by
    have h : (z.2.after.toList.all (fun e => !(anyB e) || Nat.blt e.on i) && ss.all (pairOk z.1 (rdT ops z.2) z.2.dst) && drawOk ops l (i + 1) ((i, rdT ops z.2, z.2.dst) :: ss)) = true := h
    rw [Bool.and_eq_true, Bool.and_eq_true] at h
    obtain ⟨⟨h1, h2⟩, h3⟩ := h
    cases k with
    | zero =>
      cases hx
      refine ⟨fun e he hb => ?_, fun s hs => List.all_eq_true.1 h2 s hs, fun k' y hk => by omega⟩
      have := List.all_eq_true.1 h1 e (by simpa using he)
      rw [hb] at this
      exact Nat.le_of_ble_eq_true this
    | succ k =>
      obtain ⟨a1, a2, a3⟩ := drawOk_spec l (i + 1) _ h3 k x (by simpa using hx)
      refine ⟨fun e he hb => by have := a1 e he hb; omega, fun s hs => a2 s (by simp [hs]), fun k' y hk hy => ?_⟩
      cases k' with
      | zero => cases hy; exact a2 _ (by simp)
      | succ k' =>
        have := a3 k' y (by omega) (by simpa using hy)
        rw [show i + 1 + k' = i + (k' + 1) by omega] at this
        exact this

omit [Val] in
theorem hit_iff {o : Option Nat} {l : List Nat} : hit o l = false ↔ ∀ t, o = some t → t ∉ l := by
  cases o with
  | none => simp [hit]
  | some t =>
    show hasN l t = false ↔ _
    constructor
    · intro h u hu hm
      cases hu
      rw [hasN_iff.2 hm] at h; cases h
    · intro h
      cases hb : hasN l t with
      | false => rfl
      | true => exact (h t rfl (hasN_iff.1 hb)).elim

omit [Val] in
theorem sameT_iff {a b : Option Nat} : sameT a b = false ↔ ∀ t, a = some t → b ≠ some t := by
  cases a with
  | none => simp [sameT]
  | some t =>
    cases b with
    | none => simp [sameT]
    | some u =>
      show Nat.beq t u = false ↔ _
      constructor
      · intro h x hx hy
        cases hx; cases hy
        rw [beq_self] at h; cases h
      · intro h
        exact beq_ne fun e => h t rfl (by rw [e])

/-! ### operations laid down one by one -/

def setA (A : Nat → AOp) (i : Nat) (x : AOp) : Nat → AOp := fun j => if j = i then x else A j

omit [Val] in
theorem setA_same (A : Nat → AOp) (i : Nat) (x : AOp) : setA A i x i = x := by simp [setA]
omit [Val] in
theorem setA_ne (A : Nat → AOp) {i j : Nat} (x : AOp) (h : j ≠ i) : setA A i x j = A j := by simp [setA, h]

omit [Val] in
theorem rep_congr {κ β : Type} {t t' : Nat → κ → Bool} {v v' : Nat → κ → β} {x0 : κ → β} {S : Nat → Bool} : ∀ n, (∀ j, j < n → t j = t' j ∧ v j = v' j) → rep t v x0 S n = rep t' v' x0 S n
  | 0, _ => rfl
  | n + 1, h => by
    funext k
    show cnd (S n && t n k) (v n k) (rep t v x0 S n k) = cnd (S n && t' n k) (v' n k) (rep t' v' x0 S n k)
    rw [rep_congr n fun j hj => h j (by omega), (h n (by omega)).1, (h n (by omega)).2]

section
variable {A : Nat → AOp} {g0 : Nat → Option Box} {e0 : Nat → D} {nx0 i : Nat} {x : AOp} {S : Nat → Bool}

omit [Val] in
theorem hv_set {m : Nat} (hm : m ≤ i) : hv (setA A i x) g0 nx0 S m = hv A g0 nx0 S m :=
  rep_congr m fun j hj => by rw [setA_ne A x (by omega)]; exact ⟨rfl, rfl⟩

omit [Val] in
theorem evn_set {m : Nat} (hm : m ≤ i) : evn (setA A i x) e0 nx0 S m = evn A e0 nx0 S m :=
  rep_congr m fun j hj => by rw [setA_ne A x (by omega)]; exact ⟨rfl, rfl⟩

omit [Val] in
theorem hin_set {m : Nat} (hm : m < i) : hin (setA A i x) g0 nx0 m = hin A g0 nx0 m := by
  unfold hin
  rw [hv_set (by omega), setA_ne A x (by omega)]

def nxA (A : Nat → AOp) (nx0 : Nat) : Nat → Nat
  | 0 => nx0
  | k + 1 => (A k).hi

omit [Val] in
theorem nxA_set {m : Nat} (hm : m ≤ i) : nxA (setA A i x) nx0 m = nxA A nx0 m := by
  cases m with
  | zero => rfl
  | succ k => show (setA A i x k).hi = (A k).hi; rw [setA_ne A x (by omega)]

theorem Snd_set {C : Code → Prop} {P : Program} {ops : Array Oper} {r : Option Nat} {nn lim N : Nat} {j : Nat} {o : Oper} (hj : j < i) :
    Snd C P ops r nn lim N (setA A i x) g0 e0 nx0 j o ↔ Snd C P ops r nn lim N A g0 e0 nx0 j o := by
  unfold Snd
  rw [hin_set hj, evn_set (Nat.le_of_lt hj), setA_ne A x (by omega)]

theorem SndP_set {C : Code → Prop} {P : Program} {ops : Array Oper} {r : Option Nat} {nn lim N : Nat} {j : Nat} (hj : j < i) :
    SndP C P ops r nn lim N (setA A i x) g0 e0 nx0 j ↔ SndP C P ops r nn lim N A g0 e0 nx0 j := by
  unfold SndP
  rw [hin_set hj, evn_set (Nat.le_of_lt hj), setA_ne A x (by omega)]

end
end
end Go.Sim
/- A region that draws its order: its operations are laid down one by one. -/
namespace Go.Sim
variable [Val]
noncomputable section
open Go.RowKit

omit [Val] in
theorem look_filter (f : Nat → Bool) : ∀ (e : Env) (t : Nat), look (e.filter fun p => f p.1) t = if f t then look e t else .undef
  | [], t => by
    have : look (List.filter (fun p => f p.1) []) t = .undef := rfl
    rw [this, look_nil]; simp
  | (u, d) :: e, t => by
    rw [List.filter_cons]
    cases hb : f u with
    | true =>
      rw [if_pos rfl]
      by_cases hu : u = t
      · subst hu
        rw [look_cons_same, look_cons_same, if_pos hb]
      · rw [look_cons_ne _ _ hu, look_cons_ne _ _ hu, look_filter f e t]
    | false =>
      rw [if_neg (by simp), look_filter f e t]
      by_cases hu : u = t
      · subst hu
        rw [if_neg (by simpa using hb), if_neg (by simpa using hb)]
      · rw [look_cons_ne _ _ hu]

omit [Val] in
theorem mem_rdT {ops : Array Oper} {o : Oper} {t : Nat} (h : Operand.tmp t ∈ o.op.operands.toList) : t ∈ rdT ops o := by
  unfold rdT
  refine List.mem_append_left _ (List.mem_filterMap.2 ⟨_, h, rfl⟩)

omit [Val] in
theorem sameOn_filter {ops : Array Oper} {o : Oper} (env : Env) : SameOn env (env.filter fun p => hasN (rdT ops o) p.1) o.op.operands.toList := by
  intro x hx
  cases x with
  | tmp t =>
    show some (look env t) = some (look _ t)
    rw [look_filter, if_pos (hasN_iff.2 (mem_rdT hx))]
  | const v => rfl
  | func f => rfl
  | global g => rfl

omit [Val] in
theorem wantedD_filter {ops : Array Oper} {o : Oper} (env : Env) : wantedD ops (env.filter fun p => hasN (rdT ops o) p.1) o.guard = wantedD ops env o.guard := by
  cases hg : o.guard with
  | none => rfl
  | some p =>
    obtain ⟨j, want⟩ := p
    show (dstAt ops j).ob _ = (dstAt ops j).ob _
    cases hd : dstAt ops j with
    | none => rfl
    | some t =>
      have hm : hasN (rdT ops o) t = true := by
        refine hasN_iff.2 ?_
        unfold rdT
        rw [hg]
        refine List.mem_append_right _ ?_
        show t ∈ (dstAt ops j).toList
        rw [hd]; simp
      show (match look (env.filter fun p => hasN (rdT ops o) p.1) t with | .bool b => some (b == want) | .tup _ => some false | _ => none) = (match look env t with | .bool b => some (b == want) | .tup _ => some false | _ => none)
      rw [look_filter, if_pos hm]

section
variable {C : Code → Prop} {P : Program} {cfg : FuncId → FInfo} {E : Ev}

theorem drawStep_res (hF : FOk C P cfg E) (hR : ROk C P E) {m i : Nat} {q : Bool} {h : H} {env : Env} {o : Oper} {rs : List Rec} {sr : SR} {rec : Rec} (hw : h.WF) (hrs : ∀ s ∈ rs, RecOk s)
    (hs : drawStep P cfg E m i q h env o.op rs = some (sr, rec)) : (∃ out, StepRes C P m i h env o rs sr rec out) ∧ ∀ c, o.op ≠ .defer c := by
  unfold drawStep at hs
  cases hc : isCall o.op with
  | true =>
    rw [hc] at hs
    exact ⟨drawC_res hF hR hw hrs hc hs, fun c h => by rw [h] at hc; cases hc⟩
  | false =>
    rw [hc] at hs
    refine ⟨drawB_res hw hs, fun c h => ?_⟩
    obtain ⟨_, hs1⟩ := cnd_some.1 hs
    obtain ⟨r, hr, _⟩ := ob_some.1 hs1
    rw [h] at hr
    cases hr

/-- an operation by its record -/
def aop (rec : Rec) (rd : List Nat) (dst : Option Nat) (d : D) (out : Nat → Option Box) : AOp := ⟨rec.vis, !rec.ro, rec.lo, rec.hi, out, rd, dst, d⟩

/-- one that does nothing -/
def idle (nx : Nat) (rd : List Nat) (dst : Option Nat) (d : D) : AOp := ⟨noB, false, nx, nx, fun _ => none, rd, dst, d⟩

/-- which operations may run if the one at 'pan' panics -/
def may (ops : Array Oper) (pan : Option Nat) (i : Nat) : Prop := ∀ p, pan = some p → i ≠ p ∧ befM ops i p = false

structure Pre (C : Code → Prop) (P : Program) (ops : Array Oper) (lim N : Nat) (g0 : Nat → Option Box) (e0 : Nat → D) (nx0 : Nat) (st : St) (dfs : List Dfr) (A : Nat → AOp) (pan : Option Nat) (i : Nat) (a : Go.Sim.A) (h : H) (rs : List Rec) : Prop where
  wf : h.WF
  hlim : h.lim = lim
  hst : a.st = st
  hdfs : a.dfs = dfs
  nx : nxA A nx0 i = h.nx
  get : ∀ id, (hv A g0 nx0 allS i id).1 = h.get id
  env : ∀ t, (evn A e0 nx0 allS i t).1 = look a.env t
  lohi : ∀ j, j < i → (A j).lo = nxA A nx0 j ∧ (A j).lo ≤ (A j).hi
  c1 : ∀ x y, y < x → x < i → befM ops x y = false → ∀ id, (A x).R id = true → (A y).touch id = false
  c2 : ∀ x y, y < x → x < i → befM ops x y = false → ∀ id, (A x).W id = true → (A y).R id = false
  recs : ∀ j, j < i → (∃ s ∈ rs, s.idx = j ∧ (∀ id, (A j).R id = s.vis id) ∧ (∀ id, (A j).touch id = true → s.touch id = true) ∧ (s.nothing = true → ∀ id, (A j).touch id = false)) ∨
    ((∀ id, (A j).R id = false) ∧ ∀ id, (A j).touch id = false)
  rok : ∀ s ∈ rs, RecOk s
  tm : ∀ j o, j < i → ops[j]? = some o → (∀ t ∈ (A j).rd, t ∈ rdT ops o) ∧ ((A j).dst = none ∨ (A j).dst = o.dst)
  snd : ∀ j o, j < i → ops[j]? = some o → may ops pan j → ((A j).dst = o.dst ∧ ∀ t, o.dst = some t → t < N) ∧ ∀ r nn, Snd C P ops r nn lim N A g0 e0 nx0 j o
  hpan : ∀ p, pan = some p → p < i ∧ ∀ r nn, SndP C P ops r nn lim N A g0 e0 nx0 p
  noth : ∀ p, pan = some p → ∀ j, j < i → j ≠ p → befM ops p j = false → ∀ id, (A j).touch id = true → befM ops j p = true

variable {ops : Array Oper} {lim N : Nat} {g0 : Nat → Option Box} {e0 : Nat → D} {nx0 : Nat} {st : St} {dfs : List Dfr} {A : Nat → AOp} {pan : Option Nat} {i : Nat} {a : Go.Sim.A} {h : H} {rs : List Rec}

theorem Pre.ext (hp : Pre C P ops lim N g0 e0 nx0 st dfs A pan i a h rs) {x : AOp} {pan' : Option Nat} {a' : Go.Sim.A} {h' : H} {rs' : List Rec} {o : Oper} (ho : ops[i]? = some o)
    (hpan : pan' = pan ∨ (pan = none ∧ pan' = some i))
    (wf : h'.WF) (hlim : h'.lim = lim) (hst : a'.st = st) (hdfs : a'.dfs = dfs) (hlo : x.lo = h.nx) (hle : x.lo ≤ x.hi) (hhi : x.hi = h'.nx)
    (get : ∀ id, h'.get id = cnd (x.touch id) (x.out id) (h.get id)) (env : ∀ t, look a'.env t = cnd (x.sets t) x.d (look a.env t))
    (c1 : ∀ s ∈ rs, befM ops i s.idx = false → ∀ id, x.R id = true → s.touch id = false) (c2 : ∀ s ∈ rs, befM ops i s.idx = false → ∀ id, x.W id = true → s.vis id = false)
    (recs : (∃ s, rs' = s :: rs ∧ RecOk s ∧ s.idx = i ∧ (∀ id, x.R id = s.vis id) ∧ (∀ id, x.touch id = true → s.touch id = true) ∧ (s.nothing = true → ∀ id, x.touch id = false)) ∨ (rs' = rs ∧ (∀ id, x.R id = false) ∧ ∀ id, x.touch id = false))
    (tm : (∀ t ∈ x.rd, t ∈ rdT ops o) ∧ (x.dst = none ∨ x.dst = o.dst))
    (snd : may ops pan' i → (x.dst = o.dst ∧ ∀ t, o.dst = some t → t < N) ∧ ∀ r nn, Snd C P ops r nn lim N (setA A i x) g0 e0 nx0 i o)
    (panp : pan' = some i → ∀ r nn, SndP C P ops r nn lim N (setA A i x) g0 e0 nx0 i)
    (noth : ∀ p, pan' = some p → ∀ j, j < i + 1 → j ≠ p → befM ops p j = false → ∀ id, (setA A i x j).touch id = true → befM ops j p = true) :
    Pre C P ops lim N g0 e0 nx0 st dfs (setA A i x) pan' (i + 1) a' h' rs' := by
  have hsame := setA_same A i x
  have hne : ∀ {j}, j < i → setA A i x j = A j := fun {j} h => setA_ne A x (by omega)
  have hrs : ∀ s ∈ rs, s ∈ rs' := fun s hs => by
    rcases recs with ⟨s', rfl, _⟩ | ⟨rfl, _⟩
    · exact List.mem_cons_of_mem _ hs
    · exact hs
  have hmay : ∀ j, j < i → may ops pan' j → may ops pan j := fun j hj h p hpp => by
    rcases hpan with rfl | ⟨hn, _⟩
    · exact h p hpp
    · rw [hn] at hpp; cases hpp
  refine ⟨wf, hlim, hst, hdfs, ?_, fun id => ?_, fun t => ?_, fun j hj => ?_, fun u v huv hu hb id hR => ?_, fun u v huv hu hb id hW => ?_, fun j hj => ?_, fun s hs => ?_, fun j oj hj hoj => ?_, fun j oj hj hoj hm => ?_, fun p hpp => ?_, noth⟩
  · show (setA A i x i).hi = h'.nx
    rw [hsame]; exact hhi
  · show (cnd (allS i && (setA A i x i).touch id) ((setA A i x i).out id, (setA A i x i).hi) (hv (setA A i x) g0 nx0 allS i id)).1 = _
    rw [hsame, hv_set (Nat.le_refl _), get id]
    show (cnd (true && x.touch id) (x.out id, x.hi) (hv A g0 nx0 allS i id)).1 = _
    rw [Bool.true_and]
    cases x.touch id with
    | true => rfl
    | false => exact hp.get id
  · show (cnd (allS i && (setA A i x i).sets t) ((setA A i x i).d, (setA A i x i).hi) (evn (setA A i x) e0 nx0 allS i t)).1 = _
    rw [hsame, evn_set (Nat.le_refl _), env t]
    show (cnd (true && x.sets t) (x.d, x.hi) (evn A e0 nx0 allS i t)).1 = _
    rw [Bool.true_and]
    cases x.sets t with
    | true => rfl
    | false => exact hp.env t
  · by_cases e : j = i
    · subst e
      rw [hsame, nxA_set (Nat.le_refl _), hp.nx]
      exact ⟨hlo, hle⟩
    · rw [hne (by omega), nxA_set (by omega)]
      exact hp.lohi j (by omega)
  · by_cases e : u = i
    · subst e
      rw [hsame] at hR
      rw [hne huv]
      rcases hp.recs v huv with ⟨s, hs, h1, _, h3, _⟩ | ⟨_, h2⟩
      · cases hb2 : (A v).touch id with
        | false => rfl
        | true =>
          have := c1 s hs (by rw [h1]; exact hb) id hR
          rw [h3 id hb2] at this; cases this
      · exact h2 id
    · rw [hne (show u < i by omega)] at hR
      rw [hne (show v < i by omega)]
      exact hp.c1 u v huv (by omega) hb id hR
  · by_cases e : u = i
    · subst e
      rw [hsame] at hW
      rw [hne huv]
      rcases hp.recs v huv with ⟨s, hs, h1, h2, _⟩ | ⟨h2, _⟩
      · rw [h2]; exact c2 s hs (by rw [h1]; exact hb) id hW
      · exact h2 id
    · rw [hne (show u < i by omega)] at hW
      rw [hne (show v < i by omega)]
      exact hp.c2 u v huv (by omega) hb id hW
  · by_cases e : j = i
    · subst e
      rw [hsame]
      rcases recs with ⟨s, rfl, _, h2⟩ | ⟨_, h2⟩
      · exact .inl ⟨s, by simp, h2⟩
      · exact .inr h2
    · rw [hne (show j < i by omega)]
      rcases hp.recs j (by omega) with ⟨s, hs, h1⟩ | h1
      · exact .inl ⟨s, hrs s hs, h1⟩
      · exact .inr h1
  · rcases recs with ⟨s', rfl, h1, _⟩ | ⟨rfl, _⟩
    · rcases List.mem_cons.1 hs with rfl | hs
      · exact h1
      · exact hp.rok s hs
    · exact hp.rok s hs
  · by_cases e : j = i
    · subst e
      rw [ho] at hoj; cases hoj
      rw [hsame]; exact tm
    · rw [hne (show j < i by omega)]
      exact hp.tm j oj (by omega) hoj
  · by_cases e : j = i
    · subst e
      rw [ho] at hoj; cases hoj
      rw [hsame]; exact snd hm
    · obtain ⟨h1, h2⟩ := hp.snd j oj (by omega) hoj (hmay j (by omega) hm)
      refine ⟨by rw [hne (show j < i by omega)]; exact h1, fun r nn => (Snd_set (by omega)).2 (h2 r nn)⟩
  · by_cases e : p = i
    · subst e
      exact ⟨by omega, panp hpp⟩
    · rcases hpan with rfl | ⟨_, h2⟩
      · obtain ⟨h1, h2⟩ := hp.hpan p hpp
        exact ⟨by omega, fun r nn => (SndP_set h1).2 (h2 r nn)⟩
      · rw [h2] at hpp; cases hpp; exact (e rfl).elim

end
end
end Go.Sim
/- A region that draws its order: each operation of the text's run is laid down. -/
namespace Go.Sim
variable [Val]
noncomputable section
open Go.RowKit

def setsT (dst : Option Nat) (t : Nat) : Bool := match dst with | some u => decide (u = t) | none => false

omit [Val] in
theorem putA_spec {a a' : A} {dst : Option Tmp} {d : D} (h : putA a dst d = some a') : a'.st = a.st ∧ a'.dfs = a.dfs ∧ (∀ t, dst = some t → t < a.st.n) ∧
    ∀ t, look a'.env t = cnd (setsT dst t) d (look a.env t) := by
  obtain ⟨st, env, dfs⟩ := a
  cases dst with
  | none => cases h; exact ⟨rfl, rfl, (fun t h => by cases h), fun t => rfl⟩
  | some u =>
    obtain ⟨hb, h⟩ := cnd_some.1 h
    cases h
    refine ⟨rfl, rfl, (fun t h => by cases h; exact Nat.le_of_ble_eq_true hb), fun t => ?_⟩
    show look ((u, d) :: env) t = cnd (decide (u = t)) d (look env t)
    by_cases e : u = t
    · subst e; rw [look_cons_same, decide_eq_true rfl]; rfl
    · rw [look_cons_ne _ _ e, decide_eq_false e]; rfl

section
variable {C : Code → Prop} {P : Program} {cfg : FuncId → FInfo} {E : Ev}
variable {ops : Array Oper} {lim N : Nat} {g0 : Nat → Option Box} {e0 : Nat → D} {nx0 : Nat} {st : St} {dfs : List Dfr} {A : Nat → AOp} {pan : Option Nat} {i : Nat} {a : Go.Sim.A} {h : H} {rs : List Rec}

theorem wp_core (hp : Pre C P ops lim N g0 e0 nx0 st dfs A pan i a h rs) {m : Nat} {o : Oper} (ho : ops[i]? = some o) {sr : SR} {rec : Rec} {out : Nat → Option Box} (hres : StepRes C P m i h a.env o rs sr rec out)
    (hnd : ∀ c, o.op ≠ .defer c) (hgo : wantedD ops a.env o.guard = some true) {dst : Option Nat} {d : D} (r : Option Nat) (nn : Nat) (Q : Exit → Act → World → Prop) (Γ : Gam) (F : Nat → Prop) (w : World) (act : Act) (next : Act → World → Prop)
    (hr : Rel C Γ F w (hin (setA A i (aop rec (rdT ops o) dst d out)) g0 nx0 i)) (ht : ∀ id, (setA A i (aop rec (rdT ops o) dst d out) i).lo ≤ id → Γ id = none)
    (hrd : ∀ t ∈ (setA A i (aop rec (rdT ops o) dst d out) i).rd, VRel Γ F w (evn (setA A i (aop rec (rdT ops o) dst d out)) e0 nx0 allS i t).1 (act.tmps.getD t undef))
    (hpost : DPost C ((setA A i (aop rec (rdT ops o) dst d out) i).limOf lim) (hin (setA A i (aop rec (rdT ops o) dst d out)) g0 nx0 i) (setA A i (aop rec (rdT ops o) dst d out) i).lo (setA A i (aop rec (rdT ops o) dst d out) i).out
      (setA A i (aop rec (rdT ops o) dst d out) i).hi o Γ F w act sr next Q) : wpOpIn (W r) nn P ops Q i next act w := by
  have hh : hin (setA A i (aop rec (rdT ops o) dst d out)) g0 nx0 i = vin rec h := by
    funext id
    unfold hin vin
    rw [hv_set (Nat.le_refl _), setA_same, hp.get id]
    show cnd (rec.vis id && decide (id < rec.lo)) _ _ = _
    rw [hres.lo]
  rw [hh] at hr hpost
  rw [setA_same] at ht hrd hpost
  have hlo : (aop rec (rdT ops o) dst d out).lo = h.nx := hres.lo
  have hhi : (aop rec (rdT ops o) dst d out).hi = (srH sr).nx := hres.hi
  have hlm : (aop rec (rdT ops o) dst d out).limOf lim = cnd (!rec.ro) h.lim h.nx := by
    show cnd (!rec.ro) lim rec.lo = _
    rw [hp.hlim, hres.lo]
  rw [hlo, hhi, hlm] at hpost
  rw [hlo] at ht
  have henv : EnvRel Γ F w (a.env.filter fun p => hasN (rdT ops o) p.1) act.tmps := fun t => by
    rw [look_filter]
    by_cases hm : t ∈ rdT ops o
    · rw [if_pos (hasN_iff.2 hm)]
      have := hrd t hm
      rw [evn_set (Nat.le_refl _), hp.env t] at this
      exact this
    · rw [if_neg (fun h => hm (hasN_iff.1 h))]
      exact .undef _
  have hw : Region.wanted o (yielded ops act.tmps) = true := wanted_rel (by rw [wantedD_filter]; exact hgo) henv
  unfold wpOpIn
  simp only [ho, hw, if_true]
  refine ⟨fun f _ => W_fn r f, ?_⟩
  rw [Oper.semAt_eq _ _ _ (fun c hc => hnd c hc)]
  exact hres.snd Γ F w act _ (sameOn_filter a.env) hr ht (opR_of_env henv) next Q nn r hpost

theorem snd_of_res (hp : Pre C P ops lim N g0 e0 nx0 st dfs A pan i a h rs) {m : Nat} {o : Oper} (ho : ops[i]? = some o) {d : D} {k : H} {rec : Rec} {out : Nat → Option Box} (hres : StepRes C P m i h a.env o rs (.val d k) rec out)
    (hnd : ∀ c, o.op ≠ .defer c) (hgo : wantedD ops a.env o.guard = some true) {dst : Option Nat} (r : Option Nat) (nn : Nat) : Snd C P ops r nn lim N (setA A i (aop rec (rdT ops o) dst d out)) g0 e0 nx0 i o := by
  intro Q Γ F w act _ hr ht hrd Z hZ
  refine wp_core hp ho hres hnd hgo r nn Q Γ F w act _ hr ht hrd ?_
  intro Γ' F' v w' hs hv
  refine ⟨v, rfl, hZ Γ' F' v w' hs ?_⟩
  rw [setA_same]; exact hv

theorem sndP_of_res (hp : Pre C P ops lim N g0 e0 nx0 st dfs A pan i a h rs) {m : Nat} {o : Oper} (ho : ops[i]? = some o) {d : D} {k : H} {rec : Rec} {out : Nat → Option Box} (hres : StepRes C P m i h a.env o rs (.pan d k) rec out)
    (hnd : ∀ c, o.op ≠ .defer c) (hgo : wantedD ops a.env o.guard = some true) {dst : Option Nat} (r : Option Nat) (nn : Nat) : SndP C P ops r nn lim N (setA A i (aop rec (rdT ops o) dst d out)) g0 e0 nx0 i := by
  intro Q K Γ F w act _ hr ht hrd hZ
  refine wp_core hp ho hres hnd hgo r nn Q Γ F w act K hr ht hrd ?_
  intro Γ' F' v w' hs hv
  refine hZ Γ' F' v w' hs ?_
  rw [setA_same]; exact hv

theorem aop_touch {m : Nat} {o : Oper} {sr : SR} {rec : Rec} {out : Nat → Option Box} {rd : List Nat} {dst : Option Nat} {d : D} {env : Env} (hres : StepRes C P m i h env o rs sr rec out) (id : Nat) :
    (aop rec rd dst d out).touch id = ((!rec.ro && (rec.vis id && decide (id < h.nx))) || (decide (h.nx ≤ id) && decide (id < (srH sr).nx))) := by
  show ((!rec.ro && (rec.vis id && decide (id < rec.lo))) || (decide (rec.lo ≤ id) && decide (id < rec.hi))) = _
  rw [hres.lo, hres.hi]

theorem aop_rec {m : Nat} {o : Oper} {sr : SR} {rec : Rec} {out : Nat → Option Box} {rd : List Nat} {dst : Option Nat} {d : D} {env : Env} (hres : StepRes C P m i h env o rs sr rec out) :
    (∀ id, (aop rec rd dst d out).touch id = true → rec.touch id = true) ∧ (rec.nothing = true → ∀ id, (aop rec rd dst d out).touch id = false) := by
  constructor
  · intro id ht
    rcases AOp.touch_iff.1 ht with ⟨h1, h2, h3⟩ | ⟨h1, h2⟩
    · unfold Rec.touch
      rw [hres.wr (by have : (!rec.ro) = true := h1; simpa using this) id h2]; rfl
    · unfold Rec.touch
      have h1 : rec.lo ≤ id := h1
      have h2 : id < rec.hi := h2
      rw [Nat.ble_eq_true_of_le h1, blt_lt h2]; simp
  · intro hn id
    unfold Rec.nothing at hn
    rw [Bool.and_eq_true] at hn
    have hlh := Nat.eq_of_beq_eq_true hn.2
    cases hb : (aop rec rd dst d out).touch id with
    | false => rfl
    | true =>
      rcases AOp.touch_iff.1 hb with ⟨h1, _⟩ | ⟨h1, h2⟩
      · have : (!rec.ro) = true := h1
        rw [hn.1] at this; cases this
      · have h1 : rec.lo ≤ id := h1
        have h2 : id < rec.hi := h2
        omega

/-- an operation that ran -/
theorem pre_val (hF : FOk C P cfg E) (hR : ROk C P E) (hp : Pre C P ops lim N g0 e0 nx0 st dfs A pan i a h rs) (hN : st.n = N) {o : Oper} (ho : ops[i]? = some o) (hgo : wantedD ops a.env o.guard = some true) {q : Bool} {d : D} {k : H} {rec : Rec}
    (hs : drawStep P cfg E ((masks ops)[i]?.getD 0) i q h a.env o.op rs = some (.val d k, rec)) {a' : Go.Sim.A} (hput : putA a o.dst d = some a') {h' : H} (hh : (pan = none ∧ h' = k) ∨ (rec.nothing = true ∧ h' = h)) :
    ∃ x, Pre C P ops lim N g0 e0 nx0 st dfs (setA A i x) pan (i + 1) a' h' (rec :: rs) := by
  obtain ⟨⟨out, hres⟩, hnd⟩ := drawStep_res hF hR hp.wf hp.rok hs
  obtain ⟨p1, p2, p3, p4⟩ := putA_spec hput
  obtain ⟨t1, t2⟩ := aop_rec (rd := rdT ops o) (dst := o.dst) (d := d) hres
  refine ⟨aop rec (rdT ops o) o.dst d out, hp.ext ho (.inl rfl) ?_ ?_ (p1.trans hp.hst) (p2.trans hp.hdfs) hres.lo ?_ ?_ (fun id => ?_) (fun t => ?_) (fun s hs hb id hR => hres.c1 s hs hb id hR) (fun s hs hb id hW => ?_)
    (.inl ⟨rec, rfl, hres.ok, hres.idx, fun _ => rfl, t1, t2⟩) ⟨fun t ht => ht, .inr rfl⟩ (fun _ => ⟨⟨rfl, fun t ht => ?_⟩, fun r nn => snd_of_res hp ho hres hnd hgo r nn⟩) (fun hpp => ?_) (fun p hpp j hj hjp hb id ht => ?_)⟩
  · rcases hh with ⟨_, rfl⟩ | ⟨_, rfl⟩
    · exact hres.wf
    · exact hp.wf
  · rcases hh with ⟨_, rfl⟩ | ⟨_, rfl⟩
    · exact hres.lim.trans hp.hlim
    · exact hp.hlim
  · show rec.lo ≤ rec.hi
    rw [hres.lo, hres.hi]; exact hres.le
  · rcases hh with ⟨_, rfl⟩ | ⟨hn, rfl⟩
    · exact hres.hi
    · unfold Rec.nothing at hn
      rw [Bool.and_eq_true] at hn
      have := Nat.eq_of_beq_eq_true hn.2
      show rec.hi = _
      rw [← this, hres.lo]
  · rcases hh with ⟨_, rfl⟩ | ⟨hn, rfl⟩
    · rw [aop_touch hres]; exact hres.get id
    · rw [t2 hn id]; rfl
  · exact p4 t
  · have hW := AOp.W_iff.1 hW
    exact hres.c2 s hs hb (by have : (!rec.ro) = true := hW.1; simpa using this) id hW.2.1
  · have := p3 t ht
    rw [hp.hst, hN] at this; exact this
  · have := (hp.hpan i hpp).1; omega
  · by_cases e : j = i
    · subst e
      rw [setA_same] at ht
      rcases hh with ⟨hn, _⟩ | ⟨hn, _⟩
      · rw [hn] at hpp; cases hpp
      · rw [t2 hn id] at ht; cases ht
    · rw [setA_ne A _ e] at ht
      exact hp.noth p hpp j (by omega) hjp hb id ht

omit [Val] in
theorem idle_touch (nx : Nat) (rd : List Nat) (dst : Option Nat) (d : D) (id : Nat) : (idle nx rd dst d).touch id = false := by
  cases hb : (idle nx rd dst d).touch id with
  | false => rfl
  | true =>
    rcases AOp.touch_iff.1 hb with ⟨h1, _⟩ | ⟨h1, h2⟩
    · cases h1
    · have h1 : nx ≤ id := h1
      have h2 : id < nx := h2
      omega

/-- one that was not wanted -/
theorem pre_skip (hp : Pre C P ops lim N g0 e0 nx0 st dfs A pan i a h rs) (hN : st.n = N) {o : Oper} (ho : ops[i]? = some o) (hgo : wantedD ops a.env o.guard = some false) {a' : Go.Sim.A} (hput : putA a o.dst (.tup []) = some a') :
    ∃ x, Pre C P ops lim N g0 e0 nx0 st dfs (setA A i x) pan (i + 1) a' h rs := by
  obtain ⟨p1, p2, p3, p4⟩ := putA_spec hput
  refine ⟨idle h.nx (rdT ops o) o.dst (.tup []), hp.ext ho (.inl rfl) hp.wf hp.hlim (p1.trans hp.hst) (p2.trans hp.hdfs) rfl (Nat.le_refl _) rfl (fun id => by rw [idle_touch]; rfl) p4 (fun s hs hb id hR => by cases hR) (fun s hs hb id hW => by cases (AOp.W_iff.1 hW).1)
    (.inr ⟨rfl, fun _ => rfl, idle_touch _ _ _ _⟩) ⟨fun t ht => ht, .inr rfl⟩ (fun _ => ⟨⟨rfl, fun t ht => ?_⟩, fun r nn => ?_⟩) (fun hpp => ?_) (fun p hpp j hj hjp hb id ht => ?_)⟩
  · have := p3 t ht
    rw [hp.hst, hN] at this; exact this
  · intro Q Γ F w act _ hr ht hrd Z hZ
    have hh : hin (setA A i (idle h.nx (rdT ops o) o.dst (.tup []))) g0 nx0 i = fun _ => none := by
      funext id
      unfold hin
      rw [setA_same]; rfl
    rw [hh] at hr hZ
    rw [setA_same] at ht hrd hZ
    have henv : EnvRel Γ F w (a.env.filter fun p => hasN (rdT ops o) p.1) act.tmps := fun t => by
      rw [look_filter]
      by_cases hm : t ∈ rdT ops o
      · rw [if_pos (hasN_iff.2 hm)]
        have := hrd t hm
        rw [evn_set (Nat.le_refl _), hp.env t] at this
        exact this
      · rw [if_neg (fun h => hm (hasN_iff.1 h))]
        exact .undef _
    have hw : Region.wanted o (yielded ops act.tmps) = false := wanted_rel (by rw [wantedD_filter]; exact hgo) henv
    unfold wpOpIn
    simp only [ho, hw, Bool.false_eq_true, if_false]
    exact ⟨fun f _ => W_fn r f, undef, rfl, hZ Γ F undef w (Step.refl hr ht) (.tup [] #[] rfl (fun _ _ _ h => by simp at h))⟩
  · have := (hp.hpan i hpp).1; omega
  · by_cases e : j = i
    · subst e
      rw [setA_same, idle_touch] at ht; cases ht
    · rw [setA_ne A _ e] at ht
      exact hp.noth p hpp j (by omega) hjp hb id ht

/-- one that never runs, for it is forced behind the one that panics -/
theorem pre_never (hp : Pre C P ops lim N g0 e0 nx0 st dfs A pan i a h rs) {o : Oper} (ho : ops[i]? = some o) {p : Nat} (hpp : pan = some p) (hb : befM ops i p = true) :
    ∃ x, Pre C P ops lim N g0 e0 nx0 st dfs (setA A i x) pan (i + 1) a h rs := by
  refine ⟨idle h.nx [] none .undef, hp.ext ho (.inl rfl) hp.wf hp.hlim hp.hst hp.hdfs rfl (Nat.le_refl _) rfl (fun id => by rw [idle_touch]; rfl) (fun _ => rfl) (fun s hs hb id hR => by cases hR) (fun s hs hb id hW => by cases (AOp.W_iff.1 hW).1)
    (.inr ⟨rfl, fun _ => rfl, idle_touch _ _ _ _⟩) ⟨(fun t ht => by cases ht), .inl rfl⟩ (fun hm => ?_) (fun hpp => ?_) (fun p hpp j hj hjp hb id ht => ?_)⟩
  · have := (hm p hpp).2
    rw [hb] at this; cases this
  · have := (hp.hpan i hpp).1; omega
  · by_cases e : j = i
    · subst e
      rw [setA_same, idle_touch] at ht; cases ht
    · rw [setA_ne A _ e] at ht
      exact hp.noth p hpp j (by omega) hjp hb id ht

/-- one that panics -/
theorem pre_pan (hF : FOk C P cfg E) (hR : ROk C P E) (hp : Pre C P ops lim N g0 e0 nx0 st dfs A none i a h rs) {o : Oper} (ho : ops[i]? = some o) (hgo : wantedD ops a.env o.guard = some true) {q : Bool} {d : D} {k : H} {rec : Rec}
    (hs : drawStep P cfg E ((masks ops)[i]?.getD 0) i q h a.env o.op rs = some (.pan d k, rec)) (hall : rs.all (fun s => ordd ((masks ops)[i]?.getD 0) s || s.nothing) = true) :
    ∃ x, x.d = d ∧ Pre C P ops lim N g0 e0 nx0 st dfs (setA A i x) (some i) (i + 1) a k (rec :: rs) := by
  obtain ⟨⟨out, hres⟩, hnd⟩ := drawStep_res hF hR hp.wf hp.rok hs
  obtain ⟨t1, t2⟩ := aop_rec (rd := rdT ops o) (dst := none) (d := d) hres
  refine ⟨aop rec (rdT ops o) none d out, rfl, hp.ext ho (.inr ⟨rfl, rfl⟩) hres.wf (hres.lim.trans hp.hlim) hp.hst hp.hdfs hres.lo ?_ hres.hi (fun id => ?_) (fun t => rfl) (fun s hs hb id hR => hres.c1 s hs hb id hR) (fun s hs hb id hW => ?_)
    (.inl ⟨rec, rfl, hres.ok, hres.idx, fun _ => rfl, t1, t2⟩) ⟨fun t ht => ht, .inl rfl⟩ (fun hm => ?_) (fun _ r nn => sndP_of_res hp ho hres hnd hgo r nn) (fun p hpp j hj hjp hb id ht => ?_)⟩
  · show rec.lo ≤ rec.hi
    rw [hres.lo, hres.hi]; exact hres.le
  · rw [aop_touch hres]; exact hres.get id
  · have hW := AOp.W_iff.1 hW
    exact hres.c2 s hs hb (by have : (!rec.ro) = true := hW.1; simpa using this) id hW.2.1
  · exact ((hm i rfl).1 rfl).elim
  · cases hpp
    rw [setA_ne A _ hjp] at ht
    rcases hp.recs j (by omega) with ⟨s, hs, h1, _, _, h4⟩ | ⟨_, h2⟩
    · have := List.all_eq_true.1 hall s hs
      have ho : ordd ((masks ops)[i]?.getD 0) s = false := by show befM ops i s.idx = false; rw [h1]; exact hb
      rw [ho, Bool.false_or] at this
      rw [h4 this id] at ht; cases ht
    · rw [h2 id] at ht; cases ht

end
end
end Go.Sim
/- A region that draws its order does as the interpreter says. -/
namespace Go.Sim
variable [Val]
noncomputable section
open Go.RowKit

section
variable {C : Code → Prop} {P : Program} {cfg : FuncId → FInfo} {E : Ev}
variable {ops : Array Oper} {lim N : Nat} {g0 : Nat → Option Box} {e0 : Nat → D} {nx0 : Nat} {st : St} {dfs : List Dfr}

/-- what is known of the one that panics -/
def PanIs (A : Nat → AOp) (g0 : Nat → Option Box) (nx0 p : Nat) (d : D) (h : H) : Prop := (A p).d = d ∧ (∀ id, (hv A g0 nx0 allS (p + 1) id).1 = h.get id) ∧ nxA A nx0 (p + 1) = h.nx

omit [Val] in
theorem PanIs.set {A : Nat → AOp} {p : Nat} {d : D} {h : H} (hp : PanIs A g0 nx0 p d h) {i : Nat} (hi : p < i) (x : AOp) : PanIs (setA A i x) g0 nx0 p d h :=
  ⟨by rw [setA_ne A x (by omega)]; exact hp.1, by rw [hv_set (by omega)]; exact hp.2.1, by rw [nxA_set (by omega)]; exact hp.2.2⟩

omit [Val] in
theorem drop_head {α : Type} {L : List α} {i : Nat} {x : α} {r : List α} (h : L.drop i = x :: r) : L[i]? = some x ∧ L.drop (i + 1) = r := by
  constructor
  · have : (L.drop i)[0]? = some x := by rw [h]; rfl
    rw [List.getElem?_drop] at this
    exact this
  · rw [← List.tail_drop, h]; rfl

omit [Val] in
theorem masked_head {i : Nat} {x : Nat × Oper} {r : List (Nat × Oper)} (h : (masked ops).drop i = x :: r) : ops[i]? = some x.2 ∧ x.1 = (masks ops)[i]?.getD 0 ∧ (masked ops).drop (i + 1) = r ∧ i < ops.size := by
  obtain ⟨h1, h2⟩ := drop_head h
  have hlt : i < ops.size := by
    have := (List.getElem?_eq_some_iff.1 h1).1
    rw [masked_length] at this; exact this
  have ho : ops[i]? = some ops[i] := by simp [hlt]
  have h3 := masked_get ho
  rw [h1] at h3
  cases h3
  exact ⟨ho, rfl, h2, hlt⟩

theorem drawRest_run (hF : FOk C P cfg E) (hR : ROk C P E) (hN : st.n = N) {p : Nat} {d : D} {h : H} : ∀ (l : List (Nat × Oper)) (i : Nat) (a : A) (rs : List Rec) (A : Nat → AOp), Pre C P ops lim N g0 e0 nx0 st dfs A (some p) i a h rs →
    (masked ops).drop i = l → i ≤ ops.size → PanIs A g0 nx0 p d h → drawRest P cfg E ops p h l i a rs = some () → ∃ A' a' rs', Pre C P ops lim N g0 e0 nx0 st dfs A' (some p) ops.size a' h rs' ∧ PanIs A' g0 nx0 p d h
  | [], i, a, rs, A, hp, hl, hi, hq, _ => by
    have : i = ops.size := by
      have := List.drop_eq_nil_iff.1 hl
      rw [masked_length] at this
      omega
    subst this
    exact ⟨A, a, rs, hp, hq⟩
  | x :: l, i, a, rs, A, hp, hl, hi, hq, hs => by
    obtain ⟨ho, hm, hl', hlt⟩ := masked_head hl
    have hpi := (hp.hpan p rfl).1
    have hs : cnd (x.1.testBit p) (drawRest P cfg E ops p h l (i + 1) a rs) ((wantedD ops a.env x.2.guard).ob fun go =>
      cnd go ((drawStep P cfg E x.1 i (quietR i l) h a.env x.2.op rs).ob (restNext i x.2 a rs (drawRest P cfg E ops p h l (i + 1))))
        ((putA a x.2.dst (.tup [])).ob fun a => drawRest P cfg E ops p h l (i + 1) a rs)) = some () := hs
    cases hb : x.1.testBit p with
    | true =>
      rw [hb] at hs
      obtain ⟨y, hy⟩ := pre_never hp ho rfl (by unfold befM; rw [← hm]; exact hb)
      exact drawRest_run hF hR hN l (i + 1) a rs _ hy hl' (by omega) (hq.set hpi y) hs
    | false =>
      rw [hb] at hs
      obtain ⟨go, hgo, hs⟩ := ob_some.1 hs
      cases go with
      | false =>
        obtain ⟨a', ha', hs⟩ := ob_some.1 hs
        obtain ⟨y, hy⟩ := pre_skip hp hN ho hgo ha'
        exact drawRest_run hF hR hN l (i + 1) a' rs _ hy hl' (by omega) (hq.set hpi y) hs
      | true =>
        obtain ⟨⟨sr, rec⟩, hst, hs⟩ := ob_some.1 hs
        cases sr with
        | pan d k => cases hs
        | val d k =>
          obtain ⟨hnt, hs⟩ := cnd_some.1 hs
          obtain ⟨a', ha', hs⟩ := ob_some.1 hs
          rw [hm] at hst
          obtain ⟨y, hy⟩ := pre_val hF hR hp hN ho hgo hst ha' (.inr ⟨hnt, rfl⟩)
          exact drawRest_run hF hR hN l (i + 1) a' _ _ hy hl' (by omega) (hq.set hpi y) hs

theorem drawD_run (hF : FOk C P cfg E) (hR : ROk C P E) (hN : st.n = N) {ev0 : Env} : ∀ (l : List (Nat × Oper)) (i : Nat) (a : A) (h : H) (rs : List Rec) (A : Nat → AOp), Pre C P ops lim N g0 e0 nx0 st dfs A none i a h rs →
    (masked ops).drop i = l → i ≤ ops.size → ∀ res, drawD P cfg E ops ev0 l i a h rs = some res →
    (∃ A' a' h' rs', Pre C P ops lim N g0 e0 nx0 st dfs A' none ops.size a' h' rs' ∧ res = (.normal, a', h')) ∨
    (∃ A' p a' h' rs' d a0, Pre C P ops lim N g0 e0 nx0 st dfs A' (some p) ops.size a' h' rs' ∧ PanIs A' g0 nx0 p d h' ∧ res = (.pan d, panA ops ev0 a0, h') ∧ a0.st = st ∧ a0.dfs = dfs)
  | [], i, a, h, rs, A, hp, hl, hi, res, hs => by
    have : i = ops.size := by
      have := List.drop_eq_nil_iff.1 hl
      rw [masked_length] at this
      omega
    subst this
    cases hs
    exact .inl ⟨A, a, h, rs, hp, rfl⟩
  | x :: l, i, a, h, rs, A, hp, hl, hi, res, hs => by
    obtain ⟨ho, hm, hl', hlt⟩ := masked_head hl
    have hs : ((wantedD ops a.env x.2.guard).ob fun go =>
        cnd go ((drawStep P cfg E x.1 i (quietR i l) h a.env x.2.op rs).ob (drawNext P cfg E ops ev0 x.1 i x.2 l a rs (drawD P cfg E ops ev0 l (i + 1))))
          ((putA a x.2.dst (.tup [])).ob fun a => drawD P cfg E ops ev0 l (i + 1) a h rs)) = some res := hs
    obtain ⟨go, hgo, hs⟩ := ob_some.1 hs
    cases go with
    | false =>
      obtain ⟨a', ha', hs⟩ := ob_some.1 hs
      obtain ⟨y, hy⟩ := pre_skip hp hN ho hgo ha'
      exact drawD_run hF hR hN l (i + 1) a' h rs _ hy hl' (by omega) res hs
    | true =>
      obtain ⟨⟨sr, rec⟩, hst, hs⟩ := ob_some.1 hs
      rw [hm] at hst
      cases sr with
      | val d k =>
        obtain ⟨a', ha', hs⟩ := ob_some.1 hs
        obtain ⟨y, hy⟩ := pre_val hF hR hp hN ho hgo hst ha' (.inl ⟨rfl, rfl⟩)
        exact drawD_run hF hR hN l (i + 1) a' k _ _ hy hl' (by omega) res hs
      | pan d k =>
        obtain ⟨hall, hs⟩ := cnd_some.1 hs
        obtain ⟨u, hu, hs⟩ := ob_some.1 hs
        cases hs
        rw [hm] at hall
        obtain ⟨y, hyd, hy⟩ := pre_pan hF hR hp ho hgo hst hall
        have hq : PanIs (setA A i y) g0 nx0 i d k := ⟨by rw [setA_same]; exact hyd, hy.get, hy.nx⟩
        obtain ⟨A', a', rs', h1, h2⟩ := drawRest_run hF hR hN l (i + 1) a _ _ hy hl' (by omega) hq hu
        exact .inr ⟨A', i, a', k, rs', d, a, h1, h2, rfl, hp.hst, hp.hdfs⟩

theorem Pre.plan {A : Nat → AOp} {pan : Option Nat} {a : Go.Sim.A} {h : H} {rs : List Rec} (hp : Pre C P ops lim N g0 e0 nx0 st dfs A pan ops.size a h rs) (hok : drawOk ops (masked ops) 0 [] = true) : Plan A nx0 ops.size (befM ops) := by
  have hle : ∀ i, i < ops.size → nxA A nx0 i ≤ nxA A nx0 (i + 1) := fun i hi => by
    rw [← (hp.lohi i hi).1]; exact (hp.lohi i hi).2
  have pair : ∀ i j, j < i → i < ops.size → befM ops i j = false → ∃ oi oj, ops[i]? = some oi ∧ ops[j]? = some oj ∧ hit oj.dst (rdT ops oi) = false ∧ hit oi.dst (rdT ops oj) = false ∧ sameT oi.dst oj.dst = false := by
    intro i j hij hi hb
    have hoi : ops[i]? = some ops[i] := by simp [hi]
    have hoj : ops[j]? = some ops[j] := by simp [show j < ops.size by omega]
    obtain ⟨_, _, h3⟩ := drawOk_spec _ 0 [] hok i _ (masked_get hoi)
    have := h3 j _ hij (masked_get hoj)
    unfold pairOk at this
    simp only [Nat.zero_add] at this
    have hb' : ((masks ops)[i]?.getD 0).testBit j = false := hb
    rw [hb', Bool.false_or, Bool.and_eq_true, Bool.and_eq_true] at this
    refine ⟨_, _, hoi, hoj, ?_, ?_, ?_⟩
    · simpa using this.1.1
    · simpa using this.1.2
    · simpa using this.2
  have dstj : ∀ j o, j < ops.size → ops[j]? = some o → ∀ t, (A j).sets t = true → o.dst = some t := fun j o hj ho t ht => by
    have h1 := AOp.sets_iff.1 ht
    rcases (hp.tm j o hj ho).2 with h2 | h2
    · rw [h2] at h1; cases h1
    · rw [← h2]; exact h1
  refine ⟨fun i hi => (hp.lohi i hi).2, fun i j hij hj => ?_, fun i hi => ?_, fun i j hij hi hb id _ hR => hp.c1 i j hij hi hb id hR, fun i j hij hi hb id hW _ => hp.c2 i j hij hi hb id hW, fun i j hij hi hb t ht hm => ?_, fun i j hij hi hb t ht hm => ?_, fun i j hij hi hb t ht => ?_⟩
  · rw [(hp.lohi j hj).1]
    exact nxs_mono (nxs := nxA A nx0) hle j (by omega) (i + 1) hij
  · rw [(hp.lohi i hi).1]
    exact nxs_mono (nxs := nxA A nx0) hle i (by omega) 0 (Nat.zero_le _)
  · obtain ⟨oi, oj, hoi, hoj, h1, _, _⟩ := pair i j hij hi hb
    exact hit_iff.1 h1 t (dstj j oj (by omega) hoj t ht) ((hp.tm i oi hi hoi).1 t hm)
  · obtain ⟨oi, oj, hoi, hoj, _, h1, _⟩ := pair i j hij hi hb
    exact hit_iff.1 h1 t (dstj i oi hi hoi t ht) ((hp.tm j oj (by omega) hoj).1 t hm)
  · obtain ⟨oi, oj, hoi, hoj, _, _, h1⟩ := pair i j hij hi hb
    cases hb2 : (A j).sets t with
    | false => rfl
    | true => exact (sameT_iff.1 h1 t (dstj i oi hi hoi t ht) (dstj j oj (by omega) hoj t hb2)).elim

theorem region_draw_sound (hm : P.follows .mixedOrders = true) (hF : FOk C P cfg E) (hR : ROk C P E) {id : Nat} {ops : Array Oper} {a : A} {h : H} {res : Ex × A × H} (hs : regionD P cfg E ops true a h = some res)
    {Γ : Gam} {F : Nat → Prop} {w : World} {act : Act} {r : Option Nat} (hA : At C Γ F h w) (ha : ActR Γ F w a act) (n : Nat) : (Code.region id ops true).wpIn (W r) n P (CPost C Γ F h w a.st res) act w := by
  obtain ⟨hok, hs1⟩ := cnd_some.1 (show cnd (drawOk ops (masked ops) 0 []) ((drawD P cfg E ops a.env (masked ops) 0 a h []).ob endR) none = some res from hs)
  obtain ⟨x, hx, hs2⟩ := ob_some.1 hs1
  clear hs hs1
  refine wpIn_region_any hm ?_
  have hst0 : Step C h.lim Γ F h.get h.nx w Γ F h.get h.nx { w with drawn := w.drawn + 1 } := Step.same hA.rel hA.top rfl rfl rfl rfl
  have ha0 := ha.step hA.rel hst0
  generalize { w with drawn := w.drawn + 1 } = w0 at hst0 ha0
  have hlow : ∀ i o, ops[i]? = some o → ∀ e ∈ o.after, anyB e = true → e.on < i := fun i o ho e he hb => by
    have := (drawOk_spec _ 0 [] hok i _ (masked_get ho)).1 e he hb
    omega
  have hpre : Pre C P ops h.lim a.st.n h.get (look a.env) h.nx a.st a.dfs (fun _ => idle 0 [] none .undef) none 0 a h [] := by
    refine ⟨hA.wf, rfl, rfl, rfl, rfl, fun _ => rfl, fun _ => rfl, ?_, ?_, ?_, ?_, ?_, ?_, ?_, ?_, ?_⟩
    · exact fun j hj => by omega
    · exact fun x y _ hx => by omega
    · exact fun x y _ hx => by omega
    · exact fun j hj => by omega
    · exact fun s hs => by cases hs
    · exact fun j o hj => by omega
    · exact fun j o hj => by omega
    · exact fun p hp => by cases hp
    · exact fun p hp => by cases hp
  have hrun := drawD_run hF hR (st := a.st) rfl (masked ops) 0 a h [] _ hpre rfl (Nat.zero_le _) x hx
  -- what is the same for both ends
  have main : ∀ (A : Nat → AOp) (pan : Option Nat) (a' : Go.Sim.A) (h' : H) (rs' : List Rec), Pre C P ops h.lim a.st.n h.get (look a.env) h.nx a.st a.dfs A pan ops.size a' h' rs' →
      (pan = none → ∀ Γ' F' act' w', Step C h.lim Γ F h.get h.nx w0 Γ' F' (fun id => (hv A h.get h.nx allS ops.size id).1) (nxA A h.nx ops.size) w' → (∀ t, VRel Γ' F' w' (evn A (look a.env) h.nx allS ops.size t).1 (act'.tmps.getD t undef)) →
        act'.tmps.size = a.st.n → act'.defers = act.defers → CPost C Γ F h w a.st res .normal act' w') →
      (∀ p, pan = some p → ∀ Γ' F' act' v w', Step C h.lim Γ F h.get h.nx w0 Γ' F' (fun id => (hv A h.get h.nx allS (p + 1) id).1) (nxA A h.nx (p + 1)) w' → VRel Γ' F' w' (A p).d v →
        (∀ t, (∀ j, j < ops.size → befM ops j p = false → (A j).sets t = false) → VRel Γ' F' w' (look a.env t) (act'.tmps.getD t undef)) → act'.tmps.size = a.st.n → act'.defers = act.defers →
        CPost C Γ F h w a.st res (.panic [{ v, recovered := false }]) act' w') →
      wpAnyIn (W r) n P .any ops (CPost C Γ F h w a.st res) ops.size (Array.replicate ops.size false) act w0 := by
    intro A pan a' h' rs' hp hn hpn
    exact draw_sound (bef := befM ops) (nxs := nxA A h.nx) (pan := pan) (fun i o ho j hj => mask_bit hlow ho hj) (fun i o ho e he hb => hlow i o ho e he (by rw [← anyB_eq]; exact hb)) (hp.plan hok) rfl (fun i hi => ⟨(hp.lohi i hi).1, rfl⟩) hst0.rel hst0.top ha0.size ha0.env
      (fun i o ho hmy => ((hp.snd i o (Array.getElem?_eq_some_iff.1 ho).1 ho hmy).1)) (fun i o ho hmy => (hp.snd i o (Array.getElem?_eq_some_iff.1 ho).1 ho hmy).2 r n) (fun p hpp => ⟨(hp.hpan p hpp).1, (hp.hpan p hpp).2 r n⟩) hp.noth hn hpn
  have hdfs : ∀ Γ' F' w' get' nx', Step C h.lim Γ F h.get h.nx w0 Γ' F' get' nx' w' → DfsR Γ' F' w' a.dfs act.defers := fun Γ' F' w' get' nx' hs => ha0.dfs.mono hs.ext hs.fro (hs.keep hst0.rel)
  rcases hrun with ⟨A, a', h', rs', hp, rfl⟩ | ⟨A, p, a', h', rs', d, a0, hp, hpi, rfl, hst, hdf⟩
  · refine main A none a' h' rs' hp (fun _ Γ' F' act' w' hs hE hsz hdfe => ?_) (fun p hp => by cases hp)
    refine endR_post hs2 ⟨Γ', F', ?_, hp.wf, hp.hlim, trivial, ⟨?_, fun t => ?_, ?_⟩, hp.hst⟩
    · have hg : (fun id => (hv A h.get h.nx allS ops.size id).1) = h'.get := funext hp.get
      rw [hg, hp.nx] at hs
      exact hst0.trans hs hA.rel
    · show act'.tmps.size = a'.st.n
      rw [hp.hst]; exact hsz
    · have := hE t
      rw [hp.env t] at this; exact this
    · show DfsR Γ' F' w' a'.dfs act'.defers
      rw [hp.hdfs, hdfe]; exact hdfs _ _ _ _ _ hs
  · refine main A (some p) a' h' rs' hp (fun h => by cases h) (fun p' hpp Γ' F' act' v w' hs hvv hE hsz hdfe => ?_)
    cases hpp
    obtain ⟨q1, q2, q3⟩ := hpi
    refine endR_post hs2 ⟨Γ', F', ?_, hp.wf, hp.hlim, ⟨v, rfl, by rw [← q1]; exact hvv⟩, ?_, ?_⟩
    · have hg : (fun id => (hv A h.get h.nx allS (p + 1) id).1) = h'.get := funext q2
      rw [hg, q3] at hs
      exact hst0.trans hs hA.rel
    · obtain ⟨st0, env0, dfs0⟩ := a0
      have hst : st0 = a.st := hst
      have hdf : dfs0 = a.dfs := hdf
      subst hst hdf
      refine ⟨hsz, fun t => ?_, by show DfsR Γ' F' w' a.dfs act'.defers; rw [hdfe]; exact hdfs _ _ _ _ _ hs⟩
      show VRel Γ' F' w' (look (a.env.filter fun q => !(hasN (ops.toList.filterMap (·.dst)) q.1)) t) _
      rw [look_filter (fun u => !(hasN (ops.toList.filterMap (·.dst)) u))]
      by_cases hb : hasN (ops.toList.filterMap (·.dst)) t = true
      · rw [hb]; exact .undef _
      · rw [if_pos (by simpa using hb)]
        refine hE t fun j hj _ => ?_
        cases hs : (A j).sets t with
        | false => rfl
        | true =>
          exfalso
          have ho : ops[j]? = some ops[j] := by simp [hj]
          have h1 := AOp.sets_iff.1 hs
          rcases (hp.tm j _ hj ho).2 with h2 | h2
          · rw [h2] at h1; cases h1
          · refine hb (hasN_iff.2 (List.mem_filterMap.2 ⟨ops[j], by simp, ?_⟩))
            rw [← h2]; exact h1
    · obtain ⟨st0, env0, dfs0⟩ := a0
      exact hst

end
end
end Go.Sim
