/- The other operations of the interpreter, and freezing, are sound. No conditions. -/
import Derived.Test.YtlcaljpiphnpiaaGreatSimA
import Derived.Laws.StructEq
import Derived.Laws.Concat
import Derived.ChangeKeysEq
import Derived.Lib.ConvBytes
/- Arithmetic, comparisons. -/
namespace Go.Sim
variable [Val]
open Go.RowKit

section
variable {C : Code → Prop} {P : Program} {Γ : Gam} {F : Nat → Prop} {g : G} {w : World} {env : Env} {ρ : Operand → Value}

theorem eqBo_run {x y : D} {xv yv : Value} {b : Bool} (h : eqBo x y = some b) (hx : VRel Γ F w x xv) (hy : VRel Γ F w y yv) {t : TypeId} (hu : P.underlying t = some .bool) (n : Nat) :
    (Op.equalIn (n + 1) t xv yv).run P w = .ok b w := by
  cases hx <;> first | (cases h; done) | skip
  cases hy <;> first | (cases h; done) | skip
  cases h
  simp [Op.equalIn, run_underlying hu]

theorem eqIn_run {x y : D} {xv yv : Value} {b : Bool} (h : eqIn x y = some b) (hx : VRel Γ F w x xv) (hy : VRel Γ F w y yv) {t : TypeId} {k0 : IntKind} (hu : P.underlying t = some (.int k0)) (n : Nat) :
    (Op.equalIn (n + 1) t xv yv).run P w = .ok b w := by
  have key : ∀ (k k' : IntKind) (i j : Int), k = k' → decide (i = j) = b → (Op.equalIn (n + 1) t (.int k i) (.int k' j)).run P w = .ok b w := by
    intro k k' i j hk hb
    subst hk
    simp [Op.equalIn, run_underlying hu]
    rw [← hb]
    rfl
  have fin : ∀ {a c : SX}, cmpX .eql a c = some b → decide (a.eval Val.V = c.eval Val.V) = b := fun h => by
    have := cmpX_ok h
    simpa [cmpV] using this
  cases hx <;> first | (cases h; done) | skip
  · cases hy <;> first | (cases h; done) | skip
    · obtain ⟨hk, h⟩ := cnd_some.1 h
      cases h
      exact key _ _ _ _ (of_decide_eq_true hk) rfl
    · obtain ⟨hk, h⟩ := cnd_some.1 h
      exact key _ _ _ _ (of_decide_eq_true hk) (fin h)
  · cases hy <;> first | (cases h; done) | skip
    · obtain ⟨hk, h⟩ := cnd_some.1 h
      exact key _ _ _ _ (of_decide_eq_true hk) (fin h)
    · obtain ⟨hk, h⟩ := cnd_some.1 h
      exact key _ _ _ _ (of_decide_eq_true hk) (fin h)

theorem eqSt_run {x y : D} {xv yv : Value} {b : Bool} (h : eqSt x y = some b) (hx : VRel Γ F w x xv) (hy : VRel Γ F w y yv) {t : TypeId} (hu : P.underlying t = some .string) (n : Nat) :
    (Op.equalIn (n + 1) t xv yv).run P w = .ok b w := by
  cases hx <;> first | (cases h; done) | skip
  cases hy <;> first | (cases h; done) | skip
  cases h
  simp [Op.equalIn, run_underlying hu]

theorem eqPt_run {x y : D} {xv yv : Value} {b : Bool} (h : eqPt x y = some b) (hx : VRel Γ F w x xv) (hy : VRel Γ F w y yv) {t e : TypeId} (hu : P.underlying t = some (.pointer e)) (n : Nat) :
    (Op.equalIn (n + 1) t xv yv).run P w = .ok b w := by
  cases hx <;> first | (cases h; done) | skip
  all_goals cases hy <;> first | (cases h; done) | skip
  all_goals
    cases h
    simp [Op.equalIn, run_underlying hu]

theorem eqSl_run {x y : D} {xv yv : Value} {b : Bool} (h : eqSl x y = some b) (hx : VRel Γ F w x xv) (hy : VRel Γ F w y yv) {t e : TypeId} (hu : P.underlying t = some (.slice e)) (n : Nat) :
    (Op.equalIn (n + 1) t xv yv).run P w = .ok b w := by
  cases hx <;> first | (cases h; done) | skip
  all_goals cases hy <;> first | (cases h; done) | skip
  all_goals
    cases h
    simp [Op.equalIn, run_underlying hu]

theorem eqFu_run {x y : D} {xv yv : Value} {b : Bool} (h : eqFu x y = some b) (hx : VRel Γ F w x xv) (hy : VRel Γ F w y yv) {t : TypeId} {ps rs : Array TypeId} {va : Bool} (hu : P.underlying t = some (.func ps rs va)) (n : Nat) :
    (Op.equalIn (n + 1) t xv yv).run P w = .ok b w := by
  cases hx <;> first | (cases h; done) | skip
  all_goals cases hy <;> first | (cases h; done) | skip
  all_goals
    cases h
    simp [Op.equalIn, run_underlying hu]

theorem eqIf_run {x y : D} {xv yv : Value} {b : Bool} (h : eqIf x y = some b) (hx : VRel Γ F w x xv) (hy : VRel Γ F w y yv) {t : TypeId} {ms : Array (String × TypeId)} (hu : P.underlying t = some (.interface ms)) (n : Nat) :
    (Op.equalIn (n + 1) t xv yv).run P w = .ok b w := by
  cases hx <;> first | (cases h; done) | skip
  all_goals cases hy <;> first | (cases h; done) | skip
  all_goals
    cases h
    simp [Op.equalIn, run_underlying hu]

omit [Val] in
theorem fieldsOf_eq {t : TypeId} {fs : Array Field} (h : P.underlying t = some (.struct fs)) : P.fieldsOf t = fs := by simp [Program.fieldsOf, h]

theorem eq_run : ∀ (n : Nat),
    (∀ {t : TypeId} {x y : D} {xv yv : Value} {b : Bool}, eqT P n t x y = some b → VRel Γ F w x xv → VRel Γ F w y yv → ∀ m, n ≤ m → (Op.equalIn m t xv yv).run P w = .ok b w) ∧
    (∀ {fs : List Field} {xs ys : List D} {xv yv : Array Value} {b : Bool}, eqF P n fs xs ys = some b → VRel Γ F w (.agg xs) (.agg xv) → VRel Γ F w (.agg ys) (.agg yv) → ∀ m, n ≤ m →
      (Op.eqFields m xv yv fs).run P w = .ok b w) ∧
    (∀ {e : TypeId} {s : Nat} {xs ys : List D} {i left : Nat} {xv yv : Array Value} {b : Bool}, eqA P n e s xs ys i left = some b → VRel Γ F w (.agg xs) (.agg xv) → VRel Γ F w (.agg ys) (.agg yv) →
      ∀ m, n ≤ m → (Op.eqItems m e s xv yv (List.range' i left)).run P w = .ok b w) := by
  intro n
  induction n with
  | zero => refine ⟨?_, ?_, ?_⟩ <;> intros <;> rename_i h _ _ _ _ <;> cases h
  | succ n ih =>
    obtain ⟨ih1, ih2, ih3⟩ := ih
    refine ⟨fun {t x y xv yv b} h hx hy m hm => ?_, fun {fs xs ys xv yv b} h hx hy m hm => ?_, fun {e s xs ys i left xv yv b} h hx hy m hm => ?_⟩
    · obtain ⟨m', rfl⟩ : ∃ m', m = m' + 1 := ⟨m - 1, by omega⟩
      unfold eqT at h
      split at h
      · rename_i hu; exact eqBo_run h hx hy hu m'
      · rename_i hu; exact eqIn_run h hx hy hu m'
      · rename_i hu; exact eqSt_run h hx hy hu m'
      · rename_i fs hu
        split at h
        · obtain ⟨h1, h2⟩ := cnd_none.1 h
          cases hx with
          | agg _ xvs hn ho hv =>
            cases hy with
            | agg _ yvs hn' ho' hv' =>
              rw [run_equalIn_struct w m' t xvs yvs (by rw [fieldsOf_eq hu]; exact hu) h1, fieldsOf_eq hu]
              exact ih2 h2 (.agg _ xvs hn ho hv) (.agg _ yvs hn' ho' hv') m' (by omega)
        · cases h
      · rename_i len e hu
        split at h
        · obtain ⟨s, hs, h2⟩ := ob_some.1 h
          cases hx with
          | agg _ xvs hn ho hv =>
            cases hy with
            | agg _ yvs hn' ho' hv' =>
              have hsz : ∃ i, P.info? e = some i ∧ i.size = s := by
                cases hi : P.info? e with
                | none => simp [sz, hi] at hs
                | some i => simp [sz, hi] at hs; exact ⟨i, rfl, hs⟩
              obtain ⟨i, hi, his⟩ := hsz
              have hc : P.cellsOf e = s := by simp [Program.cellsOf, hi, his]
              rw [run_equalIn_array w m' xvs yvs hu hi, hc, List.range_eq_range']
              exact ih3 h2 (.agg _ xvs hn ho hv) (.agg _ yvs hn' ho' hv') m' (by omega)
        · cases h
      · cases h
    · cases fs with
      | nil => cases h; simp [Op.eqFields]
      | cons f fs =>
        unfold eqF at h
        obtain ⟨hne, h⟩ := cnd_none.1 h
        obtain ⟨x, hx1, h⟩ := ob_some.1 h
        obtain ⟨y, hy1, h⟩ := ob_some.1 h
        obtain ⟨r, hr, h⟩ := ob_some.1 h
        obtain ⟨a1, ha1, ha2⟩ := partD_part hx1 hx
        obtain ⟨b1, hb1, hb2⟩ := partD_part hy1 hy
        have h3 := ih1 hr ha2 hb2 m (by omega)
        have hne' : f.name ≠ "_" := by simpa using hne
        cases r with
        | true =>
          have h4 := ih2 h hx hy m (by omega)
          simp [Op.eqFields, hne', ha1, hb1, h3, h4]
        | false =>
          cases h
          simp [Op.eqFields, hne', ha1, hb1, h3]
    · unfold eqA at h
      cases left with
      | zero => cases h; simp [Op.eqItems]
      | succ left =>
        simp only at h
        obtain ⟨x, hx1, h⟩ := ob_some.1 h
        obtain ⟨y, hy1, h⟩ := ob_some.1 h
        obtain ⟨r, hr, h⟩ := ob_some.1 h
        obtain ⟨a1, ha1, ha2⟩ := partD_part hx1 hx
        obtain ⟨b1, hb1, hb2⟩ := partD_part hy1 hy
        have h3 := ih1 hr ha2 hb2 m (by omega)
        cases r with
        | true =>
          have h4 := ih3 h hx hy m (by omega)
          simp [Op.eqItems, List.range'_succ, ha1, hb1, h3, h4]
        | false =>
          cases h
          simp [Op.eqItems, List.range'_succ, ha1, hb1, h3]

end

end Go.Sim
/- Binary and unary operations; conversions. -/
namespace Go.Sim
variable [Val]
open Go.RowKit

section
variable {C : Code → Prop} {P : Program} {Γ : Gam} {F : Nat → Prop} {g : G} {w : World} {env : Env} {ρ : Operand → Value}

theorem arith_run {op : BinOp} {k k' : IntKind} {a b : Int} {d : D} (hk : (isShift op || decide (k = k')) = true) (h : arith op k a b = some d) (t : TypeId) :
    ∃ v, (binOp op t (.int k a) (.int k' b)).run P w = .ok v w ∧ VRel Γ F w d v := by
  cases op with
  | shl =>
    obtain ⟨h1, h⟩ := cnd_none.1 h
    cases h
    have h1 : ¬ b < 0 := by simpa using h1
    exact ⟨_, by simp [binOp, Op.shift, h1], .int _ _⟩
  | shr =>
    obtain ⟨h1, h⟩ := cnd_none.1 h
    cases h
    have h1 : ¬ b < 0 := by simpa using h1
    exact ⟨_, by simp [binOp, Op.shift, h1], .int _ _⟩
  | quo =>
    obtain ⟨h1, h⟩ := cnd_none.1 h
    cases h
    have h1 : ¬ b = 0 := by simpa using h1
    have hk : k = k' := by simpa [isShift] using hk
    subst hk
    exact ⟨_, by simp [binOp, Op.intDiv, h1], .int _ _⟩
  | rem =>
    obtain ⟨h1, h⟩ := cnd_none.1 h
    cases h
    have h1 : ¬ b = 0 := by simpa using h1
    have hk : k = k' := by simpa [isShift] using hk
    subst hk
    exact ⟨_, by simp [binOp, Op.intDiv, h1], .int _ _⟩
  | add | sub | mul =>
    have hk : k = k' := by simpa [isShift] using hk
    subst hk
    cases h
    exact ⟨_, by simp [binOp, Op.intArith], .int _ _⟩
  | and | or | xor | andNot =>
    have hk : k = k' := by simpa [isShift] using hk
    subst hk
    cases h
    exact ⟨_, by simp [binOp, Op.intBits], .int _ _⟩
  | eql =>
    have hk : k = k' := by simpa [isShift] using hk
    subst hk
    cases h
    exact ⟨.bool (decide (a = b)), by simp [binOp, Op.intCmp]; rfl, .bool _⟩
  | neq =>
    have hk : k = k' := by simpa [isShift] using hk
    subst hk
    cases h
    exact ⟨.bool (!decide (a = b)), by simp [binOp, Op.intCmp, bne]; rfl, .bool _⟩
  | lss | leq | gtr | geq =>
    have hk : k = k' := by simpa [isShift] using hk
    subst hk
    cases h
    exact ⟨_, by simp [binOp, Op.intCmp], .bool _⟩

/-- numbers that are not known -/
theorem arithX_ok {op : BinOp} {k : IntKind} {a b : SX} {d : D} (h : arithX op k a b = some d) : ∃ d0, arith op k (a.eval Val.V) (b.eval Val.V) = some d0 ∧ ∀ v, VRel Γ F w d0 v → VRel Γ F w d v := by
  have one : ∀ e : SX, ∀ v, VRel Γ F w (.int k (e.eval Val.V)) v → VRel Γ F w (.sx k e) v := fun e v hv => by
    cases hv
    exact .sx k e
  have cmp : ∀ {r : Bool}, cmpX op a b = some r → cmpV op (a.eval Val.V) (b.eval Val.V) = some r := fun h => cmpX_ok h
  cases op with
  | add => cases h; exact ⟨_, rfl, one (.bin .add k a b)⟩
  | sub => cases h; exact ⟨_, rfl, one (.bin .sub k a b)⟩
  | mul => cases h; exact ⟨_, rfl, one (.bin .mul k a b)⟩
  | and => cases h; exact ⟨_, rfl, one (.bin .and k a b)⟩
  | or => cases h; exact ⟨_, rfl, one (.bin .or k a b)⟩
  | xor => cases h; exact ⟨_, rfl, one (.bin .xor k a b)⟩
  | andNot => cases h; exact ⟨_, rfl, one (.bin .andNot k a b)⟩
  | quo =>
    cases b <;> first | (cases h; done) | skip
    rename_i n
    obtain ⟨h1, h⟩ := cnd_none.1 h
    cases h
    exact ⟨_, cnd_none.2 ⟨h1, rfl⟩, one (.bin .quo k a (.lit n))⟩
  | rem =>
    cases b <;> first | (cases h; done) | skip
    rename_i n
    obtain ⟨h1, h⟩ := cnd_none.1 h
    cases h
    exact ⟨_, cnd_none.2 ⟨h1, rfl⟩, one (.bin .rem k a (.lit n))⟩
  | shl =>
    cases b <;> first | (cases h; done) | skip
    rename_i n
    obtain ⟨h1, h⟩ := cnd_none.1 h
    cases h
    exact ⟨_, cnd_none.2 ⟨h1, rfl⟩, one (.bin .shl k a (.lit n))⟩
  | shr =>
    cases b <;> first | (cases h; done) | skip
    rename_i n
    obtain ⟨h1, h⟩ := cnd_none.1 h
    cases h
    exact ⟨_, cnd_none.2 ⟨h1, rfl⟩, one (.bin .shr k a (.lit n))⟩
  | eql | neq | lss | leq | gtr | geq =>
    obtain ⟨r, hr, h⟩ := ob_some.1 h
    cases h
    have := cmp hr
    simp only [cmpV, Option.some.injEq] at this
    exact ⟨_, rfl, fun v hv => by rw [this] at hv; exact hv⟩

theorem strOp_run {op : BinOp} {a b : ByteArray} {d : D} (h : strOp op a b = some d) (t : TypeId) :
    ∃ v, (binOp op t (.string a) (.string b)).run P w = .ok v w ∧ VRel Γ F w d v := by
  cases op <;> first | (cases h; done) | skip
  · obtain ⟨h1, h⟩ := cnd_some.1 h
    cases h
    have h1 := Nat.le_of_ble_eq_true h1
    unfold most at h1
    refine ⟨.string (a ++ b), ?_, .str _⟩
    simp only [binOp]
    exact run_string_add_sum w a b (by omega)
  · cases h
    exact ⟨_, by simp [binOp, Op.stringOp, ← beq_toListBytes], .bool _⟩
  · cases h
    exact ⟨_, by simp [binOp, Op.stringOp, ← beq_toListBytes], .bool _⟩

omit [Val] in
theorem eqGuard_else {op : BinOp} {t : TypeId} {xo yo : Operand} {a b : Value} (h1 : ∀ c d, a = .agg c → b = .agg d → False) (h2 : a = .nilIface → b = .nilIface → False) :
    (eqGuard op t xo yo a b).run P w = .ok () w := by
  unfold eqGuard
  cases op <;> first | (simp; done) | skip
  all_goals
    cases a <;> first | (simp; done) | skip
    all_goals
      cases b <;> first | (simp; done) | exact (h1 _ _ rfl rfl).elim | exact (h2 rfl rfl).elim

omit [Val] in
theorem nili_run {t : TypeId} {ms : Array (String × TypeId)} (hu : P.underlying t = some (.interface ms)) (n : Nat) : (Op.equalIn (n + 1) t .nilIface .nilIface).run P w = .ok true w := by
  simp [Op.equalIn, run_underlying hu]

theorem eqlD_run {t : TypeId} {x y : D} {xv yv : Value} {b : Bool} {xo yo : Operand} (h : eqlD P t (isConst xo || isConst yo) x y = some b) (hx : VRel Γ F w x xv) (hy : VRel Γ F w y yv) (op : BinOp) :
    (eqGuard op t xo yo xv yv).run P w = .ok () w ∧ (Op.equal t xv yv).run P w = .ok b w := by
  unfold eqlD at h
  split at h
  · obtain ⟨h1, h2⟩ := cnd_none.1 h
    have h3 := (eq_run (P := P) (Γ := Γ) (F := F) (w := w) eqFuel).1 h2 hx hy 10000 (by decide)
    cases hx with
    | agg _ xvs hn ho hv =>
      cases hy with
      | agg _ yvs hn' ho' hv' =>
        exact ⟨run_eqGuard_agg w op t xo yo xvs yvs h1, h3⟩
  · obtain ⟨h1, h2⟩ := cnd_some.1 h
    split at h2
    · rename_i ms hu
      cases h2
      cases hx; cases hy
      constructor
      · simp only [Bool.or_eq_true] at h1
        have hc : ∀ o : Operand, isConst o = true → ∃ c, o = .const c := fun o ho => by
          cases o <;> first | (cases ho; done) | exact ⟨_, rfl⟩
        rcases h1 with h1 | h1
        · obtain ⟨c, rfl⟩ := hc _ h1
          cases op <;> simp [eqGuard]
        · obtain ⟨c, rfl⟩ := hc _ h1
          cases op <;> simp [eqGuard]
      · exact nili_run hu _
    · cases h2
  · rename_i hna hnn
    have hg : (eqGuard op t xo yo xv yv).run P w = .ok () w := by
      refine eqGuard_else (fun c d e1 e2 => ?_) (fun e1 e2 => ?_)
      · subst e1; subst e2
        cases hx <;> cases hy <;> first | (split at h <;> cases h; done) | exact hna _ _ rfl rfl
      · subst e1; subst e2
        cases hx <;> cases hy <;> first | (split at h <;> cases h; done) | exact hnn rfl rfl
    refine ⟨hg, ?_⟩
    split at h
    · rename_i hu; exact eqBo_run h hx hy hu _
    · rename_i hu; exact eqPt_run h hx hy hu _
    · rename_i hu; exact eqSl_run h hx hy hu _
    · rename_i hu; exact eqFu_run h hx hy hu _
    · rename_i hu; exact eqIf_run h hx hy hu _
    · cases h

omit [Val] in
theorem eqGuard_plain {op : BinOp} {t : TypeId} {xo yo : Operand} {a b : Value} (h1 : ∀ c, a ≠ .agg c) (h2 : a ≠ .nilIface) : (eqGuard op t xo yo a b).run P w = .ok () w :=
  eqGuard_else (fun c _ e _ => h1 c e) (fun e _ => h2 e)

theorem binOp_eq {t : TypeId} {xv yv : Value} {x : D} {b : Bool} (hx : VRel Γ F w x xv) (hni : ∀ k n, x ≠ .int k n) (hnx : ∀ k n, x ≠ .sx k n) (hns : ∀ s, x ≠ .str s) (hnu : x ≠ .undef) (h : (Op.equal t xv yv).run P w = .ok b w) :
    (binOp .eql t xv yv).run P w = .ok (.bool b) w ∧ (binOp .neq t xv yv).run P w = .ok (.bool (!b)) w := by
  cases hx <;> first | exact (hni _ _ rfl).elim | exact (hnx _ _ rfl).elim | exact (hns _ rfl).elim | exact (hnu rfl).elim | (constructor <;> simp [binOp, h])

theorem bBin_good {o : Oper} {op : BinOp} {t t' : TypeId} {xo yo : Operand} (ho : o.op = .binOp op t xo yo t') {d : D} {up : Up} (h : bBin P env op t xo yo = some (d, up))
    (hr : Rel C Γ F w g.get) (ht : ∀ id, g.nx ≤ id → Γ id = none) (hρ : OpR Γ F w env ρ) : Good C P Γ F g w (execOp ρ o) d up := by
  obtain ⟨x, hx, h⟩ := ob_some.1 h
  obtain ⟨y, hy, h⟩ := ob_some.1 h
  obtain ⟨e, he, h⟩ := ob_some.1 h
  obtain ⟨rfl, rfl⟩ := vU_eq h
  have hxv := hρ xo x hx
  have hyv := hρ yo y hy
  suffices hs : ∃ v, (eqGuard op t xo yo (ρ xo) (ρ yo)).run P w = .ok () w ∧ (binOp op t (ρ xo) (ρ yo)).run P w = .ok v w ∧ VRel Γ F w d v by
    obtain ⟨v, h1, h2, h3⟩ := hs
    exact good_pure hr ht (v := v) (by simp [execOp, ho, h1, h2]) h3
  have sym : ∀ {k k' : IntKind} {a b : SX}, (isShift op || decide (k = k')) = true → arithX op k a b = some d → ρ xo = .int k (a.eval Val.V) → ρ yo = .int k' (b.eval Val.V) →
      ∃ v, (eqGuard op t xo yo (ρ xo) (ρ yo)).run P w = .ok () w ∧ (binOp op t (ρ xo) (ρ yo)).run P w = .ok v w ∧ VRel Γ F w d v := by
    intro k k' a b h1 h2 e1 e2
    obtain ⟨d0, h3, h4⟩ := arithX_ok (Γ := Γ) (F := F) (w := w) h2
    obtain ⟨v, h5, h6⟩ := arith_run (P := P) (Γ := Γ) (F := F) (w := w) h1 h3 t
    rw [e1, e2]
    exact ⟨v, eqGuard_plain (by simp) (by simp), h5, h4 v h6⟩
  generalize hxe : ρ xo = xv at hxv sym ⊢
  generalize hye : ρ yo = yv at hyv sym ⊢
  unfold binD at he
  split at he
  · cases hxv
    split at he
    · cases hyv
      obtain ⟨h1, h2⟩ := cnd_some.1 he
      obtain ⟨v, h3, h4⟩ := arith_run (P := P) (Γ := Γ) (F := F) (w := w) h1 h2 t
      exact ⟨v, eqGuard_plain (by simp) (by simp), h3, h4⟩
    · cases hyv
      obtain ⟨h1, h2⟩ := cnd_some.1 he
      exact sym h1 h2 rfl rfl
    · cases he
  · cases hxv
    split at he
    · cases hyv
      obtain ⟨h1, h2⟩ := cnd_some.1 he
      exact sym h1 h2 rfl rfl
    · cases hyv
      obtain ⟨h1, h2⟩ := cnd_some.1 he
      exact sym h1 h2 rfl rfl
    · cases he
  · cases hxv
    split at he
    · cases hyv
      obtain ⟨v, h3, h4⟩ := strOp_run (P := P) (Γ := Γ) (F := F) (w := w) he t
      exact ⟨v, eqGuard_plain (by simp) (by simp), h3, h4⟩
    · cases he
  · rename_i hni hnx hns
    have hb : ∃ b, eqlD P t (isConst xo || isConst yo) x y = some b := by
      cases op <;> first | (cases he; done) | (obtain ⟨b, hb, _⟩ := ob_some.1 he; exact ⟨b, hb⟩)
    obtain ⟨b, hb⟩ := hb
    obtain ⟨h1, h2⟩ := eqlD_run hb hxv hyv op
    have hnu : x ≠ .undef := by
      rintro rfl
      unfold eqlD at hb
      simp only at hb
      split at hb <;> cases hb
    obtain ⟨h3, h4⟩ := binOp_eq hxv hni hnx hns hnu h2
    rw [hb] at he
    cases op <;> first | (cases he; done) | skip
    · cases he; exact ⟨_, h1, h3, .bool _⟩
    · cases he; exact ⟨_, h1, h4, .bool _⟩

theorem bUn_good {o : Oper} {op : UnOp} {t : TypeId} {xo : Operand} (ho : o.op = .unOp op t xo) {d : D} {up : Up} (h : bUn env op xo = some (d, up))
    (hr : Rel C Γ F w g.get) (ht : ∀ id, g.nx ≤ id → Γ id = none) (hρ : OpR Γ F w env ρ) : Good C P Γ F g w (execOp ρ o) d up := by
  obtain ⟨x, hx, h⟩ := ob_some.1 h
  obtain ⟨e, he, h⟩ := ob_some.1 h
  obtain ⟨rfl, rfl⟩ := vU_eq h
  have hxv := hρ xo x hx
  suffices hs : ∃ v, (Op.unary op (ρ xo)).run P w = .ok v w ∧ VRel Γ F w d v by
    obtain ⟨v, h1, h2⟩ := hs
    exact good_pure hr ht (v := v) (by simp [execOp, ho, h1]) h2
  generalize ρ xo = xv at hxv
  unfold unD at he
  split at he
  · cases hxv
    cases op <;> first | (cases he; done) | skip
    cases he
    exact ⟨_, rfl, .bool _⟩
  · cases hxv
    cases op <;> first | (cases he; done) | skip
    · cases he
      exact ⟨_, rfl, .int _ _⟩
    · cases he
      exact ⟨_, rfl, .int _ _⟩
  · cases hxv
    cases op <;> first | (cases he; done) | skip
    · cases he
      exact ⟨_, rfl, .sx _ _⟩
    · cases he
      exact ⟨_, rfl, .sx _ _⟩
  · cases he

end

end Go.Sim
/- The elements of a slice. -/
namespace Go.Sim
variable [Val]
open Go.RowKit

section
variable {C : Code → Prop} {P : Program} {Γ : Gam} {F : Nat → Prop} {g : G} {w : World} {env : Env} {ρ : Operand → Value}

theorem cells_of_one {d : D} {v : Value} (h : VRel Γ F w d v) (ho : v.oneCell' = true) : cells d = [d] := by
  cases h <;> first | rfl | (exfalso; simp [Value.oneCell'] at ho; done)

omit [Val] in
theorem flat_of_ones {cs : List D} (h : ∀ d ∈ cs, cells d = [d]) : flat cs = cs := by
  induction cs with
  | nil => rfl
  | cons c cs ih => rw [flat_cons, h c (by simp), ih fun d hd => h d (by simp [hd])]; rfl

omit [Val] in
theorem even_nil (s : Nat) : Even s [] := fun e he => by cases he

/-- cells that are read in a row -/
theorem loads (P : Program) {cs : List D} {b B : Nat} (h : ReadsAt Γ F w cs b B) :
    ∃ vs : Array Value, CRel Γ F w cs vs ∧ ∀ w' : World, w'.heap = w.heap → (loadCells ⟨b, B, none⟩ cs.length).run P w' = .ok vs w' := by
  obtain ⟨vs, hl, h1, h2⟩ := readsAt_list h
  refine ⟨vs.toArray, ⟨by simpa using hl, fun k d hd => ?_⟩, fun w' hw => ?_⟩
  · have hk : k < vs.length := by rw [hl]; exact (List.getElem?_eq_some_iff.1 hd).1
    exact ⟨vs[k], by simp [hk], h2 k d vs[k] hd (by simp)⟩
  · rw [← hl]
    exact run_loadCells_list (P := P) w' ⟨b, B, none⟩ vs (fun j v hv => by
      rw [Addr.add_plain, ← h1 j v hv]
      exact World.cell?_of_block (by rw [hw]))

omit [Val] in
theorem loads0 (P : Program) (a : Addr) (w : World) : (loadCells a 0).run P w = .ok #[] w := run_loadCells_list (P := P) w a [] (fun _ _ h => by cases h)

/-- what the elements of a slice are -/
theorem elems_rel {s : Nat} {x : D} {xv : Value} {xs : List D} (hr : Rel C Γ F w g.get) (hx : VRel Γ F w x xv) (h : elemsD g x = some xs) (he : evenB s xs = true) :
    Even s xs ∧ ∃ a len cap, xv = .slice a len cap ∧ xs.length = len ∧
      ∀ n, n ≤ xs.length → ∃ vs, CRel Γ F w (flat (xs.take n)) vs ∧ ∀ w' : World, w'.heap = w.heap → (Builtin.firstCells s n xv).run P w' = .ok vs w' := by
  have hnil : ∀ (a : Option Addr) (len cap : Nat), ∃ vs, CRel Γ F w (flat []) vs ∧ ∀ w' : World, w'.heap = w.heap → (Builtin.firstCells s 0 (.slice a len cap)).run P w' = .ok vs w' := by
    intro a len cap
    refine ⟨#[], ⟨rfl, fun k d hd => by cases hd⟩, fun w' _ => ?_⟩
    cases a with
    | none => simp [Builtin.firstCells]
    | some a => simp only [Builtin.firstCells, Nat.zero_mul]; exact loads0 P a w'
  cases hx with
  | sl id off len cap a i hi hb hs ho hc hn hz =>
    obtain ⟨y, hy, h⟩ := ob_some.1 h
    obtain ⟨hle, h⟩ := cnd_some.1 h
    cases h
    have hle := Nat.le_of_ble_eq_true hle
    obtain ⟨fz, hbx⟩ := boxArr_eq hy
    obtain ⟨i', hi', _, hbr, _⟩ := hr.box id _ hbx
    have : i' = i := Option.some.inj (hi'.symm.trans hi)
    subst this
    obtain ⟨c, t, fr, hg, _, _, hss, hll, hev, _, hcr⟩ := hbr
    have hev' : Even y.1 ((y.2.drop off).take len) := (hev.drop off).take len
    have hlen : ((y.2.drop off).take len).length = len := by simp; omega
    refine ⟨even_cast hev' he, _, _, _, rfl, hlen, fun n hn' => ?_⟩
    rw [hlen] at hn'
    by_cases hn0 : n = 0
    · subst hn0; exact hnil _ _ _
    · have hne : (y.2.drop off).take len ≠ [] := by
        intro e; rw [e] at hlen; simp at hlen; omega
      have hse := even_size hev' he hne
      have hrd := ((readsAt_pad hg hcr).drop (off * y.1)).take (n * y.1)
      have hfl : flat (((y.2.drop off).take len).take n) = ((flat y.2).drop (off * y.1)).take (n * y.1) := by
        rw [List.take_take, Nat.min_eq_left hn', flat_take (hev.drop off), flat_drop hev]
      rw [← hfl] at hrd
      obtain ⟨vs, h1, h2⟩ := loads P hrd
      refine ⟨vs, h1, fun w' hw => ?_⟩
      have hcap : cap ≠ 0 := by omega
      have ho2 := ho.resolve_right hcap
      clear ho
      obtain ⟨ab, ao, asp⟩ := a
      simp only at hb hs ho2
      subst hb; subst hs; subst ho2
      have h3 := h2 w' hw
      rw [Even.length (s := y.1) (hev'.take n), List.length_take, hlen, Nat.min_eq_left hn'] at h3
      rw [hss] at h3 hse
      simp only [Builtin.firstCells]
      rw [← hse]
      exact h3
  | slv id off len cap a i hi hb hs ho hc =>
    obtain ⟨cs, hcs, h⟩ := ob_some.1 h
    obtain ⟨hle, h⟩ := cnd_some.1 h
    cases h
    have hle := Nat.le_of_ble_eq_true hle
    obtain ⟨i', hi', _, hbr, _⟩ := hr.box id _ (boxVar_eq hcs)
    have : i' = i := Option.some.inj (hi'.symm.trans hi)
    subst this
    obtain ⟨c, t, fr, hg, _, _, _, hcr⟩ := hbr
    have hone : ∀ d ∈ (cs.drop off).take len, cells d = [d] := fun d hd => by
      obtain ⟨k, hk⟩ := List.mem_iff_getElem?.1 (List.mem_of_mem_drop (List.mem_of_mem_take hd))
      obtain ⟨v, _, h2, h3⟩ := hcr k d hk
      exact cells_of_one h2 h3
    have hev' : Even 1 ((cs.drop off).take len) := fun d hd => by rw [hone d hd]; rfl
    have hlen : ((cs.drop off).take len).length = len := by simp; omega
    refine ⟨even_cast hev' he, _, _, _, rfl, hlen, fun n hn' => ?_⟩
    rw [hlen] at hn'
    by_cases hn0 : n = 0
    · subst hn0; exact hnil _ _ _
    · have hne : (cs.drop off).take len ≠ [] := by
        intro e; rw [e] at hlen; simp at hlen; omega
      have hse := even_size hev' he hne
      have hrd := ((readsAt_of_cells hg hcr).drop off).take n
      have hfl : flat (((cs.drop off).take len).take n) = (cs.drop off).take n := by
        rw [flat_of_ones (fun d hd => hone d (List.mem_of_mem_take hd)), List.take_take, Nat.min_eq_left hn']
      rw [hfl]
      obtain ⟨vs, h1, h2⟩ := loads P hrd
      refine ⟨vs, h1, fun w' hw => ?_⟩
      have hcap : cap ≠ 0 := by omega
      have ho2 := ho.resolve_right hcap
      clear ho
      obtain ⟨ab, ao, asp⟩ := a
      simp only at hb hs ho2
      subst hb; subst hs; subst ho2
      have h3 := h2 w' hw
      have hl2 : ((cs.drop ao).take n).length = n := by simp; omega
      rw [hl2, Nat.zero_add] at h3
      simp only [Builtin.firstCells]
      rw [← hse, Nat.mul_one]
      exact h3
  | lst es a cap s0 hs hc vs hw hv =>
    cases h
    refine ⟨even_cast hs he, _, _, _, rfl, rfl, fun n hn' => ?_⟩
    by_cases hn0 : n = 0
    · subst hn0; exact hnil _ _ _
    · have hne : xs ≠ [] := by rintro rfl; simp at hn'; omega
      have hse := even_size hs he hne
      subst hse
      have hrd : ReadsAt Γ F w (flat xs) a.block a.off := fun k d hd => ⟨vs k, (hw k d hd).2.2.1, VRel.any (hv k d hd), (hw k d hd).2.2.2⟩
      have hrd := hrd.take (n * s0)
      rw [← flat_take hs] at hrd
      obtain ⟨us, h1, h2⟩ := loads P hrd
      refine ⟨us, h1, fun w' hw' => ?_⟩
      have h3 := h2 w' hw'
      rw [Even.length (hs.take n), List.length_take, Nat.min_eq_left hn'] at h3
      by_cases hz : s0 = 0
      · subst hz
        rw [Nat.mul_zero] at h3
        simp only [Builtin.firstCells, Nat.mul_zero]
        rw [loads0] at h3 ⊢
        exact h3
      · have hpos : 0 < (flat xs).length := by
          rw [hs.length]
          exact Nat.mul_pos (by cases xs <;> simp_all) (by omega)
        have hspot := (hw 0 _ (List.getElem?_eq_getElem hpos)).2.1
        obtain ⟨ab, ao, asp⟩ := a
        simp only at hspot
        subst hspot
        exact h3
  | nils =>
    cases h
    refine ⟨even_nil s, _, _, _, rfl, rfl, fun n hn' => ?_⟩
    have : n = 0 := by simpa using hn'
    subst this; exact hnil _ _ _
  | e0 a =>
    cases h
    refine ⟨even_nil s, _, _, _, rfl, rfl, fun n hn' => ?_⟩
    have : n = 0 := by simpa using hn'
    subst this; exact hnil _ _ _
  | _ => cases h

end

end Go.Sim
/- The builtin append: its run. -/
namespace Go.Sim
variable [Val]
open Go.RowKit

section
variable {C : Code → Prop} {P : Program} {Γ : Gam} {F : Nat → Prop} {g : G} {w : World} {env : Env} {ρ : Operand → Value}

/-- what is appended -/
def AppX (P : Program) (w : World) (ats : Array TypeId) (e : TypeId) (s n : Nat) (xv : Value) (new : Array Value) : Prop :=
  ∃ t', ats[1]? = some t' ∧
    ((∃ td, P.underlying t' = some td ∧ (∀ k, td ≠ .int k) ∧ (∀ w' : World, (Builtin.lenOf xv).run P w' = .ok n w') ∧ ∀ w' : World, w'.heap = w.heap → (Builtin.firstCells s n xv).run P w' = .ok new w') ∨
     ∃ k m ti v, P.underlying t' = some (.int k) ∧ xv = .int .i64 m ∧ 0 ≤ m ∧ m ≤ 1073741824 ∧ n = m.toNat ∧ P.info? e = some ti ∧ ti.bytes ≤ 65536 ∧ ti.zero = some v ∧
      new = if n * s = 0 then #[] else Builtin.zeroCells v.cells n)

omit [Val] in
theorem isInt_no {td : TypeDesc} (h : ∀ k, td ≠ .int k) : (match td with | .int _ => true | _ => false) = false := by
  cases td <;> first | exact (h _ rfl).elim | rfl

omit [Val] in
theorem run_append_room {ats : Array TypeId} {t e ty : TypeId} {s n sLen sCap : Nat} {base : Option Addr} {xv : Value} {new : Array Value} {w' : World} (h0 : ats[0]? = some t) (hu : P.underlying t = some (.slice e))
    (hs : sz P e = some s) (hx : AppX P w ats e s n xv new) (hn : sLen + n ≤ sCap)
    (hst : (match base with | some a => storeCells (a.add (sLen * s)) new.toList | none => pure () : Sem Unit).run P w = .ok () w') :
    (Builtin.append_ ats ty #[.slice base sLen sCap, xv]).run P w = .ok (.slice base (sLen + n) sCap) w' := by
  obtain ⟨t', h1, hx⟩ := hx
  unfold Builtin.append_
  rcases hx with ⟨td, hu', hni, hl, hf⟩ | ⟨k, m, ti, v, hu', rfl, hm0, hm, rfl, hti, hby, hz, rfl⟩
  · simp only [h0, h1, List.getElem?_toArray, List.getElem?_cons_zero, List.getElem?_cons_succ, Sem.run_bind, run_underlying hu, run_underlying hu', Result.andThen_ok, run_sizeOf' hs, Sem.run_pure, hl, if_pos hn, hf w rfl, Bool.not_false, if_true, Bool.false_eq_true, if_false]
    cases base with
    | none => simp at hst; subst hst; simp
    | some a => simp only [] at hst; simp [hst]
  · have hw : IntKind.i64.wrap m = m := wrap_small hm0 hm
    have hb : ¬ m * ti.bytes > 2 ^ 48 := by
      have h9 : m * (ti.bytes : Int) ≤ 1073741824 * 65536 := Int.mul_le_mul hm (by omega) (by omega) (by omega)
      have h10 : (1073741824 * 65536 : Int) ≤ 2 ^ 48 := by decide
      omega
    have hm1 : ¬ m < 0 := by omega
    simp only [h0, h1, List.getElem?_toArray, List.getElem?_cons_zero, List.getElem?_cons_succ, Sem.run_bind, run_underlying hu, run_underlying hu', Result.andThen_ok, run_sizeOf' hs, Sem.run_pure, asInt, asIntOf, hw, hm1, if_false, run_typeInfo' hti, hb, if_true, if_pos hn, Bool.not_true, Bool.false_eq_true]
    by_cases hz0 : m.toNat * s = 0
    · simp only [hz0, if_true] at hst ⊢
      simp only [Sem.run_pure, Result.andThen_ok]
      cases base with
      | none => simp at hst; subst hst; simp
      | some a => simp only [] at hst; simp [hst]
    · simp only [hz0, if_false] at hst ⊢
      simp only [Sem.run_bind, run_zeroValue' hti hz, Sem.run_pure, Result.andThen_ok]
      cases base with
      | none => simp at hst; subst hst; simp
      | some a => simp only [] at hst; simp [hst]

omit [Val] in
theorem growBy_le (m : Nat) : ∀ (r c : Nat), c ≤ 2 * m + 192 → Builtin.growBy m r c ≤ 2 * m + 192
  | 0, c, h => h
  | r + 1, c, h => by
    unfold Builtin.growBy
    split
    · exact h
    · exact growBy_le m r _ (by omega)

omit [Val] in
theorem nextcap_le {m c : Nat} (h : c < m) : Builtin.nextslicecap m c ≤ 2 * m + 192 := by
  unfold Builtin.nextslicecap
  split
  · omega
  · split
    · omega
    · exact growBy_le m 4 c (by omega)

omit [Val] in
theorem run_append_grow {ats : Array TypeId} {t e ty : TypeId} {s n sLen sCap : Nat} {base : Option Addr} {xv : Value} {old new : Array Value} {ti : TypeInfo} {v : Value} (h0 : ats[0]? = some t) (hu : P.underlying t = some (.slice e))
    (hs : sz P e = some s) (hti : P.info? e = some ti) (hz : ti.zero = some v) (hby : ti.bytes ≤ 65536) (hx : AppX P w ats e s n xv new) (hn : sCap < sLen + n) (hmost : sLen + n ≤ 1073741824)
    (hold : ∀ w' : World, w'.heap = w.heap → (Builtin.firstCells s sLen (.slice base sLen sCap)).run P w' = .ok old w') :
    ∃ (newCap : Nat) (w1 : World), w1.heap = w.heap ∧ w1.os = w.os ∧ w1.tape = w.tape ∧ w1.output = w.output ∧ sLen + n ≤ newCap ∧
      (Builtin.append_ ats ty #[.slice base sLen sCap, xv]).run P w =
        .ok (.slice (some ⟨w.heap.size, 0, none⟩) (sLen + n) newCap) (w1.alloc (.cells (old ++ new ++ Builtin.zeroCells v.cells (newCap - (sLen + n))) e (0, 0))) := by
  obtain ⟨t', h1, hx⟩ := hx
  have hnn : ¬ sLen + n ≤ sCap := by omega
  have hmax : ¬ ((sLen + n : Nat) : Int) > IntKind.i64.max := by
    have : IntKind.i64.max = 9223372036854775807 := by decide
    rw [this]; omega
  have hnext : ¬ Builtin.nextslicecap (sLen + n) sCap * ti.bytes > 2 ^ 48 := by
    have h3 := nextcap_le hn
    have h4 : Builtin.nextslicecap (sLen + n) sCap * ti.bytes ≤ (2 * 1073741824 + 192) * 65536 := Nat.mul_le_mul (by omega) hby
    have h5 : (2 * 1073741824 + 192) * 65536 ≤ 2 ^ 48 := by decide
    omega
  refine ⟨(Question.appendCap (sLen + n) sCap e).cut (w.tape w.drawn (.appendCap (sLen + n) sCap e)), { w with drawn := w.drawn + 1 }, rfl, rfl, rfl, rfl, Nat.le_add_right _ _, ?_⟩
  have hch : (choose (.appendCap (sLen + n) sCap e)).run P w = .ok ((Question.appendCap (sLen + n) sCap e).cut (w.tape w.drawn (.appendCap (sLen + n) sCap e))) { w with drawn := w.drawn + 1 } := by
    simp [Question.forced]
  generalize (Question.appendCap (sLen + n) sCap e).cut (w.tape w.drawn (.appendCap (sLen + n) sCap e)) = newCap at hch ⊢
  have hold2 := hold { w with drawn := w.drawn + 1 } rfl
  unfold Builtin.append_
  rcases hx with ⟨td, hu', hni, hl, hf⟩ | ⟨k, m, ti', v', hu', rfl, hm0, hm, rfl, hti', hby', hz', rfl⟩
  · simp only [h0, h1, List.getElem?_toArray, List.getElem?_cons_zero, List.getElem?_cons_succ, Sem.run_bind, run_underlying hu, run_underlying hu', Result.andThen_ok, run_sizeOf' hs, Sem.run_pure, hl, if_neg hnn, hmax, false_and, if_false, run_typeInfo' hti, hnext, hch, run_askRoom, hold2, hf { w with drawn := w.drawn + 1 } rfl, Bool.not_false, if_true, Bool.false_eq_true, run_zeroValue' hti hz]
    simp [newRow]
  · have hw : IntKind.i64.wrap m = m := wrap_small hm0 hm
    have hb : ¬ m * ti.bytes > 2 ^ 48 := by
      have h9 : m * (ti.bytes : Int) ≤ 1073741824 * 65536 := Int.mul_le_mul hm (by omega) (by omega) (by omega)
      have h10 : (1073741824 * 65536 : Int) ≤ 2 ^ 48 := by decide
      omega
    have hm1 : ¬ m < 0 := by omega
    rw [hti] at hti'
    cases hti'
    rw [hz] at hz'
    cases hz'
    simp only [h0, h1, List.getElem?_toArray, List.getElem?_cons_zero, List.getElem?_cons_succ, Sem.run_bind, run_underlying hu, run_underlying hu', Result.andThen_ok, run_sizeOf' hs, Sem.run_pure, asInt, asIntOf, hw, hm1, if_false, run_typeInfo' hti, hb, if_true, if_neg hnn, hmax, false_and, hnext, hch, run_askRoom, hold2, Bool.not_true, Bool.false_eq_true, run_zeroValue' hti hz]
    by_cases hz0 : m.toNat * s = 0
    · simp only [hz0, if_true, Sem.run_pure, Result.andThen_ok]
      simp [newRow]
    · simp only [hz0, if_false, Sem.run_bind, run_zeroValue' hti hz, Sem.run_pure, Result.andThen_ok]
      simp [newRow]

end

end Go.Sim
/- The builtin append: what it makes. -/
namespace Go.Sim
variable [Val]
open Go.RowKit

section
variable {C : Code → Prop} {P : Program} {Γ : Gam} {F : Nat → Prop} {g : G} {w : World} {env : Env} {ρ : Operand → Value}

theorem slice_of {x : D} {xv : Value} (hx : VRel Γ F w x xv) (h : isSlice x = true) : ∃ a len cap, xv = .slice a len cap ∧ len ≤ cap := by
  cases hx <;> first | exact ⟨_, _, _, rfl, by assumption⟩ | exact ⟨_, _, _, rfl, Nat.le_refl _⟩ | (cases h; done)

omit [Val] in
theorem flat_splice {s k : Nat} {es xs : List D} (h : Even s es) (hx : Even s xs) (hl : k + xs.length ≤ es.length) :
    flat (splice es k xs) = splice (flat es) (k * s) (flat xs) ∧ Even s (splice es k xs) ∧ (splice es k xs).length = es.length := by
  refine ⟨?_, ?_, splice_length es k xs hl⟩
  · unfold splice
    rw [flat_append, flat_append, flat_take h, flat_drop h, hx.length, Nat.add_mul]
  · exact (h.take k).append (hx.append (h.drop _))

theorem CRel.append {cs ds : List D} {us vs : Array Value} (h : CRel Γ F w cs us) (k : CRel Γ F w ds vs) : CRel Γ F w (cs ++ ds) (us ++ vs) := by
  refine ⟨by simp [h.1, k.1], fun j d hd => ?_⟩
  by_cases hj : j < cs.length
  · rw [List.getElem?_append_left hj] at hd
    obtain ⟨v, h1, h2⟩ := h.2 j d hd
    exact ⟨v, by rw [Array.getElem?_append_left (by rw [h.1]; exact hj)]; exact h1, h2⟩
  · rw [List.getElem?_append_right (by omega)] at hd
    obtain ⟨v, h1, h2⟩ := k.2 _ d hd
    exact ⟨v, by rw [Array.getElem?_append_right (by rw [h.1]; omega), h.1]; exact h1, h2⟩

theorem CRel.more {cs : List D} {us : Array Value} (h : CRel Γ F w cs us) (rest : Array Value) : CellsRel Γ F w cs (us ++ rest) := fun j d hd => by
  obtain ⟨v, h1, h2⟩ := h.2 j d hd
  exact ⟨v, by rw [Array.getElem?_append_left (Array.getElem?_eq_some_iff.1 h1).1]; exact h1, h2⟩

omit [Val] in
theorem zeroCells_size (z : Array Value) (n : Nat) : (Builtin.zeroCells z n).size = n * z.size := by simp [Builtin.zeroCells]

theorem list_one {cs : List D} {us : Array Value} (h : CRel Γ F w cs us) : us.toList.length = cs.length ∧
    (∀ (j : Nat) d u, cs[j]? = some d → us.toList[j]? = some u → VRel Γ F w d u ∧ u.oneCell' = true) ∧ ∀ u ∈ us.toList, u.oneCell' = true := by
  have h2 : ∀ (j : Nat) d u, cs[j]? = some d → us.toList[j]? = some u → VRel Γ F w d u ∧ u.oneCell' = true := fun j d u hd hu => by
    obtain ⟨v, h1, h3⟩ := h.2 j d hd
    have : v = u := Option.some.inj (h1.symm.trans (by simpa using hu))
    exact this ▸ h3
  refine ⟨by simpa using h.1, h2, fun u hu => ?_⟩
  obtain ⟨j, hj, rfl⟩ := List.mem_iff_getElem.1 hu
  have hj2 : j < cs.length := by have := h.1; simp at hj; omega
  exact (h2 j cs[j] _ (by simp) (by simp)).2

theorem move_rel {o s off len : Nat} {es xs : List D} {c : Array Value} {vs : Array Value} (h : CellsRel Γ F w (pad o es) c) (he : Even s es) (hl : off + len ≤ es.length)
    (hc : o + (off + len) * s + vs.size ≤ c.size) (hv : CRel Γ F w (flat xs) vs) :
    CellsRel Γ F w (pad (o + off * s) ((es.drop off).take len ++ xs)) (splice c.toList (o + (off + len) * s) vs.toList).toArray := fun k d hd => by
  have hc' : o + (off + len) * s + vs.toList.length ≤ c.toList.length := by simpa using hc
  rw [List.getElem?_toArray, splice_get _ _ _ hc']
  have hlen : (flat ((es.drop off).take len)).length = len * s := by
    rw [((he.drop off).take len).length, List.length_take, List.length_drop, Nat.min_eq_left (by omega)]
  have hK : o + (off + len) * s = o + off * s + len * s := by rw [Nat.add_mul]; omega
  have hfl : (off + len) * s ≤ (flat es).length := by rw [he.length]; exact Nat.mul_le_mul_right s hl
  unfold pad at hd
  rw [flat_append] at hd
  by_cases h1 : k < o + off * s
  · rw [List.getElem?_append_left (by simpa using h1), List.getElem?_replicate, if_pos h1] at hd
    cases hd
    have hk : k < (pad o es).length := by rw [pad_length]; omega
    obtain ⟨v, h2, h3, h4⟩ := h k _ (List.getElem?_eq_getElem hk)
    rw [if_neg (by omega)]
    exact ⟨v, by simpa using h2, .undef v, h4⟩
  · rw [List.getElem?_append_right (by simp; omega), List.length_replicate] at hd
    by_cases h5 : k < o + (off + len) * s
    · rw [List.getElem?_append_left (by rw [hlen]; omega)] at hd
      rw [flat_take (he.drop off), flat_drop he, List.getElem?_take, if_pos (by omega), List.getElem?_drop] at hd
      have h6 : (pad o es)[k]? = some d := by
        unfold pad
        rw [List.getElem?_append_right (by simp; omega), List.length_replicate, show k - o = off * s + (k - (o + off * s)) by omega]
        exact hd
      obtain ⟨v, h2, h3⟩ := h k d h6
      rw [if_neg (by omega)]
      exact ⟨v, by simpa using h2, h3⟩
    · rw [List.getElem?_append_right (by rw [hlen]; omega), hlen] at hd
      obtain ⟨v, h2, h3⟩ := hv.2 _ d hd
      have h7 := (Array.getElem?_eq_some_iff.1 h2).1
      rw [if_pos (by simp; omega)]
      refine ⟨v, ?_, h3⟩
      rw [show k - (o + (off + len) * s) = k - (o + off * s) - len * s by omega]
      simpa using h2

theorem appendD_good {ats : Array TypeId} {t e ty : TypeId} {size : Nat} {sd d : D} {up : Up} {xs : List D} {sv xv : Value} {new : Array Value} {ti : TypeInfo} {v : Value} {e0 : Sem Next}
    (h : appendD size g sd xs = some (d, up)) (hr : Rel C Γ F w g.get) (ht : ∀ id, g.nx ≤ id → Γ id = none) (h0 : ats[0]? = some t) (hu : P.underlying t = some (.slice e))
    (hs : sz P e = some size) (hti : P.info? e = some ti) (hz : ti.zero = some v) (hzs : v.cells.size = size) (hby : ti.bytes ≤ 65536) (hx : AppX P w ats e size xs.length xv new)
    (hnew : CRel Γ F w (flat xs) new) (hev : Even size xs) (hsv : VRel Γ F w sd sv) (he : ∀ val w', (Builtin.append_ ats ty #[sv, xv]).run P w = .ok val w' → e0.run P w = .ok (.value val) w') :
    Good C P Γ F g w e0 d up := by
  have hnl := hev.length
  unfold appendD at h
  cases xs with
  | nil =>
    obtain ⟨hsl, h⟩ := cnd_some.1 h
    cases h
    obtain ⟨a, len, cap, rfl, hlc⟩ := slice_of hsv hsl
    have hn0 : new = #[] := Array.eq_empty_of_size_eq_zero (by rw [hnew.1]; rfl)
    subst hn0
    exact good_pure hr ht (he _ _ (run_append_room h0 hu hs hx (by simpa using hlc) (by cases a <;> simp [storeCells]))) hsv
  | cons x0 xr =>
    generalize hxs : x0 :: xr = xs at *
    have hne : xs.isEmpty = false := by subst hxs; rfl
    have hpos : 0 < xs.length := by subst hxs; simp
    rw [hne] at h
    obtain ⟨hb, h1⟩ := cnd_some.1 h
    simp only [Bool.and_eq_true] at hb
    have hmost := Nat.le_of_ble_eq_true hb.2
    unfold most at hmost
    clear h
    have hgrow0 : ∀ (a : Option Addr), sv = .slice a 0 0 → Good C P Γ F g w e0 (.sl g.nx 0 xs.length) (.one g.nx (some (.arr size xs false))) := by
      intro a ha
      subst ha
      have hold : ∀ w' : World, w'.heap = w.heap → (Builtin.firstCells size 0 (.slice a 0 0)).run P w' = .ok #[] w' := fun w' _ => by
        cases a with
        | none => simp [Builtin.firstCells]
        | some a => simp only [Builtin.firstCells, Nat.zero_mul]; exact loads0 P a w'
      obtain ⟨newCap, w1, k1, k2, k3, k4, k5, k6⟩ := run_append_grow (ty := ty) h0 hu hs hti hz hby hx (by omega) (by omega) hold
      rw [Nat.zero_add] at k6 k5
      refine good_arr hr ht k1 k2 k3 k4 (he _ _ k6) (free_none _) hev ?_ ?_ k5 k5
      · rw [Array.size_append, Array.size_append, zeroCells_size, hnew.1, hnl, hzs]
        simp only [List.size_toArray, List.length_nil, Nat.zero_add]
        rw [← Nat.add_mul]
        exact Nat.mul_le_mul_right size (by omega)
      · have := hnew.more (Builtin.zeroCells v.cells (newCap - xs.length))
        simpa using this
    cases hsv with
    | nils => cases h1; exact hgrow0 _ rfl
    | e0 a => cases h1; exact hgrow0 _ rfl
    | sl id off len cap a i hi hab has hao hc hn hzc =>
      obtain ⟨y, hy, h2⟩ := ob_some.1 h1
      obtain ⟨hb2, h3⟩ := cnd_some.1 h2
      simp only [Bool.and_eq_true] at hb2
      obtain ⟨⟨⟨hsz, hlim⟩, hmo⟩, hol⟩ := hb2
      have hsz := Nat.eq_of_beq_eq_true hsz
      have hlim := Nat.le_of_ble_eq_true hlim
      have hmo := Nat.le_of_ble_eq_true hmo
      have hol := Nat.le_of_ble_eq_true hol
      unfold most at hmo
      have hbx := boxOwn_eq hy
      clear h1 h2 hgrow0
      obtain ⟨i', hi', hlt, hbr, _⟩ := hr.box id _ hbx
      have hii : i' = i := Option.some.inj (hi'.symm.trans hi)
      subst hii
      obtain ⟨ys, yes⟩ := y
      simp only at hsz hol hbx h3 hbr
      subst hsz
      obtain ⟨c, tt, fr, hg, hfree, hcs, hss, hll, heve, hcap, hcr⟩ := hbr
      obtain ⟨l1, l2, l3⟩ := list_one hnew
      have hnl2 : new.size = xs.length * ys := by rw [hnew.1, hnl]
      by_cases hroom : len + xs.length ≤ cap
      · have hcap0 : cap ≠ 0 := by omega
        have hao2 := hao.resolve_right hcap0
        have hzc2 := hzc.resolve_right hcap0
        obtain ⟨ab, ao, asp⟩ := a
        simp only at hab has hao2
        subst hab; subst has
        have hadd : (⟨i'.b, ao, none⟩ : Addr).add (len * ys) = ⟨i'.b, i'.o + (off + len) * ys, none⟩ := by
          rw [Addr.add_plain, hao2, ← hss, Nat.add_mul, Nat.add_assoc]
        rcases Bool.eq_false_or_eq_true (Nat.ble (off + len + xs.length) yes.length) with hk | hk
        · rw [hk] at h3
          cases h3
          have hk := Nat.le_of_ble_eq_true hk
          obtain ⟨f1, f2, f3⟩ := flat_splice heve hev hk
          obtain ⟨ob, hst, hstep⟩ := store_arr (P := P) hr ht hbx hlim hi ⟨f2, f3, f1⟩ (by rw [heve.length, hnl, ← Nat.add_mul]; exact Nat.mul_le_mul_right _ hk) l1 l2 l3
          have hrun := run_append_room (ty := ty) (base := some ⟨i'.b, ao, none⟩) h0 hu hs hx hroom (by show (storeCells ((⟨i'.b, ao, none⟩ : Addr).add (len * ys)) new.toList).run P w = _; rw [hadd]; exact hst)
          refine ⟨_, _, _, .inl (he _ _ hrun), ?_, .sl id off (len + xs.length) cap _ i' hi rfl rfl (.inl hao2) hroom hn (.inl hzc2)⟩
          simp only [Up.ap, Up.top, if_neg (idx_lt hr ht hbx)]; exact hstep
        · rw [hk] at h3
          cases h3
          have hfit : i'.o + (off + len) * ys + new.size ≤ c.size := by
            rw [hnl2, hcs, Nat.add_assoc, ← Nat.add_mul]
            refine Nat.le_trans ?_ hzc2
            rw [← hss]
            exact Nat.add_le_add_left (Nat.mul_le_mul_right _ (by omega)) _
          have hst := run_storeCells (P := P) new.toList (i'.o + (off + len) * ys) 0 c w hg hfree (by simpa using hfit) l3
          rw [Nat.add_zero] at hst
          have hrun := run_append_room (ty := ty) (base := some ⟨i'.b, ao, none⟩) h0 hu hs hx hroom (by show (storeCells ((⟨i'.b, ao, none⟩ : Addr).add (len * ys)) new.toList).run P w = _; rw [hadd]; exact hst)
          have hfit' : i'.o + (off + len) * ys + new.toList.length ≤ c.size := by simpa using hfit
          have hes : Even ys ((yes.drop off).take len ++ xs) := ((heve.drop off).take len).append hev
          have hel : ((yes.drop off).take len ++ xs).length = len + xs.length := by simp; omega
          have hext := updG_ext (Γ := Γ) (nx := g.nx) (i := ⟨i'.b, ys, len + xs.length, i'.c, i'.o + off * ys⟩) ht
          have hmv := Step.move (lim := g.lim) (x' := .arr ys ((yes.drop off).take len ++ xs) false) (i' := ⟨i'.b, ys, len + xs.length, i'.c, i'.o + off * ys⟩)
            (o := .cells (splice c.toList (i'.o + (off + len) * ys) new.toList).toArray tt fr) hr ht hbx hlim hi rfl rfl rfl (by
              refine ⟨_, tt, fr, World.putObj_heap_same hlt, free_splice hfree hfit', ?_, rfl, hel, hes, ?_, ?_⟩
              · rw [splice_size hfit']; exact hcs
              · show i'.o + off * ys + (len + xs.length) * ys ≤ i'.c
                rw [← hcs]
                refine Nat.le_trans (Nat.le_of_eq ?_) hfit
                rw [hnl2]; simp only [Nat.add_mul]; omega
              · exact (move_rel hcr heve hol hfit hnew).mono hext (fun _ h => h) (put_keep hr hbx hi rfl))
          refine ⟨_, _, updF Γ g.nx (some ⟨i'.b, ys, len + xs.length, i'.c, i'.o + off * ys⟩), .inl (he _ _ hrun), ?_, .sl g.nx 0 (len + xs.length) cap ⟨i'.b, ao, none⟩ ⟨i'.b, ys, len + xs.length, i'.c, i'.o + off * ys⟩ (updF_same _ _ _) rfl rfl (.inl ?_) hroom ?_ (.inl ?_)⟩
          · simp only [Up.ap, Up.top, if_true]
            exact hmv
          · show ao = i'.o + off * ys + 0 * ys
            rw [hao2, hss, Nat.zero_mul, Nat.add_zero]
          · show len + xs.length ≤ 0 + cap
            omega
          · show i'.o + off * ys + (0 + cap) * ys ≤ i'.c
            refine Nat.le_trans (Nat.le_of_eq ?_) hzc2
            rw [← hss, Nat.zero_add, Nat.add_mul, Nat.add_assoc]
      · have hk : Nat.ble (off + len + xs.length) yes.length = false := by
          rw [← Bool.not_eq_true]
          intro hk
          have := Nat.le_of_ble_eq_true hk
          omega
        rw [hk] at h3
        cases h3
        have hxe : evenB ys (((yes.drop off).take len)) = true := by
          cases hq : (yes.drop off).take len with
          | nil => rfl
          | cons q qs =>
            show Nat.beq (cells q).length ys = true
            have : (cells q).length = ys := ((heve.drop off).take len) q (by rw [hq]; simp)
            rw [this]; exact Nat.beq_refl ys
        obtain ⟨_, a', len', cap', hsl, hll', hld⟩ := elems_rel (P := P) (s := ys) (x := .sl id off len) hr (.sl id off len cap a i' hi hab has hao hc hn hzc) (xs := (yes.drop off).take len)
          (by show ((boxArr (g.get id)).ob fun x => cnd (Nat.ble (off + len) x.2.length) (some ((x.2.drop off).take len)) none) = _
              rw [hbx]
              show cnd (Nat.ble (off + len) yes.length) _ none = _
              rw [Nat.ble_eq_true_of_le hol]; rfl) hxe
        have hlen : ((yes.drop off).take len).length = len := by simp; omega
        obtain ⟨old, ho1, ho2⟩ := hld len (by omega)
        rw [List.take_of_length_le (by omega)] at ho1
        obtain ⟨newCap, w1, k1, k2, k3, k4, k5, k6⟩ := run_append_grow (ty := ty) h0 hu hs hti hz hby hx (by omega) (by omega) ho2
        have hkill := Step.kill (lim := g.lim) hr ht (id := id) hlim
        have hgood := good_arr (g := { g with get := updF g.get id none }) (len := len + xs.length) (cap := newCap) (es := (yes.drop off).take len ++ xs) (s := ys) hkill.rel ht k1 k2 k3 k4 (he _ _ k6) (free_none _)
          (((heve.drop off).take len).append hev) (by
            rw [Array.size_append, Array.size_append, zeroCells_size, ho1.1, ((heve.drop off).take len).length, hlen, hnl2, hzs, ← Nat.add_mul, ← Nat.add_mul]
            exact Nat.mul_le_mul_right ys (by omega)) (by
            rw [flat_append]
            exact (ho1.append hnew).more _) (by simp; omega) k5
        obtain ⟨v', w', Γ', r1, r2, r3⟩ := hgood
        refine ⟨v', w', Γ', r1, ?_, r3⟩
        have := hkill.trans r2 hr
        simpa [Up.ap, Up.top] using this
    | _ => cases h1

end

end Go.Sim
/- The builtins. -/
namespace Go.Sim
variable [Val]
open Go.RowKit

section
variable {C : Code → Prop} {P : Program} {Γ : Gam} {F : Nat → Prop} {g : G} {w : World} {env : Env} {ρ : Operand → Value}

/-- arguments -/
def AR (Γ : Gam) (F : Nat → Prop) (w : World) (ds : List D) (vs : Array Value) : Prop :=
  vs.size = ds.length ∧ ∀ (k : Nat) d v, ds[k]? = some d → vs[k]? = some v → VRel Γ F w d v

theorem AR.one {x : D} {vs : Array Value} (h : AR Γ F w [x] vs) : ∃ v, vs = #[v] ∧ VRel Γ F w x v := by
  obtain ⟨⟨l⟩⟩ := vs
  · obtain ⟨h1, _⟩ := h; simp at h1
  · rename_i a r
    have h1 : r = [] := by have := h.1; simpa using this
    subst h1
    exact ⟨a, rfl, h.2 0 x a rfl rfl⟩

theorem AR.two {x y : D} {vs : Array Value} (h : AR Γ F w [x, y] vs) : ∃ v u, vs = #[v, u] ∧ VRel Γ F w x v ∧ VRel Γ F w y u := by
  obtain ⟨⟨l⟩⟩ := vs
  · obtain ⟨h1, _⟩ := h; simp at h1
  · rename_i a r
    cases r with
    | nil => obtain ⟨h1, _⟩ := h; simp at h1
    | cons b r =>
      have h1 : r = [] := by have := h.1; simpa using this
      subst h1
      exact ⟨a, b, rfl, h.2 0 x a rfl rfl, h.2 1 y b rfl rfl⟩

theorem lenD_run {x : D} {xv : Value} {n : Nat} (hx : VRel Γ F w x xv) (hsl : isSlice x = true) (h : lenD x = some n) : ∃ a cap, xv = .slice a n cap := by
  cases hx <;> first | (cases hsl; done) | (cases h; exact ⟨_, _, rfl⟩)

theorem lenB_run {ts : Array TypeId} {t ty : TypeId} {x d : D} {xv : Value} (h0 : ts[0]? = some t) (hx : VRel Γ F w x xv) (hr : Rel C Γ F w g.get) (h : lenB P g t x = some d) :
    ∃ v, (Builtin.len_ ts ty #[xv]).run P w = .ok v w ∧ VRel Γ F w d v := by
  unfold lenB at h
  split at h
  · rename_i n e hu
    cases h
    refine ⟨goInt n, ?_, .int _ _⟩
    unfold Builtin.len_
    simp only [h0, List.getElem?_toArray, List.getElem?_cons_zero, Sem.run_bind, run_underlying hu, Result.andThen_ok]
    simp
  · rename_i k e hu
    split at h
    · cases h
      cases hx
      refine ⟨goInt 0, ?_, .int _ _⟩
      unfold Builtin.len_
      simp only [h0, List.getElem?_toArray, List.getElem?_cons_zero, Sem.run_bind, run_underlying hu, Result.andThen_ok]
      simp
    · rename_i id
      obtain ⟨kv, hkv, _⟩ := ob_some.1 h
      exfalso
      cases hg : g.get id with
      | none => rw [hg] at hkv; cases hkv
      | some b =>
        rw [hg] at hkv
        cases b with
        | map m => obtain ⟨i, _, _, hb, _⟩ := hr.box id _ hg; exact hb
        | _ => cases hkv
    · cases h
  · rename_i e hu
    split at h
    · rename_i ks n el
      cases h
      have hsx : ∀ m : Nat, SX.eval Val.V n = m → VRel Γ F w (.sx .i64 n) (goInt m) := fun m hm => by
        show VRel Γ F w (.sx .i64 n) (.int .i64 m)
        rw [← hm]; exact .sx _ _
      cases hx with
      | lx _ _ _ a len cap hn hc hw =>
        refine ⟨goInt len, ?_, hsx _ hn⟩
        unfold Builtin.len_
        simp only [h0, List.getElem?_toArray, List.getElem?_cons_zero, Sem.run_bind, run_underlying hu, Result.andThen_ok]
        simp
      | lx0 _ _ _ hn =>
        refine ⟨goInt 0, ?_, hsx 0 hn⟩
        unfold Builtin.len_
        simp only [h0, List.getElem?_toArray, List.getElem?_cons_zero, Sem.run_bind, run_underlying hu, Result.andThen_ok]
        simp
    · obtain ⟨hsl, h⟩ := cnd_some.1 h
      obtain ⟨n, hn, h⟩ := ob_some.1 h
      cases h
      obtain ⟨a, cap, rfl⟩ := lenD_run hx hsl hn
      refine ⟨goInt n, ?_, .int _ _⟩
      unfold Builtin.len_
      simp only [h0, List.getElem?_toArray, List.getElem?_cons_zero, Sem.run_bind, run_underlying hu, Result.andThen_ok]
      simp
  · rename_i hu
    split at h
    · cases h
      cases hx
      refine ⟨goInt _, ?_, .int _ _⟩
      unfold Builtin.len_
      simp only [h0, List.getElem?_toArray, List.getElem?_cons_zero, Sem.run_bind, run_underlying hu, Result.andThen_ok]
      simp
    · cases h
  · cases h

theorem minmax_run {mx : Bool} {k : IntKind} : ∀ {ds : List D} {vs : List Value} {a : Int} {d : D}, minmaxD mx k a ds = some d → vs.length = ds.length →
    (∀ (j : Nat) x v, ds[j]? = some x → vs[j]? = some v → VRel Γ F w x v) →
    ∃ v, (vs.foldlM (if mx then Builtin.max2 else Builtin.min2) (.int k a)).run P w = .ok v w ∧ VRel Γ F w d v
  | [], vs, a, d, h, hl, _ => by
    cases h
    have : vs = [] := List.eq_nil_of_length_eq_zero hl
    subst this
    exact ⟨_, by simp, .int k a⟩
  | x :: ds, vs, a, d, h, hl, hv => by
    cases vs with
    | nil => simp at hl
    | cons u vs =>
      have hxu := hv 0 x u rfl rfl
      cases hxu with
      | int k' b =>
        obtain ⟨v, h1, h2⟩ := minmax_run (ds := ds) (vs := vs) h (by simpa using hl) (fun j x v hd hv' => hv (j + 1) x v (by simpa using hd) (by simpa using hv'))
        refine ⟨v, ?_, h2⟩
        have : ((if mx then Builtin.max2 else Builtin.min2) (.int k a) (.int k' b)).run P w = .ok (.int k (mm2 mx a b)) w := by
          unfold mm2
          cases mx
          · rcases Bool.eq_false_or_eq_true (decide (b < a)) with hb | hb
            · have := of_decide_eq_true hb; simp [Builtin.min2, this]
            · have := of_decide_eq_false hb; simp [Builtin.min2, this]
          · rcases Bool.eq_false_or_eq_true (decide (b > a)) with hb | hb
            · have := of_decide_eq_true hb; simp [Builtin.max2, this]
            · have := of_decide_eq_false hb; simp [Builtin.max2, this]
        rw [List.foldlM_cons, Sem.run_bind, this]
        exact h1
      | _ => cases h

theorem mmB_run {mx : Bool} {ts : Array TypeId} {ty : TypeId} {ds : List D} {vs : Array Value} {d : D} {up : Up} (h : mmB mx ds = some (d, up)) (ha : AR Γ F w ds vs) :
    up = .nil ∧ ∃ v, (if mx then Builtin.max_ ts ty vs else Builtin.min_ ts ty vs).run P w = .ok v w ∧ VRel Γ F w d v := by
  cases ds with
  | nil => cases h
  | cons x ds =>
    obtain ⟨l⟩ := vs
    cases l with
    | nil => have := ha.1; simp at this
    | cons u l =>
      have hxu := ha.2 0 x u rfl rfl
      cases hxu with
      | int k a =>
        obtain ⟨e, he, h⟩ := ob_some.1 h
        obtain ⟨rfl, rfl⟩ := vU_eq h
        obtain ⟨v, h1, h2⟩ := minmax_run (P := P) (vs := l) he (by have := ha.1; simpa using this) (fun j x v hd hv => ha.2 (j + 1) x v (by simpa using hd) (by simpa using hv))
        refine ⟨rfl, v, ?_, h2⟩
        cases mx
        · simpa [Builtin.min_] using h1
        · simpa [Builtin.max_] using h1
      | _ => cases h

end

end Go.Sim
/- The builtins that change slices; all builtins. -/
namespace Go.Sim
variable [Val]
open Go.RowKit

section
variable {C : Code → Prop} {P : Program} {Γ : Gam} {F : Nat → Prop} {g : G} {w : World} {env : Env} {ρ : Operand → Value}

omit [Val] in
theorem cells_of_one? {d : D} (h : one? d = true) : cells d = [d] := cells_one h

/-- storing cells at a slice's place -/
theorem store_slice {id off len k : Nat} {s : Nat} {es xs : List D} {sv : Value} {vs : Array Value} (hr : Rel C Γ F w g.get) (ht : ∀ id, g.nx ≤ id → Γ id = none) (hx : g.get id = some (.arr s es false)) (hl : g.lim ≤ id)
    (hsv : VRel Γ F w (.sl id off len) sv) (hle : off + len ≤ es.length) (hev : Even s xs) (hxl : xs.length ≤ len) (hv : CRel Γ F w (flat xs) vs) (hk : k = len) :
    ∃ a cap w', sv = .slice (some a) k cap ∧ (storeCells a vs.toList).run P w = .ok () w' ∧
      Step C g.lim Γ F g.get g.nx w Γ F (updF g.get id (some (.arr s (splice es off xs) false))) g.nx w' := by
  subst hk
  cases hsv with
  | sl _ _ _ cap a i hi hab has hao hc hn hzc =>
    obtain ⟨i', hi', hlt, hbr, _⟩ := hr.box id _ hx
    have hii : i' = i := Option.some.inj (hi'.symm.trans hi)
    subst hii
    obtain ⟨c, tt, fr, hg, hfree, hcs, hss, hll, heve, hcap, hcr⟩ := hbr
    obtain ⟨l1, l2, l3⟩ := list_one hv
    have hfit : off + xs.length ≤ es.length := by omega
    obtain ⟨f1, f2, f3⟩ := flat_splice heve hev hfit
    obtain ⟨ob, hst, hstep⟩ := store_arr (P := P) hr ht hx hl hi ⟨f2, f3, f1⟩ (by rw [heve.length, hev.length, ← Nat.add_mul]; exact Nat.mul_le_mul_right _ hfit) l1 l2 l3
    refine ⟨a, cap, w.putObj i'.b ob, rfl, ?_, hstep⟩
    by_cases hc0 : cap = 0
    · have hx0 : xs = [] := List.eq_nil_of_length_eq_zero (by omega)
      subst hx0
      have hv0 : vs = #[] := Array.eq_empty_of_size_eq_zero (by rw [hv.1]; rfl)
      subst hv0
      have h1 : ∀ a, (storeCells a (#[] : Array Value).toList).run P w = .ok () w := fun a => by simp [storeCells]
      rw [h1] at hst
      rw [h1, hst]
    · have hao2 := hao.resolve_right hc0
      obtain ⟨ab, ao, asp⟩ := a
      simp only at hab has hao2
      subst hab; subst has
      rw [hao2, ← hss]
      exact hst

theorem copyD_good {ts : Array TypeId} {t e ty : TypeId} {n : Nat} {dd sd d : D} {up : Up} {xs : List D} {dv sv : Value} {e0 : Sem Next} (hr : Rel C Γ F w g.get) (ht : ∀ id, g.nx ≤ id → Γ id = none)
    (h0 : ts[0]? = some t) (hu : P.underlying t = some (.slice e)) (hs : sz P e = some n) (hdv : VRel Γ F w dd dv) (hsv : VRel Γ F w sd sv) (hxs : elemsD g sd = some xs)
    (h : copyD n g dd xs = some (d, up)) (he : ∀ val w', (Builtin.copy_ ts ty #[dv, sv]).run P w = .ok val w' → e0.run P w = .ok (.value val) w') : Good C P Γ F g w e0 d up := by
  have hrun : ∀ {a : Option Addr} {len cap : Nat} {c : Array Value} {sa : Option Addr} {sl sc : Nat} {w' : World}, dv = .slice a len cap → sv = .slice sa sl sc →
      (Builtin.firstCells n (min sl len) sv).run P w = .ok c w → (match a with | some a => storeCells a c.toList | none => pure () : Sem Unit).run P w = .ok () w' →
      (Builtin.copy_ ts ty #[dv, sv]).run P w = .ok (goInt (min sl len : Nat)) w' := by
    intro a len cap c sa sl sc w' e1 e2 h1 h2
    subst e1; subst e2
    unfold Builtin.copy_
    have h3 : Nat.min sl len = min sl len := rfl
    simp only [h0, List.getElem?_toArray, List.getElem?_cons_zero, List.getElem?_cons_succ, Sem.run_bind, run_underlying hu, Result.andThen_ok, Builtin.lenOf, Sem.run_pure, run_sizeOf' hs, h3, h1]
    cases a with
    | none => simp at h2; subst h2; simp
    | some a => simp only at h2; simp [h2]
  unfold copyD at h
  split at h
  · rename_i id off len
    obtain ⟨y, hy, h1⟩ := ob_some.1 h
    obtain ⟨hb, h2⟩ := cnd_some.1 h1
    cases h2
    simp only [Bool.and_eq_true] at hb
    obtain ⟨⟨⟨hsz, hev⟩, hlim⟩, hle⟩ := hb
    have hsz := Nat.eq_of_beq_eq_true hsz
    have hlim := Nat.le_of_ble_eq_true hlim
    have hle := Nat.le_of_ble_eq_true hle
    have hbx := boxOwn_eq hy
    obtain ⟨hex, sa, sl, sc, hsv2, hsl, hld⟩ := elems_rel (P := P) (s := n) hr hsv hxs hev
    obtain ⟨vs, hv1, hv2⟩ := hld (min xs.length len) (Nat.min_le_left _ _)
    obtain ⟨ys, yes⟩ := y
    simp only at hsz hle hbx
    subst hsz
    obtain ⟨a, cap, w', k1, k2, k3⟩ := store_slice (P := P) (k := len) hr ht hbx hlim hdv hle (hex.take (min xs.length len)) (by simp; omega) hv1 rfl
    have := hrun (w' := w') k1 hsv2 (by rw [← hsl]; exact hv2 w rfl) k2
    refine ⟨_, _, Γ, .inl (he _ _ this), ?_, ?_⟩
    · simp only [Up.ap, Up.top, if_neg (idx_lt hr ht hbx)]; exact k3
    · rw [← hsl]; exact .int _ _
  · rename_i id off len
    obtain ⟨cs, hcs, h1⟩ := ob_some.1 h
    obtain ⟨hb, h2⟩ := cnd_some.1 h1
    cases h2
    simp only [Bool.and_eq_true] at hb
    obtain ⟨⟨⟨hsz, hlim⟩, hle⟩, hone⟩ := hb
    have hsz := Nat.eq_of_beq_eq_true hsz
    subst hsz
    have hlim := Nat.le_of_ble_eq_true hlim
    have hle := Nat.le_of_ble_eq_true hle
    have hone' : ∀ x ∈ xs, cells x = [x] := fun x hx => cells_one (List.all_eq_true.1 hone x hx)
    have hev : evenB 1 xs = true := by
      cases xs with
      | nil => rfl
      | cons x r => show Nat.beq (cells x).length 1 = true; rw [hone' x (by simp)]; rfl
    have hbx := boxVar_eq hcs
    obtain ⟨hex, sa, sl, sc, hsv2, hsl, hld⟩ := elems_rel (P := P) (s := 1) hr hsv hxs hev
    obtain ⟨vs, hv1, hv2⟩ := hld (min xs.length len) (Nat.min_le_left _ _)
    rw [flat_of_ones (fun x hx => hone' x (List.mem_of_mem_take hx))] at hv1
    cases hdv with
    | slv _ _ _ cap a i hi hab has hao hc =>
      obtain ⟨l1, l2, l3⟩ := list_one hv1
      obtain ⟨ob, hst, hstep⟩ := store_var (P := P) (off := off) hr ht hbx hlim hi (by simp; omega) l1 l2 l3
      have hst2 : (storeCells a vs.toList).run P w = .ok () (w.putObj i.b ob) := by
        by_cases hc0 : cap = 0
        · have hv0 : vs = #[] := Array.eq_empty_of_size_eq_zero (by rw [hv1.1]; simp; omega)
          subst hv0
          have h1 : ∀ a, (storeCells a (#[] : Array Value).toList).run P w = .ok () w := fun a => by simp [storeCells]
          rw [h1] at hst
          rw [h1, hst]
        · have hao2 := hao.resolve_right hc0
          obtain ⟨ab, ao, asp⟩ := a
          simp only at hab has hao2
          subst hab; subst has; subst hao2
          exact hst
      have := hrun (w' := w.putObj i.b ob) (a := some a) rfl hsv2 (by rw [← hsl]; exact hv2 w rfl) hst2
      refine ⟨_, _, Γ, .inl (he _ _ this), ?_, ?_⟩
      · simp only [Up.ap, Up.top, if_neg (idx_lt hr ht hbx)]; exact hstep
      · rw [← hsl]; exact .int _ _
  · cases h

theorem clearB_good {ts : Array TypeId} {t ty : TypeId} {x d : D} {up : Up} {xv : Value} {e0 : Sem Next} (hr : Rel C Γ F w g.get) (ht : ∀ id, g.nx ≤ id → Γ id = none)
    (h0 : ts[0]? = some t) (hx : VRel Γ F w x xv) (h : clearB P g t x = some (d, up)) (he : ∀ val w', (Builtin.clear_ ts ty #[xv]).run P w = .ok val w' → e0.run P w = .ok (.value val) w') : Good C P Γ F g w e0 d up := by
  obtain ⟨e, het, h1⟩ := ob_some.1 h
  obtain ⟨s, hs, h2⟩ := ob_some.1 h1
  obtain ⟨z, hz, h3⟩ := ob_some.1 h2
  have hu := sliceOf_eq het
  clear h h1 h2
  cases x with
  | sl id off len =>
    obtain ⟨y, hy, h4⟩ := ob_some.1 h3
    obtain ⟨hb, h5⟩ := cnd_some.1 h4
    cases h5
    simp only [Bool.and_eq_true] at hb
    obtain ⟨⟨⟨hsz, hok⟩, hlim⟩, hle⟩ := hb
    have hsz := Nat.eq_of_beq_eq_true hsz
    have hlim := Nat.le_of_ble_eq_true hlim
    have hle2 := Nat.le_of_ble_eq_true hle
    obtain ⟨hic, hzl⟩ := okZ_eq hok
    have hbx := boxOwn_eq hy
    obtain ⟨ys, yes⟩ := y
    simp only at hsz hle2 hbx
    subst hsz
    obtain ⟨ti, v, hi, hiz, hv⟩ := zero_info hz
    have hvr := ofV_rel (Γ := Γ) (F := F) (w := w) _ v z hv
    have hvs : v.cells.size = ys := by rw [(crel_of hvr hic).1, hzl]
    by_cases hs0 : ys = 0
    · subst hs0
      have hzr : CRel Γ F w (flat (List.replicate len z)) #[] := by
        have : flat (List.replicate len z) = [] := List.eq_nil_of_length_eq_zero (by rw [(even_replicate hzl).length]; simp)
        rw [this]; exact ⟨rfl, fun k d hd => by cases hd⟩
      obtain ⟨a, cap, w', k1, k2, k3⟩ := store_slice (P := P) (k := len) hr ht hbx hlim hx hle2 (even_replicate (n := len) hzl) (by simp) hzr rfl
      have hw' : w' = w := by
        have h1 : (storeCells a (#[] : Array Value).toList).run P w = .ok () w := by simp [storeCells]
        rw [h1] at k2; cases k2; rfl
      subst hw'
      subst k1
      refine ⟨.tuple #[], w', Γ, .inl (he _ _ ?_), ?_, .tup [] #[] rfl (fun _ _ _ h => by simp at h)⟩
      · unfold Builtin.clear_
        simp only [h0, List.getElem?_toArray, List.getElem?_cons_zero, Sem.run_bind, run_underlying hu, Result.andThen_ok]
        cases len with
        | zero => simp
        | succ l =>
          have hzc : Builtin.zeroCells v.cells (l + 1) = #[] := Array.eq_empty_of_size_eq_zero (by rw [zeroCells_size, hvs]; rfl)
          simp [run_zeroValue' hi hiz, hzc, storeCells]
      · simp only [Up.ap, Up.top, if_neg (idx_lt hr ht hbx)]; exact k3
    · have hzr := zeros_rel (Γ := Γ) (F := F) (w := w) hvr hic hzl (by omega) len
      have hzc : Builtin.zeroCells v.cells len = (Array.range (len * ys)).map fun i => v.cells[i % v.cells.size]! := by
        unfold Builtin.zeroCells; rw [hvs]
      rw [← hzc] at hzr
      obtain ⟨a, cap, w', k1, k2, k3⟩ := store_slice (P := P) (k := len) hr ht hbx hlim hx hle2 (even_replicate (n := len) hzl) (by simp) hzr rfl
      subst k1
      refine ⟨.tuple #[], w', Γ, .inl (he _ _ ?_), ?_, .tup [] #[] rfl (fun _ _ _ h => by simp at h)⟩
      · unfold Builtin.clear_
        simp only [h0, List.getElem?_toArray, List.getElem?_cons_zero, Sem.run_bind, run_underlying hu, Result.andThen_ok]
        cases len with
        | zero =>
          have : Builtin.zeroCells v.cells 0 = #[] := Array.eq_empty_of_size_eq_zero (by rw [zeroCells_size]; simp)
          rw [this] at k2
          have h1 : (storeCells a (#[] : Array Value).toList).run P w = .ok () w := by simp [storeCells]
          rw [h1] at k2; cases k2
          simp
        | succ l => simp [run_zeroValue' hi hiz, k2]
      · simp only [Up.ap, Up.top, if_neg (idx_lt hr ht hbx)]; exact k3
  | _ => cases h3

omit [Val] in
theorem isInt_td {t : TypeId} {b : Bool} (h : isInt P t = b) (hs : (P.underlying t).isSome = true) : ∃ td, P.underlying t = some td ∧ (b = true → ∃ k, td = .int k) ∧ (b = false → ∀ k, td ≠ .int k) := by
  unfold isInt at h
  cases hu : P.underlying t with
  | none => rw [hu] at hs; cases hs
  | some td =>
    rw [hu] at h
    refine ⟨td, rfl, fun hb => ?_, fun hb k hk => ?_⟩
    · subst hb
      cases td <;> first | (cases h; done) | exact ⟨_, rfl⟩
    · subst hb; subst hk; cases h

theorem appB_good {ts : Array TypeId} {t t' ty : TypeId} {sd x d : D} {up : Up} {sv xv : Value} {e0 : Sem Next} (hr : Rel C Γ F w g.get) (ht : ∀ id, g.nx ≤ id → Γ id = none)
    (h0 : ts[0]? = some t) (h1 : ts[1]? = some t') (hs : VRel Γ F w sd sv) (hx : VRel Γ F w x xv) (h : appB P g t t' sd x = some (d, up))
    (he : ∀ val w', (Builtin.append_ ts ty #[sv, xv]).run P w = .ok val w' → e0.run P w = .ok (.value val) w') : Good C P Γ F g w e0 d up := by
  obtain ⟨e, het, k1⟩ := ob_some.1 h
  obtain ⟨size, hsz, k2⟩ := ob_some.1 k1
  obtain ⟨z, hz, k3⟩ := ob_some.1 k2
  obtain ⟨hb, k4⟩ := cnd_some.1 k3
  clear h k1 k2 k3
  have h := k4
  clear k4
  simp only [Bool.and_eq_true] at hb
  obtain ⟨⟨⟨⟨hok, hs1⟩, hby⟩, _⟩, htd⟩ := hb
  have hs1 := Nat.le_of_ble_eq_true hs1
  have hby := Nat.le_of_ble_eq_true hby
  have hu := sliceOf_eq het
  obtain ⟨hic, hzl⟩ := okZ_eq hok
  obtain ⟨ti, v, hi, hiz, hv⟩ := zero_info hz
  have hvr := ofV_rel (Γ := Γ) (F := F) (w := w) _ v z hv
  have hvs : v.cells.size = size := by rw [(crel_of hvr hic).1, hzl]
  rw [bytes_of hi] at hby
  cases hint : isInt P t' with
  | true =>
    rw [hint] at h
    obtain ⟨td, hu', hk, _⟩ := isInt_td hint htd
    obtain ⟨k, rfl⟩ := hk rfl
    simp only [cnd_true] at h
    split at h
    · rename_i n
      obtain ⟨hb2, h2⟩ := cnd_some.1 h
      simp only [Bool.and_eq_true, decide_eq_true_eq] at hb2
      have hm := Nat.le_of_ble_eq_true hb2.2
      unfold most at hm
      cases hx
      have hzr := zeros_rel (Γ := Γ) (F := F) (w := w) hvr hic hzl hs1 n.toNat
      have hzc : (if n.toNat * size = 0 then #[] else Builtin.zeroCells v.cells n.toNat) = (Array.range (n.toNat * size)).map fun i => v.cells[i % v.cells.size]! := by
        split
        · rename_i h0; rw [h0]; simp
        · unfold Builtin.zeroCells; rw [hvs]
      rw [← hzc] at hzr
      refine appendD_good (ty := ty) h2 hr ht h0 hu hsz hi hiz hvs hby ?_ hzr (even_replicate hzl) hs he
      rw [List.length_replicate]
      exact ⟨t', h1, .inr ⟨k, n, ti, v, hu', rfl, hb2.1, by omega, rfl, hi, hby, hiz, rfl⟩⟩
    · cases h
  | false =>
    rw [hint] at h
    obtain ⟨td, hu', _, hk⟩ := isInt_td hint htd
    simp only [cnd_false] at h
    obtain ⟨hsl, h⟩ := cnd_some.1 h
    obtain ⟨xs, hxs, h⟩ := ob_some.1 h
    have hev : evenB size xs = true ∨ xs = [] := by
      unfold appendD at h
      cases xs with
      | nil => exact .inr rfl
      | cons a r =>
        obtain ⟨hb, _⟩ := cnd_some.1 h
        simp only [Bool.and_eq_true] at hb
        exact .inl hb.1
    have hev : evenB size xs = true := hev.elim id (fun e => by rw [e]; rfl)
    obtain ⟨hex, a, len, cap, rfl, hl, hld⟩ := elems_rel (P := P) hr hx hxs hev
    obtain ⟨vs, hv1, hv2⟩ := hld xs.length (Nat.le_refl _)
    rw [List.take_length] at hv1
    refine appendD_good (ty := ty) h hr ht h0 hu hsz hi hiz hvs hby ?_ hv1 hex hs he
    exact ⟨t', h1, .inl ⟨td, hu', hk rfl, fun w' => by rw [hl]; simp [Builtin.lenOf], hv2⟩⟩

theorem bBuiltin_good {b : Builtin} {ts : Array TypeId} {ty : TypeId} {cs : Array Bool} {args : Array Operand} {d : D} {up : Up} (h : bBuiltin P g env b ts args = some (d, up))
    (hr : Rel C Γ F w g.get) (ht : ∀ id, g.nx ≤ id → Γ id = none) (hρ : OpR Γ F w env ρ) : Good C P Γ F g w (builtin b ts ty cs (args.map ρ)) d up := by
  obtain ⟨ds, hds, h⟩ := ob_some.1 h
  have har : AR Γ F w ds (args.map ρ) := arr_of_opds hds hρ
  generalize args.map ρ = vs at har
  cases b <;> first | (cases h; done) | skip
  -- append, clear, copy, len, max, min
  · dsimp only at h
    split at h
    · obtain ⟨v, u, rfl, h1, h2⟩ := har.two
      obtain ⟨t, ht1, h⟩ := ob_some.1 h
      obtain ⟨t', ht2, h⟩ := ob_some.1 h
      exact appB_good (ty := ty) hr ht ht1 ht2 h1 h2 h (fun val w' hv => by simp [builtin, hv])
    · cases h
  · dsimp only at h
    split at h
    · obtain ⟨v, rfl, h1⟩ := har.one
      obtain ⟨t, ht1, h⟩ := ob_some.1 h
      exact clearB_good (ty := ty) hr ht ht1 h1 h (fun val w' hv => by simp [builtin, hv])
    · cases h
  · dsimp only at h
    split at h
    · obtain ⟨v, u, rfl, h1, h2⟩ := har.two
      obtain ⟨hsl, h⟩ := cnd_some.1 h
      obtain ⟨xs, hxs, h⟩ := ob_some.1 h
      obtain ⟨t, ht1, h⟩ := ob_some.1 h
      obtain ⟨e, het, h⟩ := ob_some.1 h
      obtain ⟨n, hn, h⟩ := ob_some.1 h
      exact copyD_good (ty := ty) hr ht ht1 (sliceOf_eq het) hn h1 h2 hxs h (fun val w' hv => by simp [builtin, hv])
    · cases h
  · dsimp only at h
    split at h
    · obtain ⟨v, rfl, h1⟩ := har.one
      obtain ⟨t, ht1, h⟩ := ob_some.1 h
      obtain ⟨e, hl, h⟩ := ob_some.1 h
      obtain ⟨rfl, rfl⟩ := vU_eq h
      obtain ⟨val, h2, h3⟩ := lenB_run (P := P) (ty := ty) ht1 h1 hr hl
      exact good_pure hr ht (by simp [builtin, h2]) h3
    · cases h
  · obtain ⟨rfl, val, h2, h3⟩ := mmB_run (P := P) (ts := ts) (ty := ty) h har
    exact good_pure hr ht (by simp at h2; simp [builtin, h2]) h3
  · obtain ⟨rfl, val, h2, h3⟩ := mmB_run (P := P) (ts := ts) (ty := ty) h har
    exact good_pure hr ht (by simp at h2; simp [builtin, h2]) h3

end

end Go.Sim
/- Conversions; every operation that calls nothing. -/
namespace Go.Sim
variable [Val]
open Go.RowKit

section
variable {C : Code → Prop} {P : Program} {Γ : Gam} {F : Nat → Prop} {g : G} {w : World} {env : Env} {ρ : Operand → Value}

omit [Val] in
theorem modify_push {α : Type} (a : Array α) (x : α) (f : α → α) : (a.push x).modify a.size f = a.push (f x) := by
  apply Array.ext_getElem?
  intro i
  rw [Array.getElem?_modify, Array.getElem?_push, Array.getElem?_push]
  by_cases h : i = a.size
  · subst h; simp
  · rw [if_neg (Ne.symm h), if_neg h, if_neg h]

omit [Val] in
theorem bytesWorld_eq (w : World) (e : TypeId) (s : ByteArray) :
    Lib.bytesWorld w e s = ({ w with drawn := w.drawn + 1 } : World).alloc (.cells (Lib.bytesCells w e s) e ((Lib.bytesCells w e s).size, (Lib.bytesCells w e s).size + 1)) := by
  unfold Lib.bytesWorld World.freeze
  generalize Lib.bytesCells w e s = cs
  simp only [Nat.one_ne_zero, if_false]
  exact (congrArg (fun hp => ({ heap := hp, tape := w.tape, drawn := w.drawn + 1, os := w.os, output := w.output } : World)) (modify_push w.heap (Obj.cells cs e (0, 0)) _)).trans rfl

omit [Val] in
theorem free_end (c : Array Value) : free c (c.size, c.size + 1) := fun j hj h => by
  have h1 : c.size ≤ j := h.1
  omega

theorem bConv_good {o : Oper} {s t : TypeId} {x : Operand} (ho : o.op = .convert s t x) {d : D} {up : Up} (h : bConv P g env s t x = some (d, up))
    (hr : Rel C Γ F w g.get) (ht : ∀ id, g.nx ≤ id → Γ id = none) (hρ : OpR Γ F w env ρ) : Good C P Γ F g w (execOp ρ o) d up := by
  obtain ⟨hsrc, k1⟩ := cnd_some.1 h
  obtain ⟨a, ha, k2⟩ := ob_some.1 k1
  clear h k1
  have hx := hρ x a ha
  generalize hxv : ρ x = xv at hx
  obtain ⟨sd, hsd⟩ := Option.isSome_iff_exists.1 hsrc
  unfold convD at k2
  split at k2
  · rename_i k hu
    cases hx with
    | int k0 n =>
      obtain ⟨rfl, rfl⟩ := vU_eq k2
      refine good_pure hr ht (v := .int k (k.wrap n)) ?_ (.int _ _)
      simp [execOp, ho, hxv, convert, run_underlying hsd, run_underlying hu, Conv.intToInt]
    | sx k0 e =>
      obtain ⟨rfl, rfl⟩ := vU_eq k2
      refine good_pure hr ht (v := .int k (k.wrap (e.eval Val.V))) ?_ (.sx k (.conv k e))
      simp [execOp, ho, hxv, convert, run_underlying hsd, run_underlying hu, Conv.intToInt]
    | _ => cases k2
  · rename_i e hu
    cases hx with
    | str st =>
      simp only at k2
      split at k2
      · rename_i he
        obtain ⟨hm, k3⟩ := cnd_some.1 k2
        cases k3
        have hrun := Lib.run_convert_string_bytes (P := P) w s t e st hsd hu he
        rw [bytesWorld_eq] at hrun
        have hge : st.size ≤ grownCap w st.size 0 e := Nat.le_add_right _ _
        have hsz : (Lib.bytesCells w e st).size = grownCap w st.size 0 e := by
          simp only [Lib.bytesCells, Array.size_append, Array.size_map, Array.size_replicate]
          show st.size + (grownCap w st.size 0 e - st.size) = _
          omega
        have hone : ∀ y ∈ st.data.toList.map (fun b => D.int .u8 b.toNat), cells y = [y] := fun y hy => by
          obtain ⟨b, _, rfl⟩ := List.mem_map.1 hy
          rfl
        have hlen : (st.data.toList.map (fun b => D.int .u8 b.toNat)).length = st.size := by simp
        refine good_arr (w1 := { w with drawn := w.drawn + 1 }) (et := e) (arr := Lib.bytesCells w e st) (len := st.size) (cap := grownCap w st.size 0 e) hr ht rfl rfl rfl rfl (by simp [execOp, ho, hxv, hrun])
          (free_end _) (fun y hy => by rw [hone y hy]; rfl) (by rw [Nat.mul_one, hsz]; exact Nat.le_refl _) ?_ (by rw [hlen]; exact hge) hge
        rw [flat_of_ones hone]
        intro k d hd
        rw [List.getElem?_map] at hd
        cases hb : st.data.toList[k]? with
        | none => rw [hb] at hd; cases hd
        | some b =>
          rw [hb] at hd
          cases hd
          refine ⟨.int .u8 b.toNat, ?_, .int _ _, rfl⟩
          have hk : k < st.data.size := by
            have := (List.getElem?_eq_some_iff.1 hb).1
            simpa using this
          unfold Lib.bytesCells
          rw [Array.getElem?_append_left (by simpa using hk), Array.getElem?_map]
          have : st.data[k]? = some b := by simpa using hb
          rw [this]; rfl
      · cases k2
    | _ => cases k2
  · cases k2

/-- operations that call nothing -/
theorem stepB_good {o : Oper} {d : D} {up : Up} (h : stepB P g env o.op = some (d, up))
    (hr : Rel C Γ F w g.get) (ht : ∀ id, g.nx ≤ id → Γ id = none) (hρ : OpR Γ F w env ρ) : Good C P Γ F g w (execOp ρ o) d up := by
  cases ho : o.op <;> rw [ho] at h <;> first | (cases h; done) | skip
  case move => exact bMove_good (.inl ho) h hr ht hρ
  case assign => exact bMove_good (.inr ho) h hr ht hρ
  case pick => exact bPick_good ho h hr ht hρ
  case alloc => exact bAlloc_good ho h hr ht
  case box => exact bBox_good ho h hr ht hρ
  case build => exact bBuild_good ho h hr ht hρ
  case buildSlice => exact bBuildSlice_good ho h hr ht hρ
  case load => exact bLoad_good ho h hr ht hρ
  case store => exact bStore_good ho h hr ht hρ
  case nilCheck => exact bNil_good ho h hr ht hρ
  case binOp => exact bBin_good ho h hr ht hρ
  case unOp => exact bUn_good ho h hr ht hρ
  case convert => exact bConv_good ho h hr ht hρ
  case sliceToArrayPointer => exact bS2ap_good ho h hr ht hρ
  case makeInterface => exact bIface_good ho h hr ht hρ
  case makeFunc fn a c =>
    cases fn with
    | func f => exact bFunc_good ho h hr ht hρ
    | _ => cases h
  case makeSlice => exact bMakeSlice_good ho h hr ht hρ
  case slice => exact bSlice_good ho h hr ht hρ
  case fieldAddr => exact bFieldAddr_good ho h hr ht hρ
  case field => exact bField_good ho h hr ht hρ
  case indexAddr => exact bIndexAddr_good ho h hr ht hρ
  case index => exact bIndex_good ho h hr ht hρ
  case typeAssert => exact bAssert_good ho h hr ht hρ
  case extract => exact bExtract_good ho h hr ht hρ

end

end Go.Sim
/- The interpreter's heap; freezing. -/
namespace Go.Sim
variable [Val]
open Go.RowKit

omit [Val] in
theorem nth_eq {α : Type} : ∀ (l : List (Option α)) (k : Nat), nth l k = (l[k]?).getD none
  | [], k => by cases k <;> rfl
  | x :: l, 0 => rfl
  | x :: l, k + 1 => (show nth (x :: l) (k + 1) = nth l k from rfl).trans ((nth_eq l k).trans (by simp))

omit [Val] in
theorem setNth_eq {α : Type} (b : α) : ∀ (l : List α) (k : Nat), setNth b l k = l.set k b
  | [], k => by cases k <;> rfl
  | x :: l, 0 => rfl
  | x :: l, k + 1 => (show setNth b (x :: l) (k + 1) = x :: setNth b l k from rfl).trans (by rw [setNth_eq b l k]; rfl)

def H.WF (h : H) : Prop := h.bx.length = h.nx

omit [Val] in
theorem H.get_eq (h : H) (id : Nat) : h.get id = if id < h.nx then (h.bx[h.nx - 1 - id]?).getD none else none := by
  unfold H.get
  show cnd (Nat.blt id h.nx) (nth h.bx (h.nx - 1 - id)) none = _
  rw [nth_eq]
  by_cases hl : id < h.nx
  · rw [if_pos hl]
    have : Nat.blt id h.nx = true := Nat.ble_eq_true_of_le hl
    rw [this]; rfl
  · rw [if_neg hl]
    have : Nat.blt id h.nx = false := by
      rw [← Bool.not_eq_true]; intro h'; exact hl (Nat.le_of_ble_eq_true h')
    rw [this]; rfl

omit [Val] in
theorem H.get_ge (h : H) {id : Nat} (hl : h.nx ≤ id) : h.get id = none := by rw [H.get_eq, if_neg (by omega)]

omit [Val] in
theorem H.get_lt {h : H} {id : Nat} {b : Box} (hg : h.get id = some b) : id < h.nx := by
  rcases Nat.lt_or_ge id h.nx with h' | h'
  · exact h'
  · rw [H.get_ge h h'] at hg; cases hg

omit [Val] in
theorem beq_self (n : Nat) : Nat.beq n n = true := Nat.beq_refl n
omit [Val] in
theorem beq_ne {n m : Nat} (h : n ≠ m) : Nat.beq n m = false := by
  rw [← Bool.not_eq_true, Nat.beq_eq]; exact h
omit [Val] in
theorem blt_lt {n m : Nat} (h : n < m) : Nat.blt n m = true := Nat.ble_eq_true_of_le h
omit [Val] in
theorem blt_ge {n m : Nat} (h : m ≤ n) : Nat.blt n m = false := by
  rw [← Bool.not_eq_true]; intro h'; have := Nat.le_of_ble_eq_true h'; omega

omit [Val] in
theorem H.upd_new (h : H) (b : Box) : h.upd h.nx (some b) = ⟨h.nx + 1, some b :: h.bx, h.lim⟩ := by
  obtain ⟨nx, bx, lim⟩ := h
  show cnd (Nat.beq nx nx) _ _ = _
  rw [beq_self]; rfl

omit [Val] in
theorem H.upd_lt (h : H) {id : Nat} (hl : id < h.nx) (b : Option Box) : h.upd id b = ⟨h.nx, h.bx.set (h.nx - 1 - id) b, h.lim⟩ := by
  obtain ⟨nx, bx, lim⟩ := h
  show cnd (Nat.beq id nx) _ (cnd (Nat.blt id nx) _ _) = _
  have hl : id < nx := hl
  rw [beq_ne (by omega), blt_lt hl, setNth_eq]; rfl

omit [Val] in
theorem H.upd_none (h : H) {id : Nat} (hl : h.nx ≤ id) : h.upd id none = h := by
  obtain ⟨nx, bx, lim⟩ := h
  have hl : nx ≤ id := hl
  show cnd (Nat.beq id nx) _ (cnd (Nat.blt id nx) _ _) = _
  rcases Nat.eq_or_lt_of_le hl with e | e
  · subst e; rw [beq_self]; rfl
  · rw [beq_ne (by omega), blt_ge (by omega)]; rfl

omit [Val] in
theorem H.upd_wf {h : H} (hw : h.WF) {id : Nat} {b : Option Box} (hv : b = none ∨ id ≤ h.nx) :
    (h.upd id b).WF ∧ (h.upd id b).lim = h.lim ∧ (h.upd id b).get = updF h.get id b ∧ (h.upd id b).nx = if id = h.nx ∧ b.isSome then h.nx + 1 else h.nx := by
  unfold H.WF at hw
  rcases Nat.lt_or_ge id h.nx with hl | hl
  · rw [H.upd_lt h hl b, if_neg (by omega)]
    refine ⟨by show (h.bx.set _ b).length = h.nx; rw [List.length_set]; exact hw, rfl, ?_, rfl⟩
    funext j
    rw [H.get_eq]
    show (if j < h.nx then ((h.bx.set (h.nx - 1 - id) b)[h.nx - 1 - j]?).getD none else none) = _
    by_cases hj : j = id
    · subst hj
      rw [if_pos hl, updF_same, List.getElem?_set_self (by omega)]
      rfl
    · rw [updF_ne _ _ hj, H.get_eq]
      by_cases hjl : j < h.nx
      · rw [if_pos hjl, if_pos hjl, List.getElem?_set_ne (by omega)]
      · rw [if_neg hjl, if_neg hjl]
  · cases b with
    | none =>
      rw [H.upd_none h hl]
      refine ⟨hw, rfl, ?_, by simp⟩
      funext j
      by_cases hj : j = id
      · subst hj; rw [updF_same, H.get_ge h hl]
      · rw [updF_ne _ _ hj]
    | some c =>
      have hid : id = h.nx := by
        rcases hv with h' | h'
        · cases h'
        · omega
      subst hid
      rw [H.upd_new, if_pos ⟨rfl, rfl⟩]
      refine ⟨by show (some c :: h.bx).length = h.nx + 1; simp [hw], rfl, ?_, rfl⟩
      funext j
      rw [H.get_eq]
      show (if j < h.nx + 1 then ((some c :: h.bx)[h.nx + 1 - 1 - j]?).getD none else none) = _
      by_cases hj : j = h.nx
      · subst hj
        rw [updF_same, if_pos (by omega), Nat.add_sub_cancel, Nat.sub_self]; rfl
      · rw [updF_ne _ _ hj, H.get_eq]
        by_cases hjl : j < h.nx
        · rw [if_pos hjl, if_pos (by omega), show h.nx + 1 - 1 - j = (h.nx - 1 - j) + 1 by omega, List.getElem?_cons_succ]
        · rw [if_neg hjl, if_neg (by omega)]

section
variable {C : Code → Prop} {P : Program} {Γ Γ' : Gam} {F F' : Nat → Prop} {w w' : World}

/-- an update that is sound may be carried out -/
theorem Up.on_eq {h k : H} {up : Up} (hw : h.WF) (ho : up.on h = some k) (hs : Step C h.lim Γ F h.get h.nx w Γ' F' (up.ap h.get) (up.top h.nx) w') :
    k.WF ∧ k.lim = h.lim ∧ k.get = up.ap h.get ∧ k.nx = up.top h.nx := by
  have hin : ∀ id b, up.ap h.get id = some b → id < up.top h.nx := fun id b hg => by
    obtain ⟨i, hi, _⟩ := hs.rel.box id b hg
    rcases Nat.lt_or_ge id (up.top h.nx) with h' | h'
    · exact h'
    · rw [hs.top id h'] at hi; cases hi
  cases up with
  | nil => cases ho; exact ⟨hw, rfl, rfl, rfl⟩
  | one id b =>
    cases b with
    | none => cases ho
    | some c =>
      cases ho
      have h1 := hin id c (by simp [Up.ap])
      have hle : id ≤ h.nx := by
        simp only [Up.top] at h1
        split at h1 <;> omega
      obtain ⟨k1, k2, k3, k4⟩ := H.upd_wf hw (b := some c) (.inr hle)
      refine ⟨k1, k2, k3, k4.trans ?_⟩
      simp [Up.top]
  | two id b id' b' =>
    cases b with
    | some _ => cases ho
    | none =>
      cases b' with
      | none => cases ho
      | some c =>
        cases ho
        have h1 := hin id' c (by simp [Up.ap])
        have hle : id' ≤ h.nx := by
          simp only [Up.top] at h1
          split at h1 <;> omega
        obtain ⟨k1, k2, k3, k4⟩ := H.upd_wf hw (id := id) (b := none) (.inl rfl)
        have hnx : (h.upd id none).nx = h.nx := by rw [k4]; simp
        obtain ⟨j1, j2, j3, j4⟩ := H.upd_wf k1 (b := some c) (.inr (hnx ▸ hle))
        refine ⟨j1, j2.trans k2, by rw [j3, k3]; rfl, j4.trans ?_⟩
        rw [hnx]
        simp [Up.top]

/-- a value that stands for a list element -/
theorem elem_val {e : D} {b B : Nat} (h : ReadsAt Γ F w (cells e) b B) : ∃ v, VRel Γ F w e v ∧
    ((∃ cs vs, e = .agg cs ∧ v = .agg vs ∧ vs.size = cs.length ∧ ∀ k u, vs[k]? = some u → w.cell? ⟨b, B + k, none⟩ = some u ∧ u.oneCell' = true) ∨
     ((∀ cs, e ≠ .agg cs) ∧ v.oneCell' = true ∧ w.cell? ⟨b, B, none⟩ = some v)) := by
  cases e with
  | agg cs =>
    obtain ⟨vs, hl, h1, h2⟩ := readsAt_list (cs := cs) h
    refine ⟨.agg vs.toArray, agg_of_list hl h2, .inl ⟨cs, _, rfl, rfl, by simpa using hl, fun k u hu => ?_⟩⟩
    have hu : vs[k]? = some u := by simpa using hu
    refine ⟨h1 k u hu, ?_⟩
    have hk : k < cs.length := by rw [← hl]; exact (List.getElem?_eq_some_iff.1 hu).1
    exact (h2 k cs[k] u (by simp) hu).2
  | _ =>
    obtain ⟨u, h1, h2, h3⟩ := h 0 _ rfl
    exact ⟨u, h2, .inr ⟨fun cs hcs => (by cases hcs), h3, h1⟩⟩

end

end Go.Sim
/- Freezing is sound. -/
namespace Go.Sim
variable [Val]
open Go.RowKit

section
variable {C : Code → Prop} {P : Program} {Γ Γ' : Gam} {F F' : Nat → Prop} {w w' : World}

/-- a value of an element of a list, and where it stands -/
def EV (Γ : Gam) (F : Nat → Prop) (w : World) (b B : Nat) (e : D) (v : Value) : Prop := VRel Γ F w e v ∧
    ((∃ cs vs, e = .agg cs ∧ v = .agg vs ∧ vs.size = cs.length ∧ ∀ k u, vs[k]? = some u → w.cell? ⟨b, B + k, none⟩ = some u ∧ u.oneCell' = true) ∨
     ((∀ cs, e ≠ .agg cs) ∧ v.oneCell' = true ∧ w.cell? ⟨b, B, none⟩ = some v))

def Shape (d d' : D) : Prop := (∃ cs cs', d = .agg cs ∧ d' = .agg cs') ∨ ∀ cs, d ≠ .agg cs

theorem EV.cells {b B : Nat} {e e' : D} {v : Value} (h : EV Γ F w b B e v) (h' : VRel Γ' F' w e' v) (hs : Shape e e') :
    (cells e').length = (cells e).length ∧ ∀ r d, (cells e')[r]? = some d → ∃ u, w.cell? ⟨b, B + r, none⟩ = some u ∧ VRel Γ' F' w d u ∧ u.oneCell' = true := by
  obtain ⟨hv, ⟨cs, vs, rfl, rfl, hn, hc⟩ | ⟨hne, ho, hc⟩⟩ := h
  · rcases hs with ⟨_, cs', _, rfl⟩ | hs
    · cases h' with
      | agg _ _ hn' ho' hv' =>
        refine ⟨by show cs'.length = cs.length; omega, fun r d hd => ?_⟩
        have hd : cs'[r]? = some d := hd
        have hr : r < vs.size := by rw [hn']; exact (List.getElem?_eq_some_iff.1 hd).1
        have hu : vs[r]? = some vs[r] := by simp [hr]
        exact ⟨vs[r], (hc r _ hu).1, hv' r d _ hd hu, (hc r _ hu).2⟩
    · exact (hs cs rfl).elim
  · have h1 := cells_of_one hv ho
    have h2 := cells_of_one h' ho
    rw [h1, h2]
    refine ⟨rfl, fun r d hd => ?_⟩
    cases r with
    | zero => cases hd; exact ⟨v, hc, h', ho⟩
    | succ r => cases hd

theorem freeze_sound : ∀ (n : Nat),
    (∀ {F : Nat → Prop} {h h' : H} {d d' : D} {v : Value}, freeze n h d = some (d', h') → h.WF → Rel C Γ F w h.get → (∀ id, h.nx ≤ id → Γ id = none) → VRel Γ F w d v →
      ∃ F' : Nat → Prop, h'.WF ∧ h'.nx = h.nx ∧ h'.lim = h.lim ∧ Step C h.lim Γ F h.get h.nx w Γ F' h'.get h.nx w ∧ VRel G0 F' w d' v ∧ Shape d d') ∧
    (∀ {F : Nat → Prop} {h h' : H} {ds ds' : List D}, freezes n h ds = some (ds', h') → h.WF → Rel C Γ F w h.get → (∀ id, h.nx ≤ id → Γ id = none) →
      ∀ vals : Nat → Value, (∀ k d, ds[k]? = some d → VRel Γ F w d (vals k)) →
      ∃ F' : Nat → Prop, h'.WF ∧ h'.nx = h.nx ∧ h'.lim = h.lim ∧ Step C h.lim Γ F h.get h.nx w Γ F' h'.get h.nx w ∧ ds'.length = ds.length ∧
        ∀ k d d', ds[k]? = some d → ds'[k]? = some d' → VRel G0 F' w d' (vals k) ∧ Shape d d') := by
  intro n
  induction n with
  | zero => exact ⟨fun {F h h' d d' v} hf => (by cases hf), fun {F h h' ds ds'} hf => (by cases hf)⟩
  | succ n ih =>
    obtain ⟨ih1, ih2⟩ := ih
    refine ⟨fun {F h h' d d' v} hf hw hr ht hv => ?_, fun {F h h' ds ds'} hf hw hr ht vals hv => ?_⟩
    · have same : ∀ {e : D}, some (e, h) = some (d', h') → (∀ cs, d ≠ .agg cs) → VRel G0 F w e v →
          ∃ F' : Nat → Prop, h'.WF ∧ h'.nx = h.nx ∧ h'.lim = h.lim ∧ Step C h.lim Γ F h.get h.nx w Γ F' h'.get h.nx w ∧ VRel G0 F' w d' v ∧ Shape d d' := fun he hs hve => by
        cases he
        exact ⟨F, hw, rfl, rfl, Step.refl hr ht, hve, .inr hs⟩
      cases hv with
      | undef v => exact same hf (by simp) (.undef v)
      | bool b => exact same hf (by simp) (.bool b)
      | int k i => exact same hf (by simp) (.int k i)
      | sx k e => exact same hf (by simp) (.sx k e)
      | lx ks n el a len cap hn hc hw' => exact same hf (by simp) (.lx ks n el a len cap hn hc hw')
      | lx0 ks n el hn => exact same hf (by simp) (.lx0 ks n el hn)
      | str s => exact same hf (by simp) (.str s)
      | nilp => exact same hf (by simp) .nilp
      | nils => exact same hf (by simp) .nils
      | nilf => exact same hf (by simp) .nilf
      | nili => exact same hf (by simp) .nili
      | nilm => exact same hf (by simp) .nilm
      | lst es a cap s hs hc vs hw' hv' => exact same hf (by simp) (.lst es a cap s hs hc vs hw' hv')
      | e0 a =>
        exact same (e := .lst []) hf (by simp) (.lst [] a 0 0 (even_nil 0) (Nat.le_refl _) (fun _ => default) (fun k d hd => by cases hd) (fun k d hd => by cases hd))
      | fn f xs ys us vs hx hy h1 h2 =>
        cases xs with
        | nil =>
          cases ys with
          | nil => exact same hf (by simp) (.fn f [] [] us vs hx hy (fun _ _ _ h => by cases h) (fun _ _ _ h => by cases h))
          | cons _ _ => cases hf
        | cons _ _ => cases hf
      | iface t d0 v0 h0 =>
        obtain ⟨r, hr1, hf⟩ := ob_some.1 hf
        cases hf
        obtain ⟨F', k1, k2, k3, k4, k5, _⟩ := ih1 hr1 hw hr ht h0
        exact ⟨F', k1, k2, k3, k4, .iface t _ _ k5, .inr (by simp)⟩
      | agg cs vs hn ho hv =>
        obtain ⟨r, hr1, hf⟩ := ob_some.1 hf
        cases hf
        obtain ⟨F', k1, k2, k3, k4, k5, k6⟩ := ih2 hr1 hw hr ht (fun k => vs.getD k default) (fun k d hd => hv k d _ hd (by
          have hk : k < vs.size := by rw [hn]; exact (List.getElem?_eq_some_iff.1 hd).1
          simp [Array.getD, hk]))
        refine ⟨F', k1, k2, k3, k4, .agg _ vs (by rw [k5]; exact hn) ho (fun k d v hd hv' => ?_), .inl ⟨_, _, rfl, rfl⟩⟩
        have hk : k < cs.length := by rw [← k5]; exact (List.getElem?_eq_some_iff.1 hd).1
        have := (k6 k cs[k] d (by simp) hd).1
        have hkv : k < vs.size := by omega
        have e : vs.getD k default = v := by
          rw [Array.getElem?_eq_getElem hkv] at hv'
          cases hv'
          simp [Array.getD, hkv]
        exact e ▸ this
      | tup cs vs hn hv =>
        obtain ⟨r, hr1, hf⟩ := ob_some.1 hf
        cases hf
        obtain ⟨F', k1, k2, k3, k4, k5, k6⟩ := ih2 hr1 hw hr ht (fun k => vs.getD k default) (fun k d hd => hv k d _ hd (by
          have hk : k < vs.size := by rw [hn]; exact (List.getElem?_eq_some_iff.1 hd).1
          simp [Array.getD, hk]))
        refine ⟨F', k1, k2, k3, k4, .tup _ vs (by rw [k5]; exact hn) (fun k d v hd hv' => ?_), .inr (by simp)⟩
        have hk : k < cs.length := by rw [← k5]; exact (List.getElem?_eq_some_iff.1 hd).1
        have := (k6 k cs[k] d (by simp) hd).1
        have hkv : k < vs.size := by omega
        have e : vs.getD k default = v := by
          rw [Array.getElem?_eq_getElem hkv] at hv'
          cases hv'
          simp [Array.getD, hkv]
        exact e ▸ this
      | sl id off len cap a i hi hab has hao hc hnn hzc =>
        simp only [freeze] at hf
        split at hf
        · rename_i s es fz hg
          obtain ⟨hb, hf1⟩ := cnd_some.1 hf
          obtain ⟨r, hr1, hf2⟩ := ob_some.1 hf1
          cases hf2
          clear hf hf1
          simp only [Bool.and_eq_true, Bool.or_eq_true] at hb
          have hle := Nat.le_of_ble_eq_true hb.1
          obtain ⟨i', hi', hlt, hbr, hfz⟩ := hr.box id _ hg
          have hii : i' = i := Option.some.inj (hi'.symm.trans hi)
          subst hii
          obtain ⟨c, t, fr, hgc, _, _, hss, hll, hev, _, hcr⟩ := hbr
          have hrd := readsAt_pad hgc hcr
          -- the box is frozen
          obtain ⟨F1, h1, e1, j1, j2, j3, j4, j5⟩ : ∃ (F1 : Nat → Prop) (h1 : H), freezes n h1 ((es.drop off).take len) = some r ∧ h1.WF ∧ h1.nx = h.nx ∧ h1.lim = h.lim ∧
              Step C h.lim Γ F h.get h.nx w Γ F1 h1.get h.nx w ∧ F1 i'.b := by
            cases fz with
            | true => exact ⟨F, h, hr1, hw, rfl, rfl, Step.refl hr ht, hfz.1 rfl⟩
            | false =>
              have hlim := Nat.le_of_ble_eq_true (hb.2.resolve_left (by simp))
              have hid := H.get_lt hg
              obtain ⟨q1, q2, q3, q4⟩ := H.upd_wf hw (b := some (.arr s es true)) (id := id) (.inr (by omega))
              refine ⟨fun b => F b ∨ b = i'.b, _, hr1, q1, by show (h.upd id _).nx = _; rw [q4, if_neg (by omega)], q2, ?_, .inr rfl⟩
              show Step C h.lim Γ F h.get h.nx w Γ _ (h.upd id (some (.arr s es true))).get h.nx w
              rw [q3]
              exact Step.freeze hr ht hg hlim hi
          -- the elements
          have hvals : ∀ k, ∃ v, ∀ e, ((es.drop off).take len)[k]? = some e → EV Γ F w i'.b (i'.o + (off + k) * s) e v := fun k => by
            cases he : ((es.drop off).take len)[k]? with
            | none => exact ⟨default, fun e h => by cases h⟩
            | some e =>
              have he' : es[off + k]? = some e := by
                rw [List.getElem?_take] at he
                split at he
                · rwa [List.getElem?_drop] at he
                · cases he
              obtain ⟨v, hv1, hv2⟩ := elem_val (elem_reads hev he' hrd)
              exact ⟨v, fun e2 h2 => by cases h2; exact ⟨hv1, hv2⟩⟩
          obtain ⟨vals, hvals⟩ := Classical.axiomOfChoice hvals
          obtain ⟨F', k1, k2, k3, k4, k5, k6⟩ := ih2 e1 j1 j4.rel (by rw [j2]; exact ht) vals (fun k d hd => j4.val hr (hvals k d hd).1)
          have hst : Step C h.lim Γ F h.get h.nx w Γ F' r.2.get h.nx w := by
            rw [j3, j2] at k4
            exact j4.trans k4 hr
          have hlen : ((es.drop off).take len).length = len := by simp; omega
          have hFb : F' i'.b := k4.fro _ j5
          -- each new element, cell by cell
          have hel : ∀ q e', r.1[q]? = some e' → (cells e').length = s ∧ ∀ x d, (cells e')[x]? = some d → ∃ u, w.cell? ⟨i'.b, i'.o + (off + q) * s + x, none⟩ = some u ∧ VRel G0 F' w d u ∧ u.oneCell' = true := by
            intro q e' he'
            have hq : q < ((es.drop off).take len).length := by rw [← k5]; exact (List.getElem?_eq_some_iff.1 he').1
            obtain ⟨e, he⟩ : ∃ e, ((es.drop off).take len)[q]? = some e := ⟨_, List.getElem?_eq_getElem hq⟩
            obtain ⟨m1, m2⟩ := k6 q e e' he he'
            obtain ⟨m3, m4⟩ := (hvals q e he).cells m1 m2
            refine ⟨?_, m4⟩
            rw [m3]
            exact ((hev.drop off).take len) e (List.mem_of_getElem? he)
          have hevr : Even s r.1 := fun e' he' => by
            obtain ⟨q, hq⟩ := List.mem_iff_getElem?.1 he'
            exact (hel q e' hq).1
          have hcell : ∀ k d, (flat r.1)[k]? = some d → ∃ u, w.cell? ⟨a.block, a.off + k, none⟩ = some u ∧ VRel G0 F' w d u ∧ u.oneCell' = true := by
            intro k d hd
            have hk : k < r.1.length * s := by rw [← hevr.length]; exact (List.getElem?_eq_some_iff.1 hd).1
            have hs0 : 0 < s := by
              rcases Nat.eq_zero_or_pos s with h0 | h0
              · rw [h0, Nat.mul_zero] at hk; omega
              · exact h0
            have hq : k / s < r.1.length := Nat.div_lt_of_lt_mul (by rw [Nat.mul_comm]; exact hk)
            have hx : k % s < s := Nat.mod_lt _ hs0
            have hget := hevr.get (List.getElem?_eq_getElem hq) (k % s) hx
            rw [Nat.mul_comm, Nat.div_add_mod] at hget
            rw [hget] at hd
            obtain ⟨u, u1, u2⟩ := (hel (k / s) _ (List.getElem?_eq_getElem hq)).2 (k % s) d hd
            refine ⟨u, ?_, u2⟩
            have hcap : cap ≠ 0 := by
              have hq' : k / s < len := by rw [← hlen, ← k5]; exact hq
              have h0 : 0 < len := Nat.lt_of_le_of_lt (Nat.zero_le _) hq'
              omega
            have hao2 := hao.resolve_right hcap
            have hoff : i'.o + (off + k / s) * s + k % s = a.off + k := by
              rw [hao2, ← hss, Nat.add_mul]
              have := Nat.div_add_mod' k s
              omega
            rw [hoff] at u1
            rw [hab]; exact u1
          have hall : ∀ k, ∃ u, ∀ d, (flat r.1)[k]? = some d → w.cell? ⟨a.block, a.off + k, none⟩ = some u ∧ VRel G0 F' w d u ∧ u.oneCell' = true := fun k => by
            cases hd : (flat r.1)[k]? with
            | none => exact ⟨default, fun d h => by cases h⟩
            | some d =>
              obtain ⟨u, hu⟩ := hcell k d hd
              exact ⟨u, fun d2 h2 => by cases h2; exact hu⟩
          obtain ⟨vs, hvs⟩ := Classical.axiomOfChoice hall
          refine ⟨F', k1, k2.trans j2, k3.trans j3, hst, ?_, .inr (by simp)⟩
          have hl2 : r.1.length = len := by rw [k5, hlen]
          rw [← hl2]
          exact .lst r.1 a cap s hevr (by rw [hl2]; exact hc) vs (fun k d hd => ⟨by rw [hab]; exact hFb, has, (hvs k d hd).1, (hvs k d hd).2.2⟩) (fun k d hd => (hvs k d hd).2.1)
        · cases hf
      | _ => cases hf
    · cases ds with
      | nil =>
        cases hf
        exact ⟨F, hw, rfl, rfl, Step.refl hr ht, rfl, fun k d d' hd => by cases hd⟩
      | cons d ds =>
        obtain ⟨r, hr1, hf⟩ := ob_some.1 hf
        obtain ⟨q, hq1, hf⟩ := ob_some.1 hf
        cases hf
        obtain ⟨F1, k1, k2, k3, k4, k5, k6⟩ := ih1 hr1 hw hr ht (hv 0 d rfl)
        obtain ⟨F2, j1, j2, j3, j4, j5, j6⟩ := ih2 hq1 k1 k4.rel (by rw [k2]; exact ht) (fun k => vals (k + 1)) (fun k e he => k4.val hr (hv (k + 1) e (by simpa using he)))
        rw [k2, k3] at j4
        refine ⟨F2, j1, j2.trans k2, j3.trans k3, k4.trans j4 hr, by simp [j5], fun k e e' he he' => ?_⟩
        cases k with
        | zero => cases he; cases he'; exact ⟨k5.mono (fun _ _ h => h) j4.fro (j4.keep k4.rel), k6⟩
        | succ k => exact j6 k e e' (by simpa using he) (by simpa using he')

end

end Go.Sim
