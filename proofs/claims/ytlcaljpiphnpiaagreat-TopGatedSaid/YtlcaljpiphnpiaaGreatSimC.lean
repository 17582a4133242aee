/- Codes, calls and rounds do as the interpreter says, given that what they call does. -/
import Derived.Test.YtlcaljpiphnpiaaGreatSimB
import Derived.CallsIn
import Derived.RangeFuncLeaves
import Derived.RecoverIn
import Derived.RangeFuncIn
/- What it is for a call, and for a piece of code, to do as the interpreter says; operations. -/
namespace Go.Sim
variable [Val]
open Go.RowKit

/-- the fence of a frame: a round's, or none -/
def W : Option Nat → Fence
  | none => Fence.wide
  | some l => Fence.wide.inRound l

omit [Val] in
@[simp] theorem W_fn (r : Option Nat) (f : FuncId) : (W r).fn f := by cases r <;> trivial
omit [Val] in
@[simp] theorem W_depth (r : Option Nat) : (W r).depth = none := by cases r <;> rfl
omit [Val] in
@[simp] theorem W_round (r : Option Nat) : (W r).round = r := by cases r <;> rfl
omit [Val] in
theorem W_room (r : Option Nat) (n : Nat) : (W r).room n := fun d h => by rw [W_depth] at h; cases h
omit [Val] in
theorem W_fenced (r : Option Nat) (P : Program) : Machine.fenced P (W r) = Machine.fenced P Fence.wide := by cases r <;> rfl

omit [Val] in
theorem callsW {P : Program} {r : Option Nat} {n : Nat} {f : FuncId} {args : Array Value} {w : World} {R : Ending → World → Prop} (h : CallsIn Fence.wide 0 P f args w R) : CallsIn (W r) n P f args w R := by
  refine ⟨W_fn r f, fun cs _ => ?_⟩
  obtain ⟨e, w', fr, h1, h2, h3⟩ := h.2 cs (room_wide _)
  exact ⟨e, w', fr, h1, by rw [W_fenced]; exact h2, h3⟩

omit [Val] in
theorem rowsW {P : Program} {r : Option Nat} {n : Nat} {row : String} {args : Array Value} {w : World} {R : Value → World → Prop} (h : RowsIn Fence.wide 0 P row args w R) : RowsIn (W r) n P row args w R := by
  intro c cs _
  obtain ⟨v, w', h1, h2⟩ := h c cs (room_wide _)
  exact ⟨v, w', h1, by rw [W_fenced]; exact h2⟩

omit [Val] in
theorem roundW {P : Program} {r : Option Nat} {n l : Nat} {f : FuncId} {tmps : Array Value} {assign body : Code} {w : World} {R : Ending → World → Prop} (h : RoundIn Fence.wide 0 P l f tmps assign body w R) :
    RoundIn (W r) n P l f tmps assign body w R := by
  refine ⟨W_fn r f, fun c cs _ => ?_⟩
  obtain ⟨e, w', h1, h2⟩ := h.2 c cs (room_wide _)
  exact ⟨e, w', h1, by rw [W_fenced]; exact h2⟩

section
variable (C : Code → Prop) (P : Program)

/-- a call of a function, whatever it comes to -/
def CallOk (f : FuncId) (vs : Array Value) (w : World) (R : Ending → World → Prop) : Prop :=
  ∃ next w1, (callFunc f vs).run P w = .ok next w1 ∧
    match next with
    | .enter f args => CallsIn Fence.wide 0 P f args w1 R
    | .row row args => RowsIn Fence.wide 0 P row args w1 fun v w' => R (.returned v) w'
    | .value v => R (.returned v) w1
    | _ => False

/-- how a call has ended -/
def SRpost (Γ : Gam) (F : Nat → Prop) (h : H) (w : World) (sr : SR) (e : Ending) (w' : World) : Prop :=
  match sr with
  | .val d k => ∃ Γ' F' v, e = .returned v ∧ Step C h.lim Γ F h.get h.nx w Γ' F' k.get k.nx w' ∧ k.WF ∧ k.lim = h.lim ∧ VRel Γ' F' w' d v
  | .pan d k => ∃ Γ' F' v, e = .panicked [{ v, recovered := false }] ∧ Step C h.lim Γ F h.get h.nx w Γ' F' k.get k.nx w' ∧ k.WF ∧ k.lim = h.lim ∧ VRel Γ' F' w' d v

/-- where the interpreter and the model stand at one place -/
structure At (Γ : Gam) (F : Nat → Prop) (h : H) (w : World) : Prop where
  wf : h.WF
  rel : Rel C Γ F w h.get
  top : ∀ id, h.nx ≤ id → Γ id = none

variable {C P}

theorem At.step {Γ Γ' : Gam} {F F' : Nat → Prop} {h k : H} {w w' : World} {lim : Nat} (hs : Step C lim Γ F h.get h.nx w Γ' F' k.get k.nx w') (hw : k.WF) : At C Γ' F' k w' := ⟨hw, hs.rel, hs.top⟩

/-- calls of functions do as the interpreter says -/
def FOk (C : Code → Prop) (P : Program) (cfg : FuncId → FInfo) (E : Ev) : Prop :=
  ∀ (f : FuncId) (ds : List D) (h : H) (sr : SR), callF cfg E f ds h = some sr → ∀ (Γ : Gam) (F : Nat → Prop) (w : World) (vs : Array Value), At C Γ F h w → AR Γ F w ds vs →
    CallOk P f vs w (SRpost C Γ F h w sr)

/-- rounds do as the interpreter says -/
def ROk (C : Code → Prop) (P : Program) (E : Ev) : Prop :=
  ∀ (l : Nat) (ds : List D) (h : H) (sr : SR), roundD E l ds h = some sr → ∀ (Γ : Gam) (F : Nat → Prop) (w : World) (vs : Array Value) (i : BI), Γ l = some i → At C Γ F h w → AR Γ F w ds vs →
    ∃ f tmps assign body w1, (Instr.yield i.b vs).run P w = .ok (.round i.b f tmps assign body) w1 ∧ RoundIn Fence.wide 0 P i.b f tmps assign body w1 (SRpost C Γ F h w sr)

section
variable {cfg : FuncId → FInfo} {E : Ev} {Γ : Gam} {F : Nat → Prop} {h : H} {w : World} {env : Env} {r : Option Nat}

/-- what must be shown behind an operation -/
def OpPost (C : Code → Prop) (o : Oper) (Γ : Gam) (F : Nat → Prop) (h : H) (w : World) (act : Act) (sr : SR) (next : Act → World → Prop) (Q : Exit → Act → World → Prop) : Prop :=
  match sr with
  | .val d k => ∀ Γ' F' v w', Step C h.lim Γ F h.get h.nx w Γ' F' k.get k.nx w' → k.WF → k.lim = h.lim → VRel Γ' F' w' d v → next (act.put o.dst v) w'
  | .pan d k => ∀ Γ' F' v w', Step C h.lim Γ F h.get h.nx w Γ' F' k.get k.nx w' → k.WF → k.lim = h.lim → VRel Γ' F' w' d v → Q (.panic [{ v, recovered := false }]) act w'

theorem upon_good {o : Oper} {act : Act} {next : Act → World → Prop} {Q : Exit → Act → World → Prop} {d : D} {up : Up} {k : H} {e : Sem Next} (hA : At C Γ F h w) (hon : up.on h = some k)
    (hg : Good C P Γ F h.g w e d up) (hp : OpPost C o Γ F h w act (.val d k) next Q) (n : Nat) : o.uponIn (W r) n P act next Q (e.run P w) := by
  obtain ⟨v, w', Γ', hran, hst, hv⟩ := hg
  obtain ⟨k1, k2, k3, k4⟩ := Up.on_eq hA.wf hon hst
  have hst' : Step C h.lim Γ F h.get h.nx w Γ' F k.get k.nx w' := by rw [k3, k4]; exact hst
  have hn := hp Γ' F v w' hst' k1 k2 hv
  rcases hran with hr | ⟨hr, rfl⟩
  · rw [hr]; exact hn
  · rw [hr]; exact hn

theorem CallOk.upon {o : Oper} {act : Act} {next : Act → World → Prop} {Q : Exit → Act → World → Prop} {f : FuncId} {vs : Array Value} {sr : SR} (hc : CallOk P f vs w (SRpost C Γ F h w sr))
    (hp : OpPost C o Γ F h w act sr next Q) (n : Nat) : o.uponIn (W r) n P act next Q ((callFunc f vs).run P w) := by
  obtain ⟨nx, w1, hrun, hc⟩ := hc
  have hval : ∀ v w', SRpost C Γ F h w sr (.returned v) w' → next (act.put o.dst v) w' := by
    intro v w' hs
    cases sr with
    | val d k =>
      obtain ⟨Γ', F', u, hu, h1, h2, h3, h4⟩ := hs
      cases hu
      exact hp Γ' F' v w' h1 h2 h3 h4
    | pan d k =>
      obtain ⟨Γ', F', u, hu, _⟩ := hs
      cases hu
  have hpan : ∀ ch w', SRpost C Γ F h w sr (.panicked ch) w' → Q (.panic ch) act w' := by
    intro ch w' hs
    cases sr with
    | val d k =>
      obtain ⟨Γ', F', u, hu, _⟩ := hs
      cases hu
    | pan d k =>
      obtain ⟨Γ', F', u, hu, h1, h2, h3, h4⟩ := hs
      cases hu
      exact hp Γ' F' u w' h1 h2 h3 h4
  have hout : ∀ w', ¬ SRpost C Γ F h w sr .outgrown w' := by
    intro w' hs
    cases sr <;> (obtain ⟨Γ', F', u, hu, _⟩ := hs; cases hu)
  rw [hrun]
  cases nx <;> first | (exact hc.elim) | skip
  case value v => exact hval v w1 hc
  case enter f' args =>
    rw [Oper.uponIn_enter]
    refine ⟨fun hd => by simp at hd, (callsW hc).mono fun e w' he => ?_⟩
    cases e with
    | returned v => exact hval v w' he
    | panicked ch => exact hpan ch w' he
    | outgrown => exact (hout w' he).elim
  case row row args =>
    rw [Oper.uponIn_row]
    exact ⟨fun hd => by simp at hd, (rowsW hc).mono fun v w' he => hval v w' he⟩

end

end

end Go.Sim
/- Operations: what a step of the interpreter says, an operation of the model does. -/
namespace Go.Sim
variable [Val]
open Go.RowKit

section
variable {C : Code → Prop} {P : Program} {cfg : FuncId → FInfo} {E : Ev} {Γ : Gam} {F : Nat → Prop} {h : H} {w : World} {env : Env} {r : Option Nat}

theorem AR.append {xs ys : List D} {us vs : Array Value} (h : AR Γ F w xs us) (k : AR Γ F w ys vs) : AR Γ F w (xs ++ ys) (us ++ vs) := by
  refine ⟨by simp [h.1, k.1], fun j d v hd hv => ?_⟩
  by_cases hj : j < xs.length
  · rw [List.getElem?_append_left hj] at hd
    rw [Array.getElem?_append_left (by rw [h.1]; exact hj)] at hv
    exact h.2 j d v hd hv
  · rw [List.getElem?_append_right (by omega)] at hd
    rw [Array.getElem?_append_right (by rw [h.1]; omega), h.1] at hv
    exact k.2 _ d v hd hv

omit [Val] in
theorem H.g_get (h : H) : h.g.get = h.get := rfl

/-- a call of a value -/
theorem bCall_sound (hF : FOk C P cfg E) (hR : ROk C P E) {o : Oper} {c : Call} {f : Operand} (ho : o.op = .call c) (hc : c.callee = .value f) {sr : SR} (hs : bCall cfg E h env f c.args = some sr)
    (hA : At C Γ F h w) {act : Act} (hρ : OpR Γ F w env act.eval) {next : Act → World → Prop} {Q : Exit → Act → World → Prop} (hp : OpPost C o Γ F h w act sr next Q) (n : Nat) :
    o.uponIn (W r) n P act next Q ((execOp act.eval o).run P w) := by
  obtain ⟨ds, hds, hs⟩ := ob_some.1 hs
  obtain ⟨d, hd, hs⟩ := ob_some.1 hs
  have har : AR Γ F w ds (c.args.map act.eval) := arr_of_opds hds hρ
  have hfv := hρ f d hd
  generalize hfe : act.eval f = fv at hfv
  cases hfv <;> first | (cases hs; done) | skip
  case fn g xs ys us vs hx hy h1 h2 =>
    have hxs : AR Γ F w xs us := ⟨hx, h1⟩
    have hys : AR Γ F w ys vs := ⟨hy, h2⟩
    have hall := (hxs.append har).append hys
    have hc := hF g _ h sr hs Γ F w _ hA hall
    have he : (execOp act.eval o).run P w = (callFunc g (us ++ c.args.map act.eval ++ vs)).run P w := by
      simp [execOp, ho, resolve, Deferred.ofValue, invoke]
      simp_all
    rw [he]
    exact hc.upon hp n
  case yield l i hi =>
    obtain ⟨f', tmps, assign, body, w1, hrun, hround⟩ := hR l ds h sr hs Γ F w _ i hi hA har
    have he : (execOp act.eval o).run P w = (Instr.yield i.b (c.args.map act.eval)).run P w := by
      simp [execOp, ho, resolve, hc, Deferred.ofValue, hfe, invoke]
    rw [he, hrun, Oper.uponIn_round]
    refine ⟨fun hd => by simp at hd, (roundW hround).mono fun e w' hsr => ?_⟩
    cases sr with
    | val d k =>
      obtain ⟨Γ', F', u, hu, k1, k2, k3, k4⟩ := hsr
      subst hu
      exact hp Γ' F' u w' k1 k2 k3 k4
    | pan d k =>
      obtain ⟨Γ', F', u, hu, k1, k2, k3, k4⟩ := hsr
      subst hu
      exact hp Γ' F' u w' k1 k2 k3 k4

/-- an operation that is no defer -/
theorem stepOp_sound (hF : FOk C P cfg E) (hR : ROk C P E) {o : Oper} {sr : SR} (hs : stepOp P cfg E h env o.op = some sr)
    (hA : At C Γ F h w) {act : Act} (hρ : OpR Γ F w env act.eval) {next : Act → World → Prop} {Q : Exit → Act → World → Prop} (hp : OpPost C o Γ F h w act sr next Q) (n : Nat) :
    o.uponIn (W r) n P act next Q ((execOp act.eval o).run P w) := by
  have basic : basicD P h env o.op = some sr → o.uponIn (W r) n P act next Q ((execOp act.eval o).run P w) := by
    intro hb
    obtain ⟨x, hx, hb⟩ := ob_some.1 hb
    obtain ⟨k, hk, hb⟩ := ob_some.1 hb
    cases hb
    exact upon_good hA hk (stepB_good (g := h.g) hx hA.rel hA.top hρ) hp n
  cases ho : o.op <;> rw [ho] at hs basic <;> first | (exact basic hs) | skip
  case call c =>
    cases hc : c.callee <;> simp only [stepOp, hc] at hs <;> first | (cases hs; done) | skip
    case value f => exact bCall_sound hF hR ho hc hs hA hρ hp n
    case builtin b =>
      obtain ⟨x, hx, hb⟩ := ob_some.1 hs
      obtain ⟨k, hk, hb⟩ := ob_some.1 hb
      cases hb
      have he : ∃ cs, (execOp act.eval o).run P w = (builtin b c.argTypes o.type cs (c.args.map act.eval)).run P w := by
        simp only [execOp, ho, resolve, hc, invoke, Sem.run_bind, Sem.run_pure, Result.andThen_ok]
        exact ⟨_, rfl⟩
      obtain ⟨cs, he⟩ := he
      rw [he]
      exact upon_good hA hk (bBuiltin_good (g := h.g) hx hA.rel hA.top hρ) hp n
  case panic x =>
    obtain ⟨d, hd, hs⟩ := ob_some.1 hs
    have hv := hρ x d hd
    generalize hxe : act.eval x = xv at hv
    cases hv <;> first | (cases hs; done) | skip
    case iface t d v hv =>
      cases hs
      have he : (execOp act.eval o).run P w = .halt (.panic (.iface t v)) w := by
        simp [execOp, ho, hxe, Instr.panic, goPanic]
      rw [he, Oper.uponIn_panic]
      exact hp Γ F _ w (Step.refl hA.rel hA.top) hA.wf rfl (.iface t d v hv)

end

end Go.Sim
/- Regions in the text's order. -/
namespace Go.Sim
variable [Val]
open Go.RowKit

omit [Val] in
theorem keepA_look : ∀ (e : Env) (m t : Nat), look (keepA e m) t = if m.testBit t then look e t else .undef
  | [], m, t => by
    have : look (keepA [] m) t = .undef := rfl
    rw [this, look_nil]; simp
  | p :: e, m, t => by
    have h0 : keepA (p :: e) m = cnd (m.testBit p.1) (p :: keepA e (m ^^^ (1 <<< p.1))) (keepA e m) := rfl
    rw [h0]
    cases hb : m.testBit p.1 with
    | true =>
      rw [cnd_true]
      obtain ⟨u, d⟩ := p
      by_cases hu : u = t
      · subst hu
        simp only at hb
        rw [look_cons_same, look_cons_same, hb]; rfl
      · rw [look_cons_ne _ _ hu, look_cons_ne _ _ hu, keepA_look e]
        have : (m ^^^ (1 <<< u)).testBit t = m.testBit t := by
          rw [Nat.testBit_xor, Nat.one_shiftLeft, Nat.testBit_two_pow]
          simp [hu]
        rw [this]
    | false =>
      rw [cnd_false, keepA_look e]
      obtain ⟨u, d⟩ := p
      by_cases hu : u = t
      · subst hu
        simp only at hb
        rw [hb]; rfl
      · rw [look_cons_ne _ _ hu]

section
variable {Γ : Gam} {F : Nat → Prop} {w : World}

def DfR (Γ : Gam) (F : Nat → Prop) (w : World) : Dfr → Deferred → Prop
  | .clo f ds, d => ∃ cap, d.target = .fn (.func f) cap ∧ AR Γ F w ds (d.args ++ cap)
  | .mark id, d => ∃ i, Γ id = some i ∧ d.target = .collected i.b

def DfsR (Γ : Gam) (F : Nat → Prop) (w : World) : List Dfr → List Deferred → Prop
  | [], [] => True
  | x :: xs, d :: ds => DfR Γ F w x d ∧ DfsR Γ F w xs ds
  | _, _ => False

structure ActR (Γ : Gam) (F : Nat → Prop) (w : World) (a : A) (act : Act) : Prop where
  size : act.tmps.size = a.st.n
  env : EnvRel Γ F w a.env act.tmps
  dfs : DfsR Γ F w a.dfs act.defers

def RdR (Γ : Gam) : Option Nat → Option Nat → Prop
  | none, none => True
  | some l, some b => ∃ i, Γ l = some i ∧ i.b = b
  | _, _ => False

theorem AR.mono {Γ Γ' : Gam} {F F' : Nat → Prop} {w w' : World} (hΓ : ∀ id i, Γ id = some i → Γ' id = some i) (hF : ∀ b, F b → F' b) (hw : ∀ b, F b → w'.heap[b]? = w.heap[b]?) {ds : List D} {vs : Array Value}
    (h : AR Γ F w ds vs) : AR Γ' F' w' ds vs := ⟨h.1, fun k d v h1 h2 => (h.2 k d v h1 h2).mono hΓ hF hw⟩

theorem DfsR.mono {Γ Γ' : Gam} {F F' : Nat → Prop} {w w' : World} (hΓ : ∀ id i, Γ id = some i → Γ' id = some i) (hF : ∀ b, F b → F' b) (hw : ∀ b, F b → w'.heap[b]? = w.heap[b]?) :
    ∀ {xs : List Dfr} {ds : List Deferred}, DfsR Γ F w xs ds → DfsR Γ' F' w' xs ds
  | [], [], _ => trivial
  | .clo f a :: xs, d :: ds, h => by
    obtain ⟨⟨cap, h1, h2⟩, h3⟩ := h
    exact ⟨⟨cap, h1, h2.mono hΓ hF hw⟩, DfsR.mono hΓ hF hw h3⟩
  | .mark id :: xs, d :: ds, h => by
    obtain ⟨⟨i, h1, h2⟩, h3⟩ := h
    exact ⟨⟨i, hΓ _ _ h1, h2⟩, DfsR.mono hΓ hF hw h3⟩
  | [], _ :: _, h => h.elim
  | .clo _ _ :: _, [], h => h.elim
  | .mark _ :: _, [], h => h.elim

theorem ActR.step {C : Code → Prop} {lim nx nx' : Nat} {get get' : Nat → Option Box} {Γ' : Gam} {F' : Nat → Prop} {w' : World} {a : A} {act : Act} (h : ActR Γ F w a act) (hr : Rel C Γ F w get)
    (hs : Step C lim Γ F get nx w Γ' F' get' nx' w') : ActR Γ' F' w' a act := ⟨h.size, hs.envR hr h.env, h.dfs.mono hs.ext hs.fro (hs.keep hr)⟩

omit [Val] in
theorem RdR.mono {Γ' : Gam} (hΓ : ∀ id i, Γ id = some i → Γ' id = some i) : ∀ {x y : Option Nat}, RdR Γ x y → RdR Γ' x y
  | none, none, _ => trivial
  | some _, some _, ⟨i, h1, h2⟩ => ⟨i, hΓ _ _ h1, h2⟩
  | none, some _, h => h.elim
  | some _, none, h => h.elim

theorem putA_rel {a a' : A} {act : Act} {dst : Option Tmp} {d : D} {v : Value} (hp : putA a dst d = some a') (h : ActR Γ F w a act) (hv : VRel Γ F w d v) : ActR Γ F w a' (act.put dst v) ∧ a'.st = a.st := by
  obtain ⟨st, env, dfs⟩ := a
  cases dst with
  | none => cases hp; exact ⟨h, rfl⟩
  | some t =>
    obtain ⟨hb, hp⟩ := cnd_some.1 hp
    cases hp
    have hlt : t < act.tmps.size := by rw [h.size]; exact Nat.le_of_ble_eq_true hb
    refine ⟨⟨by simpa [Act.put] using h.size, fun k => ?_, h.dfs⟩, rfl⟩
    show VRel Γ F w (look ((t, d) :: env) k) ((act.tmps.setIfInBounds t v).getD k undef)
    by_cases hk : t = k
    · subst hk
      rw [look_cons_same]
      simp [Array.getD, hlt, hv]
    · rw [look_cons_ne _ _ hk]
      have h1 := h.env k
      have e : (act.tmps.setIfInBounds t v).getD k undef = act.tmps.getD k undef := by
        simp only [Array.getD_eq_getD_getElem?]
        rw [Array.getElem?_setIfInBounds_ne hk]
      rw [e]; exact h1

theorem wanted_rel {ops : Array Oper} {o : Oper} {env : Env} {tmps : Array Value} {b : Bool} (h : wantedD ops env o.guard = some b) (he : EnvRel Γ F w env tmps) : Region.wanted o (yielded ops tmps) = b := by
  unfold Region.wanted
  cases hg : o.guard with
  | none => rw [hg] at h; cases h; rfl
  | some p =>
    obtain ⟨j, want⟩ := p
    rw [hg] at h
    obtain ⟨t, ht, h⟩ := ob_some.1 h
    have hd : ((ops[j]?).bind (·.dst)) = some t := by
      unfold dstAt at ht
      cases ho : ops[j]? with
      | none => rw [ho] at ht; cases ht
      | some o' => rw [ho] at ht; simpa using ht
    have hv := he t
    have key : yielded ops tmps j = match tmps[t]? with | some (.bool b) => some b | _ => none := by
      unfold yielded; rw [hd]; rfl
    cases hl : look env t <;> rw [hl] at h hv <;> first | (cases h; done) | skip
    · cases h
      generalize hgv : tmps.getD t undef = u at hv
      cases hv
      rename_i bb
      have hlt : tmps[t]? = some (.bool bb) := by
        rw [Array.getD_eq_getD_getElem?] at hgv
        cases hq : tmps[t]? with
        | none => rw [hq] at hgv; simp [undef] at hgv
        | some x => rw [hq] at hgv; simp at hgv; rw [hgv]
      simp only [key, hlt]
      simp
    · cases h
      generalize hgv : tmps.getD t undef = u at hv
      cases hv
      have hno : yielded ops tmps j = none := by
        rw [key]
        cases hq : tmps[t]? with
        | none => rfl
        | some x =>
          rw [Array.getD_eq_getD_getElem?, hq] at hgv
          simp at hgv
          rw [hgv]
      simp [hno]

end

end Go.Sim
/- Operations in a row. -/
namespace Go.Sim
variable [Val]
open Go.RowKit

section
variable {C : Code → Prop} {P : Program} {cfg : FuncId → FInfo} {E : Ev} {Γ : Gam} {F : Nat → Prop} {h : H} {w : World} {r : Option Nat}

def ExR (Γ : Gam) (F : Nat → Prop) (w : World) : Ex → Exit → Prop
  | .normal, .normal => True
  | .exit i, .exit j => i = j
  | .ret, .ret => True
  | .pan d, .panic ch => ∃ v, ch = [{ v, recovered := false }] ∧ VRel Γ F w d v
  | _, _ => False

/-- how a piece of code has ended -/
def CPost (C : Code → Prop) (Γ : Gam) (F : Nat → Prop) (h : H) (w : World) (st : St) (res : Ex × A × H) (e : Exit) (act : Act) (w' : World) : Prop :=
  ∃ Γ' F', Step C h.lim Γ F h.get h.nx w Γ' F' res.2.2.get res.2.2.nx w' ∧ res.2.2.WF ∧ res.2.2.lim = h.lim ∧ ExR Γ' F' w' res.1 e ∧ ActR Γ' F' w' res.2.1 act ∧ res.2.1.st = st

theorem CPost.back {Γ' : Gam} {F' : Nat → Prop} {k : H} {w' w'' : World} {st st' : St} {res : Ex × A × H} {e : Exit} {act : Act} (hr : Rel C Γ F w h.get) (hs : Step C h.lim Γ F h.get h.nx w Γ' F' k.get k.nx w') (hl : k.lim = h.lim) (hst : st' = st)
    (hc : CPost C Γ' F' k w' st' res e act w'') : CPost C Γ F h w st res e act w'' := by
  obtain ⟨Γ2, F2, h1, h2, h3, h4, h5, h6⟩ := hc
  rw [hl] at h1
  exact ⟨Γ2, F2, hs.trans h1 hr, h2, h3.trans hl, h4, h5, h6.trans hst⟩

theorem bDefer_run {o : Oper} {d : Dfr} {env : Env} {ρ : Operand → Value} (h : bDefer env o.op = some d) (hρ : OpR Γ F w env ρ) :
    ∃ df, (execOp ρ o).run P w = .ok (.defer df) w ∧ DfR Γ F w d df ∧ ∃ c, o.op = .defer c := by
  cases ho : o.op <;> rw [ho] at h <;> first | (cases h; done) | skip
  case defer c =>
    cases hc : c.callee <;> simp only [bDefer, hc] at h <;> first | (cases h; done) | skip
    case value f =>
      obtain ⟨ds, hds, h⟩ := ob_some.1 h
      obtain ⟨x, hx, h⟩ := ob_some.1 h
      have har : AR Γ F w ds (c.args.map ρ) := arr_of_opds hds hρ
      have hfv := hρ f x hx
      generalize hfe : ρ f = fv at hfv
      cases hfv <;> first | (cases h; done) | skip
      case fn g xs ys us vs hxs hys h1 h2 =>
        cases h
        refine ⟨{ target := .fn (.func g) vs, args := us ++ c.args.map ρ }, ?_, ⟨vs, rfl, ?_⟩, c, rfl⟩
        · simp [execOp, ho, resolve, hc, Deferred.ofValue, hfe]
        · exact (AR.append ⟨hxs, h1⟩ har).append ⟨hys, h2⟩

theorem opsD_sound (hF : FOk C P cfg E) (hR : ROk C P E) {ops : Array Oper} : ∀ (os : List Oper) (is : List Nat), (∀ k : Nat, is.length = os.length ∧ ∀ (i : Nat) (o : Oper), is[k]? = some i → os[k]? = some o → ops[i]? = some o) →
    ∀ (a : A) (h : H) (res : Ex × A × H), opsD P cfg E ops os a h = some res → ∀ (Γ : Gam) (F : Nat → Prop) (w : World) (act : Act) (r : Option Nat), At C Γ F h w → ActR Γ F w a act → RdR Γ a.st.rd r →
    ∀ (n : Nat) (Q : Exit → Act → World → Prop), (∀ e act' w', CPost C Γ F h w a.st res e act' w' → Q e act' w') → wpOpsIn (W r) n P ops Q is act w
  | [], is, hi, a, h, res, hs, Γ, F, w, act, r, hA, ha, hrd, n, Q, hq => by
    have : is = [] := List.eq_nil_of_length_eq_zero (hi 0).1
    subst this
    cases hs
    exact hq .normal act w ⟨Γ, F, Step.refl hA.rel hA.top, hA.wf, rfl, trivial, ha, rfl⟩
  | o :: os, is, hi, a, h, res, hs, Γ, F, w, act, r, hA, ha, hrd, n, Q, hq => by
    cases is with
    | nil => have := (hi 0).1; simp at this
    | cons i is =>
      have hoi : ops[i]? = some o := (hi 0).2 i o rfl rfl
      have hi' : ∀ k : Nat, is.length = os.length ∧ ∀ (i : Nat) (o : Oper), is[k]? = some i → os[k]? = some o → ops[i]? = some o := fun k =>
        ⟨by have := (hi 0).1; simpa using this, fun i o h1 h2 => (hi (k + 1)).2 i o (by simpa using h1) (by simpa using h2)⟩
      have hs : opGo P cfg E ops o (opsD P cfg E ops os) a h = some res := hs
      obtain ⟨go, hgo, hs⟩ := ob_some.1 hs
      have hw := wanted_rel hgo ha.env
      simp only [wpOpsIn, hoi]
      rw [hw]
      cases go with
      | false =>
        simp only [cnd_false] at hs
        obtain ⟨a', ha', hs⟩ := ob_some.1 hs
        obtain ⟨k1, k2⟩ := putA_rel (v := undef) ha' ha (.tup [] #[] rfl (fun _ _ _ h => by simp at h))
        simp only [Bool.false_eq_true, if_false]
        refine ⟨fun f _ => W_fn r f, opsD_sound hF hR os is hi' a' h res hs Γ F w _ r hA k1 (by rw [k2]; exact hrd) n Q (fun e act' w' hc => hq e act' w' ?_)⟩
        rw [k2] at hc; exact hc
      | true =>
        simp only [cnd_true] at hs
        simp only [if_true]
        refine ⟨fun f _ => W_fn r f, ?_⟩
        have hρ : OpR Γ F w a.env act.eval := opR_of_env ha.env
        cases hd : isDefer o.op with
        | true =>
          rw [hd] at hs
          simp only [cnd_true] at hs
          obtain ⟨hrn, hs⟩ := cnd_some.1 hs
          obtain ⟨df, hdf, hs⟩ := ob_some.1 hs
          obtain ⟨a', ha', hs⟩ := ob_some.1 hs
          obtain ⟨d, hrun, hdr, c, ho⟩ := bDefer_run (P := P) hdf hρ
          have hr0 : r = none := by
            cases hq : a.st.rd with
            | some _ => rw [hq] at hrn; cases hrn
            | none =>
              rw [hq] at hrd
              cases r with
              | none => rfl
              | some _ => exact hrd.elim
          subst hr0
          have hsem : Oper.semAt (W none).round act.eval o = execOp act.eval o := rfl
          rw [hsem, hrun, Oper.uponIn_defer]
          have hpush : ActR Γ F w (pushD a df) { act with defers := d :: act.defers } := by
            obtain ⟨st, env, dfs⟩ := a
            exact ⟨ha.size, ha.env, hdr, ha.dfs⟩
          obtain ⟨k1, k2⟩ := putA_rel (v := undef) ha' hpush (.tup [] #[] rfl (fun _ _ _ h => by simp at h))
          have k3 : (pushD a df).st = a.st := by obtain ⟨st, env, dfs⟩ := a; rfl
          refine opsD_sound hF hR os is hi' a' h res hs Γ F w _ none hA k1 (by rw [k2, k3]; exact hrd) n Q (fun e act' w' hc => hq e act' w' ?_)
          rw [k2, k3] at hc; exact hc
        | false =>
          rw [hd] at hs
          simp only [cnd_false] at hs
          obtain ⟨sr, hsr, hs⟩ := ob_some.1 hs
          have hsem : Oper.semAt (W r).round act.eval o = execOp act.eval o := Oper.semAt_eq _ _ _ (fun c hc => by rw [hc] at hd; cases hd)
          rw [hsem]
          refine stepOp_sound hF hR hsr hA hρ ?_ n
          cases sr with
          | val d k =>
            intro Γ' F' v w' h1 h2 h3 h4
            obtain ⟨a', ha', hs⟩ := ob_some.1 hs
            have hact := ha.step hA.rel h1
            obtain ⟨k1, k2⟩ := putA_rel ha' hact h4
            refine opsD_sound hF hR os is hi' a' k res hs Γ' F' w' _ r (.step h1 h2) k1 (by rw [k2]; exact hrd.mono h1.ext) n Q (fun e act' w'' hc => hq e act' w'' ?_)
            exact hc.back hA.rel h1 h3 k2
          | pan d k =>
            intro Γ' F' v w' h1 h2 h3 h4
            cases hs
            exact hq _ _ _ ⟨Γ', F', h1, h2, h3, ⟨v, rfl, h4⟩, ha.step hA.rel h1, rfl⟩

/-- what a region leaves behind -/
theorem endR_post {st : St} {res res' : Ex × A × H} {e : Exit} {act : Act} {w' : World} (hr : endR res = some res') (hc : CPost C Γ F h w st res e act w') : CPost C Γ F h w st res' e act w' := by
  obtain ⟨ex, ⟨st', env, dfs⟩, k⟩ := res
  cases hr
  obtain ⟨Γ', F', h1, h2, h3, h4, h5, h6⟩ := hc
  refine ⟨Γ', F', h1, h2, h3, h4, ⟨h5.size, fun t => ?_, h5.dfs⟩, h6⟩
  show VRel Γ' F' w' (look (keepA env st'.mask) t) _
  rw [keepA_look]
  split
  · exact h5.env t
  · exact .undef _

theorem region_sound (hF : FOk C P cfg E) (hR : ROk C P E) {id : Nat} {ops : Array Oper} {a : A} {res : Ex × A × H} (hs : regionD P cfg E ops false a h = some res) {act : Act}
    (hA : At C Γ F h w) (ha : ActR Γ F w a act) (hrd : RdR Γ a.st.rd r) (n : Nat) : (Code.region id ops false).wpIn (W r) n P (CPost C Γ F h w a.st res) act w := by
  obtain ⟨x, hx, hs⟩ := ob_some.1 hs
  refine wpIn_region (opsD_sound hF hR ops.toList (List.range ops.size) (fun k => ⟨by simp, fun i o h1 h2 => ?_⟩) a h x hx Γ F w act r hA ha hrd n _ (fun e act' w' hc => endR_post hs hc))
  rw [List.getElem?_range] at h1
  · cases h1; simpa using h2
  · have := (List.getElem?_eq_some_iff.1 h1).1; simpa using this

end

end Go.Sim
/- Code without ranges over functions and drawn regions. -/
namespace Go.Sim
variable [Val]
open Go.RowKit

omit [Val] in
theorem least {p : Nat → Prop} : ∀ n, p n → ∃ m, p m ∧ ∀ k, p k → m ≤ k := by
  intro n
  induction n using Nat.strongRecOn with
  | _ n ih =>
    intro hn
    by_cases h : ∃ k, k < n ∧ p k
    · obtain ⟨k, h1, h2⟩ := h
      exact ih k h1 h2
    · exact ⟨n, hn, fun k hk => Nat.le_of_not_lt fun hlt => h ⟨k, hlt, hk⟩⟩

omit [Val] in
theorem least' {p : Nat → Prop} (h : ∃ n, p n) : ∃ m, p m ∧ ∀ k, p k → m ≤ k := let ⟨n, hn⟩ := h; least n hn

omit [Val] in
open Classical in
theorem wpIn_loopN {G : Fence} {n : Nat} {P : Program} {c : Code} {Q : Exit → Act → World → Prop} (J : Nat → Act → World → Prop) {m : Nat} {a : Act} {w : World} (h0 : J m a w)
    (round : ∀ m a w, J m a w → c.wpIn G n P (Exit.then (fun a' w' => ∃ m', m' < m ∧ J m' a' w') Q) a w) : (Code.loop c).wpIn G n P Q a w := by
  refine wpIn_loop (fun a w => ∃ m, J m a w) (fun a w => if h : ∃ m, J m a w then Classical.choose (least' (p := fun m => J m a w) h) else 0) ⟨m, h0⟩ (fun a w hI => ?_)
  have hs := Classical.choose_spec (least' (p := fun m => J m a w) hI)
  refine wpIn_mono (round _ a w hs.1) (fun e a' w' he => ?_)
  cases e <;> first | exact he | skip
  obtain ⟨m', hlt, hJ⟩ := he
  have hI' : ∃ m, J m a' w' := ⟨m', hJ⟩
  refine ⟨hI', ?_⟩
  rw [dif_pos hI', dif_pos hI]
  have hs' := Classical.choose_spec (least' (p := fun m => J m a' w') hI')
  exact Nat.lt_of_le_of_lt (hs'.2 m' hJ) hlt

section
variable {C : Code → Prop} {P : Program} {cfg : FuncId → FInfo} {E : Ev}

/-- a piece of code does as the interpreter says -/
def CodeOk (C : Code → Prop) (P : Program) (cfg : FuncId → FInfo) (E : Ev) (c : Code) : Prop :=
  ∀ (a : A) (h : H) (res : Ex × A × H), codeD P cfg E c a h = some res → ∀ (Γ : Gam) (F : Nat → Prop) (w : World) (act : Act) (r : Option Nat), At C Γ F h w → ActR Γ F w a act → RdR Γ a.st.rd r →
    ∀ n, c.wpIn (W r) n P (CPost C Γ F h w a.st res) act w

theorem CPost.here {Γ : Gam} {F : Nat → Prop} {h : H} {w : World} {a : A} {act : Act} {ex : Ex} {e : Exit} (hA : At C Γ F h w) (ha : ActR Γ F w a act) (he : ExR Γ F w ex e) : CPost C Γ F h w a.st (ex, a, h) e act w :=
  ⟨Γ, F, Step.refl hA.rel hA.top, hA.wf, rfl, he, ha, rfl⟩

/-- behind a piece of code, on if it has come to its end -/
theorem then_post {Γ : Gam} {F : Nat → Prop} {h : H} {w : World} {st : St} {x res : Ex × A × H} {k : A → H → RC} (_hr : Rel C Γ F w h.get) (hs : thenD k x = some res) {K : Act → World → Prop} {Q : Exit → Act → World → Prop}
    (hq : ∀ e act' w', CPost C Γ F h w st res e act' w' → Q e act' w')
    (hk : ∀ (a' : A) (h' : H) (Γ' : Gam) (F' : Nat → Prop) (act' : Act) (w' : World), k a' h' = some res → Step C h.lim Γ F h.get h.nx w Γ' F' h'.get h'.nx w' → h'.WF → h'.lim = h.lim → ActR Γ' F' w' a' act' → a'.st = st → K act' w')
    {e : Exit} {act : Act} {w' : World} (hc : CPost C Γ F h w st x e act w') : Exit.then K Q e act w' := by
  obtain ⟨ex, a', h'⟩ := x
  have hc0 := hc
  obtain ⟨Γ', F', h1, h2, h3, h4, h5, h6⟩ := hc
  cases ex with
  | normal =>
    cases e <;> first | exact h4.elim | skip
    exact hk a' h' Γ' F' act w' hs h1 h2 h3 h5 h6
  | exit i =>
    cases hs
    cases e <;> first | exact h4.elim | exact hq _ _ _ hc0
  | ret =>
    cases hs
    cases e <;> first | exact h4.elim | exact hq _ _ _ hc0
  | pan d =>
    cases hs
    cases e <;> first | exact h4.elim | exact hq _ _ _ hc0

theorem seq_ok {x y : Code} (hx : CodeOk C P cfg E x) (hy : CodeOk C P cfg E y) : CodeOk C P cfg E (.seq x y) := by
  intro a h res hs Γ F w act r hA ha hrd n
  obtain ⟨z, hz, hs⟩ := ob_some.1 hs
  refine wpIn_seq (wpIn_mono (hx a h z hz Γ F w act r hA ha hrd n) (fun e act' w' hc => ?_))
  refine then_post hA.rel hs (fun _ _ _ hq => hq) (fun a' h' Γ' F' act' w' hk h1 h2 h3 h4 h5 => ?_) hc
  exact wpIn_mono (hy a' h' res hk Γ' F' w' act' r (.step h1 h2) h4 (by rw [h5]; exact hrd.mono h1.ext) n) (fun e a2 w2 hc2 => hc2.back hA.rel h1 h3 h5)

theorem cond_ok {c : Operand} {x y : Code} (hx : CodeOk C P cfg E x) (hy : CodeOk C P cfg E y) : CodeOk C P cfg E (.cond c x y) := by
  intro a h res hs Γ F w act r hA ha hrd n
  obtain ⟨b, hb, hs⟩ := ob_some.1 hs
  have hcb : act.eval c = .bool b := by
    obtain ⟨d, hd, hb⟩ := ob_some.1 hb
    have hv := opR_of_env ha.env c d hd
    generalize act.eval c = v at hv
    cases hv <;> first | (cases hb; done) | skip
    cases hb; rfl
  refine wpIn_cond hcb ?_
  cases b with
  | true => exact hx a h res hs Γ F w act r hA ha hrd n
  | false => exact hy a h res hs Γ F w act r hA ha hrd n

theorem block_ok {id : Nat} {x : Code} (hx : CodeOk C P cfg E x) : CodeOk C P cfg E (.block id x) := by
  intro a h res hs Γ F w act r hA ha hrd n
  obtain ⟨z, hz, hs⟩ := ob_some.1 hs
  refine wpIn_block (wpIn_mono (hx a h z hz Γ F w act r hA ha hrd n) (fun e act' w' hc => ?_))
  obtain ⟨ex, a', h'⟩ := z
  have hc0 := hc
  obtain ⟨Γ', F', h1, h2, h3, h4, h5, h6⟩ := hc
  cases ex with
  | normal =>
    cases hs
    cases e <;> first | exact h4.elim | exact hc0
  | exit i =>
    cases e <;> first | exact h4.elim | skip
    rename_i j
    have hij : i = j := h4
    subst hij
    have hs : cnd (Nat.beq i id) (some (Ex.normal, a', h')) (some (Ex.exit i, a', h')) = some res := hs
    by_cases he : i = id
    · subst he
      rw [beq_self] at hs
      cases hs
      simp only [Exit.inBlock, if_true]
      exact ⟨Γ', F', h1, h2, h3, trivial, h5, h6⟩
    · rw [beq_ne he] at hs
      cases hs
      simp only [Exit.inBlock, he, if_false]
      exact hc0
  | ret =>
    cases hs
    cases e <;> first | exact h4.elim | exact hc0
  | pan d =>
    cases hs
    cases e <;> first | exact h4.elim | exact hc0

theorem loop_ok {m : Nat} {body : Code} (hb : ∀ j, j ≤ m → CodeOk C P cfg (ev P cfg j) body) : CodeOk C P cfg (ev P cfg m) (.loop body) := by
  intro a h res hs Γ F w act r hA ha hrd n
  refine wpIn_loopN (m := m) (fun j act' w' => j ≤ m ∧ ∃ Γ' F' a' h', codeD P cfg (ev P cfg j) (.loop body) a' h' = some res ∧ Step C h.lim Γ F h.get h.nx w Γ' F' h'.get h'.nx w' ∧ h'.WF ∧ h'.lim = h.lim ∧ ActR Γ' F' w' a' act' ∧ a'.st = a.st)
    ⟨Nat.le_refl _, Γ, F, a, h, hs, Step.refl hA.rel hA.top, hA.wf, rfl, ha, rfl⟩ ?_
  rintro j act1 w1 ⟨hj, Γ1, F1, a1, h1, hs1, hst, hwf, hlim, hact, hsta⟩
  obtain ⟨z, hz, hs2⟩ := ob_some.1 hs1
  refine wpIn_mono (hb j hj a1 h1 z hz Γ1 F1 w1 act1 r (.step hst hwf) hact (by rw [hsta]; exact hrd.mono hst.ext) n) (fun e act2 w2 hc => ?_)
  refine then_post hst.rel hs2 (fun e a2 w2 hc2 => hc2.back hA.rel hst hlim hsta) (fun a' h' Γ' F' act' w' hk k1 k2 k3 k4 k5 => ?_) hc
  cases j with
  | zero => cases hk
  | succ j =>
    rw [hlim] at k1
    exact ⟨j, Nat.lt_succ_self j, by omega, Γ', F', a', h', hk, hst.trans k1 hA.rel, k2, k3.trans hlim, k4, k5.trans hsta⟩

end

end Go.Sim
/- Calls: in pure mode (a heap of its own), and in the caller's heap. -/
namespace Go.Sim
variable [Val]
open Go.RowKit

section
variable {C : Code → Prop} {P : Program} {cfg : FuncId → FInfo} {E : Ev} {Γ : Gam} {F : Nat → Prop} {h : H} {w : World}

/-- what a step in a heap of its own does to all the rest: nothing -/
theorem Step.outer {lim nx nx' : Nat} {get get0 get' : Nat → Option Box} {Γ' : Gam} {F' : Nat → Prop} {w' : World} (hr : Rel C Γ F w get) (ht : ∀ id, nx ≤ id → Γ id = none) (h0 : ∀ id, get0 id = none)
    (hin : Step C 0 G0 F get0 0 w Γ' F' get' nx' w') : Step C lim Γ F get nx w Γ F' get nx w' := by
  have hnw : ∀ b, ¬ wrB G0 get0 0 b := by
    rintro b ⟨id, x, i, hx, _⟩
    rw [h0] at hx; cases hx
  have hfr : ∀ b, b < w.heap.size → w'.heap[b]? = w.heap[b]? := fun b hb => hin.frame b hb (hnw b)
  have hF : ∀ b, b < w.heap.size → F' b → F b := fun b hb h => by
    rcases hin.frn b h with h1 | h1 | h1
    · exact h1
    · omega
    · exact (hnw b h1).elim
  have st := Step.refl (lim := lim) hr ht
  refine { st with rel := ⟨fun id x hx => ?_, hr.inj, hin.rel.fro⟩, fro := hin.fro, frn := fun b hb => ?_, frame := fun b hb _ => hfr b hb, size := hin.size, os := hin.os, tape := hin.tape, output := hin.output }
  · obtain ⟨i, hi, hlt, hb, hz⟩ := hr.box id x hx
    exact ⟨i, hi, Nat.lt_of_lt_of_le hlt hin.size, hb.mono (fun _ _ h => h) hin.fro (fun b hb => hfr b (hr.fro b hb)) (hfr _ hlt), fun h => hin.fro _ (hz.1 h), fun h => hz.2 (hF _ hlt h)⟩
  · rcases hin.frn b hb with h1 | h1 | h1
    · exact .inl h1
    · exact .inr (.inl h1)
    · exact (hnw b h1).elim

/-- how a function has ended -/
def OutR (Γ : Gam) (F : Nat → Prop) (w : World) : Out → Ending → Prop
  | .ret d, e => ∃ v, e = .returned v ∧ VRel Γ F w d v
  | .pan d, e => ∃ v, e = .panicked [{ v, recovered := false }] ∧ VRel Γ F w d v

def OutPost (C : Code → Prop) (Γ : Gam) (F : Nat → Prop) (h : H) (w : World) (x : Out × H) (e : Ending) (w' : World) : Prop :=
  ∃ Γ' F', Step C h.lim Γ F h.get h.nx w Γ' F' x.2.get x.2.nx w' ∧ x.2.WF ∧ x.2.lim = h.lim ∧ OutR Γ' F' w' x.1 e

/-- a call that enters a function of the program -/
def CallE (P : Program) (f : FuncId) (vs : Array Value) (w : World) (R : Ending → World → Prop) : Prop := (callFunc f vs).run P w = .ok (.enter f vs) w ∧ CallsIn Fence.wide 0 P f vs w R

omit [Val] in
theorem CallE.ok {f : FuncId} {vs : Array Value} {R : Ending → World → Prop} (h : CallE P f vs w R) : CallOk P f vs w R := ⟨_, w, h.1, h.2⟩

omit [Val] in
theorem CallE.mono {f : FuncId} {vs : Array Value} {R R' : Ending → World → Prop} (h : CallE P f vs w R) (hr : ∀ e w', R e w' → R' e w') : CallE P f vs w R' := ⟨h.1, h.2.mono hr⟩

/-- functions of the program do as the interpreter says -/
def COk (C : Code → Prop) (P : Program) (E : Ev) : Prop :=
  ∀ (f : FuncId) (ds : List D) (h : H) (x : Out × H), E.call f ds h = some x → ∀ (Γ : Gam) (F : Nat → Prop) (w : World) (vs : Array Value), At C Γ F h w → AR Γ F w ds vs → CallE P f vs w (OutPost C Γ F h w x)

/-- the functions whose contracts are proved by hand -/
def PrimOk (C : Code → Prop) (P : Program) (cfg : FuncId → FInfo) : Prop :=
  ∀ (f : FuncId) (ds : List D) (h : H) (r : D × H), Nat.beq (cfg f).prim 0 = false → primD (cfg f).prim h ds = some r → ∀ (Γ : Gam) (F : Nat → Prop) (w : World) (vs : Array Value), At C Γ F h w → AR Γ F w ds vs →
    CallOk P f vs w (SRpost C Γ F h w (.val r.1 r.2))

omit [Val] in
theorem CallOk.mono {f : FuncId} {vs : Array Value} {R R' : Ending → World → Prop} (h : CallOk P f vs w R) (hr : ∀ e w', R e w' → R' e w') : CallOk P f vs w R' := by
  obtain ⟨next, w1, h1, h2⟩ := h
  refine ⟨next, w1, h1, ?_⟩
  cases next <;> first | exact h2 | exact h2.elim | skip
  case value v => exact hr _ _ h2
  case enter f args => exact CallsIn.mono h2 hr
  case row row args => exact RowsIn.mono h2 fun v w' h => hr _ _ h

theorem at_h0 {w : World} (hf : ∀ b, F b → b < w.heap.size) : At C G0 F h0 w where
  wf := rfl
  rel := ⟨fun id x hx => (by rw [H.get_ge h0 (Nat.zero_le _)] at hx; cases hx), fun id id' x x' i i' hx => (by rw [H.get_ge h0 (Nat.zero_le _)] at hx; cases hx), hf⟩
  top := fun _ _ => rfl

/-- a call of a function of the program, in either mode -/
def FEOk (C : Code → Prop) (P : Program) (cfg : FuncId → FInfo) (E : Ev) : Prop :=
  ∀ (f : FuncId) (ds : List D) (h : H) (sr : SR), Nat.beq (cfg f).prim 0 = true → callF cfg E f ds h = some sr → ∀ (Γ : Gam) (F : Nat → Prop) (w : World) (vs : Array Value), At C Γ F h w → AR Γ F w ds vs →
    CallE P f vs w (SRpost C Γ F h w sr)

theorem callE_sound (hC : COk C P E) : FEOk C P cfg E := by
  intro f ds h sr hpr hs Γ F w vs hA har
  unfold callF at hs
  · rw [hpr] at hs
    simp only [cnd_true] at hs
    cases hpu : (cfg f).pure with
    | false =>
      rw [hpu] at hs
      obtain ⟨x, hx, hs⟩ := ob_some.1 hs
      refine (hC f ds h x hx Γ F w vs hA har).mono fun e w' hp => ?_
      obtain ⟨Γ', F', h1, h2, h3, h4⟩ := hp
      obtain ⟨o, k⟩ := x
      cases o with
      | ret d => cases hs; obtain ⟨v, rfl, hv⟩ := h4; exact ⟨Γ', F', v, rfl, h1, h2, h3, hv⟩
      | pan d => cases hs; obtain ⟨v, rfl, hv⟩ := h4; exact ⟨Γ', F', v, rfl, h1, h2, h3, hv⟩
    | true =>
      rw [hpu] at hs
      obtain ⟨r, hr, hs⟩ := ob_some.1 hs
      obtain ⟨x, hx, hs⟩ := ob_some.1 hs
      obtain ⟨ds', h1⟩ := r
      have hval : ∀ k d, ds[k]? = some d → VRel Γ F w d (vs.getD k default) := fun k d hd => har.2 k d _ hd (by
        have hk : k < vs.size := by rw [har.1]; exact (List.getElem?_eq_some_iff.1 hd).1
        simp [Array.getD, hk])
      obtain ⟨F1, k1, k2, k3, k4, k5, k6⟩ := (freeze_sound (C := C) (Γ := Γ) (w := w) frFuel).2 hr hA.wf hA.rel hA.top _ hval
      have har' : AR G0 F1 w ds' vs := by
        refine ⟨by rw [k5]; exact har.1, fun k d v hd hv => ?_⟩
        have hk : k < ds.length := by rw [← k5]; exact (List.getElem?_eq_some_iff.1 hd).1
        have := (k6 k ds[k] d (by simp) hd).1
        have hkv : k < vs.size := by rw [har.1]; exact hk
        have e : vs.getD k default = v := by
          rw [Array.getElem?_eq_getElem hkv] at hv
          cases hv
          simp [Array.getD, hkv]
        exact e ▸ this
      refine (hC f ds' h0 x hx G0 F1 w vs (at_h0 k4.rel.fro) har').mono fun e w' hp => ?_
      obtain ⟨Γ', F', j1, j2, j3, j4⟩ := hp
      have key : ∀ d v d' (h2 : H), VRel Γ' F' w' d v → freeze frFuel x.2 d = some (d', h2) → ∃ F2, Step C h.lim Γ F h.get h.nx w Γ F2 h1.get h1.nx w' ∧ VRel Γ F2 w' d' v := by
        intro d v d' h2 hv hfz
        obtain ⟨F2, m1, m2, m3, m4, m5, _⟩ := (freeze_sound (C := C) (Γ := Γ') (w := w') frFuel).1 hfz j2 j1.rel j1.top hv
        rw [j3] at m4
        have hin := j1.trans m4 (at_h0 (C := C) k4.rel.fro).rel
        have hout := Step.outer (lim := h.lim) (nx := h.nx) k4.rel hA.top (fun id => H.get_ge h0 (Nat.zero_le id)) hin
        refine ⟨F2, ?_, m5.any⟩
        have hk2 : h1.nx = h.nx := k2
        rw [hk2]
        exact k4.trans hout hA.rel
      obtain ⟨o, k⟩ := x
      cases o with
      | ret d =>
        obtain ⟨v, rfl, hv⟩ := j4
        obtain ⟨q, hq, hs⟩ := ob_some.1 hs
        cases hs
        obtain ⟨F2, n1, n2⟩ := key d v q.1 q.2 hv hq
        exact ⟨Γ, F2, v, rfl, n1, k1, k3, n2⟩
      | pan d =>
        obtain ⟨v, rfl, hv⟩ := j4
        obtain ⟨q, hq, hs⟩ := ob_some.1 hs
        cases hs
        obtain ⟨F2, n1, n2⟩ := key d v q.1 q.2 hv hq
        exact ⟨Γ, F2, v, rfl, n1, k1, k3, n2⟩

theorem callF_sound (hC : COk C P E) (hP : PrimOk C P cfg) : FOk C P cfg E := by
  intro f ds h sr hs Γ F w vs hA har
  cases hpr : Nat.beq (cfg f).prim 0 with
  | true => exact (callE_sound hC f ds h sr hpr hs Γ F w vs hA har).ok
  | false =>
    unfold callF at hs
    rw [hpr] at hs
    obtain ⟨r, hr, hs⟩ := ob_some.1 hs
    cases hs
    exact hP f ds h r hpr hr Γ F w vs hA har

end

end Go.Sim
/- Results of a function. -/
namespace Go.Sim
variable [Val]
open Go.RowKit

section
variable {C : Code → Prop} {P : Program} {cfg : FuncId → FInfo} {E : Ev} {Γ : Gam} {F : Nat → Prop} {h : H} {w : World}

theorem tup_rel {ds : List D} {vs : List Value} (hl : vs.length = ds.length) (hv : ∀ (k : Nat) d v, ds[k]? = some d → vs[k]? = some v → VRel Γ F w d v) :
    VRel Γ F w (tupD ds) (if h : vs.toArray.size = 1 then vs.toArray[0] else .tuple vs.toArray) := by
  cases ds with
  | nil =>
    have : vs = [] := List.eq_nil_of_length_eq_zero hl
    subst this
    exact .tup [] #[] rfl (fun _ _ _ h => by simp at h)
  | cons d ds =>
    cases vs with
    | nil => simp at hl
    | cons v vs =>
      cases ds with
      | nil =>
        have : vs = [] := List.eq_nil_of_length_eq_zero (by simpa using hl)
        subst this
        exact hv 0 d v rfl rfl
      | cons d2 ds =>
        cases vs with
        | nil => simp at hl
        | cons v2 vs =>
          have hne : ¬ (v :: v2 :: vs).toArray.size = 1 := by simp
          rw [dif_neg hne]
          exact .tup (d :: d2 :: ds) (v :: v2 :: vs).toArray (by simpa using hl) (fun k d' v' h1 h2 => hv k d' v' h1 (by simpa using h2))

omit [Val] in
theorem asAddr_ptr (a : Addr) : (asAddr (.pointer (some a))).run P w = .ok a w := by simp [asAddr]

theorem resD_run (hr : Rel C Γ F w h.get) {env : Env} {tmps : Array Value} (he : EnvRel Γ F w env tmps) (G : ResultVar → Sem Value) (hg1 : ∀ t, G (.tmp t) = pure (tmps.getD t undef))
    (hg2 : ∀ a t, G (.cell a t) = (do loadVar t (← asAddr (tmps.getD a undef)))) : ∀ (rs : List ResultVar) (ds : List D), resD P h env rs = some ds →
    ∃ vs : List Value, (rs.mapM (m := Sem) G).run P w = .ok vs w ∧ vs.length = ds.length ∧
      ∀ (k : Nat) d v, ds[k]? = some d → vs[k]? = some v → VRel Γ F w d v
  | [], ds, hd => by cases hd; exact ⟨[], by simp, rfl, by simp⟩
  | .tmp t :: rs, ds, hd => by
    obtain ⟨es, hes, hd⟩ := ob_some.1 hd
    cases hd
    obtain ⟨vs, h1, h2, h3⟩ := resD_run hr he G hg1 hg2 rs es hes
    refine ⟨tmps.getD t undef :: vs, ?_, by simp [h2], fun k d v hd hv => ?_⟩
    · rw [List.mapM_cons, Sem.run_bind, hg1]
      simp only [Sem.run_pure, Result.andThen_ok, Sem.run_bind, h1]
    · cases k with
      | zero => cases hd; cases hv; exact he t
      | succ k => exact h3 k d v (by simpa using hd) (by simpa using hv)
  | .cell a t :: rs, ds, hd => by
    obtain ⟨x, hx, hd⟩ := ob_some.1 hd
    obtain ⟨es, hes, hd⟩ := ob_some.1 hd
    cases hd
    obtain ⟨vs, h1, h2, h3⟩ := resD_run hr he G hg1 hg2 rs es hes
    obtain ⟨v, hl, hv⟩ := loadD_sound (P := P) (g := h.g) hx hr (he a)
    have hav : ∃ ad, tmps.getD a undef = .pointer (some ad) := by
      have hea := he a
      generalize tmps.getD a undef = u at hea
      generalize look env a = y at hx hea
      cases hea <;> first | (cases hx; done) | exact ⟨_, rfl⟩
    obtain ⟨ad, had⟩ := hav
    have hl2 : (loadVar t ad).run P w = .ok v w := by
      rw [had] at hl
      simpa [Instr.loadAt, Instr.sureAddr] using hl
    refine ⟨v :: vs, ?_, by simp [h2], fun k d u hd hu => ?_⟩
    · rw [List.mapM_cons, Sem.run_bind, hg2]
      simp only [had, Sem.run_bind, asAddr_ptr, Result.andThen_ok, hl2, h1, Sem.run_pure]
    · cases k with
      | zero => cases hd; cases hu; exact hv
      | succ k => exact h3 k d u (by simpa using hd) (by simpa using hu)

theorem results_run (hr : Rel C Γ F w h.get) {env : Env} {tmps : Array Value} (he : EnvRel Γ F w env tmps) {fn : Func} {ds : List D} (hd : resD P h env fn.results.toList = some ds) :
    ∃ v, (results fn tmps).run P w = .ok v w ∧ VRel Γ F w (tupD ds) v := by
  have key : ∀ G : ResultVar → Sem Value, (∀ t, G (.tmp t) = pure (tmps.getD t undef)) → (∀ a t, G (.cell a t) = (do loadVar t (← asAddr (tmps.getD a undef)))) →
      ∃ v, (do let vs ← fn.results.mapM G; pure (if h : vs.size = 1 then vs[0] else .tuple vs) : Sem Value).run P w = .ok v w ∧ VRel Γ F w (tupD ds) v := by
    intro G hg1 hg2
    obtain ⟨vs, h1, h2, h3⟩ := resD_run hr he G hg1 hg2 fn.results.toList ds hd
    refine ⟨_, ?_, tup_rel h2 h3⟩
    rw [Sem.run_bind, Array.mapM_eq_mapM_toList]
    simp only [Sem.run_map, h1, Result.andThen_ok, Sem.run_pure]
  unfold results
  exact key _ (fun _ => rfl) (fun _ _ => rfl)

/-- a new activation -/
theorem enter_rel {f : FuncId} {fn : Func} {ds : List D} {vs : Array Value} (har : AR Γ F w ds vs) (hle : ds.length ≤ fn.ntmps) :
    ActR Γ F w (enterA cfg f fn ds) { tmps := vs ++ Array.replicate (fn.ntmps - vs.size) undef, defers := [] } := by
  have hsz : vs.size = ds.length := har.1
  refine ⟨by show (vs ++ Array.replicate (fn.ntmps - vs.size) undef).size = fn.ntmps; simp; omega, fun t => ?_, trivial⟩
  show VRel Γ F w (look ((List.range ds.length).zip ds) t) ((vs ++ Array.replicate (fn.ntmps - vs.size) undef).getD t undef)
  have hlook : ∀ (s : Nat) (ds : List D), look ((List.range' s ds.length).zip ds) t = if s ≤ t then (ds[t - s]?).getD .undef else .undef := by
    intro s ds
    induction ds generalizing s with
    | nil => simp [look_nil]
    | cons d ds ih =>
      rw [List.length_cons, List.range'_succ, List.zip_cons_cons]
      by_cases hst : s = t
      · subst hst
        rw [look_cons_same]; simp
      · rw [look_cons_ne _ _ hst, ih]
        by_cases h1 : s + 1 ≤ t
        · rw [if_pos h1, if_pos (by omega), show t - s = (t - (s + 1)) + 1 by omega, List.getElem?_cons_succ]
        · rw [if_neg h1, if_neg (by omega)]
  rw [List.range_eq_range', hlook]
  simp only [Nat.zero_le, if_true, Nat.sub_zero]
  by_cases ht : t < ds.length
  · have h1 : ds[t]? = some ds[t] := by simp [ht]
    rw [h1]
    have h2 : vs[t]? = some vs[t] := by simp [hsz, ht]
    have h3 : (vs ++ Array.replicate (fn.ntmps - vs.size) undef).getD t undef = vs[t] := by
      rw [Array.getD_eq_getD_getElem?, Array.getElem?_append_left (by omega), h2]; rfl
    rw [h3]
    exact har.2 t _ _ h1 h2
  · have h1 : ds[t]? = none := List.getElem?_eq_none (by omega)
    rw [h1]
    exact .undef _

end

end Go.Sim
/- Leaving a function: marks, deferred calls. -/
namespace Go.Sim
variable [Val]
open Go.RowKit

section
variable {C : Code → Prop} {P : Program} {cfg : FuncId → FInfo} {E : Ev} {Γ : Gam} {F : Nat → Prop} {h : H} {w : World}

theorem Step.drop {lim nx : Nat} {get : Nat → Option Box} (hr : Rel C Γ F w get) (ht : ∀ id, nx ≤ id → Γ id = none) {id : Nat} {x : Box} {i : BI} {o : Obj} (hx : get id = some x) (hl : lim ≤ id) (hi : Γ id = some i)
    (hz : fzB x = false) : Step C lim Γ F get nx w Γ F (updF get id none) nx (w.putObj i.b o) := by
  obtain ⟨i1, hi1, hlt, _, hf⟩ := hr.box id x hx
  rw [hi] at hi1; cases hi1
  have hnF : ¬ F i.b := fun h => by have := hf.2 h; rw [hz] at this; cases this
  have hkeep : ∀ b, F b → (w.putObj i.b o).heap[b]? = w.heap[b]? := fun b hb => World.putObj_heap_other (fun e => hnF (e ▸ hb))
  have hwr : wrB Γ get lim i.b := ⟨id, x, i, hx, hl, hi, rfl, hz⟩
  have hsub : ∀ a y, updF get id none a = some y → get a = some y ∧ a ≠ id := fun a y h => by
    by_cases e : a = id
    · subst e; rw [updF_same] at h; cases h
    · rw [updF_ne _ _ e] at h; exact ⟨h, e⟩
  have st := Step.refl (lim := lim) hr ht
  refine { st with rel := ⟨fun a y hy => ?_, fun a b y y' j j' hy hy' hj hj' h => ?_, fun b hb => ?_⟩, frame := fun b _ hb => ?_, own := fun a y j ha _ hj => ?_, dead := fun a _ h0 => ?_, frz := fun a y _ hy hyz => ?_, low := fun a _ ha => ?_, size := ?_ }
  · obtain ⟨h1, h2⟩ := hsub a y hy
    obtain ⟨j, hj, hjl, hjb, hjf⟩ := hr.box a y h1
    have hne : j.b ≠ i.b := fun h' => h2 (hr.inj a id y x j i h1 hx hj hi h')
    exact ⟨j, hj, by simpa using hjl, hjb.mono (fun _ _ h => h) (fun _ h => h) hkeep (World.putObj_heap_other hne), hjf⟩
  · exact hr.inj a b y y' j j' (hsub a y hy).1 (hsub b y' hy').1 hj hj' h
  · simpa using hr.fro b hb
  · exact World.putObj_heap_other (fun e => hb (e ▸ hwr))
  · rw [ht a ha] at hj; cases hj
  · by_cases e : a = id
    · subst e; exact updF_same _ _ _
    · rw [updF_ne _ _ e]; exact h0
  · left
    rw [updF_ne]
    · exact hy
    · rintro rfl; rw [hx] at hy; cases hy; rw [hz] at hyz; cases hyz
  · exact updF_ne _ _ (by omega)
  · simp

/-- how a function is being left -/
def MR (Γ : Gam) (F : Nat → Prop) (w : World) : PS → FrameMode → Prop
  | none, u => u = .returning
  | some (d, b), u => ∃ v, u = .panicking [{ v, recovered := b }] ∧ VRel Γ F w d v

/-- a deferred call does as the interpreter says -/
def DOk (C : Code → Prop) (P : Program) (cfg : FuncId → FInfo) (E : Ev) : Prop :=
  ∀ (f : FuncId) (fn : Func) (c : Code) (ds : List D) (p : PS) (h : H) (x : Ex × A × PS × H), P.funcs[f]? = some fn → fn.body = some c → ds.length ≤ fn.ntmps → codeS P cfg E c (enterA cfg f fn ds) p h = some x →
    isEnd x.1 = true → x.2.1.dfs = [] → fn.results.toList = [] → ∀ (Γ : Gam) (F : Nat → Prop) (w : World) (vs : Array Value) (u : FrameMode), At C Γ F h w → AR Γ F w ds vs → MR Γ F w p u →
    (callFunc f vs).run P w = .ok (.enter f vs) w ∧ CallsDIn Fence.wide 0 P f vs u w fun e u' w' => ∃ v Γ' F', e = .returned v ∧ Step C h.lim Γ F h.get h.nx w Γ' F' x.2.2.2.get x.2.2.2.nx w' ∧ x.2.2.2.WF ∧ x.2.2.2.lim = h.lim ∧ MR Γ' F' w' x.2.2.1 u'

theorem settle_rel {p : PS} {u : FrameMode} (h : MR Γ F w p u) : MR Γ F w (settleD p) (settle u) := by
  cases p with
  | none => cases h; rfl
  | some q =>
    obtain ⟨d, b⟩ := q
    obtain ⟨v, rfl, hv⟩ := h
    cases b with
    | true => rfl
    | false => exact ⟨v, rfl, hv⟩

theorem MR.mono {Γ' : Gam} {F' : Nat → Prop} {w' : World} (hΓ : ∀ id i, Γ id = some i → Γ' id = some i) (hF : ∀ b, F b → F' b) (hw : ∀ b, F b → w'.heap[b]? = w.heap[b]?) {p : PS} {u : FrameMode} (h : MR Γ F w p u) : MR Γ' F' w' p u := by
  cases p with
  | none => exact h
  | some q =>
    obtain ⟨d, b⟩ := q
    obtain ⟨v, h1, hv⟩ := h
    exact ⟨v, h1, hv.mono hΓ hF hw⟩

theorem MR.ne_run {p : PS} {u : FrameMode} (h : MR Γ F w p u) : u ≠ .run := by
  cases p with
  | none => cases h; simp
  | some q => obtain ⟨v, rfl, _⟩ := h; simp

theorem leave_sound (hD : DOk C P cfg E) {fn : Func} {tmps : Array Value} {R : Ending → World → Prop} : ∀ (dfs : List Dfr) (p : PS) (h : H) (q : PS × H), leaveD P cfg E dfs p h = some q →
    ∀ (Γ : Gam) (F : Nat → Prop) (w : World) (defs : List Deferred) (u : FrameMode), At C Γ F h w → DfsR Γ F w dfs defs → MR Γ F w p u →
    (∀ Γ' F' w' u', Step C h.lim Γ F h.get h.nx w Γ' F' q.2.get q.2.nx w' → q.2.WF → q.2.lim = h.lim → MR Γ' F' w' q.1 u' → LeavesInM Fence.wide 0 P fn tmps R [] u' w') → LeavesInM Fence.wide 0 P fn tmps R defs u w
  | [], p, h, q, hs, Γ, F, w, defs, u, hA, hdf, hm, hk => by
    cases hs
    cases defs with
    | nil => exact hk Γ F w u (Step.refl hA.rel hA.top) hA.wf rfl hm
    | cons _ _ => exact hdf.elim
  | .mark id :: r, p, h, q, hs, Γ, F, w, defs, u, hA, hdf, hm, hk => by
    cases defs with
    | nil => exact hdf.elim
    | cons d ds =>
      obtain ⟨hb, hs⟩ := cnd_some.1 hs
      simp only [Bool.and_eq_true] at hb
      have hlim := Nat.le_of_ble_eq_true hb.2
      obtain ⟨⟨i, hi, htg⟩, hrest⟩ := hdf
      cases hg : h.get id with
      | none => rw [hg] at hb; cases hb.1
      | some b =>
        rw [hg] at hb
        cases b <;> first | (cases hb.1; done) | skip
        obtain ⟨i', hi', hlt, hbr, _⟩ := hA.rel.box id _ hg
        have hii : i' = i := Option.some.inj (hi'.symm.trans hi)
        subst hii
        have hobj : w.heap[i'.b]? = some (.deferred (some [])) := hbr
        have hst := Step.drop (lim := h.lim) (o := .deferred none) hA.rel hA.top hg hlim hi rfl
        obtain ⟨k1, k2, k3, k4⟩ := H.upd_wf hA.wf (id := id) (b := none) (.inl rfl)
        have hnx : (h.upd id none).nx = h.nx := by rw [k4]; simp
        have hst' : Step C h.lim Γ F h.get h.nx w Γ F (h.upd id none).get (h.upd id none).nx (w.putObj i'.b (.deferred none)) := by rw [k3, hnx]; exact hst
        refine ⟨hm.ne_run, .inl ⟨i'.b, w.putObj i'.b (.deferred none), htg, ?_, ?_⟩⟩
        · exact run_takeDeferred hobj
        · refine leave_sound hD r p (h.upd id none) q hs Γ F _ ds u (.step hst' k1) (hrest.mono hst.ext hst.fro (hst.keep hA.rel)) (hm.mono hst.ext hst.fro (hst.keep hA.rel)) (fun Γ' F' w' u' h1 h2 h3 h4 => ?_)
          rw [k2] at h1 h3
          exact hk Γ' F' w' u' (hst'.trans h1 hA.rel) h2 h3 h4
  | .clo f args :: r, p, h, q, hs, Γ, F, w, defs, u, hA, hdf, hm, hk => by
    cases defs with
    | nil => exact hdf.elim
    | cons d ds =>
      obtain ⟨fn', hfn, hs⟩ := ob_some.1 hs
      obtain ⟨c, hc, hs⟩ := ob_some.1 hs
      obtain ⟨hle, hs⟩ := cnd_some.1 hs
      obtain ⟨x, hx, hs⟩ := ob_some.1 hs
      obtain ⟨hend, hs⟩ := cnd_some.1 hs
      simp only [Bool.and_eq_true] at hend
      obtain ⟨⟨cap, htg, har⟩, hrest⟩ := hdf
      obtain ⟨hrun, hcall⟩ := hD f fn' c args p h x hfn hc (Nat.le_of_ble_eq_true hle) hx hend.1.1 (List.isEmpty_iff.1 hend.1.2) (List.isEmpty_iff.1 hend.2) Γ F w _ u hA har hm
      refine ⟨hm.ne_run, .inr ⟨fun hd => (by cases hd), Fn.func f, cap, f, d.args ++ cap, htg, ?_, fun g _ => trivial, hcall.mono fun e u' w' he => ?_⟩⟩
      · rw [htg]; exact hrun
      · obtain ⟨v, Γ', F', rfl, h1, h2, h3, h4⟩ := he
        refine leave_sound hD r (settleD x.2.2.1) x.2.2.2 q hs Γ' F' w' ds (settle u') (.step h1 h2) (hrest.mono h1.ext h1.fro (h1.keep hA.rel)) (settle_rel h4) (fun Γ2 F2 w2 u2 j1 j2 j3 j4 => ?_)
        rw [h3] at j1 j3
        exact hk Γ2 F2 w2 u2 (h1.trans j1 hA.rel) j2 j3 j4

end

end Go.Sim
/- Functions of the program. -/
namespace Go.Sim
variable [Val]
open Go.RowKit

section
variable {C : Code → Prop} {P : Program} {cfg : FuncId → FInfo} {E : Ev}

/-- no function of the program is one that the model answers otherwise -/
def Named (P : Program) : Prop := ∀ (f : FuncId) (fn : Func), P.funcs[f]? = some fn → (fn.name == "runtime.NumGoroutine") = false

omit [Val] in
theorem run_callFunc {f : FuncId} {fn : Func} {c : Code} {w : World} (hN : Named P) (hf : P.funcs[f]? = some fn) (hb : fn.body = some c) (vs : Array Value) : (callFunc f vs).run P w = .ok (.enter f vs) w := by
  have h := hN f fn hf
  have h : ¬ fn.name = "runtime.NumGoroutine" := by simpa using h
  simp [callFunc, hf, h, hb, run_program]

theorem callD_sound (hN : Named P) (hcode : ∀ (f : FuncId) (fn : Func) (c : Code), P.funcs[f]? = some fn → fn.body = some c → CodeOk C P cfg E c) (hD : DOk C P cfg E) : COk C P (evS P cfg E) := by
  intro f ds h y hs Γ F w vs hA har
  obtain ⟨fn, hf, hs1⟩ := ob_some.1 hs
  obtain ⟨c, hb, hs2⟩ := ob_some.1 hs1
  obtain ⟨hle, hs3⟩ := cnd_some.1 hs2
  obtain ⟨x, hx, hs4⟩ := ob_some.1 hs3
  obtain ⟨p, hp, hs5⟩ := ob_some.1 hs4
  obtain ⟨q, hq, hs6⟩ := ob_some.1 hs5
  clear hs hs1 hs2 hs3 hs4 hs5
  have hle := Nat.le_of_ble_eq_true hle
  refine ⟨run_callFunc hN hf hb vs, ?_⟩
  show CallsIn Fence.wide 0 P f vs w (OutPost C Γ F h w y)
  refine callsIn_of_wp_marks hf hb trivial ?_
  have hact := enter_rel (cfg := cfg) (f := f) (fn := fn) har hle
  refine wpIn_mono (hcode f fn c hf hb _ h x hx Γ F w _ none hA hact trivial 0) (fun e act' w' hc => ?_)
  obtain ⟨Γ', F', h1, h2, h3, h4, h5, h6⟩ := hc
  -- what is left of the function
  have fin : ∀ u, MR Γ' F' w' p u → LeavesInM Fence.wide 0 P fn act'.tmps (OutPost C Γ F h w y) act'.defers u w' := by
    intro u hm
    refine leave_sound hD x.2.1.dfs p x.2.2 q hq Γ' F' w' act'.defers u (.step h1 h2) h5.dfs hm (fun Γ2 F2 w2 u2 j1 j2 j3 j4 => ?_)
    rw [h3] at j1 j3
    have hst := h1.trans j1 hA.rel
    obtain ⟨q1, k⟩ := q
    cases q1 with
    | none =>
      obtain ⟨rs, hrs, hs7⟩ := ob_some.1 hs6
      cases hs7
      have hu : u2 = .returning := j4
      subst hu
      have he := j1.envR h1.rel h5.env
      obtain ⟨v, hv1, hv2⟩ := results_run (P := P) j1.rel he hrs
      exact ⟨v, hv1, Γ2, F2, hst, j2, j3, v, rfl, hv2⟩
    | some dq =>
      obtain ⟨d, b⟩ := dq
      obtain ⟨hbf, hs7⟩ := cnd_none.1 hs6
      subst hbf
      cases hs7
      obtain ⟨v, hu, hv⟩ := j4
      subst hu
      exact ⟨Γ2, F2, hst, j2, j3, v, rfl, hv⟩
  obtain ⟨ex, a', k⟩ := x
  cases ex with
  | normal =>
    cases hp
    cases e <;> first | exact h4.elim | exact fin _ rfl
  | ret =>
    cases hp
    cases e <;> first | exact h4.elim | exact fin _ rfl
  | pan d =>
    cases hp
    cases e <;> first | exact h4.elim | skip
    obtain ⟨v, rfl, hv⟩ := h4
    exact fin _ ⟨v, rfl, hv⟩
  | exit i => cases hp

end

end Go.Sim
/- Rounds of a range over a function. -/
namespace Go.Sim
variable [Val]
open Go.RowKit

section
variable {C : Code → Prop} {P : Program} {cfg : FuncId → FInfo} {E : Ev} {Γ : Gam} {F : Nat → Prop} {h : H} {w : World}

omit [Val] in
theorem look_append_notin : ∀ (xs : Env) (t : Nat) (env : Env), (∀ p ∈ xs, p.1 ≠ t) → look (xs ++ env) t = look env t
  | [], _, _, _ => rfl
  | p :: xs, t, env, h => by
    obtain ⟨u, d⟩ := p
    rw [List.cons_append, look_cons_ne _ _ (h (u, d) (by simp)), look_append_notin xs t env fun q hq => h q (by simp [hq])]

omit [Val] in
theorem look_swap (xs : Env) (t k : Nat) (d : D) (env : Env) (h : ∀ p ∈ xs, p.1 ≠ t) : look ((t, d) :: (xs ++ env)) k = look (xs ++ (t, d) :: env) k := by
  by_cases hk : t = k
  · subst hk
    rw [look_cons_same, look_append_notin xs t _ h, look_cons_same]
  · rw [look_cons_ne _ _ hk]
    induction xs with
    | nil => exact (look_cons_ne d env hk).symm
    | cons p xs ih =>
      obtain ⟨u, e⟩ := p
      rw [List.cons_append, List.cons_append, look_cons, look_cons, ih fun q hq => h q (by simp [hq])]

theorem set_env {env : Env} {tmps : Array Value} {t : Nat} {d : D} {v : Value} (he : EnvRel Γ F w env tmps) (hv : VRel Γ F w d v) (hlt : t < tmps.size) : EnvRel Γ F w ((t, d) :: env) (tmps.setIfInBounds t v) := fun k => by
  by_cases hk : t = k
  · subst hk
    rw [look_cons_same]
    simp [Array.getD, hlt, hv]
  · rw [look_cons_ne _ _ hk]
    have e : (tmps.setIfInBounds t v).getD k undef = tmps.getD k undef := by
      simp only [Array.getD_eq_getD_getElem?]
      rw [Array.getElem?_setIfInBounds_ne hk]
    rw [e]; exact he k

theorem round_env {n : Nat} : ∀ (ps : List Tmp) (ds : List D) (vs : List Value) (env : Env) (tmps : Array Value), okPs n ps = true → ds.length = ps.length → vs.length = ps.length → tmps.size = n →
    (∀ (k : Nat) d v, ds[k]? = some d → vs[k]? = some v → VRel Γ F w d v) → EnvRel Γ F w env tmps →
    EnvRel Γ F w (ps.zip ds ++ env) ((ps.zip vs).foldl (fun tmps p => tmps.setIfInBounds p.1 p.2) tmps) ∧ ((ps.zip vs).foldl (fun (tmps : Array Value) p => tmps.setIfInBounds p.1 p.2) tmps).size = n
  | [], ds, vs, env, tmps, _, _, _, hn, _, he => by simpa using ⟨he, hn⟩
  | t :: ps, ds, vs, env, tmps, ho, hd, hvl, hn, hv, he => by
    cases ds with
    | nil => simp at hd
    | cons d ds =>
      cases vs with
      | nil => simp at hvl
      | cons v vs =>
        simp only [okPs, Bool.and_eq_true] at ho
        obtain ⟨⟨h1, h2⟩, h3⟩ := ho
        have hlt : t < tmps.size := by rw [hn]; exact Nat.le_of_ble_eq_true h1
        obtain ⟨k1, k2⟩ := round_env ps ds vs ((t, d) :: env) (tmps.setIfInBounds t v) h3 (by simpa using hd) (by simpa using hvl) (by simpa using hn)
          (fun k d v h4 h5 => hv (k + 1) d v (by simpa using h4) (by simpa using h5)) (set_env he (hv 0 d v rfl rfl) hlt)
        refine ⟨fun k => ?_, k2⟩
        have hne : ∀ p ∈ ps.zip ds, p.1 ≠ t := fun p hp => by
          have hm := (List.of_mem_zip hp).1
          have := List.all_eq_true.1 h2 p.1 hm
          intro e
          rw [e, beq_self] at this
          cases this
        show VRel Γ F w (look ((t, d) :: (ps.zip ds ++ env)) k) _
        rw [look_swap _ _ _ _ _ hne]
        exact k1 k

end

end Go.Sim
/- Rounds do as the interpreter says. -/
namespace Go.Sim
variable [Val]
open Go.RowKit

section
variable {C : Code → Prop} {P : Program} {cfg : FuncId → FInfo} {E : Ev} {Γ : Gam} {F : Nat → Prop} {h : H} {w : World}

/-- stored code does as the interpreter says, one fuel down -/
def LOk (C : Code → Prop) (P : Program) (E : Ev) : Prop :=
  ∀ (c : Code), C c → ∀ (a : A) (h : H) (res : Ex × A × H), E.loop c a h = some res → ∀ (Γ : Gam) (F : Nat → Prop) (w : World) (act : Act) (r : Option Nat), At C Γ F h w → ActR Γ F w a act → RdR Γ a.st.rd r →
    ∀ n, c.wpIn (W r) n P (CPost C Γ F h w a.st res) act w

omit [Val] in
theorem boxLoop_eq {b : Option Box} {r : LoopR} (h : boxLoop b = some r) : b = some (.loop r) := by
  cases b with
  | none => cases h
  | some x => cases x <;> first | (cases h; done) | (cases h; rfl)

/-- a loop's record, changed -/
theorem loop_put {l : Nat} {r r' : LoopR} {i : BI} (hA : At C Γ F h w) (hg : h.get l = some (.loop r)) (hl : h.lim ≤ l) (hi : Γ l = some i) {L : Loop} (hL : w.heap[i.b]? = some (.loop L)) (f : Loop → Loop)
    (hrel : LoopRel C Γ F w r' (f L)) :
    Step C h.lim Γ F h.get h.nx w Γ F (h.upd l (some (.loop r'))).get (h.upd l (some (.loop r'))).nx (w.putObj i.b (.loop (f L))) ∧ (h.upd l (some (.loop r'))).WF ∧ (h.upd l (some (.loop r'))).lim = h.lim := by
  have hlt := H.get_lt hg
  obtain ⟨k1, k2, k3, k4⟩ := H.upd_wf hA.wf (b := some (.loop r')) (id := l) (.inr (by omega))
  obtain ⟨i', hi', hib, _, hfz⟩ := hA.rel.box l _ hg
  have hii : i' = i := Option.some.inj (hi'.symm.trans hi)
  subst hii
  have hnF : ¬ F i'.b := fun hb => by have := hfz.2 hb; cases this
  have hkeep : ∀ b, F b → (w.putObj i'.b (.loop (f L))).heap[b]? = w.heap[b]? := fun b hb => World.putObj_heap_other (fun e => hnF (e ▸ hb))
  refine ⟨?_, k1, k2⟩
  rw [k3, k4, if_neg (by omega)]
  refine Step.put hA.rel hA.top hg hl hi rfl rfl ⟨f L, World.putObj_heap_same hib, ?_⟩
  exact ⟨hrel.state, hrel.pend, hrel.params, hrel.assign, hrel.body, hrel.size, hrel.env.mono (fun _ _ h => h) (fun _ h => h) hkeep, hrel.ok1, hrel.ok2⟩

end

end Go.Sim
/- Rounds do as the interpreter says. -/
namespace Go.Sim
variable [Val]
open Go.RowKit

section
variable {C : Code → Prop} {P : Program} {cfg : FuncId → FInfo} {E : Ev}

theorem rounds_ok (hL : LOk C P E) : ROk C P E := by
  intro l ds h sr hs Γ F w vs i hi hA har
  obtain ⟨r, hr, hs1⟩ := ob_some.1 hs
  obtain ⟨hb, hs2⟩ := cnd_some.1 hs1
  obtain ⟨x, hx, hs3⟩ := ob_some.1 hs2
  clear hs hs1 hs2
  simp only [Bool.and_eq_true] at hb
  obtain ⟨⟨⟨hps, hlen⟩, hready⟩, hlim⟩ := hb
  have hlen := Nat.eq_of_beq_eq_true hlen
  have hlim := Nat.le_of_ble_eq_true hlim
  have hg := boxLoop_eq hr
  obtain ⟨i', hi', hib, hbr, _⟩ := hA.rel.box l _ hg
  have hii : i' = i := Option.some.inj (hi'.symm.trans hi)
  subst hii
  obtain ⟨L, hLo, hrel⟩ := hbr
  have hpsz : L.params.size = r.params.length := by rw [← hrel.params]; simp
  have hargs : vs.size = L.params.size := by rw [har.1, hpsz, hlen]
  refine ⟨L.fn, _, L.assign, L.body, w, run_yield hLo hargs, ?_⟩
  have hxr : x.1 = .normal := by
    obtain ⟨ex, a', k⟩ := x
    cases ex <;> first | rfl | (cases hs3; done)
  obtain ⟨ex, a1, h1⟩ := x
  simp only at hxr
  subst hxr
  obtain ⟨r1, hr1, hs4⟩ := ob_some.1 hs3
  obtain ⟨hrdy, hs5⟩ := cnd_some.1 hs4
  obtain ⟨y, hy, hs6⟩ := ob_some.1 hs5
  clear hs3 hs4 hs5
  obtain ⟨k1, k2⟩ := round_env r.params ds vs.toList r.a.env L.tmps hps hlen.symm (by simp [har.1, hlen]) hrel.size (fun k d v h1 h2 => har.2 k d v h1 (by simpa using h2)) hrel.env
  have hfold : (L.params.zip vs).foldl (fun tmps (t, a) => tmps.setIfInBounds t a) L.tmps = (r.params.zip vs.toList).foldl (fun (tmps : Array Value) p => tmps.setIfInBounds p.1 p.2) L.tmps := by
    rw [← Array.foldl_toList, Array.toList_zip, hrel.params]
  rw [hfold]
  refine roundIn_of_wpIn trivial ?_
  have hact : ActR Γ F w ⟨⟨r.a.st.n, r.a.st.mask, some l⟩, r.params.zip ds ++ r.a.env, []⟩ { tmps := (r.params.zip vs.toList).foldl (fun (tmps : Array Value) p => tmps.setIfInBounds p.1 p.2) L.tmps, defers := [] } := ⟨k2, k1, trivial⟩
  rw [hrel.assign, hrel.body]
  refine wpIn_mono (hL r.assign hrel.ok1 _ h _ hx Γ F w _ (some i'.b) hA hact ⟨i', hi, rfl⟩ 0) (fun e act1 w1 hc => ?_)
  obtain ⟨Γ1, F1, m1, m2, m3, m4, m5, m6⟩ := hc
  cases e <;> first | exact m4.elim | skip
  have hg1 := boxLoop_eq hr1
  have hA1 : At C Γ1 F1 h1 w1 := .step m1 m2
  have hi1 := m1.ext l i' hi
  obtain ⟨i2, hi2, hib2, hbr2, _⟩ := hA1.rel.box l _ hg1
  have hii : i2 = i' := Option.some.inj (hi2.symm.trans hi1)
  subst hii
  obtain ⟨L1, hLo1, hrel1⟩ := hbr2
  have hst1 : L1.state = .ready := by
    rw [hrel1.state]
    cases hq : r1.st <;> rw [hq] at hrdy <;> first | rfl | (cases hrdy; done)
  refine ⟨w1.putObj i2.b (.loop { L1 with state := .busy }), run_beginRound hLo1 hst1, ?_⟩
  have hlim1 : h1.lim ≤ l := by have : h1.lim = h.lim := m3; rw [this]; exact hlim
  obtain ⟨n1, n2, n3⟩ := loop_put (r' := { r1 with st := .busy }) hA1 hg1 hlim1 hi1 hLo1 (fun L => { L with state := .busy }) ⟨rfl, hrel1.pend, hrel1.params, hrel1.assign, hrel1.body, hrel1.size, hrel1.env, hrel1.ok1, hrel1.ok2⟩
  have hA2 := At.step n1 n2
  have hact1 := m5.step hA1.rel n1
  have hrd1 : RdR Γ1 a1.st.rd (some i2.b) := by
    have : a1.st = ⟨r.a.st.n, r.a.st.mask, some l⟩ := m6
    rw [this]; exact ⟨i2, hi1, rfl⟩
  refine wpIn_mono (hL r.body hrel.ok2 a1 _ y hy Γ1 F1 _ act1 (some i2.b) hA2 hact1 hrd1 0) (fun e act2 w2 hc => ?_)
  obtain ⟨Γ2, F2, p1, p2, p3, p4, p5, p6⟩ := hc
  obtain ⟨ey, a2, h2⟩ := y
  obtain ⟨r2, hr2, hs7⟩ := ob_some.1 hs6
  have hg2 := boxLoop_eq hr2
  have hA3 : At C Γ2 F2 h2 w2 := .step p1 p2
  have hi3 := p1.ext l i2 hi1
  obtain ⟨i3, hi3', hib3, hbr3, _⟩ := hA3.rel.box l _ hg2
  have hii : i3 = i2 := Option.some.inj (hi3'.symm.trans hi3)
  subst hii
  obtain ⟨L2, hLo2, hrel2⟩ := hbr3
  have e1 : h1.lim = h.lim := m3
  have e2 : h2.lim = h.lim := (show h2.lim = (h1.upd l _).lim from p3).trans (n3.trans e1)
  have fin : ∀ (jump : Option Code) (r' : LoopR) (b : Bool), LoopRel C Γ2 F2 w2 r' { L2 with state := if jump.isNone then .ready else .done, pending := jump } → b = jump.isNone →
      ∃ v w', (Instr.endRound i3.b jump).run P w2 = .ok v w' ∧ SRpost C Γ F h w (.val (.bool b) (h2.upd l (some (.loop r')))) (.returned v) w' := by
    intro jump r' b hrr hb
    obtain ⟨q1, q2, q3⟩ := loop_put (r' := r') hA3 hg2 (by rw [e2]; exact hlim) hi3 hLo2 (fun L => { L with state := if jump.isNone then .ready else .done, pending := jump }) hrr
    refine ⟨_, _, run_endRound jump hLo2, Γ2, F2, _, rfl, ?_, q2, q3.trans e2, by rw [hb]; exact .bool _⟩
    have t1 : Step C h.lim Γ F h.get h.nx w Γ1 F1 h1.get h1.nx w1 := m1
    rw [e1] at n1
    have t2 := t1.trans n1 hA.rel
    have e3 : (h1.upd l (some (.loop { r1 with st := .busy }))).lim = h.lim := n3.trans e1
    rw [e3] at p1
    have t3 := t2.trans p1 hA.rel
    rw [e2] at q1
    exact t3.trans q1 hA.rel
  cases ey with
  | normal =>
    cases hs7
    cases e <;> first | exact p4.elim | skip
    exact fin none _ true ⟨rfl, rfl, hrel2.params, hrel2.assign, hrel2.body, hrel2.size, hrel2.env, hrel2.ok1, hrel2.ok2⟩ rfl
  | ret =>
    cases hs7
    cases e <;> first | exact p4.elim | skip
    exact fin (some .ret) _ false ⟨rfl, rfl, hrel2.params, hrel2.assign, hrel2.body, hrel2.size, hrel2.env, hrel2.ok1, hrel2.ok2⟩ rfl
  | exit id =>
    cases hs7
    cases e <;> first | exact p4.elim | skip
    rename_i j
    have hj : id = j := p4
    subst hj
    exact fin (some (.exit id)) _ false ⟨rfl, rfl, hrel2.params, hrel2.assign, hrel2.body, hrel2.size, hrel2.env, hrel2.ok1, hrel2.ok2⟩ rfl
  | pan d => cases hs7

end

end Go.Sim
