/- A part of the proof: closed facts by the kernel, or the row. -/
import Derived.Test.YtlcaljpiphnpiaaGreatSimE
import Derived.Test.YtlcaljpiphnpiaaGreatProg
import Derived.KernelRfl
/- What is laid down of each function: does it see nothing but its arguments, and which temporaries outlive a region. -/
namespace Go.Sim
noncomputable section
noncomputable def infos : List FInfo := [
⟨true,0,0⟩,
⟨true,0,0⟩,
⟨true,0,0⟩,
⟨true,20282410210494210225600823820253,0⟩,
⟨true,11150372599265328979299692715869318955400647,0⟩,
⟨true,134283519,0⟩,
⟨true,83,0⟩,
⟨true,67125247,0⟩,
⟨true,65783,0⟩,
⟨false,16806963,0⟩,
⟨true,19,0⟩,
⟨true,31,0⟩,
⟨true,19,0⟩,
⟨true,72947,0⟩,
⟨true,35185445863439,0⟩,
⟨true,7,0⟩,
⟨false,32212254741,0⟩,
⟨false,5,0⟩,
⟨true,19,0⟩,
⟨false,135127,0⟩,
⟨false,31,0⟩,
⟨true,287,0⟩,
⟨true,24479,0⟩,
⟨false,31,0⟩,
⟨true,24479,0⟩,
⟨false,31,0⟩,
⟨true,24479,0⟩,
⟨false,31,0⟩,
⟨true,24479,0⟩,
⟨false,31,0⟩,
⟨true,24479,0⟩,
⟨false,7,0⟩,
⟨false,55,0⟩,
⟨true,415,0⟩,
⟨true,4521612720243199,0⟩,
⟨false,1074250695,0⟩,
⟨true,127,0⟩,
⟨false,16806963,0⟩,
⟨true,5,0⟩,
⟨true,13,0⟩,
⟨true,17389,0⟩,
⟨true,4475191,0⟩,
⟨true,2340757209143,0⟩,
⟨false,21,0⟩,
⟨false,8271,0⟩,
⟨false,19,0⟩,
⟨false,33776997221008875,0⟩,
⟨true,12751,0⟩,
⟨false,132351,0⟩,
⟨false,36601129471609075,0⟩,
⟨false,132351,0⟩,
⟨false,1163420741419255,0⟩,
⟨false,132351,0⟩,
⟨false,16908467,0⟩,
⟨false,132351,0⟩,
⟨false,179,0⟩,
⟨false,132351,0⟩,
⟨false,2291,0⟩,
⟨true,7,0⟩,
⟨false,2147618759,0⟩,
⟨false,47,0⟩,
⟨true,604275,0⟩,
⟨false,2147483839,0⟩,
⟨true,536887255,0⟩,
⟨true,70368744441719,0⟩,
⟨true,8397311,0⟩,
⟨true,4159,0⟩,
⟨true,19,0⟩,
⟨true,524799,0⟩,
⟨true,31,0⟩,
⟨true,7,0⟩,
⟨true,34359738877,0⟩,
⟨false,19,0⟩,
⟨false,33554995,0⟩,
⟨true,5,0⟩,
⟨false,19,0⟩,
⟨true,5,0⟩,
⟨true,536871421,0⟩,
⟨true,145647,0⟩,
⟨true,133715,0⟩,
⟨true,35,0⟩,
⟨false,3,0⟩,
⟨false,142937610518587,0⟩,
⟨true,70403112836079,0⟩,
⟨true,590444433561635286991,0⟩,
⟨true,5,0⟩,
⟨false,7,0⟩,
⟨true,463,0⟩,
⟨true,7,0⟩,
⟨false,16413,0⟩,
⟨false,5,0⟩,
⟨false,5,0⟩,
⟨false,13,0⟩,
⟨false,13,0⟩,
⟨false,21,0⟩,
⟨false,13,0⟩,
⟨false,13,0⟩,
⟨false,29,0⟩,
⟨false,29,0⟩,
⟨false,13,0⟩,
⟨false,29,0⟩,
⟨false,29,0⟩,
⟨false,23,0⟩,
⟨true,8655,0⟩,
⟨false,115,0⟩,
⟨false,5,0⟩,
⟨false,237,0⟩,
⟨false,115,0⟩,
⟨false,27,0⟩,
⟨true,270715,0⟩,
⟨false,29,0⟩,
⟨false,27,0⟩,
⟨true,4194419,0⟩,
⟨true,19,0⟩,
⟨false,13,0⟩,
⟨false,38430680706781427,0⟩,
⟨false,5156827081738186009886963,0⟩,
⟨false,1,0⟩,
⟨false,253,0⟩,
⟨false,5,0⟩,
⟨false,29,0⟩,
⟨true,5,0⟩,
⟨true,15,0⟩,
⟨false,55,0⟩,
⟨false,127,0⟩,
⟨false,503,0⟩,
⟨false,69089455,0⟩,
⟨false,504373101,0⟩,
⟨true,35184640525303,0⟩,
⟨false,2111,0⟩,
⟨false,1048831,0⟩,
⟨false,16806963,0⟩,
⟨true,5,0⟩,
⟨false,66483,0⟩,
⟨false,66483,0⟩,
⟨true,7,0⟩,
⟨true,7,0⟩,
⟨true,7,0⟩,
⟨false,31,0⟩,
⟨true,19,0⟩,
⟨false,21,0⟩,
⟨false,32787,0⟩,
⟨false,32691,0⟩,
⟨false,123,0⟩,
⟨true,17040895,0⟩,
⟨false,134251507,0⟩,
⟨true,5,0⟩,
⟨false,8379,0⟩,
⟨true,5,0⟩,
⟨false,995,0⟩,
⟨false,71,0⟩,
⟨false,27,0⟩,
⟨false,455,0⟩,
⟨false,7,0⟩,
⟨false,19,0⟩,
⟨false,8315,0⟩,
⟨true,4294983631,0⟩,
⟨true,1,0⟩,
⟨false,9,0⟩,
⟨true,278775,0⟩,
⟨true,289444236988825375,0⟩,
⟨true,255,0⟩,
⟨true,35,0⟩,
⟨true,1023,0⟩,
⟨false,5,0⟩,
⟨true,1,0⟩,
⟨true,2167,0⟩,
⟨true,567,0⟩,
⟨true,1023,0⟩,
⟨true,35,0⟩,
⟨true,69879,0⟩,
⟨true,1023,0⟩,
⟨true,103,0⟩,
⟨true,4398046580511,0⟩,
⟨false,61,0⟩,
⟨false,19,0⟩,
⟨false,15,0⟩,
⟨true,31,0⟩,
⟨false,295147905181504570311,0⟩,
⟨false,21,0⟩,
⟨false,67126215,0⟩,
⟨true,7,0⟩,
⟨false,65735,0⟩,
⟨false,5,0⟩,
⟨true,1,0⟩,
⟨true,35,0⟩,
⟨false,19,0⟩,
⟨false,29,0⟩,
⟨true,8307,0⟩,
⟨false,29,0⟩,
⟨false,29,0⟩,
⟨false,2053,0⟩,
⟨false,257698037813,0⟩,
⟨false,5,0⟩,
⟨false,253,0⟩,
⟨false,549755813917,0⟩,
⟨false,8388621,0⟩,
⟨false,13,0⟩,
⟨false,19,0⟩,
⟨true,1,0⟩,
⟨true,35,0⟩,
⟨true,12351,0⟩,
⟨false,1966179,0⟩,
⟨false,29,0⟩,
⟨true,35,0⟩,
⟨true,7,0⟩,
⟨false,33554995,0⟩,
⟨false,19,0⟩,
⟨false,47,0⟩,
⟨true,31679,0⟩,
⟨true,12415,0⟩,
⟨false,4194559,0⟩,
⟨true,63,0⟩,
⟨false,65619,0⟩,
⟨false,31,0⟩,
⟨true,4111,0⟩,
⟨false,3,0⟩,
⟨false,13,0⟩,
⟨true,3,0⟩,
⟨false,31,0⟩,
⟨false,63,0⟩,
⟨false,21,0⟩,
⟨false,295147905181504570311,0⟩,
⟨true,19,0⟩,
⟨false,2417888541724605023265015,0⟩,
⟨true,21,0⟩,
⟨true,8392659,0⟩,
⟨true,31,0⟩,
⟨false,295147905181504570311,0⟩,
⟨true,19,0⟩,
⟨false,5,0⟩,
⟨true,271,0⟩,
⟨false,61,0⟩,
⟨false,61,0⟩,
⟨false,15851695,0⟩,
⟨false,65735,0⟩,
⟨false,131075,0⟩,
⟨false,1055531162667045,0⟩,
⟨false,6173,0⟩,
⟨false,223,0⟩,
⟨false,11,0⟩,
⟨false,443,0⟩,
⟨false,23,0⟩,
⟨false,215,0⟩,
⟨false,55,0⟩,
⟨false,134,0⟩,
⟨false,27,0⟩,
⟨true,261,0⟩,
⟨false,23,0⟩,
⟨false,455,0⟩,
⟨false,8693,0⟩,
⟨false,3,0⟩,
⟨false,7,0⟩,
⟨false,31,0⟩,
⟨true,2239,0⟩,
⟨false,66483,0⟩,
⟨true,23,0⟩,
⟨false,0,0⟩,
⟨false,3,0⟩,
⟨true,9026991537792967,0⟩,
⟨true,51,0⟩,
⟨true,19,0⟩,
⟨true,71,0⟩,
⟨true,3191,0⟩,
⟨true,71,0⟩,
⟨false,11,0⟩,
⟨true,5,0⟩,
⟨true,5,0⟩,
⟨true,1,0⟩,
⟨false,66483,0⟩,
⟨true,4111,0⟩,
⟨false,31,0⟩,
⟨true,55,0⟩,
⟨false,127,0⟩,
⟨true,127,0⟩,
⟨true,87,0⟩,
⟨false,8271,0⟩,
⟨true,151,0⟩,
⟨false,174235206336564731967826101917033964503067,0⟩,
⟨false,134217757,0⟩,
⟨false,63,0⟩,
⟨false,131327,0⟩,
⟨false,0,0⟩,
⟨false,3,0⟩,
⟨false,0,0⟩,
⟨false,3,0⟩,
⟨true,33279,0⟩,
⟨false,5,0⟩,
⟨false,7,0⟩,
⟨false,16543,0⟩,
⟨false,27,0⟩,
⟨false,3,0⟩,
⟨true,8693,0⟩,
⟨false,7,0⟩,
⟨false,23,0⟩,
⟨true,7,0⟩,
⟨true,55,0⟩,
⟨false,3,0⟩,
⟨false,65735,0⟩,
⟨false,295147905181504570311,0⟩,
⟨false,2147618759,0⟩,
⟨true,23,0⟩,
⟨false,8447975,0⟩,
⟨true,19,0⟩,
⟨false,31,0⟩,
⟨true,17,0⟩,
⟨true,5,0⟩,
⟨true,17,0⟩,
⟨true,69,0⟩,
⟨false,2099111,0⟩,
⟨true,537002487,0⟩,
⟨true,23,0⟩,
⟨true,19,0⟩,
⟨true,269,0⟩,
⟨false,8389063,0⟩,
⟨false,8388807,0⟩,
⟨false,2252088650236027,0⟩,
⟨false,87,0⟩,
⟨true,268435519,0⟩,
⟨false,3,0⟩,
⟨false,3,0⟩,
⟨false,10384593871817177683247510831234831,0⟩,
⟨true,5,0⟩,
⟨false,17179899987,0⟩,
⟨true,19,0⟩,
⟨true,39,0⟩,
⟨false,525,0⟩,
⟨false,0,0⟩,
⟨false,3,0⟩,
⟨true,477,0⟩,
⟨false,1073757351,0⟩,
⟨true,1655,0⟩,
⟨true,263135,0⟩,
⟨true,34359746367,0⟩,
⟨true,281477813284807,0⟩,
⟨true,19,0⟩,
⟨false,11,0⟩,
⟨true,8589936271,0⟩,
⟨true,79,0⟩,
⟨false,525,0⟩,
⟨false,525,0⟩,
⟨false,1073746119,0⟩,
⟨false,1074268103,0⟩,
⟨false,8804682991559,0⟩,
⟨false,20829169751433159,0⟩,
⟨false,8391,0⟩,
⟨false,83087207854311395603287443752634311,0⟩,
⟨false,19023213622105999119,0⟩,
⟨false,22458641409078797123448399039441150152463,0⟩,
⟨true,277,0⟩,
⟨true,16661,0⟩,
⟨false,3,0⟩,
⟨true,144678172405809119,0⟩,
⟨true,371,0⟩,
⟨true,39111,0⟩,
⟨true,2247,0⟩,
⟨true,147,0⟩,
⟨true,147,0⟩,
⟨true,5,0⟩,
⟨false,7,0⟩,
⟨false,4503668346913551,0⟩,
⟨false,5,0⟩,
⟨false,5,0⟩,
⟨false,71,0⟩,
⟨false,1055,0⟩,
⟨false,525,0⟩,
⟨true,528375,0⟩,
⟨false,137446817915,0⟩,
⟨true,37,0⟩,
⟨true,19,0⟩,
⟨false,262927,0⟩,
⟨true,4221,0⟩,
⟨true,4294968051,0⟩,
⟨true,1,0⟩,
⟨true,19,0⟩,
⟨false,7,0⟩,
⟨true,0,0⟩,
⟨false,15,0⟩,
⟨true,0,0⟩,
⟨true,0,0⟩,
⟨true,0,0⟩,
⟨true,0,0⟩,
⟨true,0,0⟩,
⟨true,0,0⟩,
⟨true,0,0⟩,
⟨true,0,0⟩,
⟨false,0,0⟩,
⟨false,0,0⟩,
⟨false,0,0⟩,
⟨false,0,0⟩,
⟨false,0,0⟩,
⟨false,0,0⟩,
⟨false,0,0⟩,
⟨true,0,0⟩,
⟨true,0,0⟩,
⟨true,0,0⟩]
noncomputable def cfg (f : Nat) : FInfo := (infos[f]?).getD ⟨false,0,0⟩
noncomputable def progA : Program := Proofs.Tryz.prog
end
end Go.Sim
/- TopGated: what is told of the numbers on each way. -/
namespace Go.Sim
noncomputable section
/-- as cfg; 'awake' answers true -/
def cfgG (f : Nat) : FInfo := cnd (Nat.beq f 10) ⟨(cfg f).pure, (cfg f).mask, 3⟩ (cfg f)
def bodyG : Code := (Proofs.Tryz.f4.body).getD .skip
theorem bodyG_eq : Proofs.Tryz.f4.body = some bodyG := by kernel_rfl
def stG : St := ⟨214, (cfgG 4).mask, none⟩
def psG : Env := [(0, .sx .u8 (.atom 0)), (1, .sx .u8 (.atom 1)), (2, .sx .u64 (.atom 2))]
def gIn (V : Vals) : Prop := 0 ≤ V.v 0 ∧ V.v 0 ≤ 255 ∧ 0 ≤ V.v 1 ∧ V.v 1 ≤ 255
def g0 (V : Vals) : Int := (V.v 0).tmod 5
def g1 (V : Vals) : Int := ((V.v 0).tdiv 5).tmod 5
def g2 (V : Vals) : Int := (V.v 1).tmod 5
def g3 (V : Vals) : Int := ((V.v 1).tdiv 5).tmod 5
theorem wr (k : IntKind) {x : Int} (h0 : 0 ≤ x) (h1 : x ≤ 100) : k.wrap x = x := by
  cases k <;> simp [IntKind.wrap, IntKind.signed, IntKind.bits] <;> omega
theorem mod5 {x : Int} (h : 0 ≤ x) : 0 ≤ x.tmod 5 ∧ x.tmod 5 ≤ 4 := by
  rw [Int.tmod_eq_emod_of_nonneg h]; omega
theorem div5 {x : Int} (h : 0 ≤ x) (h' : x ≤ 255) : 0 ≤ x.tdiv 5 ∧ x.tdiv 5 ≤ 51 := by
  rw [Int.tdiv_eq_ediv_of_nonneg h]; omega
theorem gr {V : Vals} (h : gIn V) : (0 ≤ g0 V ∧ g0 V ≤ 4) ∧ (0 ≤ g1 V ∧ g1 V ≤ 4) ∧ (0 ≤ g2 V ∧ g2 V ≤ 4) ∧ (0 ≤ g3 V ∧ g3 V ≤ 4) :=
  ⟨mod5 h.1, mod5 (div5 h.1 h.2.1).1, mod5 h.2.2.1, mod5 (div5 h.2.2.1 h.2.2.2).1⟩
theorem gw0 {V : Vals} (h : gIn V) (k : IntKind) : k.wrap ((V.v 0).tmod 5) = (V.v 0).tmod 5 := wr k (gr h).1.1 (by have := (gr h).1.2; show g0 V ≤ 100; omega)
theorem gw1 {V : Vals} (h : gIn V) (k : IntKind) : k.wrap (((V.v 0).tdiv 5).tmod 5) = ((V.v 0).tdiv 5).tmod 5 := wr k (gr h).2.1.1 (by have := (gr h).2.1.2; show g1 V ≤ 100; omega)
theorem gw2 {V : Vals} (h : gIn V) (k : IntKind) : k.wrap ((V.v 1).tmod 5) = (V.v 1).tmod 5 := wr k (gr h).2.2.1.1 (by have := (gr h).2.2.1.2; show g2 V ≤ 100; omega)
theorem gw3 {V : Vals} (h : gIn V) (k : IntKind) : k.wrap (((V.v 1).tdiv 5).tmod 5) = ((V.v 1).tdiv 5).tmod 5 := wr k (gr h).2.2.2.1 (by have := (gr h).2.2.2.2; show g3 V ≤ 100; omega)
theorem gq0 {V : Vals} (h : gIn V) (k : IntKind) : k.wrap ((V.v 0).tdiv 5) = (V.v 0).tdiv 5 := wr k (div5 h.1 h.2.1).1 (by have := (div5 h.1 h.2.1).2; omega)
theorem gq1 {V : Vals} (h : gIn V) (k : IntKind) : k.wrap ((V.v 1).tdiv 5) = (V.v 1).tdiv 5 := wr k (div5 h.2.2.1 h.2.2.2).1 (by have := (div5 h.2.2.1 h.2.2.2).2; omega)
def gX0 : SX := (.conv .i64 (.bin .rem .u8 (.bin .quo .u8 (.atom 1) (.lit 5)) (.lit 5)))
theorem gX0_eval (V : Vals) (h : gIn V) : gX0.eval V = g3 V := by
  simp only [gX0, SX.eval, arithI, gw3 h, gq1 h]
  rfl
def gX1 : SX := (.conv .i64 (.bin .rem .u8 (.atom 1) (.lit 5)))
theorem gX1_eval (V : Vals) (h : gIn V) : gX1.eval V = g2 V := by
  simp only [gX1, SX.eval, arithI, gw2 h]
  rfl
def gX2 : SX := (.conv .i64 (.bin .rem .u8 (.bin .quo .u8 (.atom 0) (.lit 5)) (.lit 5)))
theorem gX2_eval (V : Vals) (h : gIn V) : gX2.eval V = g1 V := by
  simp only [gX2, SX.eval, arithI, gw1 h, gq0 h]
  rfl
def gX3 : SX := (.conv .i64 (.bin .rem .u8 (.atom 0) (.lit 5)))
theorem gX3_eval (V : Vals) (h : gIn V) : gX3.eval V = g0 V := by
  simp only [gX3, SX.eval, arithI, gw0 h]
  rfl
def gX4 : SX := (.conv .i64 (.conv .u64 (.conv .i64 (.bin .rem .u8 (.bin .quo .u8 (.atom 1) (.lit 5)) (.lit 5)))))
theorem gX4_eval (V : Vals) (h : gIn V) : gX4.eval V = g3 V := by
  simp only [gX4, SX.eval, arithI, gw3 h, gq1 h]
  rfl
def gX5 : SX := (.conv .u64 (.conv .i64 (.bin .rem .u8 (.bin .quo .u8 (.atom 1) (.lit 5)) (.lit 5))))
theorem gX5_eval (V : Vals) (h : gIn V) : gX5.eval V = g3 V := by
  simp only [gX5, SX.eval, arithI, gw3 h, gq1 h]
  rfl
def gX6 : SX := (.conv .i64 (.conv .u64 (.conv .i64 (.bin .rem .u8 (.atom 1) (.lit 5)))))
theorem gX6_eval (V : Vals) (h : gIn V) : gX6.eval V = g2 V := by
  simp only [gX6, SX.eval, arithI, gw2 h]
  rfl
def gX7 : SX := (.conv .u64 (.conv .i64 (.bin .rem .u8 (.atom 1) (.lit 5))))
theorem gX7_eval (V : Vals) (h : gIn V) : gX7.eval V = g2 V := by
  simp only [gX7, SX.eval, arithI, gw2 h]
  rfl
def gX8 : SX := (.conv .i64 (.conv .u64 (.conv .i64 (.bin .rem .u8 (.bin .quo .u8 (.atom 0) (.lit 5)) (.lit 5)))))
theorem gX8_eval (V : Vals) (h : gIn V) : gX8.eval V = g1 V := by
  simp only [gX8, SX.eval, arithI, gw1 h, gq0 h]
  rfl
def gX9 : SX := (.conv .u64 (.conv .i64 (.bin .rem .u8 (.bin .quo .u8 (.atom 0) (.lit 5)) (.lit 5))))
theorem gX9_eval (V : Vals) (h : gIn V) : gX9.eval V = g1 V := by
  simp only [gX9, SX.eval, arithI, gw1 h, gq0 h]
  rfl
def gX10 : SX := (.conv .i64 (.conv .u64 (.conv .i64 (.bin .rem .u8 (.atom 0) (.lit 5)))))
theorem gX10_eval (V : Vals) (h : gIn V) : gX10.eval V = g0 V := by
  simp only [gX10, SX.eval, arithI, gw0 h]
  rfl
def gX11 : SX := (.conv .u64 (.conv .i64 (.bin .rem .u8 (.atom 0) (.lit 5))))
theorem gX11_eval (V : Vals) (h : gIn V) : gX11.eval V = g0 V := by
  simp only [gX11, SX.eval, arithI, gw0 h]
  rfl
def gpc0 : List (BinOp × SX × SX × Bool) := [(.neq, gX0, (.lit 2), false), (.neq, gX1, (.lit 2), false), (.neq, gX2, (.lit 2), false), (.neq, gX3, (.lit 2), false), (.leq, gX0, (.lit 2), true), (.leq, gX2, gX0, true), (.leq, (.lit 2), gX2, true), (.leq, gX1, (.lit 4), true), (.leq, gX3, gX1, true), (.leq, (.lit 0), gX3, true), (.eql, gX4, (.lit 2), true), (.leq, gX4, (.lit 5), true), (.geq, gX4, (.lit 0), true), (.leq, gX5, (.lit 4), true), (.eql, gX6, (.lit 2), true), (.leq, gX6, (.lit 5), true), (.geq, gX6, (.lit 0), true), (.leq, gX7, (.lit 4), true), (.eql, gX8, (.lit 2), true), (.leq, gX8, (.lit 5), true), (.geq, gX8, (.lit 0), true), (.leq, gX9, (.lit 4), true), (.eql, gX10, (.lit 2), true), (.leq, gX10, (.lit 5), true), (.geq, gX10, (.lit 0), true), (.leq, gX11, (.lit 4), true)]
def gpc1 : List (BinOp × SX × SX × Bool) := [(.leq, gX4, (.lit 2), false), (.leq, (.lit 2), gX4, true), (.eql, gX4, (.lit 5), false), (.leq, gX0, (.lit 2), false), (.leq, gX2, gX0, true), (.leq, (.lit 2), gX2, true), (.leq, gX1, (.lit 4), true), (.leq, gX3, gX1, true), (.leq, (.lit 0), gX3, true), (.eql, gX4, (.lit 2), false), (.leq, gX4, (.lit 5), true), (.geq, gX4, (.lit 0), true), (.leq, gX5, (.lit 4), true), (.eql, gX6, (.lit 2), true), (.leq, gX6, (.lit 5), true), (.geq, gX6, (.lit 0), true), (.leq, gX7, (.lit 4), true), (.eql, gX8, (.lit 2), true), (.leq, gX8, (.lit 5), true), (.geq, gX8, (.lit 0), true), (.leq, gX9, (.lit 4), true), (.eql, gX10, (.lit 2), true), (.leq, gX10, (.lit 5), true), (.geq, gX10, (.lit 0), true), (.leq, gX11, (.lit 4), true)]
def gpc2 : List (BinOp × SX × SX × Bool) := [(.leq, (.lit 2), gX4, false), (.eql, gX4, (.lit 5), false), (.leq, gX2, gX0, false), (.leq, (.lit 2), gX2, true), (.leq, gX1, (.lit 4), true), (.leq, gX3, gX1, true), (.leq, (.lit 0), gX3, true), (.eql, gX4, (.lit 2), false), (.leq, gX4, (.lit 5), true), (.geq, gX4, (.lit 0), true), (.leq, gX5, (.lit 4), true), (.eql, gX6, (.lit 2), true), (.leq, gX6, (.lit 5), true), (.geq, gX6, (.lit 0), true), (.leq, gX7, (.lit 4), true), (.eql, gX8, (.lit 2), true), (.leq, gX8, (.lit 5), true), (.geq, gX8, (.lit 0), true), (.leq, gX9, (.lit 4), true), (.eql, gX10, (.lit 2), true), (.leq, gX10, (.lit 5), true), (.geq, gX10, (.lit 0), true), (.leq, gX11, (.lit 4), true)]
def gpc3 : List (BinOp × SX × SX × Bool) := [(.eql, gX6, gX1, true), (.neq, gX0, (.lit 2), false), (.neq, gX1, (.lit 2), true), (.neq, gX2, (.lit 2), false), (.neq, gX3, (.lit 2), false), (.leq, gX6, (.lit 4), true), (.leq, (.lit 2), gX6, true), (.eql, gX6, (.lit 5), false), (.leq, gX0, (.lit 2), true), (.leq, gX2, gX0, true), (.leq, (.lit 2), gX2, true), (.leq, gX1, (.lit 4), true), (.leq, gX3, gX1, true), (.leq, (.lit 0), gX3, true), (.eql, gX4, (.lit 2), true), (.leq, gX4, (.lit 5), true), (.geq, gX4, (.lit 0), true), (.leq, gX5, (.lit 4), true), (.eql, gX6, (.lit 2), false), (.leq, gX6, (.lit 5), true), (.geq, gX6, (.lit 0), true), (.leq, gX7, (.lit 4), true), (.eql, gX8, (.lit 2), true), (.leq, gX8, (.lit 5), true), (.geq, gX8, (.lit 0), true), (.leq, gX9, (.lit 4), true), (.eql, gX10, (.lit 2), true), (.leq, gX10, (.lit 5), true), (.geq, gX10, (.lit 0), true), (.leq, gX11, (.lit 4), true)]
def gpc4 : List (BinOp × SX × SX × Bool) := [(.leq, (.lit 2), gX6, false), (.eql, gX6, (.lit 5), false), (.leq, gX3, gX1, false), (.leq, (.lit 0), gX3, true), (.eql, gX4, (.lit 2), true), (.leq, gX4, (.lit 5), true), (.geq, gX4, (.lit 0), true), (.leq, gX5, (.lit 4), true), (.eql, gX6, (.lit 2), false), (.leq, gX6, (.lit 5), true), (.geq, gX6, (.lit 0), true), (.leq, gX7, (.lit 4), true), (.eql, gX8, (.lit 2), true), (.leq, gX8, (.lit 5), true), (.geq, gX8, (.lit 0), true), (.leq, gX9, (.lit 4), true), (.eql, gX10, (.lit 2), true), (.leq, gX10, (.lit 5), true), (.geq, gX10, (.lit 0), true), (.leq, gX11, (.lit 4), true)]
def gpc5 : List (BinOp × SX × SX × Bool) := [(.leq, gX4, (.lit 2), false), (.leq, gX6, (.lit 4), true), (.leq, (.lit 2), gX4, true), (.leq, (.lit 2), gX6, true), (.eql, gX4, (.lit 5), false), (.eql, gX6, (.lit 5), false), (.leq, gX0, (.lit 2), false), (.leq, gX2, gX0, true), (.leq, (.lit 2), gX2, true), (.leq, gX1, (.lit 4), true), (.leq, gX3, gX1, true), (.leq, (.lit 0), gX3, true), (.eql, gX4, (.lit 2), false), (.leq, gX4, (.lit 5), true), (.geq, gX4, (.lit 0), true), (.leq, gX5, (.lit 4), true), (.eql, gX6, (.lit 2), false), (.leq, gX6, (.lit 5), true), (.geq, gX6, (.lit 0), true), (.leq, gX7, (.lit 4), true), (.eql, gX8, (.lit 2), true), (.leq, gX8, (.lit 5), true), (.geq, gX8, (.lit 0), true), (.leq, gX9, (.lit 4), true), (.eql, gX10, (.lit 2), true), (.leq, gX10, (.lit 5), true), (.geq, gX10, (.lit 0), true), (.leq, gX11, (.lit 4), true)]
def gpc6 : List (BinOp × SX × SX × Bool) := [(.leq, (.lit 2), gX4, false), (.leq, (.lit 2), gX6, true), (.eql, gX4, (.lit 5), false), (.eql, gX6, (.lit 5), false), (.leq, gX2, gX0, false), (.leq, (.lit 2), gX2, true), (.leq, gX1, (.lit 4), true), (.leq, gX3, gX1, true), (.leq, (.lit 0), gX3, true), (.eql, gX4, (.lit 2), false), (.leq, gX4, (.lit 5), true), (.geq, gX4, (.lit 0), true), (.leq, gX5, (.lit 4), true), (.eql, gX6, (.lit 2), false), (.leq, gX6, (.lit 5), true), (.geq, gX6, (.lit 0), true), (.leq, gX7, (.lit 4), true), (.eql, gX8, (.lit 2), true), (.leq, gX8, (.lit 5), true), (.geq, gX8, (.lit 0), true), (.leq, gX9, (.lit 4), true), (.eql, gX10, (.lit 2), true), (.leq, gX10, (.lit 5), true), (.geq, gX10, (.lit 0), true), (.leq, gX11, (.lit 4), true)]
def gpc7 : List (BinOp × SX × SX × Bool) := [(.leq, (.lit 2), gX6, false), (.eql, gX4, (.lit 5), false), (.eql, gX6, (.lit 5), false), (.leq, gX3, gX1, false), (.leq, (.lit 0), gX3, true), (.eql, gX4, (.lit 2), false), (.leq, gX4, (.lit 5), true), (.geq, gX4, (.lit 0), true), (.leq, gX5, (.lit 4), true), (.eql, gX6, (.lit 2), false), (.leq, gX6, (.lit 5), true), (.geq, gX6, (.lit 0), true), (.leq, gX7, (.lit 4), true), (.eql, gX8, (.lit 2), true), (.leq, gX8, (.lit 5), true), (.geq, gX8, (.lit 0), true), (.leq, gX9, (.lit 4), true), (.eql, gX10, (.lit 2), true), (.leq, gX10, (.lit 5), true), (.geq, gX10, (.lit 0), true), (.leq, gX11, (.lit 4), true)]
def gpc8 : List (BinOp × SX × SX × Bool) := [(.leq, gX8, (.lit 2), false), (.leq, (.lit 2), gX8, true), (.eql, gX8, (.lit 5), false), (.leq, gX2, gX0, false), (.leq, (.lit 2), gX2, true), (.leq, gX1, (.lit 4), true), (.leq, gX3, gX1, true), (.leq, (.lit 0), gX3, true), (.eql, gX4, (.lit 2), true), (.leq, gX4, (.lit 5), true), (.geq, gX4, (.lit 0), true), (.leq, gX5, (.lit 4), true), (.eql, gX6, (.lit 2), true), (.leq, gX6, (.lit 5), true), (.geq, gX6, (.lit 0), true), (.leq, gX7, (.lit 4), true), (.eql, gX8, (.lit 2), false), (.leq, gX8, (.lit 5), true), (.geq, gX8, (.lit 0), true), (.leq, gX9, (.lit 4), true), (.eql, gX10, (.lit 2), true), (.leq, gX10, (.lit 5), true), (.geq, gX10, (.lit 0), true), (.leq, gX11, (.lit 4), true)]
def gpc9 : List (BinOp × SX × SX × Bool) := [(.leq, (.lit 2), gX8, false), (.eql, gX8, (.lit 5), false), (.leq, (.lit 2), gX2, false), (.leq, gX1, (.lit 4), true), (.leq, gX3, gX1, true), (.leq, (.lit 0), gX3, true), (.eql, gX4, (.lit 2), true), (.leq, gX4, (.lit 5), true), (.geq, gX4, (.lit 0), true), (.leq, gX5, (.lit 4), true), (.eql, gX6, (.lit 2), true), (.leq, gX6, (.lit 5), true), (.geq, gX6, (.lit 0), true), (.leq, gX7, (.lit 4), true), (.eql, gX8, (.lit 2), false), (.leq, gX8, (.lit 5), true), (.geq, gX8, (.lit 0), true), (.leq, gX9, (.lit 4), true), (.eql, gX10, (.lit 2), true), (.leq, gX10, (.lit 5), true), (.geq, gX10, (.lit 0), true), (.leq, gX11, (.lit 4), true)]
def gpc10 : List (BinOp × SX × SX × Bool) := [(.leq, gX4, (.lit 2), false), (.leq, gX8, gX4, true), (.leq, (.lit 2), gX8, true), (.eql, gX4, (.lit 5), false), (.eql, gX8, (.lit 5), false), (.leq, gX0, (.lit 2), false), (.leq, gX2, gX0, true), (.leq, (.lit 2), gX2, true), (.leq, gX1, (.lit 4), true), (.leq, gX3, gX1, true), (.leq, (.lit 0), gX3, true), (.eql, gX4, (.lit 2), false), (.leq, gX4, (.lit 5), true), (.geq, gX4, (.lit 0), true), (.leq, gX5, (.lit 4), true), (.eql, gX6, (.lit 2), true), (.leq, gX6, (.lit 5), true), (.geq, gX6, (.lit 0), true), (.leq, gX7, (.lit 4), true), (.eql, gX8, (.lit 2), false), (.leq, gX8, (.lit 5), true), (.geq, gX8, (.lit 0), true), (.leq, gX9, (.lit 4), true), (.eql, gX10, (.lit 2), true), (.leq, gX10, (.lit 5), true), (.geq, gX10, (.lit 0), true), (.leq, gX11, (.lit 4), true)]
def gpc11 : List (BinOp × SX × SX × Bool) := [(.leq, gX8, gX4, false), (.leq, (.lit 2), gX8, true), (.eql, gX4, (.lit 5), false), (.eql, gX8, (.lit 5), false), (.leq, gX2, gX0, false), (.leq, (.lit 2), gX2, true), (.leq, gX1, (.lit 4), true), (.leq, gX3, gX1, true), (.leq, (.lit 0), gX3, true), (.eql, gX4, (.lit 2), false), (.leq, gX4, (.lit 5), true), (.geq, gX4, (.lit 0), true), (.leq, gX5, (.lit 4), true), (.eql, gX6, (.lit 2), true), (.leq, gX6, (.lit 5), true), (.geq, gX6, (.lit 0), true), (.leq, gX7, (.lit 4), true), (.eql, gX8, (.lit 2), false), (.leq, gX8, (.lit 5), true), (.geq, gX8, (.lit 0), true), (.leq, gX9, (.lit 4), true), (.eql, gX10, (.lit 2), true), (.leq, gX10, (.lit 5), true), (.geq, gX10, (.lit 0), true), (.leq, gX11, (.lit 4), true)]
def gpc12 : List (BinOp × SX × SX × Bool) := [(.leq, (.lit 2), gX8, false), (.eql, gX4, (.lit 5), false), (.eql, gX8, (.lit 5), false), (.leq, (.lit 2), gX2, false), (.leq, gX1, (.lit 4), true), (.leq, gX3, gX1, true), (.leq, (.lit 0), gX3, true), (.eql, gX4, (.lit 2), false), (.leq, gX4, (.lit 5), true), (.geq, gX4, (.lit 0), true), (.leq, gX5, (.lit 4), true), (.eql, gX6, (.lit 2), true), (.leq, gX6, (.lit 5), true), (.geq, gX6, (.lit 0), true), (.leq, gX7, (.lit 4), true), (.eql, gX8, (.lit 2), false), (.leq, gX8, (.lit 5), true), (.geq, gX8, (.lit 0), true), (.leq, gX9, (.lit 4), true), (.eql, gX10, (.lit 2), true), (.leq, gX10, (.lit 5), true), (.geq, gX10, (.lit 0), true), (.leq, gX11, (.lit 4), true)]
def gpc13 : List (BinOp × SX × SX × Bool) := [(.leq, gX8, (.lit 2), false), (.leq, (.lit 2), gX6, true), (.leq, (.lit 2), gX8, true), (.eql, gX6, (.lit 5), false), (.eql, gX8, (.lit 5), false), (.leq, gX2, gX0, false), (.leq, (.lit 2), gX2, true), (.leq, gX1, (.lit 4), true), (.leq, gX3, gX1, true), (.leq, (.lit 0), gX3, true), (.eql, gX4, (.lit 2), true), (.leq, gX4, (.lit 5), true), (.geq, gX4, (.lit 0), true), (.leq, gX5, (.lit 4), true), (.eql, gX6, (.lit 2), false), (.leq, gX6, (.lit 5), true), (.geq, gX6, (.lit 0), true), (.leq, gX7, (.lit 4), true), (.eql, gX8, (.lit 2), false), (.leq, gX8, (.lit 5), true), (.geq, gX8, (.lit 0), true), (.leq, gX9, (.lit 4), true), (.eql, gX10, (.lit 2), true), (.leq, gX10, (.lit 5), true), (.geq, gX10, (.lit 0), true), (.leq, gX11, (.lit 4), true)]
def gpc14 : List (BinOp × SX × SX × Bool) := [(.leq, (.lit 2), gX8, false), (.eql, gX6, (.lit 5), false), (.eql, gX8, (.lit 5), false), (.leq, (.lit 2), gX2, false), (.leq, gX1, (.lit 4), true), (.leq, gX3, gX1, true), (.leq, (.lit 0), gX3, true), (.eql, gX4, (.lit 2), true), (.leq, gX4, (.lit 5), true), (.geq, gX4, (.lit 0), true), (.leq, gX5, (.lit 4), true), (.eql, gX6, (.lit 2), false), (.leq, gX6, (.lit 5), true), (.geq, gX6, (.lit 0), true), (.leq, gX7, (.lit 4), true), (.eql, gX8, (.lit 2), false), (.leq, gX8, (.lit 5), true), (.geq, gX8, (.lit 0), true), (.leq, gX9, (.lit 4), true), (.eql, gX10, (.lit 2), true), (.leq, gX10, (.lit 5), true), (.geq, gX10, (.lit 0), true), (.leq, gX11, (.lit 4), true)]
def gpc15 : List (BinOp × SX × SX × Bool) := [(.leq, (.lit 2), gX6, false), (.leq, (.lit 2), gX8, true), (.eql, gX6, (.lit 5), false), (.eql, gX8, (.lit 5), false), (.leq, gX3, gX1, false), (.leq, (.lit 0), gX3, true), (.eql, gX4, (.lit 2), true), (.leq, gX4, (.lit 5), true), (.geq, gX4, (.lit 0), true), (.leq, gX5, (.lit 4), true), (.eql, gX6, (.lit 2), false), (.leq, gX6, (.lit 5), true), (.geq, gX6, (.lit 0), true), (.leq, gX7, (.lit 4), true), (.eql, gX8, (.lit 2), false), (.leq, gX8, (.lit 5), true), (.geq, gX8, (.lit 0), true), (.leq, gX9, (.lit 4), true), (.eql, gX10, (.lit 2), true), (.leq, gX10, (.lit 5), true), (.geq, gX10, (.lit 0), true), (.leq, gX11, (.lit 4), true)]
def gpc16 : List (BinOp × SX × SX × Bool) := [(.leq, (.lit 2), gX8, false), (.eql, gX6, (.lit 5), false), (.eql, gX8, (.lit 5), false), (.leq, gX3, gX1, false), (.leq, (.lit 0), gX3, true), (.eql, gX4, (.lit 2), true), (.leq, gX4, (.lit 5), true), (.geq, gX4, (.lit 0), true), (.leq, gX5, (.lit 4), true), (.eql, gX6, (.lit 2), false), (.leq, gX6, (.lit 5), true), (.geq, gX6, (.lit 0), true), (.leq, gX7, (.lit 4), true), (.eql, gX8, (.lit 2), false), (.leq, gX8, (.lit 5), true), (.geq, gX8, (.lit 0), true), (.leq, gX9, (.lit 4), true), (.eql, gX10, (.lit 2), true), (.leq, gX10, (.lit 5), true), (.geq, gX10, (.lit 0), true), (.leq, gX11, (.lit 4), true)]
def gpc17 : List (BinOp × SX × SX × Bool) := [(.leq, gX4, (.lit 2), false), (.leq, gX6, (.lit 4), true), (.leq, gX8, gX4, true), (.leq, (.lit 2), gX6, true), (.leq, (.lit 2), gX8, true), (.eql, gX4, (.lit 5), false), (.eql, gX6, (.lit 5), false), (.eql, gX8, (.lit 5), false), (.leq, gX0, (.lit 2), false), (.leq, gX2, gX0, true), (.leq, (.lit 2), gX2, true), (.leq, gX1, (.lit 4), true), (.leq, gX3, gX1, true), (.leq, (.lit 0), gX3, true), (.eql, gX4, (.lit 2), false), (.leq, gX4, (.lit 5), true), (.geq, gX4, (.lit 0), true), (.leq, gX5, (.lit 4), true), (.eql, gX6, (.lit 2), false), (.leq, gX6, (.lit 5), true), (.geq, gX6, (.lit 0), true), (.leq, gX7, (.lit 4), true), (.eql, gX8, (.lit 2), false), (.leq, gX8, (.lit 5), true), (.geq, gX8, (.lit 0), true), (.leq, gX9, (.lit 4), true), (.eql, gX10, (.lit 2), true), (.leq, gX10, (.lit 5), true), (.geq, gX10, (.lit 0), true), (.leq, gX11, (.lit 4), true)]
def gpc18 : List (BinOp × SX × SX × Bool) := [(.leq, gX8, gX4, false), (.leq, (.lit 2), gX6, true), (.leq, (.lit 2), gX8, true), (.eql, gX4, (.lit 5), false), (.eql, gX6, (.lit 5), false), (.eql, gX8, (.lit 5), false), (.leq, gX2, gX0, false), (.leq, (.lit 2), gX2, true), (.leq, gX1, (.lit 4), true), (.leq, gX3, gX1, true), (.leq, (.lit 0), gX3, true), (.eql, gX4, (.lit 2), false), (.leq, gX4, (.lit 5), true), (.geq, gX4, (.lit 0), true), (.leq, gX5, (.lit 4), true), (.eql, gX6, (.lit 2), false), (.leq, gX6, (.lit 5), true), (.geq, gX6, (.lit 0), true), (.leq, gX7, (.lit 4), true), (.eql, gX8, (.lit 2), false), (.leq, gX8, (.lit 5), true), (.geq, gX8, (.lit 0), true), (.leq, gX9, (.lit 4), true), (.eql, gX10, (.lit 2), true), (.leq, gX10, (.lit 5), true), (.geq, gX10, (.lit 0), true), (.leq, gX11, (.lit 4), true)]
def gpc19 : List (BinOp × SX × SX × Bool) := [(.leq, (.lit 2), gX8, false), (.eql, gX4, (.lit 5), false), (.eql, gX6, (.lit 5), false), (.eql, gX8, (.lit 5), false), (.leq, (.lit 2), gX2, false), (.leq, gX1, (.lit 4), true), (.leq, gX3, gX1, true), (.leq, (.lit 0), gX3, true), (.eql, gX4, (.lit 2), false), (.leq, gX4, (.lit 5), true), (.geq, gX4, (.lit 0), true), (.leq, gX5, (.lit 4), true), (.eql, gX6, (.lit 2), false), (.leq, gX6, (.lit 5), true), (.geq, gX6, (.lit 0), true), (.leq, gX7, (.lit 4), true), (.eql, gX8, (.lit 2), false), (.leq, gX8, (.lit 5), true), (.geq, gX8, (.lit 0), true), (.leq, gX9, (.lit 4), true), (.eql, gX10, (.lit 2), true), (.leq, gX10, (.lit 5), true), (.geq, gX10, (.lit 0), true), (.leq, gX11, (.lit 4), true)]
def gpc20 : List (BinOp × SX × SX × Bool) := [(.leq, (.lit 2), gX6, false), (.leq, (.lit 2), gX8, true), (.eql, gX4, (.lit 5), false), (.eql, gX6, (.lit 5), false), (.eql, gX8, (.lit 5), false), (.leq, gX3, gX1, false), (.leq, (.lit 0), gX3, true), (.eql, gX4, (.lit 2), false), (.leq, gX4, (.lit 5), true), (.geq, gX4, (.lit 0), true), (.leq, gX5, (.lit 4), true), (.eql, gX6, (.lit 2), false), (.leq, gX6, (.lit 5), true), (.geq, gX6, (.lit 0), true), (.leq, gX7, (.lit 4), true), (.eql, gX8, (.lit 2), false), (.leq, gX8, (.lit 5), true), (.geq, gX8, (.lit 0), true), (.leq, gX9, (.lit 4), true), (.eql, gX10, (.lit 2), true), (.leq, gX10, (.lit 5), true), (.geq, gX10, (.lit 0), true), (.leq, gX11, (.lit 4), true)]
def gpc21 : List (BinOp × SX × SX × Bool) := [(.leq, (.lit 2), gX8, false), (.eql, gX4, (.lit 5), false), (.eql, gX6, (.lit 5), false), (.eql, gX8, (.lit 5), false), (.leq, gX3, gX1, false), (.leq, (.lit 0), gX3, true), (.eql, gX4, (.lit 2), false), (.leq, gX4, (.lit 5), true), (.geq, gX4, (.lit 0), true), (.leq, gX5, (.lit 4), true), (.eql, gX6, (.lit 2), false), (.leq, gX6, (.lit 5), true), (.geq, gX6, (.lit 0), true), (.leq, gX7, (.lit 4), true), (.eql, gX8, (.lit 2), false), (.leq, gX8, (.lit 5), true), (.geq, gX8, (.lit 0), true), (.leq, gX9, (.lit 4), true), (.eql, gX10, (.lit 2), true), (.leq, gX10, (.lit 5), true), (.geq, gX10, (.lit 0), true), (.leq, gX11, (.lit 4), true)]
def gpc22 : List (BinOp × SX × SX × Bool) := [(.neq, gX0, (.lit 2), false), (.neq, gX1, (.lit 2), false), (.eql, gX10, gX3, true), (.neq, gX2, (.lit 2), false), (.neq, gX3, (.lit 2), true), (.leq, gX10, (.lit 2), true), (.leq, (.lit 0), gX10, true), (.eql, gX10, (.lit 5), false), (.leq, gX0, (.lit 2), true), (.leq, gX2, gX0, true), (.leq, (.lit 2), gX2, true), (.leq, gX1, (.lit 4), true), (.leq, gX3, gX1, true), (.leq, (.lit 0), gX3, true), (.eql, gX4, (.lit 2), true), (.leq, gX4, (.lit 5), true), (.geq, gX4, (.lit 0), true), (.leq, gX5, (.lit 4), true), (.eql, gX6, (.lit 2), true), (.leq, gX6, (.lit 5), true), (.geq, gX6, (.lit 0), true), (.leq, gX7, (.lit 4), true), (.eql, gX8, (.lit 2), true), (.leq, gX8, (.lit 5), true), (.geq, gX8, (.lit 0), true), (.leq, gX9, (.lit 4), true), (.eql, gX10, (.lit 2), false), (.leq, gX10, (.lit 5), true), (.geq, gX10, (.lit 0), true), (.leq, gX11, (.lit 4), true)]
def gpc23 : List (BinOp × SX × SX × Bool) := [(.leq, gX10, (.lit 2), false), (.leq, (.lit 0), gX10, true), (.eql, gX10, (.lit 5), false), (.leq, gX3, gX1, false), (.leq, (.lit 0), gX3, true), (.eql, gX4, (.lit 2), true), (.leq, gX4, (.lit 5), true), (.geq, gX4, (.lit 0), true), (.leq, gX5, (.lit 4), true), (.eql, gX6, (.lit 2), true), (.leq, gX6, (.lit 5), true), (.geq, gX6, (.lit 0), true), (.leq, gX7, (.lit 4), true), (.eql, gX8, (.lit 2), true), (.leq, gX8, (.lit 5), true), (.geq, gX8, (.lit 0), true), (.leq, gX9, (.lit 4), true), (.eql, gX10, (.lit 2), false), (.leq, gX10, (.lit 5), true), (.geq, gX10, (.lit 0), true), (.leq, gX11, (.lit 4), true)]
def gpc24 : List (BinOp × SX × SX × Bool) := [(.leq, gX4, (.lit 2), false), (.leq, (.lit 2), gX4, true), (.leq, gX10, (.lit 2), true), (.leq, (.lit 0), gX10, true), (.eql, gX4, (.lit 5), false), (.eql, gX10, (.lit 5), false), (.leq, gX0, (.lit 2), false), (.leq, gX2, gX0, true), (.leq, (.lit 2), gX2, true), (.leq, gX1, (.lit 4), true), (.leq, gX3, gX1, true), (.leq, (.lit 0), gX3, true), (.eql, gX4, (.lit 2), false), (.leq, gX4, (.lit 5), true), (.geq, gX4, (.lit 0), true), (.leq, gX5, (.lit 4), true), (.eql, gX6, (.lit 2), true), (.leq, gX6, (.lit 5), true), (.geq, gX6, (.lit 0), true), (.leq, gX7, (.lit 4), true), (.eql, gX8, (.lit 2), true), (.leq, gX8, (.lit 5), true), (.geq, gX8, (.lit 0), true), (.leq, gX9, (.lit 4), true), (.eql, gX10, (.lit 2), false), (.leq, gX10, (.lit 5), true), (.geq, gX10, (.lit 0), true), (.leq, gX11, (.lit 4), true)]
def gpc25 : List (BinOp × SX × SX × Bool) := [(.leq, (.lit 2), gX4, false), (.leq, gX10, (.lit 2), true), (.leq, (.lit 0), gX10, true), (.eql, gX4, (.lit 5), false), (.eql, gX10, (.lit 5), false), (.leq, gX2, gX0, false), (.leq, (.lit 2), gX2, true), (.leq, gX1, (.lit 4), true), (.leq, gX3, gX1, true), (.leq, (.lit 0), gX3, true), (.eql, gX4, (.lit 2), false), (.leq, gX4, (.lit 5), true), (.geq, gX4, (.lit 0), true), (.leq, gX5, (.lit 4), true), (.eql, gX6, (.lit 2), true), (.leq, gX6, (.lit 5), true), (.geq, gX6, (.lit 0), true), (.leq, gX7, (.lit 4), true), (.eql, gX8, (.lit 2), true), (.leq, gX8, (.lit 5), true), (.geq, gX8, (.lit 0), true), (.leq, gX9, (.lit 4), true), (.eql, gX10, (.lit 2), false), (.leq, gX10, (.lit 5), true), (.geq, gX10, (.lit 0), true), (.leq, gX11, (.lit 4), true)]
def gpc26 : List (BinOp × SX × SX × Bool) := [(.leq, gX10, (.lit 2), false), (.leq, (.lit 0), gX10, true), (.eql, gX4, (.lit 5), false), (.eql, gX10, (.lit 5), false), (.leq, gX3, gX1, false), (.leq, (.lit 0), gX3, true), (.eql, gX4, (.lit 2), false), (.leq, gX4, (.lit 5), true), (.geq, gX4, (.lit 0), true), (.leq, gX5, (.lit 4), true), (.eql, gX6, (.lit 2), true), (.leq, gX6, (.lit 5), true), (.geq, gX6, (.lit 0), true), (.leq, gX7, (.lit 4), true), (.eql, gX8, (.lit 2), true), (.leq, gX8, (.lit 5), true), (.geq, gX8, (.lit 0), true), (.leq, gX9, (.lit 4), true), (.eql, gX10, (.lit 2), false), (.leq, gX10, (.lit 5), true), (.geq, gX10, (.lit 0), true), (.leq, gX11, (.lit 4), true)]
def gpc27 : List (BinOp × SX × SX × Bool) := [(.eql, gX6, gX1, true), (.neq, gX0, (.lit 2), false), (.neq, gX1, (.lit 2), true), (.eql, gX10, gX3, true), (.neq, gX2, (.lit 2), false), (.neq, gX3, (.lit 2), true), (.leq, gX6, (.lit 4), true), (.leq, gX10, gX6, true), (.leq, (.lit 0), gX10, true), (.eql, gX6, (.lit 5), false), (.eql, gX10, (.lit 5), false), (.leq, gX0, (.lit 2), true), (.leq, gX2, gX0, true), (.leq, (.lit 2), gX2, true), (.leq, gX1, (.lit 4), true), (.leq, gX3, gX1, true), (.leq, (.lit 0), gX3, true), (.eql, gX4, (.lit 2), true), (.leq, gX4, (.lit 5), true), (.geq, gX4, (.lit 0), true), (.leq, gX5, (.lit 4), true), (.eql, gX6, (.lit 2), false), (.leq, gX6, (.lit 5), true), (.geq, gX6, (.lit 0), true), (.leq, gX7, (.lit 4), true), (.eql, gX8, (.lit 2), true), (.leq, gX8, (.lit 5), true), (.geq, gX8, (.lit 0), true), (.leq, gX9, (.lit 4), true), (.eql, gX10, (.lit 2), false), (.leq, gX10, (.lit 5), true), (.geq, gX10, (.lit 0), true), (.leq, gX11, (.lit 4), true)]
def gpc28 : List (BinOp × SX × SX × Bool) := [(.leq, gX10, gX6, false), (.leq, (.lit 0), gX10, true), (.eql, gX6, (.lit 5), false), (.eql, gX10, (.lit 5), false), (.leq, gX3, gX1, false), (.leq, (.lit 0), gX3, true), (.eql, gX4, (.lit 2), true), (.leq, gX4, (.lit 5), true), (.geq, gX4, (.lit 0), true), (.leq, gX5, (.lit 4), true), (.eql, gX6, (.lit 2), false), (.leq, gX6, (.lit 5), true), (.geq, gX6, (.lit 0), true), (.leq, gX7, (.lit 4), true), (.eql, gX8, (.lit 2), true), (.leq, gX8, (.lit 5), true), (.geq, gX8, (.lit 0), true), (.leq, gX9, (.lit 4), true), (.eql, gX10, (.lit 2), false), (.leq, gX10, (.lit 5), true), (.geq, gX10, (.lit 0), true), (.leq, gX11, (.lit 4), true)]
def gpc29 : List (BinOp × SX × SX × Bool) := [(.leq, gX4, (.lit 2), false), (.leq, gX6, (.lit 4), true), (.leq, (.lit 2), gX4, true), (.leq, gX10, gX6, true), (.leq, (.lit 0), gX10, true), (.eql, gX4, (.lit 5), false), (.eql, gX6, (.lit 5), false), (.eql, gX10, (.lit 5), false), (.leq, gX0, (.lit 2), false), (.leq, gX2, gX0, true), (.leq, (.lit 2), gX2, true), (.leq, gX1, (.lit 4), true), (.leq, gX3, gX1, true), (.leq, (.lit 0), gX3, true), (.eql, gX4, (.lit 2), false), (.leq, gX4, (.lit 5), true), (.geq, gX4, (.lit 0), true), (.leq, gX5, (.lit 4), true), (.eql, gX6, (.lit 2), false), (.leq, gX6, (.lit 5), true), (.geq, gX6, (.lit 0), true), (.leq, gX7, (.lit 4), true), (.eql, gX8, (.lit 2), true), (.leq, gX8, (.lit 5), true), (.geq, gX8, (.lit 0), true), (.leq, gX9, (.lit 4), true), (.eql, gX10, (.lit 2), false), (.leq, gX10, (.lit 5), true), (.geq, gX10, (.lit 0), true), (.leq, gX11, (.lit 4), true)]
def gpc30 : List (BinOp × SX × SX × Bool) := [(.leq, (.lit 2), gX4, false), (.leq, gX10, gX6, true), (.leq, (.lit 0), gX10, true), (.eql, gX4, (.lit 5), false), (.eql, gX6, (.lit 5), false), (.eql, gX10, (.lit 5), false), (.leq, gX2, gX0, false), (.leq, (.lit 2), gX2, true), (.leq, gX1, (.lit 4), true), (.leq, gX3, gX1, true), (.leq, (.lit 0), gX3, true), (.eql, gX4, (.lit 2), false), (.leq, gX4, (.lit 5), true), (.geq, gX4, (.lit 0), true), (.leq, gX5, (.lit 4), true), (.eql, gX6, (.lit 2), false), (.leq, gX6, (.lit 5), true), (.geq, gX6, (.lit 0), true), (.leq, gX7, (.lit 4), true), (.eql, gX8, (.lit 2), true), (.leq, gX8, (.lit 5), true), (.geq, gX8, (.lit 0), true), (.leq, gX9, (.lit 4), true), (.eql, gX10, (.lit 2), false), (.leq, gX10, (.lit 5), true), (.geq, gX10, (.lit 0), true), (.leq, gX11, (.lit 4), true)]
def gpc31 : List (BinOp × SX × SX × Bool) := [(.leq, gX10, gX6, false), (.leq, (.lit 0), gX10, true), (.eql, gX4, (.lit 5), false), (.eql, gX6, (.lit 5), false), (.eql, gX10, (.lit 5), false), (.leq, gX3, gX1, false), (.leq, (.lit 0), gX3, true), (.eql, gX4, (.lit 2), false), (.leq, gX4, (.lit 5), true), (.geq, gX4, (.lit 0), true), (.leq, gX5, (.lit 4), true), (.eql, gX6, (.lit 2), false), (.leq, gX6, (.lit 5), true), (.geq, gX6, (.lit 0), true), (.leq, gX7, (.lit 4), true), (.eql, gX8, (.lit 2), true), (.leq, gX8, (.lit 5), true), (.geq, gX8, (.lit 0), true), (.leq, gX9, (.lit 4), true), (.eql, gX10, (.lit 2), false), (.leq, gX10, (.lit 5), true), (.geq, gX10, (.lit 0), true), (.leq, gX11, (.lit 4), true)]
def gpc32 : List (BinOp × SX × SX × Bool) := [(.leq, gX8, (.lit 2), false), (.leq, gX10, (.lit 2), true), (.leq, (.lit 2), gX8, true), (.leq, (.lit 0), gX10, true), (.eql, gX8, (.lit 5), false), (.eql, gX10, (.lit 5), false), (.leq, gX2, gX0, false), (.leq, (.lit 2), gX2, true), (.leq, gX1, (.lit 4), true), (.leq, gX3, gX1, true), (.leq, (.lit 0), gX3, true), (.eql, gX4, (.lit 2), true), (.leq, gX4, (.lit 5), true), (.geq, gX4, (.lit 0), true), (.leq, gX5, (.lit 4), true), (.eql, gX6, (.lit 2), true), (.leq, gX6, (.lit 5), true), (.geq, gX6, (.lit 0), true), (.leq, gX7, (.lit 4), true), (.eql, gX8, (.lit 2), false), (.leq, gX8, (.lit 5), true), (.geq, gX8, (.lit 0), true), (.leq, gX9, (.lit 4), true), (.eql, gX10, (.lit 2), false), (.leq, gX10, (.lit 5), true), (.geq, gX10, (.lit 0), true), (.leq, gX11, (.lit 4), true)]
def gpc33 : List (BinOp × SX × SX × Bool) := [(.leq, (.lit 2), gX8, false), (.leq, (.lit 0), gX10, true), (.eql, gX8, (.lit 5), false), (.eql, gX10, (.lit 5), false), (.leq, (.lit 2), gX2, false), (.leq, gX1, (.lit 4), true), (.leq, gX3, gX1, true), (.leq, (.lit 0), gX3, true), (.eql, gX4, (.lit 2), true), (.leq, gX4, (.lit 5), true), (.geq, gX4, (.lit 0), true), (.leq, gX5, (.lit 4), true), (.eql, gX6, (.lit 2), true), (.leq, gX6, (.lit 5), true), (.geq, gX6, (.lit 0), true), (.leq, gX7, (.lit 4), true), (.eql, gX8, (.lit 2), false), (.leq, gX8, (.lit 5), true), (.geq, gX8, (.lit 0), true), (.leq, gX9, (.lit 4), true), (.eql, gX10, (.lit 2), false), (.leq, gX10, (.lit 5), true), (.geq, gX10, (.lit 0), true), (.leq, gX11, (.lit 4), true)]
def gpc34 : List (BinOp × SX × SX × Bool) := [(.leq, gX10, (.lit 2), false), (.leq, (.lit 2), gX8, true), (.leq, (.lit 0), gX10, true), (.eql, gX8, (.lit 5), false), (.eql, gX10, (.lit 5), false), (.leq, gX3, gX1, false), (.leq, (.lit 0), gX3, true), (.eql, gX4, (.lit 2), true), (.leq, gX4, (.lit 5), true), (.geq, gX4, (.lit 0), true), (.leq, gX5, (.lit 4), true), (.eql, gX6, (.lit 2), true), (.leq, gX6, (.lit 5), true), (.geq, gX6, (.lit 0), true), (.leq, gX7, (.lit 4), true), (.eql, gX8, (.lit 2), false), (.leq, gX8, (.lit 5), true), (.geq, gX8, (.lit 0), true), (.leq, gX9, (.lit 4), true), (.eql, gX10, (.lit 2), false), (.leq, gX10, (.lit 5), true), (.geq, gX10, (.lit 0), true), (.leq, gX11, (.lit 4), true)]
def gpc35 : List (BinOp × SX × SX × Bool) := [(.leq, (.lit 2), gX8, false), (.leq, (.lit 0), gX10, true), (.eql, gX8, (.lit 5), false), (.eql, gX10, (.lit 5), false), (.leq, gX3, gX1, false), (.leq, (.lit 0), gX3, true), (.eql, gX4, (.lit 2), true), (.leq, gX4, (.lit 5), true), (.geq, gX4, (.lit 0), true), (.leq, gX5, (.lit 4), true), (.eql, gX6, (.lit 2), true), (.leq, gX6, (.lit 5), true), (.geq, gX6, (.lit 0), true), (.leq, gX7, (.lit 4), true), (.eql, gX8, (.lit 2), false), (.leq, gX8, (.lit 5), true), (.geq, gX8, (.lit 0), true), (.leq, gX9, (.lit 4), true), (.eql, gX10, (.lit 2), false), (.leq, gX10, (.lit 5), true), (.geq, gX10, (.lit 0), true), (.leq, gX11, (.lit 4), true)]
def gpc36 : List (BinOp × SX × SX × Bool) := [(.leq, gX4, (.lit 2), false), (.leq, gX8, gX4, true), (.leq, gX10, (.lit 2), true), (.leq, (.lit 2), gX8, true), (.leq, (.lit 0), gX10, true), (.eql, gX4, (.lit 5), false), (.eql, gX8, (.lit 5), false), (.eql, gX10, (.lit 5), false), (.leq, gX0, (.lit 2), false), (.leq, gX2, gX0, true), (.leq, (.lit 2), gX2, true), (.leq, gX1, (.lit 4), true), (.leq, gX3, gX1, true), (.leq, (.lit 0), gX3, true), (.eql, gX4, (.lit 2), false), (.leq, gX4, (.lit 5), true), (.geq, gX4, (.lit 0), true), (.leq, gX5, (.lit 4), true), (.eql, gX6, (.lit 2), true), (.leq, gX6, (.lit 5), true), (.geq, gX6, (.lit 0), true), (.leq, gX7, (.lit 4), true), (.eql, gX8, (.lit 2), false), (.leq, gX8, (.lit 5), true), (.geq, gX8, (.lit 0), true), (.leq, gX9, (.lit 4), true), (.eql, gX10, (.lit 2), false), (.leq, gX10, (.lit 5), true), (.geq, gX10, (.lit 0), true), (.leq, gX11, (.lit 4), true)]
def gpc37 : List (BinOp × SX × SX × Bool) := [(.leq, gX8, gX4, false), (.leq, gX10, (.lit 2), true), (.leq, (.lit 2), gX8, true), (.leq, (.lit 0), gX10, true), (.eql, gX4, (.lit 5), false), (.eql, gX8, (.lit 5), false), (.eql, gX10, (.lit 5), false), (.leq, gX2, gX0, false), (.leq, (.lit 2), gX2, true), (.leq, gX1, (.lit 4), true), (.leq, gX3, gX1, true), (.leq, (.lit 0), gX3, true), (.eql, gX4, (.lit 2), false), (.leq, gX4, (.lit 5), true), (.geq, gX4, (.lit 0), true), (.leq, gX5, (.lit 4), true), (.eql, gX6, (.lit 2), true), (.leq, gX6, (.lit 5), true), (.geq, gX6, (.lit 0), true), (.leq, gX7, (.lit 4), true), (.eql, gX8, (.lit 2), false), (.leq, gX8, (.lit 5), true), (.geq, gX8, (.lit 0), true), (.leq, gX9, (.lit 4), true), (.eql, gX10, (.lit 2), false), (.leq, gX10, (.lit 5), true), (.geq, gX10, (.lit 0), true), (.leq, gX11, (.lit 4), true)]
def gpc38 : List (BinOp × SX × SX × Bool) := [(.leq, (.lit 2), gX8, false), (.leq, (.lit 0), gX10, true), (.eql, gX4, (.lit 5), false), (.eql, gX8, (.lit 5), false), (.eql, gX10, (.lit 5), false), (.leq, (.lit 2), gX2, false), (.leq, gX1, (.lit 4), true), (.leq, gX3, gX1, true), (.leq, (.lit 0), gX3, true), (.eql, gX4, (.lit 2), false), (.leq, gX4, (.lit 5), true), (.geq, gX4, (.lit 0), true), (.leq, gX5, (.lit 4), true), (.eql, gX6, (.lit 2), true), (.leq, gX6, (.lit 5), true), (.geq, gX6, (.lit 0), true), (.leq, gX7, (.lit 4), true), (.eql, gX8, (.lit 2), false), (.leq, gX8, (.lit 5), true), (.geq, gX8, (.lit 0), true), (.leq, gX9, (.lit 4), true), (.eql, gX10, (.lit 2), false), (.leq, gX10, (.lit 5), true), (.geq, gX10, (.lit 0), true), (.leq, gX11, (.lit 4), true)]
def gpc39 : List (BinOp × SX × SX × Bool) := [(.leq, gX10, (.lit 2), false), (.leq, (.lit 2), gX8, true), (.leq, (.lit 0), gX10, true), (.eql, gX4, (.lit 5), false), (.eql, gX8, (.lit 5), false), (.eql, gX10, (.lit 5), false), (.leq, gX3, gX1, false), (.leq, (.lit 0), gX3, true), (.eql, gX4, (.lit 2), false), (.leq, gX4, (.lit 5), true), (.geq, gX4, (.lit 0), true), (.leq, gX5, (.lit 4), true), (.eql, gX6, (.lit 2), true), (.leq, gX6, (.lit 5), true), (.geq, gX6, (.lit 0), true), (.leq, gX7, (.lit 4), true), (.eql, gX8, (.lit 2), false), (.leq, gX8, (.lit 5), true), (.geq, gX8, (.lit 0), true), (.leq, gX9, (.lit 4), true), (.eql, gX10, (.lit 2), false), (.leq, gX10, (.lit 5), true), (.geq, gX10, (.lit 0), true), (.leq, gX11, (.lit 4), true)]
def gpc40 : List (BinOp × SX × SX × Bool) := [(.leq, (.lit 2), gX8, false), (.leq, (.lit 0), gX10, true), (.eql, gX4, (.lit 5), false), (.eql, gX8, (.lit 5), false), (.eql, gX10, (.lit 5), false), (.leq, gX3, gX1, false), (.leq, (.lit 0), gX3, true), (.eql, gX4, (.lit 2), false), (.leq, gX4, (.lit 5), true), (.geq, gX4, (.lit 0), true), (.leq, gX5, (.lit 4), true), (.eql, gX6, (.lit 2), true), (.leq, gX6, (.lit 5), true), (.geq, gX6, (.lit 0), true), (.leq, gX7, (.lit 4), true), (.eql, gX8, (.lit 2), false), (.leq, gX8, (.lit 5), true), (.geq, gX8, (.lit 0), true), (.leq, gX9, (.lit 4), true), (.eql, gX10, (.lit 2), false), (.leq, gX10, (.lit 5), true), (.geq, gX10, (.lit 0), true), (.leq, gX11, (.lit 4), true)]
def gpc41 : List (BinOp × SX × SX × Bool) := [(.leq, gX8, (.lit 2), false), (.leq, gX10, gX6, true), (.leq, (.lit 2), gX8, true), (.leq, (.lit 0), gX10, true), (.eql, gX6, (.lit 5), false), (.eql, gX8, (.lit 5), false), (.eql, gX10, (.lit 5), false), (.leq, gX2, gX0, false), (.leq, (.lit 2), gX2, true), (.leq, gX1, (.lit 4), true), (.leq, gX3, gX1, true), (.leq, (.lit 0), gX3, true), (.eql, gX4, (.lit 2), true), (.leq, gX4, (.lit 5), true), (.geq, gX4, (.lit 0), true), (.leq, gX5, (.lit 4), true), (.eql, gX6, (.lit 2), false), (.leq, gX6, (.lit 5), true), (.geq, gX6, (.lit 0), true), (.leq, gX7, (.lit 4), true), (.eql, gX8, (.lit 2), false), (.leq, gX8, (.lit 5), true), (.geq, gX8, (.lit 0), true), (.leq, gX9, (.lit 4), true), (.eql, gX10, (.lit 2), false), (.leq, gX10, (.lit 5), true), (.geq, gX10, (.lit 0), true), (.leq, gX11, (.lit 4), true)]
def gpc42 : List (BinOp × SX × SX × Bool) := [(.leq, (.lit 2), gX8, false), (.leq, (.lit 0), gX10, true), (.eql, gX6, (.lit 5), false), (.eql, gX8, (.lit 5), false), (.eql, gX10, (.lit 5), false), (.leq, (.lit 2), gX2, false), (.leq, gX1, (.lit 4), true), (.leq, gX3, gX1, true), (.leq, (.lit 0), gX3, true), (.eql, gX4, (.lit 2), true), (.leq, gX4, (.lit 5), true), (.geq, gX4, (.lit 0), true), (.leq, gX5, (.lit 4), true), (.eql, gX6, (.lit 2), false), (.leq, gX6, (.lit 5), true), (.geq, gX6, (.lit 0), true), (.leq, gX7, (.lit 4), true), (.eql, gX8, (.lit 2), false), (.leq, gX8, (.lit 5), true), (.geq, gX8, (.lit 0), true), (.leq, gX9, (.lit 4), true), (.eql, gX10, (.lit 2), false), (.leq, gX10, (.lit 5), true), (.geq, gX10, (.lit 0), true), (.leq, gX11, (.lit 4), true)]
def gpc43 : List (BinOp × SX × SX × Bool) := [(.leq, gX10, gX6, false), (.leq, (.lit 2), gX8, true), (.leq, (.lit 0), gX10, true), (.eql, gX6, (.lit 5), false), (.eql, gX8, (.lit 5), false), (.eql, gX10, (.lit 5), false), (.leq, gX3, gX1, false), (.leq, (.lit 0), gX3, true), (.eql, gX4, (.lit 2), true), (.leq, gX4, (.lit 5), true), (.geq, gX4, (.lit 0), true), (.leq, gX5, (.lit 4), true), (.eql, gX6, (.lit 2), false), (.leq, gX6, (.lit 5), true), (.geq, gX6, (.lit 0), true), (.leq, gX7, (.lit 4), true), (.eql, gX8, (.lit 2), false), (.leq, gX8, (.lit 5), true), (.geq, gX8, (.lit 0), true), (.leq, gX9, (.lit 4), true), (.eql, gX10, (.lit 2), false), (.leq, gX10, (.lit 5), true), (.geq, gX10, (.lit 0), true), (.leq, gX11, (.lit 4), true)]
def gpc44 : List (BinOp × SX × SX × Bool) := [(.leq, (.lit 2), gX8, false), (.leq, (.lit 0), gX10, true), (.eql, gX6, (.lit 5), false), (.eql, gX8, (.lit 5), false), (.eql, gX10, (.lit 5), false), (.leq, gX3, gX1, false), (.leq, (.lit 0), gX3, true), (.eql, gX4, (.lit 2), true), (.leq, gX4, (.lit 5), true), (.geq, gX4, (.lit 0), true), (.leq, gX5, (.lit 4), true), (.eql, gX6, (.lit 2), false), (.leq, gX6, (.lit 5), true), (.geq, gX6, (.lit 0), true), (.leq, gX7, (.lit 4), true), (.eql, gX8, (.lit 2), false), (.leq, gX8, (.lit 5), true), (.geq, gX8, (.lit 0), true), (.leq, gX9, (.lit 4), true), (.eql, gX10, (.lit 2), false), (.leq, gX10, (.lit 5), true), (.geq, gX10, (.lit 0), true), (.leq, gX11, (.lit 4), true)]
def gpc45 : List (BinOp × SX × SX × Bool) := [(.leq, gX4, (.lit 2), false), (.leq, gX6, (.lit 4), true), (.leq, gX8, gX4, true), (.leq, gX10, gX6, true), (.leq, (.lit 2), gX8, true), (.leq, (.lit 0), gX10, true), (.eql, gX4, (.lit 5), false), (.eql, gX6, (.lit 5), false), (.eql, gX8, (.lit 5), false), (.eql, gX10, (.lit 5), false), (.leq, gX0, (.lit 2), false), (.leq, gX2, gX0, true), (.leq, (.lit 2), gX2, true), (.leq, gX1, (.lit 4), true), (.leq, gX3, gX1, true), (.leq, (.lit 0), gX3, true), (.eql, gX4, (.lit 2), false), (.leq, gX4, (.lit 5), true), (.geq, gX4, (.lit 0), true), (.leq, gX5, (.lit 4), true), (.eql, gX6, (.lit 2), false), (.leq, gX6, (.lit 5), true), (.geq, gX6, (.lit 0), true), (.leq, gX7, (.lit 4), true), (.eql, gX8, (.lit 2), false), (.leq, gX8, (.lit 5), true), (.geq, gX8, (.lit 0), true), (.leq, gX9, (.lit 4), true), (.eql, gX10, (.lit 2), false), (.leq, gX10, (.lit 5), true), (.geq, gX10, (.lit 0), true), (.leq, gX11, (.lit 4), true)]
def gpc46 : List (BinOp × SX × SX × Bool) := [(.leq, gX8, gX4, false), (.leq, gX10, gX6, true), (.leq, (.lit 2), gX8, true), (.leq, (.lit 0), gX10, true), (.eql, gX4, (.lit 5), false), (.eql, gX6, (.lit 5), false), (.eql, gX8, (.lit 5), false), (.eql, gX10, (.lit 5), false), (.leq, gX2, gX0, false), (.leq, (.lit 2), gX2, true), (.leq, gX1, (.lit 4), true), (.leq, gX3, gX1, true), (.leq, (.lit 0), gX3, true), (.eql, gX4, (.lit 2), false), (.leq, gX4, (.lit 5), true), (.geq, gX4, (.lit 0), true), (.leq, gX5, (.lit 4), true), (.eql, gX6, (.lit 2), false), (.leq, gX6, (.lit 5), true), (.geq, gX6, (.lit 0), true), (.leq, gX7, (.lit 4), true), (.eql, gX8, (.lit 2), false), (.leq, gX8, (.lit 5), true), (.geq, gX8, (.lit 0), true), (.leq, gX9, (.lit 4), true), (.eql, gX10, (.lit 2), false), (.leq, gX10, (.lit 5), true), (.geq, gX10, (.lit 0), true), (.leq, gX11, (.lit 4), true)]
def gpc47 : List (BinOp × SX × SX × Bool) := [(.leq, (.lit 2), gX8, false), (.leq, (.lit 0), gX10, true), (.eql, gX4, (.lit 5), false), (.eql, gX6, (.lit 5), false), (.eql, gX8, (.lit 5), false), (.eql, gX10, (.lit 5), false), (.leq, (.lit 2), gX2, false), (.leq, gX1, (.lit 4), true), (.leq, gX3, gX1, true), (.leq, (.lit 0), gX3, true), (.eql, gX4, (.lit 2), false), (.leq, gX4, (.lit 5), true), (.geq, gX4, (.lit 0), true), (.leq, gX5, (.lit 4), true), (.eql, gX6, (.lit 2), false), (.leq, gX6, (.lit 5), true), (.geq, gX6, (.lit 0), true), (.leq, gX7, (.lit 4), true), (.eql, gX8, (.lit 2), false), (.leq, gX8, (.lit 5), true), (.geq, gX8, (.lit 0), true), (.leq, gX9, (.lit 4), true), (.eql, gX10, (.lit 2), false), (.leq, gX10, (.lit 5), true), (.geq, gX10, (.lit 0), true), (.leq, gX11, (.lit 4), true)]
def gpc48 : List (BinOp × SX × SX × Bool) := [(.leq, gX10, gX6, false), (.leq, (.lit 2), gX8, true), (.leq, (.lit 0), gX10, true), (.eql, gX4, (.lit 5), false), (.eql, gX6, (.lit 5), false), (.eql, gX8, (.lit 5), false), (.eql, gX10, (.lit 5), false), (.leq, gX3, gX1, false), (.leq, (.lit 0), gX3, true), (.eql, gX4, (.lit 2), false), (.leq, gX4, (.lit 5), true), (.geq, gX4, (.lit 0), true), (.leq, gX5, (.lit 4), true), (.eql, gX6, (.lit 2), false), (.leq, gX6, (.lit 5), true), (.geq, gX6, (.lit 0), true), (.leq, gX7, (.lit 4), true), (.eql, gX8, (.lit 2), false), (.leq, gX8, (.lit 5), true), (.geq, gX8, (.lit 0), true), (.leq, gX9, (.lit 4), true), (.eql, gX10, (.lit 2), false), (.leq, gX10, (.lit 5), true), (.geq, gX10, (.lit 0), true), (.leq, gX11, (.lit 4), true)]
def gpc49 : List (BinOp × SX × SX × Bool) := [(.leq, (.lit 2), gX8, false), (.leq, (.lit 0), gX10, true), (.eql, gX4, (.lit 5), false), (.eql, gX6, (.lit 5), false), (.eql, gX8, (.lit 5), false), (.eql, gX10, (.lit 5), false), (.leq, gX3, gX1, false), (.leq, (.lit 0), gX3, true), (.eql, gX4, (.lit 2), false), (.leq, gX4, (.lit 5), true), (.geq, gX4, (.lit 0), true), (.leq, gX5, (.lit 4), true), (.eql, gX6, (.lit 2), false), (.leq, gX6, (.lit 5), true), (.geq, gX6, (.lit 0), true), (.leq, gX7, (.lit 4), true), (.eql, gX8, (.lit 2), false), (.leq, gX8, (.lit 5), true), (.geq, gX8, (.lit 0), true), (.leq, gX9, (.lit 4), true), (.eql, gX10, (.lit 2), false), (.leq, gX10, (.lit 5), true), (.geq, gX10, (.lit 0), true), (.leq, gX11, (.lit 4), true)]
end
end Go.Sim
