/- A part of the proof: closed facts by the kernel, or the row. -/
import Derived.Test.YtlcaljpiphnpiaaGreatGPat
/- TopGated: the ways, by the kernel. -/
namespace Go.Sim
noncomputable section
theorem g_leaf27 (V : Vals) (ok) : chkR 6 (@codeD ⟨V, gpc27, ok⟩ progA cfgG (@ev ⟨V, gpc27, ok⟩ progA cfgG 1000) bodyG ⟨stG, psG, []⟩ (patH [])) = true := by kernel_rfl
theorem g_leaf28 (V : Vals) (ok) : chkR 6 (@codeD ⟨V, gpc28, ok⟩ progA cfgG (@ev ⟨V, gpc28, ok⟩ progA cfgG 1000) bodyG ⟨stG, psG, []⟩ (patH [])) = true := by kernel_rfl
theorem g_leaf29 (V : Vals) (ok) : chkR 6 (@codeD ⟨V, gpc29, ok⟩ progA cfgG (@ev ⟨V, gpc29, ok⟩ progA cfgG 1000) bodyG ⟨stG, psG, []⟩ (patH [])) = true := by kernel_rfl
theorem g_leaf30 (V : Vals) (ok) : chkR 6 (@codeD ⟨V, gpc30, ok⟩ progA cfgG (@ev ⟨V, gpc30, ok⟩ progA cfgG 1000) bodyG ⟨stG, psG, []⟩ (patH [])) = true := by kernel_rfl
theorem g_leaf31 (V : Vals) (ok) : chkR 6 (@codeD ⟨V, gpc31, ok⟩ progA cfgG (@ev ⟨V, gpc31, ok⟩ progA cfgG 1000) bodyG ⟨stG, psG, []⟩ (patH [])) = true := by kernel_rfl
theorem g_leaf32 (V : Vals) (ok) : chkR 6 (@codeD ⟨V, gpc32, ok⟩ progA cfgG (@ev ⟨V, gpc32, ok⟩ progA cfgG 1000) bodyG ⟨stG, psG, []⟩ (patH [])) = true := by kernel_rfl
theorem g_leaf33 (V : Vals) (ok) : chkR 6 (@codeD ⟨V, gpc33, ok⟩ progA cfgG (@ev ⟨V, gpc33, ok⟩ progA cfgG 1000) bodyG ⟨stG, psG, []⟩ (patH [])) = true := by kernel_rfl
theorem g_leaf34 (V : Vals) (ok) : chkR 6 (@codeD ⟨V, gpc34, ok⟩ progA cfgG (@ev ⟨V, gpc34, ok⟩ progA cfgG 1000) bodyG ⟨stG, psG, []⟩ (patH [])) = true := by kernel_rfl
theorem g_leaf35 (V : Vals) (ok) : chkR 6 (@codeD ⟨V, gpc35, ok⟩ progA cfgG (@ev ⟨V, gpc35, ok⟩ progA cfgG 1000) bodyG ⟨stG, psG, []⟩ (patH [])) = true := by kernel_rfl
end
end Go.Sim
