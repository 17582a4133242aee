/- A part of the proof: closed facts by the kernel, or the row. -/
import Derived.Test.YtlcaljpiphnpiaaGreatGPat
/- TopGated: the ways, by the kernel. -/
namespace Go.Sim
noncomputable section
theorem g_leaf9 (V : Vals) (ok) : chkR 6 (@codeD ⟨V, gpc9, ok⟩ progA cfgG (@ev ⟨V, gpc9, ok⟩ progA cfgG 1000) bodyG ⟨stG, psG, []⟩ (patH [])) = true := by kernel_rfl
theorem g_leaf10 (V : Vals) (ok) : chkR 6 (@codeD ⟨V, gpc10, ok⟩ progA cfgG (@ev ⟨V, gpc10, ok⟩ progA cfgG 1000) bodyG ⟨stG, psG, []⟩ (patH [])) = true := by kernel_rfl
theorem g_leaf11 (V : Vals) (ok) : chkR 6 (@codeD ⟨V, gpc11, ok⟩ progA cfgG (@ev ⟨V, gpc11, ok⟩ progA cfgG 1000) bodyG ⟨stG, psG, []⟩ (patH [])) = true := by kernel_rfl
theorem g_leaf12 (V : Vals) (ok) : chkR 6 (@codeD ⟨V, gpc12, ok⟩ progA cfgG (@ev ⟨V, gpc12, ok⟩ progA cfgG 1000) bodyG ⟨stG, psG, []⟩ (patH [])) = true := by kernel_rfl
theorem g_leaf13 (V : Vals) (ok) : chkR 6 (@codeD ⟨V, gpc13, ok⟩ progA cfgG (@ev ⟨V, gpc13, ok⟩ progA cfgG 1000) bodyG ⟨stG, psG, []⟩ (patH [])) = true := by kernel_rfl
theorem g_leaf14 (V : Vals) (ok) : chkR 6 (@codeD ⟨V, gpc14, ok⟩ progA cfgG (@ev ⟨V, gpc14, ok⟩ progA cfgG 1000) bodyG ⟨stG, psG, []⟩ (patH [])) = true := by kernel_rfl
theorem g_leaf15 (V : Vals) (ok) : chkR 6 (@codeD ⟨V, gpc15, ok⟩ progA cfgG (@ev ⟨V, gpc15, ok⟩ progA cfgG 1000) bodyG ⟨stG, psG, []⟩ (patH [])) = true := by kernel_rfl
theorem g_leaf16 (V : Vals) (ok) : chkR 6 (@codeD ⟨V, gpc16, ok⟩ progA cfgG (@ev ⟨V, gpc16, ok⟩ progA cfgG 1000) bodyG ⟨stG, psG, []⟩ (patH [])) = true := by kernel_rfl
theorem g_leaf17 (V : Vals) (ok) : chkR 6 (@codeD ⟨V, gpc17, ok⟩ progA cfgG (@ev ⟨V, gpc17, ok⟩ progA cfgG 1000) bodyG ⟨stG, psG, []⟩ (patH [])) = true := by kernel_rfl
end
end Go.Sim
