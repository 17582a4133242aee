/- A part of the proof: closed facts by the kernel, or the row. -/
import Derived.Test.YtlcaljpiphnpiaaGreatGPat
/- TopGated: the ways, by the kernel. -/
namespace Go.Sim
noncomputable section
theorem g_leaf36 (V : Vals) (ok) : chkR 6 (@codeD ⟨V, gpc36, ok⟩ progA cfgG (@ev ⟨V, gpc36, ok⟩ progA cfgG 1000) bodyG ⟨stG, psG, []⟩ (patH [])) = true := by kernel_rfl
theorem g_leaf37 (V : Vals) (ok) : chkR 6 (@codeD ⟨V, gpc37, ok⟩ progA cfgG (@ev ⟨V, gpc37, ok⟩ progA cfgG 1000) bodyG ⟨stG, psG, []⟩ (patH [])) = true := by kernel_rfl
theorem g_leaf38 (V : Vals) (ok) : chkR 6 (@codeD ⟨V, gpc38, ok⟩ progA cfgG (@ev ⟨V, gpc38, ok⟩ progA cfgG 1000) bodyG ⟨stG, psG, []⟩ (patH [])) = true := by kernel_rfl
theorem g_leaf39 (V : Vals) (ok) : chkR 6 (@codeD ⟨V, gpc39, ok⟩ progA cfgG (@ev ⟨V, gpc39, ok⟩ progA cfgG 1000) bodyG ⟨stG, psG, []⟩ (patH [])) = true := by kernel_rfl
theorem g_leaf40 (V : Vals) (ok) : chkR 6 (@codeD ⟨V, gpc40, ok⟩ progA cfgG (@ev ⟨V, gpc40, ok⟩ progA cfgG 1000) bodyG ⟨stG, psG, []⟩ (patH [])) = true := by kernel_rfl
theorem g_leaf41 (V : Vals) (ok) : chkR 6 (@codeD ⟨V, gpc41, ok⟩ progA cfgG (@ev ⟨V, gpc41, ok⟩ progA cfgG 1000) bodyG ⟨stG, psG, []⟩ (patH [])) = true := by kernel_rfl
theorem g_leaf42 (V : Vals) (ok) : chkR 6 (@codeD ⟨V, gpc42, ok⟩ progA cfgG (@ev ⟨V, gpc42, ok⟩ progA cfgG 1000) bodyG ⟨stG, psG, []⟩ (patH [])) = true := by kernel_rfl
theorem g_leaf43 (V : Vals) (ok) : chkR 6 (@codeD ⟨V, gpc43, ok⟩ progA cfgG (@ev ⟨V, gpc43, ok⟩ progA cfgG 1000) bodyG ⟨stG, psG, []⟩ (patH [])) = true := by kernel_rfl
theorem g_leaf44 (V : Vals) (ok) : chkR 6 (@codeD ⟨V, gpc44, ok⟩ progA cfgG (@ev ⟨V, gpc44, ok⟩ progA cfgG 1000) bodyG ⟨stG, psG, []⟩ (patH [])) = true := by kernel_rfl
end
end Go.Sim
