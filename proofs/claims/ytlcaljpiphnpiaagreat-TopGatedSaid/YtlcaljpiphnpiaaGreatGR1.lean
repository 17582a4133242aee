/- A part of the proof: closed facts by the kernel, or the row. -/
import Derived.Test.YtlcaljpiphnpiaaGreatGPat
/- TopGated: the ways, by the kernel. -/
namespace Go.Sim
noncomputable section
theorem g_leaf0 (V : Vals) (ok) : chkR 6 (@codeD ⟨V, gpc0, ok⟩ progA cfgG (@ev ⟨V, gpc0, ok⟩ progA cfgG 1000) bodyG ⟨stG, psG, []⟩ (patH [])) = true := by kernel_rfl
theorem g_leaf1 (V : Vals) (ok) : chkR 6 (@codeD ⟨V, gpc1, ok⟩ progA cfgG (@ev ⟨V, gpc1, ok⟩ progA cfgG 1000) bodyG ⟨stG, psG, []⟩ (patH [])) = true := by kernel_rfl
theorem g_leaf2 (V : Vals) (ok) : chkR 6 (@codeD ⟨V, gpc2, ok⟩ progA cfgG (@ev ⟨V, gpc2, ok⟩ progA cfgG 1000) bodyG ⟨stG, psG, []⟩ (patH [])) = true := by kernel_rfl
theorem g_leaf3 (V : Vals) (ok) : chkR 6 (@codeD ⟨V, gpc3, ok⟩ progA cfgG (@ev ⟨V, gpc3, ok⟩ progA cfgG 1000) bodyG ⟨stG, psG, []⟩ (patH [])) = true := by kernel_rfl
theorem g_leaf4 (V : Vals) (ok) : chkR 6 (@codeD ⟨V, gpc4, ok⟩ progA cfgG (@ev ⟨V, gpc4, ok⟩ progA cfgG 1000) bodyG ⟨stG, psG, []⟩ (patH [])) = true := by kernel_rfl
theorem g_leaf5 (V : Vals) (ok) : chkR 6 (@codeD ⟨V, gpc5, ok⟩ progA cfgG (@ev ⟨V, gpc5, ok⟩ progA cfgG 1000) bodyG ⟨stG, psG, []⟩ (patH [])) = true := by kernel_rfl
theorem g_leaf6 (V : Vals) (ok) : chkR 6 (@codeD ⟨V, gpc6, ok⟩ progA cfgG (@ev ⟨V, gpc6, ok⟩ progA cfgG 1000) bodyG ⟨stG, psG, []⟩ (patH [])) = true := by kernel_rfl
theorem g_leaf7 (V : Vals) (ok) : chkR 6 (@codeD ⟨V, gpc7, ok⟩ progA cfgG (@ev ⟨V, gpc7, ok⟩ progA cfgG 1000) bodyG ⟨stG, psG, []⟩ (patH [])) = true := by kernel_rfl
theorem g_leaf8 (V : Vals) (ok) : chkR 6 (@codeD ⟨V, gpc8, ok⟩ progA cfgG (@ev ⟨V, gpc8, ok⟩ progA cfgG 1000) bodyG ⟨stG, psG, []⟩ (patH [])) = true := by kernel_rfl
end
end Go.Sim
