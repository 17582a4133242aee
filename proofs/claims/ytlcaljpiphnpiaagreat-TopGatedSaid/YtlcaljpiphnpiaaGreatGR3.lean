/- A part of the proof: closed facts by the kernel, or the row. -/
import Derived.Test.YtlcaljpiphnpiaaGreatGPat
/- TopGated: the ways, by the kernel. -/
namespace Go.Sim
noncomputable section
theorem g_leaf18 (V : Vals) (ok) : chkR 6 (@codeD ⟨V, gpc18, ok⟩ progA cfgG (@ev ⟨V, gpc18, ok⟩ progA cfgG 1000) bodyG ⟨stG, psG, []⟩ (patH [])) = true := by kernel_rfl
theorem g_leaf19 (V : Vals) (ok) : chkR 6 (@codeD ⟨V, gpc19, ok⟩ progA cfgG (@ev ⟨V, gpc19, ok⟩ progA cfgG 1000) bodyG ⟨stG, psG, []⟩ (patH [])) = true := by kernel_rfl
theorem g_leaf20 (V : Vals) (ok) : chkR 6 (@codeD ⟨V, gpc20, ok⟩ progA cfgG (@ev ⟨V, gpc20, ok⟩ progA cfgG 1000) bodyG ⟨stG, psG, []⟩ (patH [])) = true := by kernel_rfl
theorem g_leaf21 (V : Vals) (ok) : chkR 6 (@codeD ⟨V, gpc21, ok⟩ progA cfgG (@ev ⟨V, gpc21, ok⟩ progA cfgG 1000) bodyG ⟨stG, psG, []⟩ (patH [])) = true := by kernel_rfl
theorem g_leaf22 (V : Vals) (ok) : chkR 6 (@codeD ⟨V, gpc22, ok⟩ progA cfgG (@ev ⟨V, gpc22, ok⟩ progA cfgG 1000) bodyG ⟨stG, psG, []⟩ (patH [])) = true := by kernel_rfl
theorem g_leaf23 (V : Vals) (ok) : chkR 6 (@codeD ⟨V, gpc23, ok⟩ progA cfgG (@ev ⟨V, gpc23, ok⟩ progA cfgG 1000) bodyG ⟨stG, psG, []⟩ (patH [])) = true := by kernel_rfl
theorem g_leaf24 (V : Vals) (ok) : chkR 6 (@codeD ⟨V, gpc24, ok⟩ progA cfgG (@ev ⟨V, gpc24, ok⟩ progA cfgG 1000) bodyG ⟨stG, psG, []⟩ (patH [])) = true := by kernel_rfl
theorem g_leaf25 (V : Vals) (ok) : chkR 6 (@codeD ⟨V, gpc25, ok⟩ progA cfgG (@ev ⟨V, gpc25, ok⟩ progA cfgG 1000) bodyG ⟨stG, psG, []⟩ (patH [])) = true := by kernel_rfl
theorem g_leaf26 (V : Vals) (ok) : chkR 6 (@codeD ⟨V, gpc26, ok⟩ progA cfgG (@ev ⟨V, gpc26, ok⟩ progA cfgG 1000) bodyG ⟨stG, psG, []⟩ (patH [])) = true := by kernel_rfl
end
end Go.Sim
