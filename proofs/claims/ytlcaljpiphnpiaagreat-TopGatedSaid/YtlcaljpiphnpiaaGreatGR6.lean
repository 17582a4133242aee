/- A part of the proof: closed facts by the kernel, or the row. -/
import Derived.Test.YtlcaljpiphnpiaaGreatGPat
/- TopGated: the ways, by the kernel. -/
namespace Go.Sim
noncomputable section
theorem g_leaf45 (V : Vals) (ok) : chkR 6 (@codeD ⟨V, gpc45, ok⟩ progA cfgG (@ev ⟨V, gpc45, ok⟩ progA cfgG 1000) bodyG ⟨stG, psG, []⟩ (patH [])) = true := by kernel_rfl
theorem g_leaf46 (V : Vals) (ok) : chkR 6 (@codeD ⟨V, gpc46, ok⟩ progA cfgG (@ev ⟨V, gpc46, ok⟩ progA cfgG 1000) bodyG ⟨stG, psG, []⟩ (patH [])) = true := by kernel_rfl
theorem g_leaf47 (V : Vals) (ok) : chkR 6 (@codeD ⟨V, gpc47, ok⟩ progA cfgG (@ev ⟨V, gpc47, ok⟩ progA cfgG 1000) bodyG ⟨stG, psG, []⟩ (patH [])) = true := by kernel_rfl
theorem g_leaf48 (V : Vals) (ok) : chkR 6 (@codeD ⟨V, gpc48, ok⟩ progA cfgG (@ev ⟨V, gpc48, ok⟩ progA cfgG 1000) bodyG ⟨stG, psG, []⟩ (patH [])) = true := by kernel_rfl
theorem g_leaf49 (V : Vals) (ok) : chkR 6 (@codeD ⟨V, gpc49, ok⟩ progA cfgG (@ev ⟨V, gpc49, ok⟩ progA cfgG 1000) bodyG ⟨stG, psG, []⟩ (patH [])) = true := by kernel_rfl
end
end Go.Sim
