/- A part of the proof: closed facts by the kernel, or the row. -/
import Derived.Test.YtlcaljpiphnpiaaGreatAPat
/- TopAlerted: behind the loop. -/
namespace Go.Sim
noncomputable section
theorem a_fin6 (V : Vals) (ok) : chkR 2 (@codeD ⟨V, [], ok⟩ progA cfg (@ev ⟨V, [], ok⟩ progA cfg 1000) restA ⟨stA, (psQ 6), []⟩ (patH (pbQ 6))) = true := by kernel_rfl
theorem a_fin7 (V : Vals) (ok) : chkR 2 (@codeD ⟨V, [], ok⟩ progA cfg (@ev ⟨V, [], ok⟩ progA cfg 1000) restA ⟨stA, (psQ 7), []⟩ (patH (pbQ 7))) = true := by kernel_rfl
theorem a_fin8 (V : Vals) (ok) : chkR 2 (@codeD ⟨V, [], ok⟩ progA cfg (@ev ⟨V, [], ok⟩ progA cfg 1000) restA ⟨stA, (psQ 8), []⟩ (patH (pbQ 8))) = true := by kernel_rfl
end
end Go.Sim
