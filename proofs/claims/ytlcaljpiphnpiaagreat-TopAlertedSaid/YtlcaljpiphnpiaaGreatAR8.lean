/- A part of the proof: closed facts by the kernel, or the row. -/
import Derived.Test.YtlcaljpiphnpiaaGreatAPat
/- TopAlerted: behind the loop. -/
namespace Go.Sim
noncomputable section
theorem a_fin3 (V : Vals) (ok) : chkR 2 (@codeD ⟨V, [], ok⟩ progA cfg (@ev ⟨V, [], ok⟩ progA cfg 1000) restA ⟨stA, (psQ 3), []⟩ (patH (pbQ 3))) = true := by kernel_rfl
theorem a_fin4 (V : Vals) (ok) : chkR 2 (@codeD ⟨V, [], ok⟩ progA cfg (@ev ⟨V, [], ok⟩ progA cfg 1000) restA ⟨stA, (psQ 4), []⟩ (patH (pbQ 4))) = true := by kernel_rfl
theorem a_fin5 (V : Vals) (ok) : chkR 2 (@codeD ⟨V, [], ok⟩ progA cfg (@ev ⟨V, [], ok⟩ progA cfg 1000) restA ⟨stA, (psQ 5), []⟩ (patH (pbQ 5))) = true := by kernel_rfl
end
end Go.Sim
