/- A part of the proof: closed facts by the kernel, or the row. -/
import Derived.Test.YtlcaljpiphnpiaaGreatAPat
/- TopAlerted: behind the loop. -/
namespace Go.Sim
noncomputable section
theorem a_finN (V : Vals) (ok) : chkR 2 (@codeD ⟨V, [], ok⟩ progA cfg (@ev ⟨V, [], ok⟩ progA cfg 1000) restA ⟨stA, psN, []⟩ (patH pbN)) = true := by kernel_rfl
theorem a_fin0 (V : Vals) (ok) : chkR 2 (@codeD ⟨V, [], ok⟩ progA cfg (@ev ⟨V, [], ok⟩ progA cfg 1000) restA ⟨stA, (psQ 0), []⟩ (patH (pbQ 0))) = true := by kernel_rfl
theorem a_fin1 (V : Vals) (ok) : chkR 2 (@codeD ⟨V, [], ok⟩ progA cfg (@ev ⟨V, [], ok⟩ progA cfg 1000) restA ⟨stA, (psQ 1), []⟩ (patH (pbQ 1))) = true := by kernel_rfl
theorem a_fin2 (V : Vals) (ok) : chkR 2 (@codeD ⟨V, [], ok⟩ progA cfg (@ev ⟨V, [], ok⟩ progA cfg 1000) restA ⟨stA, (psQ 2), []⟩ (patH (pbQ 2))) = true := by kernel_rfl
end
end Go.Sim
