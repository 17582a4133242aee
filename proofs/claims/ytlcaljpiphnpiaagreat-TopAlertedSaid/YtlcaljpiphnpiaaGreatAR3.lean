/- A part of the proof: closed facts by the kernel, or the row. -/
import Derived.Test.YtlcaljpiphnpiaaGreatAPat
/- TopAlerted: rounds that alert. -/
namespace Go.Sim
noncomputable section
theorem a_push4 (V : Vals) (ok) : chkN (thPush 4) [⟨0, 0⟩, ⟨4, 0⟩] (psQ 5) (pbQ 5) (@codeD ⟨V, pcPush, ok⟩ progA cfg (@ev ⟨V, pcPush, ok⟩ progA cfg 1000) loopA ⟨stA, (psQ 4), []⟩ (patH (pbQ 4))) = true := by kernel_rfl
theorem a_push5 (V : Vals) (ok) : chkN (thPush 5) [⟨0, 0⟩, ⟨4, 0⟩] (psQ 6) (pbQ 6) (@codeD ⟨V, pcPush, ok⟩ progA cfg (@ev ⟨V, pcPush, ok⟩ progA cfg 1000) loopA ⟨stA, (psQ 5), []⟩ (patH (pbQ 5))) = true := by kernel_rfl
theorem a_push6 (V : Vals) (ok) : chkN (thPush 6) [⟨0, 0⟩, ⟨4, 0⟩] (psQ 7) (pbQ 7) (@codeD ⟨V, pcPush, ok⟩ progA cfg (@ev ⟨V, pcPush, ok⟩ progA cfg 1000) loopA ⟨stA, (psQ 6), []⟩ (patH (pbQ 6))) = true := by kernel_rfl
theorem a_push7 (V : Vals) (ok) : chkN (thPush 7) [⟨0, 0⟩, ⟨4, 0⟩] (psQ 8) (pbQ 8) (@codeD ⟨V, pcPush, ok⟩ progA cfg (@ev ⟨V, pcPush, ok⟩ progA cfg 1000) loopA ⟨stA, (psQ 7), []⟩ (patH (pbQ 7))) = true := by kernel_rfl
end
end Go.Sim
