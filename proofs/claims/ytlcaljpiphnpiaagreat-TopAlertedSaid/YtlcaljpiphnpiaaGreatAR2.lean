/- A part of the proof: closed facts by the kernel, or the row. -/
import Derived.Test.YtlcaljpiphnpiaaGreatAPat
/- TopAlerted: rounds that alert. -/
namespace Go.Sim
noncomputable section
theorem a_push0 (V : Vals) (ok) : chkN (thPush 0) [⟨0, 0⟩, ⟨4, 0⟩] (psQ 1) (pbQ 1) (@codeD ⟨V, pcPush, ok⟩ progA cfg (@ev ⟨V, pcPush, ok⟩ progA cfg 1000) loopA ⟨stA, (psQ 0), []⟩ (patH (pbQ 0))) = true := by kernel_rfl
theorem a_push1 (V : Vals) (ok) : chkN (thPush 1) [⟨0, 0⟩, ⟨4, 0⟩] (psQ 2) (pbQ 2) (@codeD ⟨V, pcPush, ok⟩ progA cfg (@ev ⟨V, pcPush, ok⟩ progA cfg 1000) loopA ⟨stA, (psQ 1), []⟩ (patH (pbQ 1))) = true := by kernel_rfl
theorem a_push2 (V : Vals) (ok) : chkN (thPush 2) [⟨0, 0⟩, ⟨4, 0⟩] (psQ 3) (pbQ 3) (@codeD ⟨V, pcPush, ok⟩ progA cfg (@ev ⟨V, pcPush, ok⟩ progA cfg 1000) loopA ⟨stA, (psQ 2), []⟩ (patH (pbQ 2))) = true := by kernel_rfl
theorem a_push3 (V : Vals) (ok) : chkN (thPush 3) [⟨0, 0⟩, ⟨4, 0⟩] (psQ 4) (pbQ 4) (@codeD ⟨V, pcPush, ok⟩ progA cfg (@ev ⟨V, pcPush, ok⟩ progA cfg 1000) loopA ⟨stA, (psQ 3), []⟩ (patH (pbQ 3))) = true := by kernel_rfl
end
end Go.Sim
