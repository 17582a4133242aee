/- A part of the proof: closed facts by the kernel, or the row. -/
import Derived.Test.YtlcaljpiphnpiaaGreatAPat
/- TopAlerted: rounds that take. -/
namespace Go.Sim
noncomputable section
theorem a_pop1 (V : Vals) (ok) : chkN (thPop 0) [⟨0, 0⟩, ⟨1, 1⟩] (psQ 0) (pbQ 0) (@codeD ⟨V, pcPop, ok⟩ progA cfg (@ev ⟨V, pcPop, ok⟩ progA cfg 1000) loopA ⟨stA, (psQ 1), []⟩ (patH (pbQ 1))) = true := by kernel_rfl
theorem a_pop2 (V : Vals) (ok) : chkN (thPop 1) [⟨0, 0⟩, ⟨1, 1⟩] (psQ 1) (pbQ 1) (@codeD ⟨V, pcPop, ok⟩ progA cfg (@ev ⟨V, pcPop, ok⟩ progA cfg 1000) loopA ⟨stA, (psQ 2), []⟩ (patH (pbQ 2))) = true := by kernel_rfl
theorem a_pop3 (V : Vals) (ok) : chkN (thPop 2) [⟨0, 0⟩, ⟨1, 1⟩] (psQ 2) (pbQ 2) (@codeD ⟨V, pcPop, ok⟩ progA cfg (@ev ⟨V, pcPop, ok⟩ progA cfg 1000) loopA ⟨stA, (psQ 3), []⟩ (patH (pbQ 3))) = true := by kernel_rfl
theorem a_pop4 (V : Vals) (ok) : chkN (thPop 3) [⟨0, 0⟩, ⟨1, 1⟩] (psQ 3) (pbQ 3) (@codeD ⟨V, pcPop, ok⟩ progA cfg (@ev ⟨V, pcPop, ok⟩ progA cfg 1000) loopA ⟨stA, (psQ 4), []⟩ (patH (pbQ 4))) = true := by kernel_rfl
end
end Go.Sim
