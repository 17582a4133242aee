/- A part of the proof: closed facts by the kernel, or the row. -/
import Derived.Test.YtlcaljpiphnpiaaGreatAPat
/- TopAlerted: rounds that take. -/
namespace Go.Sim
noncomputable section
theorem a_pop5 (V : Vals) (ok) : chkN (thPop 4) [⟨0, 0⟩, ⟨1, 1⟩] (psQ 4) (pbQ 4) (@codeD ⟨V, pcPop, ok⟩ progA cfg (@ev ⟨V, pcPop, ok⟩ progA cfg 1000) loopA ⟨stA, (psQ 5), []⟩ (patH (pbQ 5))) = true := by kernel_rfl
theorem a_pop6 (V : Vals) (ok) : chkN (thPop 5) [⟨0, 0⟩, ⟨1, 1⟩] (psQ 5) (pbQ 5) (@codeD ⟨V, pcPop, ok⟩ progA cfg (@ev ⟨V, pcPop, ok⟩ progA cfg 1000) loopA ⟨stA, (psQ 6), []⟩ (patH (pbQ 6))) = true := by kernel_rfl
theorem a_pop7 (V : Vals) (ok) : chkN (thPop 6) [⟨0, 0⟩, ⟨1, 1⟩] (psQ 6) (pbQ 6) (@codeD ⟨V, pcPop, ok⟩ progA cfg (@ev ⟨V, pcPop, ok⟩ progA cfg 1000) loopA ⟨stA, (psQ 7), []⟩ (patH (pbQ 7))) = true := by kernel_rfl
theorem a_pop8 (V : Vals) (ok) : chkN (thPop 7) [⟨0, 0⟩, ⟨1, 1⟩] (psQ 7) (pbQ 7) (@codeD ⟨V, pcPop, ok⟩ progA cfg (@ev ⟨V, pcPop, ok⟩ progA cfg 1000) loopA ⟨stA, (psQ 8), []⟩ (patH (pbQ 8))) = true := by kernel_rfl
end
end Go.Sim
