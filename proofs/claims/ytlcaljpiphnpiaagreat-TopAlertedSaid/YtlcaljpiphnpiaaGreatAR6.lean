/- A part of the proof: closed facts by the kernel, or the row. -/
import Derived.Test.YtlcaljpiphnpiaaGreatAPat
/- TopAlerted: the loop's end. -/
namespace Go.Sim
noncomputable section
theorem a_end1N (V : Vals) (ok) : chkX 0 [] [⟨0, 0⟩] psN pbN (@codeD ⟨V, pcEnd1, ok⟩ progA cfg (@ev ⟨V, pcEnd1, ok⟩ progA cfg 1000) loopA ⟨stA, psN, []⟩ (patH pbN)) = true := by kernel_rfl
theorem a_end1Q0 (V : Vals) (ok) : chkX 0 [] [⟨0, 0⟩, ⟨1, 0⟩] (psQ 0) (pbQ 0) (@codeD ⟨V, pcEnd1, ok⟩ progA cfg (@ev ⟨V, pcEnd1, ok⟩ progA cfg 1000) loopA ⟨stA, (psQ 0), []⟩ (patH (pbQ 0))) = true := by kernel_rfl
theorem a_end1Q1 (V : Vals) (ok) : chkX 0 [] [⟨0, 0⟩, ⟨1, 0⟩] (psQ 1) (pbQ 1) (@codeD ⟨V, pcEnd1, ok⟩ progA cfg (@ev ⟨V, pcEnd1, ok⟩ progA cfg 1000) loopA ⟨stA, (psQ 1), []⟩ (patH (pbQ 1))) = true := by kernel_rfl
theorem a_end1Q2 (V : Vals) (ok) : chkX 0 [] [⟨0, 0⟩, ⟨1, 0⟩] (psQ 2) (pbQ 2) (@codeD ⟨V, pcEnd1, ok⟩ progA cfg (@ev ⟨V, pcEnd1, ok⟩ progA cfg 1000) loopA ⟨stA, (psQ 2), []⟩ (patH (pbQ 2))) = true := by kernel_rfl
theorem a_end1Q3 (V : Vals) (ok) : chkX 0 [] [⟨0, 0⟩, ⟨1, 0⟩] (psQ 3) (pbQ 3) (@codeD ⟨V, pcEnd1, ok⟩ progA cfg (@ev ⟨V, pcEnd1, ok⟩ progA cfg 1000) loopA ⟨stA, (psQ 3), []⟩ (patH (pbQ 3))) = true := by kernel_rfl
theorem a_end1Q4 (V : Vals) (ok) : chkX 0 [] [⟨0, 0⟩, ⟨1, 0⟩] (psQ 4) (pbQ 4) (@codeD ⟨V, pcEnd1, ok⟩ progA cfg (@ev ⟨V, pcEnd1, ok⟩ progA cfg 1000) loopA ⟨stA, (psQ 4), []⟩ (patH (pbQ 4))) = true := by kernel_rfl
theorem a_end1Q5 (V : Vals) (ok) : chkX 0 [] [⟨0, 0⟩, ⟨1, 0⟩] (psQ 5) (pbQ 5) (@codeD ⟨V, pcEnd1, ok⟩ progA cfg (@ev ⟨V, pcEnd1, ok⟩ progA cfg 1000) loopA ⟨stA, (psQ 5), []⟩ (patH (pbQ 5))) = true := by kernel_rfl
theorem a_end1Q6 (V : Vals) (ok) : chkX 0 [] [⟨0, 0⟩, ⟨1, 0⟩] (psQ 6) (pbQ 6) (@codeD ⟨V, pcEnd1, ok⟩ progA cfg (@ev ⟨V, pcEnd1, ok⟩ progA cfg 1000) loopA ⟨stA, (psQ 6), []⟩ (patH (pbQ 6))) = true := by kernel_rfl
theorem a_end1Q7 (V : Vals) (ok) : chkX 0 [] [⟨0, 0⟩, ⟨1, 0⟩] (psQ 7) (pbQ 7) (@codeD ⟨V, pcEnd1, ok⟩ progA cfg (@ev ⟨V, pcEnd1, ok⟩ progA cfg 1000) loopA ⟨stA, (psQ 7), []⟩ (patH (pbQ 7))) = true := by kernel_rfl
theorem a_end1Q8 (V : Vals) (ok) : chkX 0 [] [⟨0, 0⟩, ⟨1, 0⟩] (psQ 8) (pbQ 8) (@codeD ⟨V, pcEnd1, ok⟩ progA cfg (@ev ⟨V, pcEnd1, ok⟩ progA cfg 1000) loopA ⟨stA, (psQ 8), []⟩ (patH (pbQ 8))) = true := by kernel_rfl
theorem a_end2N (V : Vals) (ok) : chkX 0 [] [⟨0, 0⟩] psN pbN (@codeD ⟨V, pcEnd2, ok⟩ progA cfg (@ev ⟨V, pcEnd2, ok⟩ progA cfg 1000) loopA ⟨stA, psN, []⟩ (patH pbN)) = true := by kernel_rfl
theorem a_end2Q0 (V : Vals) (ok) : chkX 0 [] [⟨0, 0⟩, ⟨1, 0⟩] (psQ 0) (pbQ 0) (@codeD ⟨V, pcEnd2, ok⟩ progA cfg (@ev ⟨V, pcEnd2, ok⟩ progA cfg 1000) loopA ⟨stA, (psQ 0), []⟩ (patH (pbQ 0))) = true := by kernel_rfl
theorem a_end2Q1 (V : Vals) (ok) : chkX 0 [] [⟨0, 0⟩, ⟨1, 0⟩] (psQ 1) (pbQ 1) (@codeD ⟨V, pcEnd2, ok⟩ progA cfg (@ev ⟨V, pcEnd2, ok⟩ progA cfg 1000) loopA ⟨stA, (psQ 1), []⟩ (patH (pbQ 1))) = true := by kernel_rfl
theorem a_end2Q2 (V : Vals) (ok) : chkX 0 [] [⟨0, 0⟩, ⟨1, 0⟩] (psQ 2) (pbQ 2) (@codeD ⟨V, pcEnd2, ok⟩ progA cfg (@ev ⟨V, pcEnd2, ok⟩ progA cfg 1000) loopA ⟨stA, (psQ 2), []⟩ (patH (pbQ 2))) = true := by kernel_rfl
theorem a_end2Q3 (V : Vals) (ok) : chkX 0 [] [⟨0, 0⟩, ⟨1, 0⟩] (psQ 3) (pbQ 3) (@codeD ⟨V, pcEnd2, ok⟩ progA cfg (@ev ⟨V, pcEnd2, ok⟩ progA cfg 1000) loopA ⟨stA, (psQ 3), []⟩ (patH (pbQ 3))) = true := by kernel_rfl
theorem a_end2Q4 (V : Vals) (ok) : chkX 0 [] [⟨0, 0⟩, ⟨1, 0⟩] (psQ 4) (pbQ 4) (@codeD ⟨V, pcEnd2, ok⟩ progA cfg (@ev ⟨V, pcEnd2, ok⟩ progA cfg 1000) loopA ⟨stA, (psQ 4), []⟩ (patH (pbQ 4))) = true := by kernel_rfl
theorem a_end2Q5 (V : Vals) (ok) : chkX 0 [] [⟨0, 0⟩, ⟨1, 0⟩] (psQ 5) (pbQ 5) (@codeD ⟨V, pcEnd2, ok⟩ progA cfg (@ev ⟨V, pcEnd2, ok⟩ progA cfg 1000) loopA ⟨stA, (psQ 5), []⟩ (patH (pbQ 5))) = true := by kernel_rfl
theorem a_end2Q6 (V : Vals) (ok) : chkX 0 [] [⟨0, 0⟩, ⟨1, 0⟩] (psQ 6) (pbQ 6) (@codeD ⟨V, pcEnd2, ok⟩ progA cfg (@ev ⟨V, pcEnd2, ok⟩ progA cfg 1000) loopA ⟨stA, (psQ 6), []⟩ (patH (pbQ 6))) = true := by kernel_rfl
theorem a_end2Q7 (V : Vals) (ok) : chkX 0 [] [⟨0, 0⟩, ⟨1, 0⟩] (psQ 7) (pbQ 7) (@codeD ⟨V, pcEnd2, ok⟩ progA cfg (@ev ⟨V, pcEnd2, ok⟩ progA cfg 1000) loopA ⟨stA, (psQ 7), []⟩ (patH (pbQ 7))) = true := by kernel_rfl
theorem a_end2Q8 (V : Vals) (ok) : chkX 0 [] [⟨0, 0⟩, ⟨1, 0⟩] (psQ 8) (pbQ 8) (@codeD ⟨V, pcEnd2, ok⟩ progA cfg (@ev ⟨V, pcEnd2, ok⟩ progA cfg 1000) loopA ⟨stA, (psQ 8), []⟩ (patH (pbQ 8))) = true := by kernel_rfl
end
end Go.Sim
