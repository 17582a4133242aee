/- A part of the proof: closed facts by the kernel, or the row. -/
import Derived.Test.YtlcaljpiphnpiaaGreatAPat
/- TopAlerted: the way to the loop, and the first rounds. -/
namespace Go.Sim
noncomputable section
theorem a_pre (V : Vals) (ok) : chkN [] [⟨1, 0⟩] [(4, idsA), (3, .ptr 0 0), (7, .nils), (0, .lx [.u8] (.atom 0) 0)] pbN (@codeD ⟨V, [], ok⟩ progA cfg (@ev ⟨V, [], ok⟩ progA cfg 1000) (takeS 4 bodyA) ⟨stA, [(0, .lx [.u8] (.atom 0) 0)], []⟩ (patH [])) = true := by kernel_rfl
theorem a_ld (V : Vals) (ok) : chkN [.atom 0, .lit 0] [⟨0, 0⟩] psN pbN (@codeD ⟨V, [], ok⟩ progA cfg (@ev ⟨V, [], ok⟩ progA cfg 1000) ldA ⟨stA, [(4, idsA), (3, .ptr 0 0), (7, .nils), (0, .lx [.u8] (.atom 0) 0)], []⟩ (patH pbN)) = true := by kernel_rfl
theorem a_nPush (V : Vals) (ok) : chkN (thPush 0) [⟨0, 0⟩, ⟨3, 0⟩] (psQ 1) (pbQ 1) (@codeD ⟨V, pcPush, ok⟩ progA cfg (@ev ⟨V, pcPush, ok⟩ progA cfg 1000) loopA ⟨stA, psN, []⟩ (patH pbN)) = true := by kernel_rfl
theorem a_nPop (V : Vals) (ok) : chkN thN [⟨0, 0⟩] psN pbN (@codeD ⟨V, pcPop, ok⟩ progA cfg (@ev ⟨V, pcPop, ok⟩ progA cfg 1000) loopA ⟨stA, psN, []⟩ (patH pbN)) = true := by kernel_rfl
theorem a_pop0 (V : Vals) (ok) : chkN (thKeep 0) [⟨0, 0⟩, ⟨1, 0⟩] (psQ 0) (pbQ 0) (@codeD ⟨V, pcPop, ok⟩ progA cfg (@ev ⟨V, pcPop, ok⟩ progA cfg 1000) loopA ⟨stA, (psQ 0), []⟩ (patH (pbQ 0))) = true := by kernel_rfl
theorem a_push8 (V : Vals) (ok) : chkN (thKeep 8) [⟨0, 0⟩, ⟨1, 0⟩] (psQ 8) (pbQ 8) (@codeD ⟨V, pcPush, ok⟩ progA cfg (@ev ⟨V, pcPush, ok⟩ progA cfg 1000) loopA ⟨stA, (psQ 8), []⟩ (patH (pbQ 8))) = true := by kernel_rfl
end
end Go.Sim
