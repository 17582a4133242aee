/- A part of the proof: closed facts by the kernel, or the row. -/
import Derived.Test.YtlcaljpiphnpiaaGreatRows
import Derived.JoinedOf
/- TopGated: what the row's cells say of the program. -/
namespace Go.Proofs.YtlcaljpiphnpiaaGreat.Gated
theorem fact9 : ((Rows.topGatedRow.inPlace == Tryz.prog.inPlace 4) : Bool) = true := by kernel_rfl
theorem fact22 : ((Rows.topGatedRow.plainKeys == Tryz.prog.plainKeys) : Bool) = true := by kernel_rfl
end Go.Proofs.YtlcaljpiphnpiaaGreat.Gated
