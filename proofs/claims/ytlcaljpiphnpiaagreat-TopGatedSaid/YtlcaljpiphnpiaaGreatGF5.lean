/- A part of the proof: closed facts by the kernel, or the row. -/
import Derived.Test.YtlcaljpiphnpiaaGreatRows
import Derived.JoinedOf
/- TopGated: what the row's cells say of the program. -/
namespace Go.Proofs.YtlcaljpiphnpiaaGreat.Gated
theorem fact12 : ((Rows.topGatedRow.named == Tryz.prog.varsNamed 4) : Bool) = true := by kernel_rfl
theorem fact26 : ((Rows.topGatedRow.lifted == Tryz.prog.liftsFinal) : Bool) = true := by kernel_rfl
theorem fact27 : ((Tryz.prog.make == some Rows.topGatedRow.make) : Bool) = true := by kernel_rfl
end Go.Proofs.YtlcaljpiphnpiaaGreat.Gated
