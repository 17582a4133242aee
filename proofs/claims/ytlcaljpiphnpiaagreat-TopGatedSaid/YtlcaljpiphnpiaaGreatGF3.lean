/- A part of the proof: closed facts by the kernel, or the row. -/
import Derived.Test.YtlcaljpiphnpiaaGreatRows
import Derived.JoinedOf
/- TopGated: what the row's cells say of the program. -/
namespace Go.Proofs.YtlcaljpiphnpiaaGreat.Gated
theorem fact10 : ((Rows.topGatedRow.unfollowed == Tryz.prog.unfollowed 4) : Bool) = true := by kernel_rfl
theorem fact24 : (Tryz.prog.stopsHeard : Bool) = true := by kernel_rfl
end Go.Proofs.YtlcaljpiphnpiaaGreat.Gated
