/- A part of the proof: closed facts by the kernel, or the row. -/
import Derived.Test.YtlcaljpiphnpiaaGreatRows
import Derived.JoinedOf
/- TopGated: what the row's cells say of the program. -/
namespace Go.Proofs.YtlcaljpiphnpiaaGreat.Gated
theorem fact1 : (laidOutB Tryz.prog : Bool) = true := by kernel_rfl
theorem fact2 : (mapsRowed Tryz.prog : Bool) = true := by kernel_rfl
end Go.Proofs.YtlcaljpiphnpiaaGreat.Gated
