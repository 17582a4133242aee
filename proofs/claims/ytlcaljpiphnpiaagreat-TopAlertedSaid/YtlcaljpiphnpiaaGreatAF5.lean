/- A part of the proof: closed facts by the kernel, or the row. -/
import Derived.Test.YtlcaljpiphnpiaaGreatRows
import Derived.JoinedOf
/- TopAlerted: what the row's cells say of the program. -/
namespace Go.Proofs.YtlcaljpiphnpiaaGreat.Alerted
theorem fact12 : (fun (P : Program) (f : FuncId) (fn : Func) (s : ChangeSpec) (c : OpenClaim) => ((c.named == P.varsNamed f) : Bool)) Tryz.prog 3 Tryz.f3 Rows.topAlertedSpec Rows.topAlertedRow = true := by kernel_rfl
theorem fact26 : (fun (P : Program) (f : FuncId) (fn : Func) (s : ChangeSpec) (c : OpenClaim) => ((c.lifted == P.liftsFinal) : Bool)) Tryz.prog 3 Tryz.f3 Rows.topAlertedSpec Rows.topAlertedRow = true := by kernel_rfl
theorem fact27 : (fun (P : Program) (f : FuncId) (fn : Func) (s : ChangeSpec) (c : OpenClaim) => ((P.make == some c.make) : Bool)) Tryz.prog 3 Tryz.f3 Rows.topAlertedSpec Rows.topAlertedRow = true := by kernel_rfl
end Go.Proofs.YtlcaljpiphnpiaaGreat.Alerted
