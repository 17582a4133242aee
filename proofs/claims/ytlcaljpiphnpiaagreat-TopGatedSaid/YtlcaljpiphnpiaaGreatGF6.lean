/- A part of the proof: closed facts by the kernel, or the row. -/
import Derived.Test.YtlcaljpiphnpiaaGreatRows
import Derived.JoinedOf
/- TopGated: what the row's cells say of the program. -/
namespace Go.Proofs.YtlcaljpiphnpiaaGreat.Gated
theorem fact0 : (Rows.topGatedRow.wf (OpenSpec.ofChange Rows.topGatedSpec) : Bool) = true := by kernel_rfl
theorem fact3 : (Tryz.f4.params.all (Tryz.prog.readableRec ·) : Bool) = true := by kernel_rfl
theorem fact4 : (namedTie Tryz.prog Rows.topGatedRow.named Rows.topGatedSpec.vars : Bool) = true := by kernel_rfl
theorem fact5 : ((Rows.topGatedRow.stops == []) : Bool) = true := by kernel_rfl
theorem fact6 : ((Tryz.prog.stops == []) : Bool) = true := by kernel_rfl
theorem fact7 : ((Rows.topGatedRow.knobs == []) : Bool) = true := by kernel_rfl
theorem fact8 : ((Tryz.prog.stopKnobs == []) : Bool) = true := by kernel_rfl
theorem fact13 : ((Rows.topGatedRow.maps == (Tryz.f4.params.toList ++ Rows.topGatedSpec.plain.varTypes Tryz.prog).any (Tryz.prog.mapsRec ·)) : Bool) = true := by kernel_rfl
theorem fact14 : ((Rows.topGatedRow.ifaces == (Tryz.f4.params.toList ++ Rows.topGatedSpec.plain.varTypes Tryz.prog).any (Tryz.prog.ifacesRec ·)) : Bool) = true := by kernel_rfl
theorem fact15 : ((Rows.topGatedRow.mapsOut == Tryz.prog.mapsAmong Tryz.f4.resultTypes.toList) : Bool) = true := by kernel_rfl
theorem fact16 : ((Rows.topGatedRow.loops == (Tryz.f4.params.toList ++ Rows.topGatedSpec.plain.varTypes Tryz.prog).any (Tryz.prog.loopsFrom ·)) : Bool) = true := by kernel_rfl
theorem fact17 : ((Rows.topGatedRow.wideKeys == (Tryz.f4.params.toList ++ Rows.topGatedSpec.plain.varTypes Tryz.prog ++ Tryz.f4.resultTypes.toList).any (Tryz.prog.wideKeysFrom ·)) : Bool) = true := by kernel_rfl
theorem fact18 : (Rows.topGatedSpec.vars.all (Tryz.prog.varReadable ·) : Bool) = true := by kernel_rfl
theorem fact19 : (Tryz.f4.resultTypes.all (fun t => Tryz.prog.readableRec t && decide (t < Tryz.prog.types.size)) : Bool) = true := by kernel_rfl
theorem fact20 : ((Rows.topGatedRow.ifacesOut == Tryz.f4.resultTypes.toList.any (Tryz.prog.ifacesRec ·)) : Bool) = true := by kernel_rfl
theorem fact21 : ((Rows.topGatedRow.loopsOut == Tryz.f4.resultTypes.toList.any (Tryz.prog.loopsFrom ·)) : Bool) = true := by kernel_rfl
theorem fact23 : (Rows.topGatedRow.shortTexts.isNone : Bool) = true := by kernel_rfl
theorem fact28 : ((Rows.topGatedRow.kinds == (if Rows.topGatedRow.domain.isEmpty then [] else Tryz.f4.params.toList.map fun t => match Tryz.prog.underlying t with | some (.int k) => some k | _ => none)) : Bool) = true := by kernel_rfl
theorem fact29 : ((Rows.topGatedRow.pinned == Rows.topGatedRow.pinnedBy) : Bool) = true := by kernel_rfl
theorem fact30 : ((Rows.topGatedRow.veiled == (Tryz.f4.params.toList ++ Rows.topGatedSpec.plain.varTypes Tryz.prog ++ Tryz.f4.resultTypes.toList).any (Tryz.prog.veiledRec ·)) : Bool) = true := by kernel_rfl
theorem fact31 : (Rows.topGatedRow.veiledFits Tryz.prog Tryz.f4.params.toList (Tryz.f4.params.toList ++ Rows.topGatedSpec.plain.varTypes Tryz.prog ++ Tryz.f4.resultTypes.toList) : Bool) = true := by kernel_rfl
end Go.Proofs.YtlcaljpiphnpiaaGreat.Gated
