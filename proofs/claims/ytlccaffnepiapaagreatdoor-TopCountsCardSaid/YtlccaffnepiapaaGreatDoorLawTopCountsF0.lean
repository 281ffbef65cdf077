/- TopCounts: closed facts of the row, some of them. No condition. -/
import Derived.Test.YtlccaffnepiapaaGreatDoorRows
import Derived.JoinedOf
import Derived.SevenTiedAt
import Derived.KernelRfl
namespace Go.Proofs.YtlccaffnepiapaaGreatDoor.TopCounts
set_option linter.unusedVariables false
theorem fact0 : (Rows.topCountsRow.wf (OpenSpec.ofChange Rows.topCountsSpec)) = true := by kernel_rfl
theorem fact3 : (Tryz.f4.params.all (Tryz.prog.readableRec ·)) = true := by kernel_rfl
theorem fact6 : ((Tryz.prog.stops == [])) = true := by kernel_rfl
theorem fact9 : ((Rows.topCountsRow.inPlace == Tryz.prog.inPlace 4)) = true := by kernel_rfl
theorem fact12 : ((Rows.topCountsRow.named == Tryz.prog.varsNamed 4)) = true := by kernel_rfl
theorem fact15 : ((Rows.topCountsRow.mapsOut == Tryz.prog.mapsAmong Tryz.f4.resultTypes.toList)) = true := by kernel_rfl
theorem fact18 : (Rows.topCountsSpec.vars.all (Tryz.prog.varReadable ·)) = true := by kernel_rfl
theorem fact21 : ((Rows.topCountsRow.loopsOut == Tryz.f4.resultTypes.toList.any (Tryz.prog.loopsFrom ·))) = true := by kernel_rfl
theorem fact24 : (Tryz.prog.stopsHeard) = true := by kernel_rfl
theorem fact27 : ((Tryz.prog.make == some Rows.topCountsRow.make)) = true := by kernel_rfl
theorem fact30 : ((Rows.topCountsRow.veiled == (Tryz.f4.params.toList ++ Rows.topCountsSpec.plain.varTypes Tryz.prog ++ Tryz.f4.resultTypes.toList).any (Tryz.prog.veiledRec ·))) = true := by kernel_rfl
theorem inst : Tryz.f4.isInstance Tryz.prog Rows.topCountsRow.origin Rows.topCountsRow.targs := of_decide_eq_true (by kernel_rfl)
theorem looks0 : true = Tryz.prog.looks [] := by kernel_rfl
end Go.Proofs.YtlccaffnepiapaaGreatDoor.TopCounts
