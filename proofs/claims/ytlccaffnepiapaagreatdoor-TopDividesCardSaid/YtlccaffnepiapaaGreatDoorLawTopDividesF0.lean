/- TopDivides: closed facts of the row, some of them. No condition. -/
import Derived.Test.YtlccaffnepiapaaGreatDoorRows
import Derived.JoinedOf
import Derived.SevenTiedAt
import Derived.KernelRfl
namespace Go.Proofs.YtlccaffnepiapaaGreatDoor.TopDivides
set_option linter.unusedVariables false
theorem fact0 : (Rows.topDividesRow.wf (OpenSpec.ofChange Rows.topDividesSpec)) = true := by kernel_rfl
theorem fact3 : (Tryz.f5.params.all (Tryz.prog.readableRec ·)) = true := by kernel_rfl
theorem fact6 : ((Tryz.prog.stops == [])) = true := by kernel_rfl
theorem fact9 : ((Rows.topDividesRow.inPlace == Tryz.prog.inPlace 5)) = true := by kernel_rfl
theorem fact12 : ((Rows.topDividesRow.named == Tryz.prog.varsNamed 5)) = true := by kernel_rfl
theorem fact15 : ((Rows.topDividesRow.mapsOut == Tryz.prog.mapsAmong Tryz.f5.resultTypes.toList)) = true := by kernel_rfl
theorem fact18 : (Rows.topDividesSpec.vars.all (Tryz.prog.varReadable ·)) = true := by kernel_rfl
theorem fact21 : ((Rows.topDividesRow.loopsOut == Tryz.f5.resultTypes.toList.any (Tryz.prog.loopsFrom ·))) = true := by kernel_rfl
theorem fact24 : (Tryz.prog.stopsHeard) = true := by kernel_rfl
theorem fact27 : ((Tryz.prog.make == some Rows.topDividesRow.make)) = true := by kernel_rfl
theorem fact30 : ((Rows.topDividesRow.veiled == (Tryz.f5.params.toList ++ Rows.topDividesSpec.plain.varTypes Tryz.prog ++ Tryz.f5.resultTypes.toList).any (Tryz.prog.veiledRec ·))) = true := by kernel_rfl
theorem inst : Tryz.f5.isInstance Tryz.prog Rows.topDividesRow.origin Rows.topDividesRow.targs := of_decide_eq_true (by kernel_rfl)
theorem looks0 : true = Tryz.prog.looks [] := by kernel_rfl
end Go.Proofs.YtlccaffnepiapaaGreatDoor.TopDivides
