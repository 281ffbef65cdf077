/- TopIpis: closed facts of the row, some of them. No condition. -/
import Derived.Test.YtlccaffnepiapaaGreatDoorRows
import Derived.JoinedOf
import Derived.SevenTiedAt
import Derived.KernelRfl
namespace Go.Proofs.YtlccaffnepiapaaGreatDoor.TopIpis
set_option linter.unusedVariables false
theorem fact0 : (Rows.topIpisRow.wf (OpenSpec.ofChange Rows.topIpisSpec)) = true := by kernel_rfl
theorem fact3 : (Tryz.f3.params.all (Tryz.prog.readableRec ·)) = true := by kernel_rfl
theorem fact6 : ((Tryz.prog.stops == [])) = true := by kernel_rfl
theorem fact9 : ((Rows.topIpisRow.inPlace == Tryz.prog.inPlace 3)) = true := by kernel_rfl
theorem fact12 : ((Rows.topIpisRow.named == Tryz.prog.varsNamed 3)) = true := by kernel_rfl
theorem fact15 : ((Rows.topIpisRow.mapsOut == Tryz.prog.mapsAmong Tryz.f3.resultTypes.toList)) = true := by kernel_rfl
theorem fact18 : (Rows.topIpisSpec.vars.all (Tryz.prog.varReadable ·)) = true := by kernel_rfl
theorem fact21 : ((Rows.topIpisRow.loopsOut == Tryz.f3.resultTypes.toList.any (Tryz.prog.loopsFrom ·))) = true := by kernel_rfl
theorem fact24 : (Tryz.prog.stopsHeard) = true := by kernel_rfl
theorem fact27 : ((Tryz.prog.make == some Rows.topIpisRow.make)) = true := by kernel_rfl
theorem fact30 : ((Rows.topIpisRow.veiled == (Tryz.f3.params.toList ++ Rows.topIpisSpec.plain.varTypes Tryz.prog ++ Tryz.f3.resultTypes.toList).any (Tryz.prog.veiledRec ·))) = true := by kernel_rfl
theorem inst : Tryz.f3.isInstance Tryz.prog Rows.topIpisRow.origin Rows.topIpisRow.targs := of_decide_eq_true (by kernel_rfl)
theorem looks0 : true = Tryz.prog.looks [] := by kernel_rfl
end Go.Proofs.YtlccaffnepiapaaGreatDoor.TopIpis
