/- TopIpis: closed facts of the row, some of them. No condition. -/
import Derived.Test.YtlccaffnepiapaaGreatDoorRows
import Derived.JoinedOf
import Derived.SevenTiedAt
import Derived.KernelRfl
namespace Go.Proofs.YtlccaffnepiapaaGreatDoor.TopIpis
set_option linter.unusedVariables false
theorem fact2 : (mapsRowed Tryz.prog) = true := by kernel_rfl
theorem fact5 : ((Rows.topIpisRow.stops == [])) = true := by kernel_rfl
theorem fact8 : ((Tryz.prog.stopKnobs == [])) = true := by kernel_rfl
theorem fact11 : ((Rows.topIpisRow.recurses == Tryz.prog.recurses 3)) = true := by kernel_rfl
theorem fact14 : ((Rows.topIpisRow.ifaces == (Tryz.f3.params.toList ++ Rows.topIpisSpec.plain.varTypes Tryz.prog).any (Tryz.prog.ifacesRec ·))) = true := by kernel_rfl
theorem fact17 : ((Rows.topIpisRow.wideKeys == (Tryz.f3.params.toList ++ Rows.topIpisSpec.plain.varTypes Tryz.prog ++ Tryz.f3.resultTypes.toList).any (Tryz.prog.wideKeysFrom ·))) = true := by kernel_rfl
theorem fact20 : ((Rows.topIpisRow.ifacesOut == Tryz.f3.resultTypes.toList.any (Tryz.prog.ifacesRec ·))) = true := by kernel_rfl
theorem fact23 : (Rows.topIpisRow.shortTexts.isNone) = true := by kernel_rfl
theorem fact26 : ((Rows.topIpisRow.lifted == Tryz.prog.liftsFinal)) = true := by kernel_rfl
theorem fact29 : ((Rows.topIpisRow.pinned == Rows.topIpisRow.pinnedBy)) = true := by kernel_rfl
theorem named : Tryz.prog.funcNamed Rows.topIpisRow.func = some 3 := by kernel_rfl
theorem cw : Rows.topIpisRow.wfByText (OpenSpec.ofChange Rows.topIpisSpec) = true := by kernel_rfl
end Go.Proofs.YtlccaffnepiapaaGreatDoor.TopIpis
