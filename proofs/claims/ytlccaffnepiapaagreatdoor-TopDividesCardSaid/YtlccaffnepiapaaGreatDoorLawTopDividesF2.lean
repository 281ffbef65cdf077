/- TopDivides: closed facts of the row, some of them. No condition. -/
import Derived.Test.YtlccaffnepiapaaGreatDoorRows
import Derived.JoinedOf
import Derived.SevenTiedAt
import Derived.KernelRfl
namespace Go.Proofs.YtlccaffnepiapaaGreatDoor.TopDivides
set_option linter.unusedVariables false
theorem fact2 : (mapsRowed Tryz.prog) = true := by kernel_rfl
theorem fact5 : ((Rows.topDividesRow.stops == [])) = true := by kernel_rfl
theorem fact8 : ((Tryz.prog.stopKnobs == [])) = true := by kernel_rfl
theorem fact11 : ((Rows.topDividesRow.recurses == Tryz.prog.recurses 5)) = true := by kernel_rfl
theorem fact14 : ((Rows.topDividesRow.ifaces == (Tryz.f5.params.toList ++ Rows.topDividesSpec.plain.varTypes Tryz.prog).any (Tryz.prog.ifacesRec ·))) = true := by kernel_rfl
theorem fact17 : ((Rows.topDividesRow.wideKeys == (Tryz.f5.params.toList ++ Rows.topDividesSpec.plain.varTypes Tryz.prog ++ Tryz.f5.resultTypes.toList).any (Tryz.prog.wideKeysFrom ·))) = true := by kernel_rfl
theorem fact20 : ((Rows.topDividesRow.ifacesOut == Tryz.f5.resultTypes.toList.any (Tryz.prog.ifacesRec ·))) = true := by kernel_rfl
theorem fact23 : (Rows.topDividesRow.shortTexts.isNone) = true := by kernel_rfl
theorem fact26 : ((Rows.topDividesRow.lifted == Tryz.prog.liftsFinal)) = true := by kernel_rfl
theorem fact29 : ((Rows.topDividesRow.pinned == Rows.topDividesRow.pinnedBy)) = true := by kernel_rfl
theorem named : Tryz.prog.funcNamed Rows.topDividesRow.func = some 5 := by kernel_rfl
theorem cw : Rows.topDividesRow.wfByText (OpenSpec.ofChange Rows.topDividesSpec) = true := by kernel_rfl
end Go.Proofs.YtlccaffnepiapaaGreatDoor.TopDivides
