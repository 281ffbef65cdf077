/- TopCounts: closed facts of the row, some of them. No condition. -/
import Derived.Test.YtlccaffnepiapaaGreatDoorRows
import Derived.JoinedOf
import Derived.SevenTiedAt
import Derived.KernelRfl
namespace Go.Proofs.YtlccaffnepiapaaGreatDoor.TopCounts
set_option linter.unusedVariables false
theorem fact2 : (mapsRowed Tryz.prog) = true := by kernel_rfl
theorem fact5 : ((Rows.topCountsRow.stops == [])) = true := by kernel_rfl
theorem fact8 : ((Tryz.prog.stopKnobs == [])) = true := by kernel_rfl
theorem fact11 : ((Rows.topCountsRow.recurses == Tryz.prog.recurses 4)) = true := by kernel_rfl
theorem fact14 : ((Rows.topCountsRow.ifaces == (Tryz.f4.params.toList ++ Rows.topCountsSpec.plain.varTypes Tryz.prog).any (Tryz.prog.ifacesRec ·))) = true := by kernel_rfl
theorem fact17 : ((Rows.topCountsRow.wideKeys == (Tryz.f4.params.toList ++ Rows.topCountsSpec.plain.varTypes Tryz.prog ++ Tryz.f4.resultTypes.toList).any (Tryz.prog.wideKeysFrom ·))) = true := by kernel_rfl
theorem fact20 : ((Rows.topCountsRow.ifacesOut == Tryz.f4.resultTypes.toList.any (Tryz.prog.ifacesRec ·))) = true := by kernel_rfl
theorem fact23 : (Rows.topCountsRow.shortTexts.isNone) = true := by kernel_rfl
theorem fact26 : ((Rows.topCountsRow.lifted == Tryz.prog.liftsFinal)) = true := by kernel_rfl
theorem fact29 : ((Rows.topCountsRow.pinned == Rows.topCountsRow.pinnedBy)) = true := by kernel_rfl
theorem named : Tryz.prog.funcNamed Rows.topCountsRow.func = some 4 := by kernel_rfl
theorem cw : Rows.topCountsRow.wfByText (OpenSpec.ofChange Rows.topCountsSpec) = true := by kernel_rfl
end Go.Proofs.YtlccaffnepiapaaGreatDoor.TopCounts
