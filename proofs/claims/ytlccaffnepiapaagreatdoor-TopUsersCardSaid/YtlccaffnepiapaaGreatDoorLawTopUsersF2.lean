/- TopUsers: closed facts of the row, some of them. No condition. -/
import Derived.Test.YtlccaffnepiapaaGreatDoorRows
import Derived.JoinedOf
import Derived.SevenTiedAt
import Derived.KernelRfl
namespace Go.Proofs.YtlccaffnepiapaaGreatDoor.TopUsers
set_option linter.unusedVariables false
theorem fact2 : (mapsRowed Tryz.prog) = true := by kernel_rfl
theorem fact5 : ((Rows.topUsersRow.stops == [])) = true := by kernel_rfl
theorem fact8 : ((Tryz.prog.stopKnobs == [])) = true := by kernel_rfl
theorem fact11 : ((Rows.topUsersRow.recurses == Tryz.prog.recurses 6)) = true := by kernel_rfl
theorem fact14 : ((Rows.topUsersRow.ifaces == (Tryz.f6.params.toList ++ Rows.topUsersSpec.plain.varTypes Tryz.prog).any (Tryz.prog.ifacesRec ·))) = true := by kernel_rfl
theorem fact17 : ((Rows.topUsersRow.wideKeys == (Tryz.f6.params.toList ++ Rows.topUsersSpec.plain.varTypes Tryz.prog ++ Tryz.f6.resultTypes.toList).any (Tryz.prog.wideKeysFrom ·))) = true := by kernel_rfl
theorem fact20 : ((Rows.topUsersRow.ifacesOut == Tryz.f6.resultTypes.toList.any (Tryz.prog.ifacesRec ·))) = true := by kernel_rfl
theorem fact23 : (Rows.topUsersRow.shortTexts.isNone) = true := by kernel_rfl
theorem fact26 : ((Rows.topUsersRow.lifted == Tryz.prog.liftsFinal)) = true := by kernel_rfl
theorem fact29 : ((Rows.topUsersRow.pinned == Rows.topUsersRow.pinnedBy)) = true := by kernel_rfl
theorem named : Tryz.prog.funcNamed Rows.topUsersRow.func = some 6 := by kernel_rfl
theorem cw : Rows.topUsersRow.wfByText (OpenSpec.ofChange Rows.topUsersSpec) = true := by kernel_rfl
end Go.Proofs.YtlccaffnepiapaaGreatDoor.TopUsers
