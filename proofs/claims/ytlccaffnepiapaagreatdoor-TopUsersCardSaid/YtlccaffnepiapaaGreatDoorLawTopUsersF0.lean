/- TopUsers: closed facts of the row, some of them. No condition. -/
import Derived.Test.YtlccaffnepiapaaGreatDoorRows
import Derived.JoinedOf
import Derived.SevenTiedAt
import Derived.KernelRfl
namespace Go.Proofs.YtlccaffnepiapaaGreatDoor.TopUsers
set_option linter.unusedVariables false
theorem fact0 : (Rows.topUsersRow.wf (OpenSpec.ofChange Rows.topUsersSpec)) = true := by kernel_rfl
theorem fact3 : (Tryz.f6.params.all (Tryz.prog.readableRec ·)) = true := by kernel_rfl
theorem fact6 : ((Tryz.prog.stops == [])) = true := by kernel_rfl
theorem fact9 : ((Rows.topUsersRow.inPlace == Tryz.prog.inPlace 6)) = true := by kernel_rfl
theorem fact12 : ((Rows.topUsersRow.named == Tryz.prog.varsNamed 6)) = true := by kernel_rfl
theorem fact15 : ((Rows.topUsersRow.mapsOut == Tryz.prog.mapsAmong Tryz.f6.resultTypes.toList)) = true := by kernel_rfl
theorem fact18 : (Rows.topUsersSpec.vars.all (Tryz.prog.varReadable ·)) = true := by kernel_rfl
theorem fact21 : ((Rows.topUsersRow.loopsOut == Tryz.f6.resultTypes.toList.any (Tryz.prog.loopsFrom ·))) = true := by kernel_rfl
theorem fact24 : (Tryz.prog.stopsHeard) = true := by kernel_rfl
theorem fact27 : ((Tryz.prog.make == some Rows.topUsersRow.make)) = true := by kernel_rfl
theorem fact30 : ((Rows.topUsersRow.veiled == (Tryz.f6.params.toList ++ Rows.topUsersSpec.plain.varTypes Tryz.prog ++ Tryz.f6.resultTypes.toList).any (Tryz.prog.veiledRec ·))) = true := by kernel_rfl
theorem inst : Tryz.f6.isInstance Tryz.prog Rows.topUsersRow.origin Rows.topUsersRow.targs := of_decide_eq_true (by kernel_rfl)
theorem looks0 : true = Tryz.prog.looks [] := by kernel_rfl
end Go.Proofs.YtlccaffnepiapaaGreatDoor.TopUsers
