/- TopUsers: closed facts of the row, some of them. No condition. -/
import Derived.Test.YtlccaffnepiapaaGreatDoorRows
import Derived.JoinedOf
import Derived.SevenTiedAt
import Derived.KernelRfl
namespace Go.Proofs.YtlccaffnepiapaaGreatDoor.TopUsers
set_option linter.unusedVariables false
theorem fact1 : (laidOutB Tryz.prog) = true := by kernel_rfl
theorem fact4 : (namedTie Tryz.prog Rows.topUsersRow.named Rows.topUsersSpec.vars) = true := by kernel_rfl
theorem fact7 : ((Rows.topUsersRow.knobs == [])) = true := by kernel_rfl
theorem fact10 : ((Rows.topUsersRow.unfollowed == Tryz.prog.unfollowed 6)) = true := by kernel_rfl
theorem fact13 : ((Rows.topUsersRow.maps == (Tryz.f6.params.toList ++ Rows.topUsersSpec.plain.varTypes Tryz.prog).any (Tryz.prog.mapsRec ·))) = true := by kernel_rfl
theorem fact16 : ((Rows.topUsersRow.loops == (Tryz.f6.params.toList ++ Rows.topUsersSpec.plain.varTypes Tryz.prog).any (Tryz.prog.loopsFrom ·))) = true := by kernel_rfl
theorem fact19 : (Tryz.f6.resultTypes.all (fun t => Tryz.prog.readableRec t && decide (t < Tryz.prog.types.size))) = true := by kernel_rfl
theorem fact22 : ((Rows.topUsersRow.plainKeys == Tryz.prog.plainKeys)) = true := by kernel_rfl
theorem fact25 : (Tryz.prog.mayEnter) = true := by kernel_rfl
theorem fact28 : ((Rows.topUsersRow.kinds == (if Rows.topUsersRow.domain.isEmpty then [] else Tryz.f6.params.toList.map fun t => match Tryz.prog.underlying t with | some (.int k) => some k | _ => none))) = true := by kernel_rfl
theorem fact31 : (Rows.topUsersRow.veiledFits Tryz.prog Tryz.f6.params.toList (Tryz.f6.params.toList ++ Rows.topUsersSpec.plain.varTypes Tryz.prog ++ Tryz.f6.resultTypes.toList)) = true := by kernel_rfl
theorem wrap : Tryz.f6.isWrapper Tryz.prog Rows.topUsersRow.wrapper Rows.topUsersRow.mainSum := by unfold Func.isWrapper; first | (rw [if_pos (by decide +kernel)]; kernel_rfl) | (rw [if_neg (by decide +kernel)]; exact ⟨rfl, rfl⟩)
theorem goes0 : false = Rows.topUsersRow.goesBy Tryz.prog := by kernel_rfl
end Go.Proofs.YtlccaffnepiapaaGreatDoor.TopUsers
