/- TopCounts: closed facts of the row, some of them. No condition. -/
import Derived.Test.YtlccaffnepiapaaGreatDoorRows
import Derived.JoinedOf
import Derived.SevenTiedAt
import Derived.KernelRfl
namespace Go.Proofs.YtlccaffnepiapaaGreatDoor.TopCounts
set_option linter.unusedVariables false
theorem fact1 : (laidOutB Tryz.prog) = true := by kernel_rfl
theorem fact4 : (namedTie Tryz.prog Rows.topCountsRow.named Rows.topCountsSpec.vars) = true := by kernel_rfl
theorem fact7 : ((Rows.topCountsRow.knobs == [])) = true := by kernel_rfl
theorem fact10 : ((Rows.topCountsRow.unfollowed == Tryz.prog.unfollowed 4)) = true := by kernel_rfl
theorem fact13 : ((Rows.topCountsRow.maps == (Tryz.f4.params.toList ++ Rows.topCountsSpec.plain.varTypes Tryz.prog).any (Tryz.prog.mapsRec ·))) = true := by kernel_rfl
theorem fact16 : ((Rows.topCountsRow.loops == (Tryz.f4.params.toList ++ Rows.topCountsSpec.plain.varTypes Tryz.prog).any (Tryz.prog.loopsFrom ·))) = true := by kernel_rfl
theorem fact19 : (Tryz.f4.resultTypes.all (fun t => Tryz.prog.readableRec t && decide (t < Tryz.prog.types.size))) = true := by kernel_rfl
theorem fact22 : ((Rows.topCountsRow.plainKeys == Tryz.prog.plainKeys)) = true := by kernel_rfl
theorem fact25 : (Tryz.prog.mayEnter) = true := by kernel_rfl
theorem fact28 : ((Rows.topCountsRow.kinds == (if Rows.topCountsRow.domain.isEmpty then [] else Tryz.f4.params.toList.map fun t => match Tryz.prog.underlying t with | some (.int k) => some k | _ => none))) = true := by kernel_rfl
theorem fact31 : (Rows.topCountsRow.veiledFits Tryz.prog Tryz.f4.params.toList (Tryz.f4.params.toList ++ Rows.topCountsSpec.plain.varTypes Tryz.prog ++ Tryz.f4.resultTypes.toList)) = true := by kernel_rfl
theorem wrap : Tryz.f4.isWrapper Tryz.prog Rows.topCountsRow.wrapper Rows.topCountsRow.mainSum := by unfold Func.isWrapper; first | (rw [if_pos (by decide +kernel)]; kernel_rfl) | (rw [if_neg (by decide +kernel)]; exact ⟨rfl, rfl⟩)
theorem goes0 : false = Rows.topCountsRow.goesBy Tryz.prog := by kernel_rfl
end Go.Proofs.YtlccaffnepiapaaGreatDoor.TopCounts
