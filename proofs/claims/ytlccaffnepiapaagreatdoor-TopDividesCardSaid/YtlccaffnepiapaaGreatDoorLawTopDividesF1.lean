/- TopDivides: closed facts of the row, some of them. No condition. -/
import Derived.Test.YtlccaffnepiapaaGreatDoorRows
import Derived.JoinedOf
import Derived.SevenTiedAt
import Derived.KernelRfl
namespace Go.Proofs.YtlccaffnepiapaaGreatDoor.TopDivides
set_option linter.unusedVariables false
theorem fact1 : (laidOutB Tryz.prog) = true := by kernel_rfl
theorem fact4 : (namedTie Tryz.prog Rows.topDividesRow.named Rows.topDividesSpec.vars) = true := by kernel_rfl
theorem fact7 : ((Rows.topDividesRow.knobs == [])) = true := by kernel_rfl
theorem fact10 : ((Rows.topDividesRow.unfollowed == Tryz.prog.unfollowed 5)) = true := by kernel_rfl
theorem fact13 : ((Rows.topDividesRow.maps == (Tryz.f5.params.toList ++ Rows.topDividesSpec.plain.varTypes Tryz.prog).any (Tryz.prog.mapsRec ·))) = true := by kernel_rfl
theorem fact16 : ((Rows.topDividesRow.loops == (Tryz.f5.params.toList ++ Rows.topDividesSpec.plain.varTypes Tryz.prog).any (Tryz.prog.loopsFrom ·))) = true := by kernel_rfl
theorem fact19 : (Tryz.f5.resultTypes.all (fun t => Tryz.prog.readableRec t && decide (t < Tryz.prog.types.size))) = true := by kernel_rfl
theorem fact22 : ((Rows.topDividesRow.plainKeys == Tryz.prog.plainKeys)) = true := by kernel_rfl
theorem fact25 : (Tryz.prog.mayEnter) = true := by kernel_rfl
theorem fact28 : ((Rows.topDividesRow.kinds == (if Rows.topDividesRow.domain.isEmpty then [] else Tryz.f5.params.toList.map fun t => match Tryz.prog.underlying t with | some (.int k) => some k | _ => none))) = true := by kernel_rfl
theorem fact31 : (Rows.topDividesRow.veiledFits Tryz.prog Tryz.f5.params.toList (Tryz.f5.params.toList ++ Rows.topDividesSpec.plain.varTypes Tryz.prog ++ Tryz.f5.resultTypes.toList)) = true := by kernel_rfl
theorem wrap : Tryz.f5.isWrapper Tryz.prog Rows.topDividesRow.wrapper Rows.topDividesRow.mainSum := by unfold Func.isWrapper; first | (rw [if_pos (by decide +kernel)]; kernel_rfl) | (rw [if_neg (by decide +kernel)]; exact ⟨rfl, rfl⟩)
theorem goes0 : false = Rows.topDividesRow.goesBy Tryz.prog := by kernel_rfl
end Go.Proofs.YtlccaffnepiapaaGreatDoor.TopDivides
