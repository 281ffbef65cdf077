/- TopIpis: closed facts of the row, some of them. No condition. -/
import Derived.Test.YtlccaffnepiapaaGreatDoorRows
import Derived.JoinedOf
import Derived.SevenTiedAt
import Derived.KernelRfl
namespace Go.Proofs.YtlccaffnepiapaaGreatDoor.TopIpis
set_option linter.unusedVariables false
theorem fact1 : (laidOutB Tryz.prog) = true := by kernel_rfl
theorem fact4 : (namedTie Tryz.prog Rows.topIpisRow.named Rows.topIpisSpec.vars) = true := by kernel_rfl
theorem fact7 : ((Rows.topIpisRow.knobs == [])) = true := by kernel_rfl
theorem fact10 : ((Rows.topIpisRow.unfollowed == Tryz.prog.unfollowed 3)) = true := by kernel_rfl
theorem fact13 : ((Rows.topIpisRow.maps == (Tryz.f3.params.toList ++ Rows.topIpisSpec.plain.varTypes Tryz.prog).any (Tryz.prog.mapsRec ·))) = true := by kernel_rfl
theorem fact16 : ((Rows.topIpisRow.loops == (Tryz.f3.params.toList ++ Rows.topIpisSpec.plain.varTypes Tryz.prog).any (Tryz.prog.loopsFrom ·))) = true := by kernel_rfl
theorem fact19 : (Tryz.f3.resultTypes.all (fun t => Tryz.prog.readableRec t && decide (t < Tryz.prog.types.size))) = true := by kernel_rfl
theorem fact22 : ((Rows.topIpisRow.plainKeys == Tryz.prog.plainKeys)) = true := by kernel_rfl
theorem fact25 : (Tryz.prog.mayEnter) = true := by kernel_rfl
theorem fact28 : ((Rows.topIpisRow.kinds == (if Rows.topIpisRow.domain.isEmpty then [] else Tryz.f3.params.toList.map fun t => match Tryz.prog.underlying t with | some (.int k) => some k | _ => none))) = true := by kernel_rfl
theorem fact31 : (Rows.topIpisRow.veiledFits Tryz.prog Tryz.f3.params.toList (Tryz.f3.params.toList ++ Rows.topIpisSpec.plain.varTypes Tryz.prog ++ Tryz.f3.resultTypes.toList)) = true := by kernel_rfl
theorem wrap : Tryz.f3.isWrapper Tryz.prog Rows.topIpisRow.wrapper Rows.topIpisRow.mainSum := by unfold Func.isWrapper; first | (rw [if_pos (by decide +kernel)]; kernel_rfl) | (rw [if_neg (by decide +kernel)]; exact ⟨rfl, rfl⟩)
theorem goes0 : false = Rows.topIpisRow.goesBy Tryz.prog := by kernel_rfl
end Go.Proofs.YtlccaffnepiapaaGreatDoor.TopIpis
