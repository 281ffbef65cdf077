/- PmuFills: for every input that the statement lets in the law returns true, and the input reads as it did. No condition. -/
import Derived.Test.YthbdkghbkoibdaaSyE
import Derived.Test.YthbdkghbkoibdaaRows
namespace Go.Proofs.Ythbdkghbkoibdaa.PmuFills
open Go.ChangeShapes Go.WideShapes Go.ChangeAt Go.RowKit Go.Sy
set_option linter.unusedVariables false
theorem own : ownKnob Try.prog.godebug = none := by kernel_rfl
theorem laidOut : laidOutB Try.prog = true := by kernel_rfl
theorem mixed : Try.prog.follows .mixedOrders = true := by kernel_rfl

theorem sym : symArgs Try.prog Try.f5.params.toList 0 = some ([.int .u8 (.var 0 8), .int .u8 (.var 1 8)], 2) := by kernel_rfl
theorem run : (lawRun (env0 Try.prog 100 false) 60 5 [] 2 [.int .u8 (.var 0 8), .int .u8 (.var 1 8)]).good = true := by kernel_rfl
set_option maxRecDepth 100000 in
theorem lifted (os : Os) (started : os.Started) (H : Type) (enc : TypeId × Value → H) :
    ReturnsInHanded {} Try.checked os 5 .any (Rows.pmuFillsSpec.pre6 enc Try.prog Try.f5 Rows.pmuFillsRow.domain false) (Rows.pmuFillsSpec.post enc Try.prog Try.f5 false true false false) := by
  refine returnsInHanded_of_change (C := Try.checked) own started (by kernel_rfl) Try.func5
    (ChangeSpec.witness6 (enc := enc) (C := Try.checked) false ⟨#[], #[.int .u8 0, .int .u8 0], []⟩ 8 (by kernel_rfl) (by kernel_rfl) (by kernel_rfl) (by kernel_rfl)) ?_
  intro W base args ds gs before hval hW _ _
  exact law_contract (P := Try.prog) laidOut sym (one_run (svs := ([.int .u8 (.var 0 8), .int .u8 (.var 1 8)], 2)) mixed run (fun _ _ h => by cases h)) (by kernel_rfl) rfl (by rfl) Try.underlying4
    (fun ds h => by
      have h' : ds.length = 2 := by rw [h, Try.params5]; rfl
      match ds, h' with | [d0, d1], _ => rfl) W base args ds gs before hval hW
theorem over : Rows.pmuFillsRow.holds Try.pinned (OpenSpec.ofChange Rows.pmuFillsSpec) :=
  OpenClaim.holds_of_wide 5 Try.f5 rfl rfl rfl rfl rfl rfl rfl ⟨rfl, rfl, rfl, rfl, rfl⟩ rfl rfl rfl rfl rfl (by kernel_rfl) Try.func5 (by kernel_rfl)
    (of_decide_eq_true (by kernel_rfl)) (by unfold Func.isWrapper; first | (rw [if_pos (by decide +kernel)]; kernel_rfl) | (rw [if_neg (by decide +kernel)]; exact ⟨rfl, rfl⟩))
    (fun os started H enc _ => lifted os started H enc)
theorem proved : Rows.PmuFillsSaid := over
#print axioms proved
end Go.Proofs.Ythbdkghbkoibdaa.PmuFills
namespace Go.Proofs.Ythbdkghbkoibdaa
/-- The row, under a short name, for the claim. -/
theorem pmuFills_holds : Rows.PmuFillsSaid := PmuFills.proved
end Go.Proofs.Ythbdkghbkoibdaa
