/- FieldTurns: for every input that the statement lets in the law returns true, and the input reads as it did. No condition. -/
import Derived.Test.YtcnaapegjhlcdaaSxC
import Derived.Test.YtcnaapegjhlcdaaRows
namespace Go.Proofs.Ytcnaapegjhlcdaa.fieldTurns
open Go.ChangeShapes Go.WideShapes Go.ChangeAt Go.RowKit Go.Sx
set_option linter.unusedVariables false
theorem own : ownKnob Try.prog.godebug = none := by kernel_rfl
theorem laidOut : laidOutB Try.prog = true := by kernel_rfl
theorem mixed : Try.prog.follows .mixedOrders = true := by kernel_rfl

theorem sym : symArgs Try.prog Try.f5.params.toList 0 = some [.int .u32 (.var 0 32), .int .u8 (.var 1 8), .int .u8 (.var 2 8)] := by kernel_rfl
theorem run : lawRun Try.prog 40 100 60 5 [] [.int .u32 (.var 0 32), .int .u8 (.var 1 8), .int .u8 (.var 2 8)] = true := by kernel_rfl
set_option maxRecDepth 100000 in
theorem lifted (os : Os) (started : os.Started) (H : Type) (enc : TypeId × Value → H) :
    ReturnsInHanded {} Try.checked os 5 .any (Rows.fieldTurnsSpec.pre6 enc Try.prog Try.f5 Rows.fieldTurnsRow.domain false) (Rows.fieldTurnsSpec.post enc Try.prog Try.f5 false true false false) := by
  refine returnsInHanded_of_change (C := Try.checked) own started (by kernel_rfl) Try.func5
    (ChangeSpec.witness6 (enc := enc) (C := Try.checked) false ⟨#[], #[.int .u32 0, .int .u8 0, .int .u8 0], []⟩ 8 (by kernel_rfl) (by kernel_rfl) (by kernel_rfl) (by kernel_rfl)) ?_
  intro W base args ds gs before hval hW _ _
  exact law_contract (P := Try.prog) mixed laidOut (fun _ _ h => by cases h) sym run (by kernel_rfl) rfl (by rfl) Try.underlying4
    (fun ds h => by
      have h' : ds.length = 3 := by rw [h, Try.params5]; rfl
      match ds, h' with | [d0, d1, d2], _ => rfl) W base args ds gs before hval hW
theorem over : Rows.fieldTurnsRow.holds Try.pinned (OpenSpec.ofChange Rows.fieldTurnsSpec) :=
  OpenClaim.holds_of_wide 5 Try.f5 rfl rfl rfl rfl rfl rfl rfl ⟨rfl, rfl, rfl, rfl, rfl⟩ rfl rfl rfl rfl rfl (by kernel_rfl) Try.func5 (by kernel_rfl)
    (of_decide_eq_true (by kernel_rfl)) (by unfold Func.isWrapper; first | (rw [if_pos (by decide +kernel)]; kernel_rfl) | (rw [if_neg (by decide +kernel)]; exact ⟨rfl, rfl⟩))
    (fun os started H enc _ => lifted os started H enc)
theorem proved : Rows.FieldTurnsSaid := over
#print axioms proved
end Go.Proofs.Ytcnaapegjhlcdaa.fieldTurns
namespace Go.Proofs.Ytcnaapegjhlcdaa
/-- The row, under a short name, for the claim. -/
theorem fieldTurns_holds : Rows.FieldTurnsSaid := fieldTurns.proved
end Go.Proofs.Ytcnaapegjhlcdaa
