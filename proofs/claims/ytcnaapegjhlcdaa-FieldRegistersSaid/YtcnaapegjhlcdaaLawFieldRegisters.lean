/- FieldRegisters: for every input that the statement lets in the law returns true, and the input reads as it did. No condition. -/
import Derived.Test.YtcnaapegjhlcdaaSxC
import Derived.Test.YtcnaapegjhlcdaaRows
namespace Go.Proofs.Ytcnaapegjhlcdaa.fieldRegisters
open Go.ChangeShapes Go.WideShapes Go.ChangeAt Go.RowKit Go.Sx
set_option linter.unusedVariables false
theorem own : ownKnob Try.prog.godebug = none := by kernel_rfl
theorem laidOut : laidOutB Try.prog = true := by kernel_rfl
theorem mixed : Try.prog.follows .mixedOrders = true := by kernel_rfl

theorem sym : symArgs Try.prog Try.f6.params.toList 0 = some [.int .u32 (.var 0 32), .agg [.int .u8 (.var 1 8), .int .u8 (.var 2 8), .int .u8 (.var 3 8)]] := by kernel_rfl
theorem run : lawRun Try.prog 100 60 6 [] [.int .u32 (.var 0 32), .agg [.int .u8 (.var 1 8), .int .u8 (.var 2 8), .int .u8 (.var 3 8)]] = true := by kernel_rfl
set_option maxRecDepth 100000 in
theorem lifted (os : Os) (started : os.Started) (H : Type) (enc : TypeId × Value → H) :
    ReturnsInHanded {} Try.checked os 6 .any (Rows.fieldRegistersSpec.pre6 enc Try.prog Try.f6 Rows.fieldRegistersRow.domain false) (Rows.fieldRegistersSpec.post enc Try.prog Try.f6 false true false false) := by
  refine returnsInHanded_of_change (C := Try.checked) own started (by kernel_rfl) Try.func6
    (ChangeSpec.witness6 (enc := enc) (C := Try.checked) false ⟨#[], #[.int .u32 0, .agg #[.int .u8 0, .int .u8 0, .int .u8 0]], []⟩ 8 (by kernel_rfl) (by kernel_rfl) (by kernel_rfl) (by kernel_rfl)) ?_
  intro W base args ds gs before hval hW _ _
  exact law_contract (P := Try.prog) mixed laidOut (fun _ _ h => by cases h) sym run (by kernel_rfl) rfl (by rfl) Try.underlying4
    (fun ds h => by
      have h' : ds.length = 2 := by rw [h, Try.params6]; rfl
      match ds, h' with | [d0, d1], _ => rfl) W base args ds gs before hval hW
theorem over : Rows.fieldRegistersRow.holds Try.pinned (OpenSpec.ofChange Rows.fieldRegistersSpec) :=
  OpenClaim.holds_of_wide 6 Try.f6 rfl rfl rfl rfl rfl rfl rfl ⟨rfl, rfl, rfl, rfl, rfl⟩ rfl rfl rfl rfl rfl (by kernel_rfl) Try.func6 (by kernel_rfl)
    (of_decide_eq_true (by kernel_rfl)) (by unfold Func.isWrapper; first | (rw [if_pos (by decide +kernel)]; kernel_rfl) | (rw [if_neg (by decide +kernel)]; exact ⟨rfl, rfl⟩))
    (fun os started H enc _ => lifted os started H enc)
theorem proved : Rows.FieldRegistersSaid := over
#print axioms proved
end Go.Proofs.Ytcnaapegjhlcdaa.fieldRegisters
namespace Go.Proofs.Ytcnaapegjhlcdaa
/-- The row, under a short name, for the claim. -/
theorem fieldRegisters_holds : Rows.FieldRegistersSaid := fieldRegisters.proved
end Go.Proofs.Ytcnaapegjhlcdaa
