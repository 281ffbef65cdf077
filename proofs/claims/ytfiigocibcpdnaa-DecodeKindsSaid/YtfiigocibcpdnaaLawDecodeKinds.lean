/- DecodeKinds: for every input that the statement lets in the law returns true, and the input reads as it did. No condition. -/
import Derived.Test.YtfiigocibcpdnaaSyE
import Derived.Test.YtfiigocibcpdnaaRows
namespace Go.Proofs.Ytfiigocibcpdnaa.DecodeKinds
open Go.ChangeShapes Go.WideShapes Go.ChangeAt Go.RowKit Go.Sy
set_option linter.unusedVariables false
theorem own : ownKnob Try.prog.godebug = none := by kernel_rfl
theorem laidOut : laidOutB Try.prog = true := by kernel_rfl
theorem mixed : Try.prog.follows .mixedOrders = true := by kernel_rfl

theorem sym : symArgs Try.prog Try.f7.params.toList 0 = some ([.int .i64 (.var 0 64)], 1) := by kernel_rfl
theorem run : (lawRun (env0 Try.prog 100 false) 100 7 [] 1 [.int .i64 (.var 0 64)]).good = true := by kernel_rfl
set_option maxRecDepth 100000 in
theorem lifted (os : Os) (started : os.Started) (H : Type) (enc : TypeId × Value → H) :
    ReturnsInHanded {} Try.checked os 7 .any (Rows.decodeKindsSpec.pre6 enc Try.prog Try.f7 Rows.decodeKindsRow.domain false) (Rows.decodeKindsSpec.post enc Try.prog Try.f7 false true false false) := by
  refine returnsInHanded_of_change (C := Try.checked) own started (by kernel_rfl) Try.func7
    (ChangeSpec.witness6 (enc := enc) (C := Try.checked) false ⟨#[], #[.int .i64 0], []⟩ 8 (by kernel_rfl) (by kernel_rfl) (by kernel_rfl) (by kernel_rfl)) ?_
  intro W base args ds gs before hval hW _ _
  exact law_contract (P := Try.prog) laidOut sym (one_run (svs := ([.int .i64 (.var 0 64)], 1)) mixed run (fun _ _ h => by cases h)) (by kernel_rfl) rfl (by rfl) Try.underlying4
    (fun ds h => by
      have h' : ds.length = 1 := by rw [h, Try.params7]; rfl
      match ds, h' with | [d0], _ => rfl) W base args ds gs before hval hW
theorem over : Rows.decodeKindsRow.holds Try.pinned (OpenSpec.ofChange Rows.decodeKindsSpec) :=
  OpenClaim.holds_of_wide 7 Try.f7 rfl rfl rfl rfl rfl rfl rfl ⟨rfl, rfl, rfl, rfl, rfl⟩ rfl rfl rfl rfl rfl (by kernel_rfl) Try.func7 (by kernel_rfl)
    (of_decide_eq_true (by kernel_rfl)) (by unfold Func.isWrapper; first | (rw [if_pos (by decide +kernel)]; kernel_rfl) | (rw [if_neg (by decide +kernel)]; exact ⟨rfl, rfl⟩))
    (fun os started H enc _ => lifted os started H enc)
theorem proved : Rows.DecodeKindsSaid := over
#print axioms proved
end Go.Proofs.Ytfiigocibcpdnaa.DecodeKinds
namespace Go.Proofs.Ytfiigocibcpdnaa
/-- The row, under a short name, for the claim. -/
theorem decodeKinds_holds : Rows.DecodeKindsSaid := DecodeKinds.proved
end Go.Proofs.Ytfiigocibcpdnaa
