/- CompWhole: for every input that the statement lets in the law returns true, and the input reads as it did. No condition. -/
import Derived.Test.YtdmnpmchbobokaaSyE
import Derived.Test.YtdmnpmchbobokaaRows
namespace Go.Proofs.Ytdmnpmchbobokaa.CompWhole
open Go.ChangeShapes Go.WideShapes Go.ChangeAt Go.RowKit Go.Sy
set_option linter.unusedVariables false
theorem own : ownKnob Try.prog.godebug = none := by kernel_rfl
theorem laidOut : laidOutB Try.prog = true := by kernel_rfl
theorem mixed : Try.prog.follows .mixedOrders = true := by kernel_rfl

theorem sym : symArgs Try.prog Try.f4.params.toList 0 = some ([.int .u16 (.var 0 16)], 1) := by kernel_rfl
theorem run : (lawRun (env0 Try.prog 100 false) 100 4 [] 1 [.int .u16 (.var 0 16)]).good = true := by kernel_rfl
set_option maxRecDepth 100000 in
theorem lifted (os : Os) (started : os.Started) (H : Type) (enc : TypeId × Value → H) :
    ReturnsInHanded {} Try.checked os 4 .any (Rows.compWholeSpec.pre6 enc Try.prog Try.f4 Rows.compWholeRow.domain false) (Rows.compWholeSpec.post enc Try.prog Try.f4 false true false false) := by
  refine returnsInHanded_of_change (C := Try.checked) own started (by kernel_rfl) Try.func4
    (ChangeSpec.witness6 (enc := enc) (C := Try.checked) false ⟨#[], #[.int .u16 0], []⟩ 8 (by kernel_rfl) (by kernel_rfl) (by kernel_rfl) (by kernel_rfl)) ?_
  intro W base args ds gs before hval hW _ _
  exact law_contract (P := Try.prog) laidOut sym (one_run (svs := ([.int .u16 (.var 0 16)], 1)) mixed run (fun _ _ h => by cases h)) (by kernel_rfl) rfl (by rfl) Try.underlying4
    (fun ds h => by
      have h' : ds.length = 1 := by rw [h, Try.params4]; rfl
      match ds, h' with | [d0], _ => rfl) W base args ds gs before hval hW
theorem over : Rows.compWholeRow.holds Try.pinned (OpenSpec.ofChange Rows.compWholeSpec) :=
  OpenClaim.holds_of_wide 4 Try.f4 rfl rfl rfl rfl rfl rfl rfl ⟨rfl, rfl, rfl, rfl, rfl⟩ rfl rfl rfl rfl rfl (by kernel_rfl) Try.func4 (by kernel_rfl)
    (of_decide_eq_true (by kernel_rfl)) (by unfold Func.isWrapper; first | (rw [if_pos (by decide +kernel)]; kernel_rfl) | (rw [if_neg (by decide +kernel)]; exact ⟨rfl, rfl⟩))
    (fun os started H enc _ => lifted os started H enc)
theorem proved : Rows.CompWholeSaid := over
#print axioms proved
end Go.Proofs.Ytdmnpmchbobokaa.CompWhole
namespace Go.Proofs.Ytdmnpmchbobokaa
/-- The row, under a short name, for the claim. -/
theorem compWhole_holds : Rows.CompWholeSaid := CompWhole.proved
end Go.Proofs.Ytdmnpmchbobokaa
