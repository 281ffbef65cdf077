/- CsrCounters: for every input that the statement lets in the law returns true, and the input reads as it did. No condition. -/
import Derived.Test.YtloiidjedmhpcaaSyE
import Derived.Test.YtloiidjedmhpcaaRows
namespace Go.Proofs.Ytloiidjedmhpcaa.CsrCounters
open Go.ChangeShapes Go.WideShapes Go.ChangeAt Go.RowKit Go.Sy
set_option linter.unusedVariables false
theorem own : ownKnob Try.prog.godebug = none := by kernel_rfl
theorem laidOut : laidOutB Try.prog = true := by kernel_rfl
theorem mixed : Try.prog.follows .mixedOrders = true := by kernel_rfl

theorem sym : symArgs Try.prog Try.f7.params.toList 0 = some ([.agg [.int .u64 (.var 0 64), .int .u64 (.var 1 64), .int .u64 (.var 2 64), .int .u64 (.var 3 64), .int .u64 (.var 4 64), .int .u64 (.var 5 64), .int .u64 (.var 6 64), .int .u64 (.var 7 64), .int .u64 (.var 8 64), .int .u64 (.var 9 64), .int .u64 (.var 10 64), .int .u64 (.var 11 64)], .int .u64 (.var 12 64)], 13) := by kernel_rfl
theorem run : (lawRun (env0 Try.prog 30 false) 60 7 [] 13 [.agg [.int .u64 (.var 0 64), .int .u64 (.var 1 64), .int .u64 (.var 2 64), .int .u64 (.var 3 64), .int .u64 (.var 4 64), .int .u64 (.var 5 64), .int .u64 (.var 6 64), .int .u64 (.var 7 64), .int .u64 (.var 8 64), .int .u64 (.var 9 64), .int .u64 (.var 10 64), .int .u64 (.var 11 64)], .int .u64 (.var 12 64)]).good = true := by kernel_rfl
set_option maxRecDepth 100000 in
theorem lifted (os : Os) (started : os.Started) (H : Type) (enc : TypeId × Value → H) :
    ReturnsInHanded {} Try.checked os 7 .any (Rows.csrCountersSpec.pre6 enc Try.prog Try.f7 Rows.csrCountersRow.domain false) (Rows.csrCountersSpec.post enc Try.prog Try.f7 false true false false) := by
  refine returnsInHanded_of_change (C := Try.checked) own started (by kernel_rfl) Try.func7
    (ChangeSpec.witness6 (enc := enc) (C := Try.checked) false ⟨#[], #[.agg #[.int .u64 0, .int .u64 0, .int .u64 0, .int .u64 0, .int .u64 0, .int .u64 0, .int .u64 0, .int .u64 0, .int .u64 0, .int .u64 0, .int .u64 0, .int .u64 0], .int .u64 0], []⟩ 8 (by kernel_rfl) (by kernel_rfl) (by kernel_rfl) (by kernel_rfl)) ?_
  intro W base args ds gs before hval hW _ _
  exact law_contract (P := Try.prog) laidOut sym (one_run (svs := ([.agg [.int .u64 (.var 0 64), .int .u64 (.var 1 64), .int .u64 (.var 2 64), .int .u64 (.var 3 64), .int .u64 (.var 4 64), .int .u64 (.var 5 64), .int .u64 (.var 6 64), .int .u64 (.var 7 64), .int .u64 (.var 8 64), .int .u64 (.var 9 64), .int .u64 (.var 10 64), .int .u64 (.var 11 64)], .int .u64 (.var 12 64)], 13)) mixed run (fun _ _ h => by cases h)) (by kernel_rfl) rfl (by rfl) Try.underlying4
    (fun ds h => by
      have h' : ds.length = 2 := by rw [h, Try.params7]; rfl
      match ds, h' with | [d0, d1], _ => rfl) W base args ds gs before hval hW
theorem over : Rows.csrCountersRow.holds Try.pinned (OpenSpec.ofChange Rows.csrCountersSpec) :=
  OpenClaim.holds_of_wide 7 Try.f7 rfl rfl rfl rfl rfl rfl rfl ⟨rfl, rfl, rfl, rfl, rfl⟩ rfl rfl rfl rfl rfl (by kernel_rfl) Try.func7 (by kernel_rfl)
    (of_decide_eq_true (by kernel_rfl)) (by unfold Func.isWrapper; first | (rw [if_pos (by decide +kernel)]; kernel_rfl) | (rw [if_neg (by decide +kernel)]; exact ⟨rfl, rfl⟩))
    (fun os started H enc _ => lifted os started H enc)
theorem proved : Rows.CsrCountersSaid := over
#print axioms proved
end Go.Proofs.Ytloiidjedmhpcaa.CsrCounters
namespace Go.Proofs.Ytloiidjedmhpcaa
/-- The row, under a short name, for the claim. -/
theorem csrCounters_holds : Rows.CsrCountersSaid := CsrCounters.proved
end Go.Proofs.Ytloiidjedmhpcaa
