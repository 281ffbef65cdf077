/- HsmSleeps: for every input that the statement lets in the law returns true, and the input reads as it did. No condition. -/
import Derived.Test.YtjffninagbmamaaSyE
import Derived.Test.YtjffninagbmamaaRows
import Derived.Test.YtjffninagbmamaaLawHsmSleepsR0
import Derived.Test.YtjffninagbmamaaLawHsmSleepsR1
import Derived.Test.YtjffninagbmamaaLawHsmSleepsR2
namespace Go.Proofs.Ytjffninagbmamaa.HsmSleeps
open Go.ChangeShapes Go.WideShapes Go.ChangeAt Go.RowKit Go.Sy
set_option linter.unusedVariables false
theorem own : ownKnob Try.prog.godebug = none := by kernel_rfl
theorem laidOut : laidOutB Try.prog = true := by kernel_rfl
theorem mixed : Try.prog.follows .mixedOrders = true := by kernel_rfl

theorem sym : symArgs Try.prog Try.f4.params.toList 0 = some ([.int .u8 (.var 0 8), .int .u8 (.var 1 8), .agg [.int .u64 (.var 2 64), .int .u64 (.var 3 64), .bool (.var 4 1)]], 5) := by kernel_rfl
theorem runs (σ : Nat → Nat) (vs : List Value) (w : World) (hd : DenLC 5 σ (fun _ => none) [.int .u8 (.var 0 8), .int .u8 (.var 1 8), .agg [.int .u64 (.var 2 64), .int .u64 (.var 3 64), .bool (.var 4 1)]] vs) : Calls Try.prog 4 vs.toArray w fun e w' => e = .returned (.bool true) ∧ Below w.heap.size w w' := by
  by_cases h0 : (Tm.bin .slt 64 (.bin .srem 64 (.var 1 8) (.lit 21)) (.lit 10) : Tm).ev σ ≠ 0
  · exact part_run (svs := ([.int .u8 (.var 0 8), .int .u8 (.var 1 8), .agg [.int .u64 (.var 2 64), .int .u64 (.var 3 64), .bool (.var 4 1)]], 5)) mixed run0 (fun _ _ h => by cases h) σ (all_cons h0 all_nil) vs w hd
  by_cases h1 : (Tm.bin .slt 64 (.bin .srem 64 (.var 1 8) (.lit 21)) (.lit 14) : Tm).ev σ ≠ 0
  · exact part_run (svs := ([.int .u8 (.var 0 8), .int .u8 (.var 1 8), .agg [.int .u64 (.var 2 64), .int .u64 (.var 3 64), .bool (.var 4 1)]], 5)) mixed run1 (fun _ _ h => by cases h) σ (all_cons h1 (all_cons (not_ne h0) all_nil)) vs w hd
  by_cases h2 : (Tm.bin .slt 64 (.bin .srem 64 (.var 1 8) (.lit 21)) (.lit 17) : Tm).ev σ ≠ 0
  · exact part_run (svs := ([.int .u8 (.var 0 8), .int .u8 (.var 1 8), .agg [.int .u64 (.var 2 64), .int .u64 (.var 3 64), .bool (.var 4 1)]], 5)) mixed run2 (fun _ _ h => by cases h) σ (all_cons h2 (all_cons (not_ne h0) (all_cons (not_ne h1) all_nil))) vs w hd
  by_cases h3 : (Tm.bin .slt 64 (.bin .srem 64 (.var 1 8) (.lit 21)) (.lit 19) : Tm).ev σ ≠ 0
  · exact part_run (svs := ([.int .u8 (.var 0 8), .int .u8 (.var 1 8), .agg [.int .u64 (.var 2 64), .int .u64 (.var 3 64), .bool (.var 4 1)]], 5)) mixed run3 (fun _ _ h => by cases h) σ (all_cons h3 (all_cons (not_ne h0) (all_cons (not_ne h1) (all_cons (not_ne h2) all_nil)))) vs w hd
  exact part_run (svs := ([.int .u8 (.var 0 8), .int .u8 (.var 1 8), .agg [.int .u64 (.var 2 64), .int .u64 (.var 3 64), .bool (.var 4 1)]], 5)) mixed runN (fun _ _ h => by cases h) σ (all_cons (not_ne h0) (all_cons (not_ne h1) (all_cons (not_ne h2) (all_cons (not_ne h3) all_nil)))) vs w hd
set_option maxRecDepth 100000 in
theorem lifted (os : Os) (started : os.Started) (H : Type) (enc : TypeId × Value → H) :
    ReturnsInHanded {} Try.checked os 4 .any (Rows.hsmSleepsSpec.pre6 enc Try.prog Try.f4 Rows.hsmSleepsRow.domain false) (Rows.hsmSleepsSpec.post enc Try.prog Try.f4 false true false false) := by
  refine returnsInHanded_of_change (C := Try.checked) own started (by kernel_rfl) Try.func4
    (ChangeSpec.witness6 (enc := enc) (C := Try.checked) false ⟨#[], #[.int .u8 0, .int .u8 0, .agg #[.int .u64 0, .int .u64 0, .bool false]], []⟩ 8 (by kernel_rfl) (by kernel_rfl) (by kernel_rfl) (by kernel_rfl)) ?_
  intro W base args ds gs before hval hW _ _
  exact law_contract (P := Try.prog) laidOut sym runs (by kernel_rfl) rfl (by rfl) Try.underlying4
    (fun ds h => by
      have h' : ds.length = 3 := by rw [h, Try.params4]; rfl
      match ds, h' with | [d0, d1, d2], _ => rfl) W base args ds gs before hval hW
theorem over : Rows.hsmSleepsRow.holds Try.pinned (OpenSpec.ofChange Rows.hsmSleepsSpec) :=
  OpenClaim.holds_of_wide 4 Try.f4 rfl rfl rfl rfl rfl rfl rfl ⟨rfl, rfl, rfl, rfl, rfl⟩ rfl rfl rfl rfl rfl (by kernel_rfl) Try.func4 (by kernel_rfl)
    (of_decide_eq_true (by kernel_rfl)) (by unfold Func.isWrapper; first | (rw [if_pos (by decide +kernel)]; kernel_rfl) | (rw [if_neg (by decide +kernel)]; exact ⟨rfl, rfl⟩))
    (fun os started H enc _ => lifted os started H enc)
theorem proved : Rows.HsmSleepsSaid := over
#print axioms proved
end Go.Proofs.Ytjffninagbmamaa.HsmSleeps
namespace Go.Proofs.Ytjffninagbmamaa
/-- The row, under a short name, for the claim. -/
theorem hsmSleeps_holds : Rows.HsmSleepsSaid := HsmSleeps.proved
end Go.Proofs.Ytjffninagbmamaa
