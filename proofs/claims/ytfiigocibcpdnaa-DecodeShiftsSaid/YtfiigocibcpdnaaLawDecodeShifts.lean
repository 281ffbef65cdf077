/- DecodeShifts: for every input that the statement lets in the law returns true, and the input reads as it did. No condition. -/
import Derived.Test.YtfiigocibcpdnaaSyE
import Derived.Test.YtfiigocibcpdnaaRows
namespace Go.Proofs.Ytfiigocibcpdnaa.DecodeShifts
open Go.ChangeShapes Go.WideShapes Go.ChangeAt Go.RowKit Go.Sy
set_option linter.unusedVariables false
theorem own : ownKnob Try.prog.godebug = none := by kernel_rfl
theorem laidOut : laidOutB Try.prog = true := by kernel_rfl
theorem mixed : Try.prog.follows .mixedOrders = true := by kernel_rfl

theorem sym : symArgs Try.prog Try.f8.params.toList 0 = some ([.agg [.int .u8 (.var 0 8), .int .u8 (.var 1 8)], .agg [.int .u8 (.var 2 8), .int .u8 (.var 3 8)], .agg [.int .u8 (.var 4 8), .int .u8 (.var 5 8)]], 6) := by kernel_rfl
theorem run0 : (lawRunA (env0 Try.prog 100 false) 100 8 [] [.bin .and 8 (.var 5 8) (.lit 1), .bin .and 8 (.var 5 8) (.lit 2)] 6 [.agg [.int .u8 (.var 0 8), .int .u8 (.var 1 8)], .agg [.int .u8 (.var 2 8), .int .u8 (.var 3 8)], .agg [.int .u8 (.var 4 8), .int .u8 (.var 5 8)]]).good = true := by kernel_rfl
theorem run1 : (lawRunA (env0 Try.prog 100 false) 100 8 [] [.bin .and 8 (.var 5 8) (.lit 1), .un .bnot 1 (.bin .and 8 (.var 5 8) (.lit 2))] 6 [.agg [.int .u8 (.var 0 8), .int .u8 (.var 1 8)], .agg [.int .u8 (.var 2 8), .int .u8 (.var 3 8)], .agg [.int .u8 (.var 4 8), .int .u8 (.var 5 8)]]).good = true := by kernel_rfl
theorem run2 : (lawRunA (env0 Try.prog 100 false) 100 8 [] [.un .bnot 1 (.bin .and 8 (.var 5 8) (.lit 1)), .bin .and 8 (.var 5 8) (.lit 2)] 6 [.agg [.int .u8 (.var 0 8), .int .u8 (.var 1 8)], .agg [.int .u8 (.var 2 8), .int .u8 (.var 3 8)], .agg [.int .u8 (.var 4 8), .int .u8 (.var 5 8)]]).good = true := by kernel_rfl
theorem run3 : (lawRunA (env0 Try.prog 100 false) 100 8 [] [.un .bnot 1 (.bin .and 8 (.var 5 8) (.lit 1)), .un .bnot 1 (.bin .and 8 (.var 5 8) (.lit 2))] 6 [.agg [.int .u8 (.var 0 8), .int .u8 (.var 1 8)], .agg [.int .u8 (.var 2 8), .int .u8 (.var 3 8)], .agg [.int .u8 (.var 4 8), .int .u8 (.var 5 8)]]).good = true := by kernel_rfl
theorem runs (σ : Nat → Nat) (vs : List Value) (w : World) (hd : DenLC 6 σ (fun _ => none) [.agg [.int .u8 (.var 0 8), .int .u8 (.var 1 8)], .agg [.int .u8 (.var 2 8), .int .u8 (.var 3 8)], .agg [.int .u8 (.var 4 8), .int .u8 (.var 5 8)]] vs) : Calls Try.prog 8 vs.toArray w fun e w' => e = .returned (.bool true) ∧ Below w.heap.size w w' := by
  by_cases h0 : (Tm.bin .and 8 (.var 5 8) (.lit 1) : Tm).ev σ ≠ 0
  · skip
    by_cases h1 : (Tm.bin .and 8 (.var 5 8) (.lit 2) : Tm).ev σ ≠ 0
    · skip
      exact part_run (svs := ([.agg [.int .u8 (.var 0 8), .int .u8 (.var 1 8)], .agg [.int .u8 (.var 2 8), .int .u8 (.var 3 8)], .agg [.int .u8 (.var 4 8), .int .u8 (.var 5 8)]], 6)) mixed run0 (fun _ _ h => by cases h) σ (all_cons h0 (all_cons h1 all_nil)) vs w hd
    · skip
      exact part_run (svs := ([.agg [.int .u8 (.var 0 8), .int .u8 (.var 1 8)], .agg [.int .u8 (.var 2 8), .int .u8 (.var 3 8)], .agg [.int .u8 (.var 4 8), .int .u8 (.var 5 8)]], 6)) mixed run1 (fun _ _ h => by cases h) σ (all_cons h0 (all_cons (not_ne h1) all_nil)) vs w hd
  · skip
    by_cases h1 : (Tm.bin .and 8 (.var 5 8) (.lit 2) : Tm).ev σ ≠ 0
    · skip
      exact part_run (svs := ([.agg [.int .u8 (.var 0 8), .int .u8 (.var 1 8)], .agg [.int .u8 (.var 2 8), .int .u8 (.var 3 8)], .agg [.int .u8 (.var 4 8), .int .u8 (.var 5 8)]], 6)) mixed run2 (fun _ _ h => by cases h) σ (all_cons (not_ne h0) (all_cons h1 all_nil)) vs w hd
    · skip
      exact part_run (svs := ([.agg [.int .u8 (.var 0 8), .int .u8 (.var 1 8)], .agg [.int .u8 (.var 2 8), .int .u8 (.var 3 8)], .agg [.int .u8 (.var 4 8), .int .u8 (.var 5 8)]], 6)) mixed run3 (fun _ _ h => by cases h) σ (all_cons (not_ne h0) (all_cons (not_ne h1) all_nil)) vs w hd
set_option maxRecDepth 100000 in
theorem lifted (os : Os) (started : os.Started) (H : Type) (enc : TypeId × Value → H) :
    ReturnsInHanded {} Try.checked os 8 .any (Rows.decodeShiftsSpec.pre6 enc Try.prog Try.f8 Rows.decodeShiftsRow.domain false) (Rows.decodeShiftsSpec.post enc Try.prog Try.f8 false true false false) := by
  refine returnsInHanded_of_change (C := Try.checked) own started (by kernel_rfl) Try.func8
    (ChangeSpec.witness6 (enc := enc) (C := Try.checked) false ⟨#[], #[.agg #[.int .u8 0, .int .u8 0], .agg #[.int .u8 0, .int .u8 0], .agg #[.int .u8 0, .int .u8 0]], []⟩ 8 (by kernel_rfl) (by kernel_rfl) (by kernel_rfl) (by kernel_rfl)) ?_
  intro W base args ds gs before hval hW _ _
  exact law_contract (P := Try.prog) laidOut sym runs (by kernel_rfl) rfl (by rfl) Try.underlying4
    (fun ds h => by
      have h' : ds.length = 3 := by rw [h, Try.params8]; rfl
      match ds, h' with | [d0, d1, d2], _ => rfl) W base args ds gs before hval hW
theorem over : Rows.decodeShiftsRow.holds Try.pinned (OpenSpec.ofChange Rows.decodeShiftsSpec) :=
  OpenClaim.holds_of_wide 8 Try.f8 rfl rfl rfl rfl rfl rfl rfl ⟨rfl, rfl, rfl, rfl, rfl⟩ rfl rfl rfl rfl rfl (by kernel_rfl) Try.func8 (by kernel_rfl)
    (of_decide_eq_true (by kernel_rfl)) (by unfold Func.isWrapper; first | (rw [if_pos (by decide +kernel)]; kernel_rfl) | (rw [if_neg (by decide +kernel)]; exact ⟨rfl, rfl⟩))
    (fun os started H enc _ => lifted os started H enc)
theorem proved : Rows.DecodeShiftsSaid := over
#print axioms proved
end Go.Proofs.Ytfiigocibcpdnaa.DecodeShifts
namespace Go.Proofs.Ytfiigocibcpdnaa
/-- The row, under a short name, for the claim. -/
theorem decodeShifts_holds : Rows.DecodeShiftsSaid := DecodeShifts.proved
end Go.Proofs.Ytfiigocibcpdnaa
