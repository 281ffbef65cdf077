/- PmuCounts: for every input that the statement lets in the law returns true, and the input reads as it did. No condition. -/
import Derived.Test.YthbdkghbkoibdaaSyE
import Derived.Test.YthbdkghbkoibdaaRows
namespace Go.Proofs.Ythbdkghbkoibdaa.PmuCounts
open Go.ChangeShapes Go.WideShapes Go.ChangeAt Go.RowKit Go.Sy
set_option linter.unusedVariables false
theorem own : ownKnob Try.prog.godebug = none := by kernel_rfl
theorem laidOut : laidOutB Try.prog = true := by kernel_rfl
theorem mixed : Try.prog.follows .mixedOrders = true := by kernel_rfl
/-- What stays in a loop that counts one event: the counter's value is a sum. -/
noncomputable def lh (s m : Nat) (base : Tm) : LH := ⟨[], [[⟨s, []⟩], [⟨8, [11]⟩]], [.bin .ult 64 (.var 1048576 64) (.lit 256), .un .bnot 1 (.bin .ult 64 (.var m 8) (.var 1048576 64)), .bin .eq 64 (.var 1048577 64) (.bin .add 64 base (.var 1048576 64))], 0, 255⟩
/-- And in one that counts nothing. -/
noncomputable def lh0 (s : Nat) : LH := ⟨[], [[⟨s, []⟩]], [.bin .ult 64 (.var 1048576 64) (.lit 256)], 0, 255⟩
noncomputable def hints1 : List LK := [⟨12, 3, lh 16 2 (.var 4 64)⟩, ⟨16, 3, lh 17 3 (.bin .add 64 (.var 4 64) (.var 2 8))⟩]
noncomputable def hints2 : List LK := [⟨12, 3, lh 16 2 (.var 4 64)⟩, ⟨16, 3, lh0 17⟩]

theorem sym : symArgs Try.prog Try.f3.params.toList 0 = some ([.agg [.int .u8 (.var 0 8), .int .u8 (.var 1 8)], .agg [.int .u8 (.var 2 8), .int .u8 (.var 3 8)], .int .u64 (.var 4 64)], 5) := by kernel_rfl
theorem run0 : (lawRunA (envL Try.prog 60 false hints1) 60 3 [] [.bin .eq 64 (.bin .srem 64 (.var 0 8) (.lit 22)) (.bin .srem 64 (.var 1 8) (.lit 22))] 5 [.agg [.int .u8 (.var 0 8), .int .u8 (.var 1 8)], .agg [.int .u8 (.var 2 8), .int .u8 (.var 3 8)], .int .u64 (.var 4 64)]).good = true := by kernel_rfl
theorem runN : (lawRunA (envL Try.prog 60 false hints2) 60 3 [] [.un .bnot 1 (.bin .eq 64 (.bin .srem 64 (.var 0 8) (.lit 22)) (.bin .srem 64 (.var 1 8) (.lit 22)))] 5 [.agg [.int .u8 (.var 0 8), .int .u8 (.var 1 8)], .agg [.int .u8 (.var 2 8), .int .u8 (.var 3 8)], .int .u64 (.var 4 64)]).good = true := by kernel_rfl
theorem runs (σ : Nat → Nat) (vs : List Value) (w : World) (hd : DenLC 5 σ (fun _ => none) [.agg [.int .u8 (.var 0 8), .int .u8 (.var 1 8)], .agg [.int .u8 (.var 2 8), .int .u8 (.var 3 8)], .int .u64 (.var 4 64)] vs) : Calls Try.prog 3 vs.toArray w fun e w' => e = .returned (.bool true) ∧ Below w.heap.size w w' := by
  by_cases h0 : (Tm.bin .eq 64 (.bin .srem 64 (.var 0 8) (.lit 22)) (.bin .srem 64 (.var 1 8) (.lit 22)) : Tm).ev σ ≠ 0
  · exact part_runL (svs := ([.agg [.int .u8 (.var 0 8), .int .u8 (.var 1 8)], .agg [.int .u8 (.var 2 8), .int .u8 (.var 3 8)], .int .u64 (.var 4 64)], 5)) mixed run0 (fun _ _ h => by cases h) σ (all_cons h0 all_nil) vs w hd
  exact part_runL (svs := ([.agg [.int .u8 (.var 0 8), .int .u8 (.var 1 8)], .agg [.int .u8 (.var 2 8), .int .u8 (.var 3 8)], .int .u64 (.var 4 64)], 5)) mixed runN (fun _ _ h => by cases h) σ (all_cons (not_ne h0) all_nil) vs w hd
set_option maxRecDepth 100000 in
theorem lifted (os : Os) (started : os.Started) (H : Type) (enc : TypeId × Value → H) :
    ReturnsInHanded {} Try.checked os 3 .any (Rows.pmuCountsSpec.pre6 enc Try.prog Try.f3 Rows.pmuCountsRow.domain false) (Rows.pmuCountsSpec.post enc Try.prog Try.f3 false true false false) := by
  refine returnsInHanded_of_change (C := Try.checked) own started (by kernel_rfl) Try.func3
    (ChangeSpec.witness6 (enc := enc) (C := Try.checked) false ⟨#[], #[.agg #[.int .u8 0, .int .u8 0], .agg #[.int .u8 0, .int .u8 0], .int .u64 0], []⟩ 8 (by kernel_rfl) (by kernel_rfl) (by kernel_rfl) (by kernel_rfl)) ?_
  intro W base args ds gs before hval hW _ _
  exact law_contract (P := Try.prog) laidOut sym runs (by kernel_rfl) rfl (by rfl) Try.underlying4
    (fun ds h => by
      have h' : ds.length = 3 := by rw [h, Try.params3]; rfl
      match ds, h' with | [d0, d1, d2], _ => rfl) W base args ds gs before hval hW
theorem over : Rows.pmuCountsRow.holds Try.pinned (OpenSpec.ofChange Rows.pmuCountsSpec) :=
  OpenClaim.holds_of_wide 3 Try.f3 rfl rfl rfl rfl rfl rfl rfl ⟨rfl, rfl, rfl, rfl, rfl⟩ rfl rfl rfl rfl rfl (by kernel_rfl) Try.func3 (by kernel_rfl)
    (of_decide_eq_true (by kernel_rfl)) (by unfold Func.isWrapper; first | (rw [if_pos (by decide +kernel)]; kernel_rfl) | (rw [if_neg (by decide +kernel)]; exact ⟨rfl, rfl⟩))
    (fun os started H enc _ => lifted os started H enc)
theorem proved : Rows.PmuCountsSaid := over
#print axioms proved
end Go.Proofs.Ythbdkghbkoibdaa.PmuCounts
namespace Go.Proofs.Ythbdkghbkoibdaa
/-- The row, under a short name, for the claim. -/
theorem pmuCounts_holds : Rows.PmuCountsSaid := PmuCounts.proved
end Go.Proofs.Ythbdkghbkoibdaa
