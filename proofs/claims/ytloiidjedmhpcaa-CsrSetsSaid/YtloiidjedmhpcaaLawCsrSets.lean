/- CsrSets: for every input that the statement lets in the law returns true, and the input reads as it did. No condition. -/
import Derived.Test.YtloiidjedmhpcaaLawCsrSetsP
import Derived.Test.YtloiidjedmhpcaaLawCsrSetsR0
import Derived.Test.YtloiidjedmhpcaaLawCsrSetsR1
import Derived.Test.YtloiidjedmhpcaaLawCsrSetsR2
namespace Go.Proofs.Ytloiidjedmhpcaa.CsrSets
open Go.ChangeShapes Go.WideShapes Go.ChangeAt Go.RowKit Go.Sy
set_option linter.unusedVariables false
theorem own : ownKnob Try.prog.godebug = none := by kernel_rfl
theorem laidOut : laidOutB Try.prog = true := by kernel_rfl
theorem mixed : Try.prog.follows .mixedOrders = true := by kernel_rfl
theorem kinds : argK Try.prog 8 Try.f8.params.toList = some ([some 12, some 5], ks) := by kernel_rfl
theorem trues : ∀ f ∈ ([] : List Nat), TrueFn Try.prog f := by
  intro f hf
  cases hf
theorem rune0 : anse0.good = true := by
  have h0 := rune0_0
  have h1 := goodT_or _ _ _ h0 rune0_1
  have h2 := goodT_or _ _ _ h1 rune0_2
  have e : (PT.or (PT.or ((.node (.node .skip (.node .skip (.node .skip (.node .skip (.node .skip (.node .skip (.node .skip (.node .skip (.node .skip (.node .skip (.node .skip .all))))))))))) .all) : PT) (.node (.node .skip (.node .skip (.node .skip (.node .skip (.node .skip (.node .skip (.node .skip (.node .skip (.node (.node .skip .all) (.node .all (.node .all .skip))))))))))) .skip)) (.node (.node .all (.node .all (.node .all (.node .all (.node .all (.node .all (.node .all (.node .all (.node (.node .all .skip) .skip))))))))) .skip)) = PT.all := by kernel_rfl
  rw [← goodT_all, ← e]
  exact h2
theorem runs_e (σ : Nat → Nat) (vs : List Value) (w : World) (bl : List (Nat × Nat)) (hd : EntryOk w sa_e [some 12, some 5] σ vs bl) : Calls Try.prog 8 vs.toArray w fun e w' => e = .returned (.bool true) ∧ Below w.heap.size w w' := by
  exact part_runT mixed trues rune0 (fun _ _ h => by cases h) σ all_nil vs w bl hd
theorem pick : ∀ nl : List Bool, nl.length = nsl ks → ∃ sa, symK ks nl 0 4294967296 0 = some sa ∧ sa.i ≤ 2 ^ 40 ∧ ∀ (σ : Nat → Nat) (vs : List Value) (w : World) (bl : List (Nat × Nat)), EntryOk w sa [some 12, some 5] σ vs bl → Calls Try.prog 8 vs.toArray w fun e w' => e = .returned (.bool true) ∧ Below w.heap.size w w' := by
  intro nl hl
  have hl : nl.length = 0 := hl
  match nl, hl with
  | [], _ => exact ⟨sa_e, by kernel_rfl, of_nble (by kernel_rfl), runs_e⟩
set_option maxRecDepth 100000 in
theorem lifted (os : Os) (started : os.Started) (H : Type) (enc : TypeId × Value → H) :
    ReturnsInHanded {} Try.checked os 8 .any (Rows.csrSetsSpec.pre6 enc Try.prog Try.f8 Rows.csrSetsRow.domain false) (Rows.csrSetsSpec.post enc Try.prog Try.f8 false true false false) := by
  refine returnsInHanded_of_change (C := Try.checked) own started (by kernel_rfl) Try.func8
    (ChangeSpec.witness6 (enc := enc) (C := Try.checked) false ⟨#[], #[.agg #[.int .u64 0, .int .u64 0, .int .u64 0, .int .u64 0, .int .u64 0, .int .u64 0, .int .u64 0, .int .u64 0, .int .u64 0, .int .u64 0, .int .u64 0, .int .u64 0], .agg #[.int .i64 0, .int .i64 0, .bool false, .int .u64 0, .int .u64 0]], []⟩ 8 (by kernel_rfl) (by kernel_rfl) (by kernel_rfl) (by kernel_rfl)) ?_
  intro W base args ds gs before hval hW _ _
  exact law_contractA (P := Try.prog) laidOut kinds pick (by kernel_rfl) rfl (by rfl) Try.underlying4
    (fun ds h => by
      have h' : ds.length = 2 := by rw [h, Try.params8]; rfl
      match ds, h' with | [d0, d1], _ => rfl) W base args ds gs before hval hW
theorem over : Rows.csrSetsRow.holds Try.pinned (OpenSpec.ofChange Rows.csrSetsSpec) :=
  OpenClaim.holds_of_wide 8 Try.f8 rfl rfl rfl rfl rfl rfl rfl ⟨rfl, rfl, rfl, rfl, rfl⟩ rfl rfl rfl rfl rfl (by kernel_rfl) Try.func8 (by kernel_rfl)
    (of_decide_eq_true (by kernel_rfl)) (by unfold Func.isWrapper; first | (rw [if_pos (by decide +kernel)]; kernel_rfl) | (rw [if_neg (by decide +kernel)]; exact ⟨rfl, rfl⟩))
    (fun os started H enc _ => lifted os started H enc)
theorem proved : Rows.CsrSetsSaid := over
#print axioms proved
end Go.Proofs.Ytloiidjedmhpcaa.CsrSets
namespace Go.Proofs.Ytloiidjedmhpcaa
/-- The row, under a short name, for the claim. -/
theorem csrSets_holds : Rows.CsrSetsSaid := CsrSets.proved
end Go.Proofs.Ytloiidjedmhpcaa
