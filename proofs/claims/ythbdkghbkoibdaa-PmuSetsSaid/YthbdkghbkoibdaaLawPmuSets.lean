/- PmuSets: for every input that the statement lets in the law returns true, and the input reads as it did. No condition. -/
import Derived.Test.YthbdkghbkoibdaaLawPmuSetsP
import Derived.Test.YthbdkghbkoibdaaLawPmuSetsR0
import Derived.Test.YthbdkghbkoibdaaLawPmuSetsR1
import Derived.Test.YthbdkghbkoibdaaLawPmuSetsR2
import Derived.Test.YthbdkghbkoibdaaLawPmuSetsR3
import Derived.Test.YthbdkghbkoibdaaLawPmuSetsR4
import Derived.Test.YthbdkghbkoibdaaLawPmuSetsR5
import Derived.Test.YthbdkghbkoibdaaLawPmuSetsR6
import Derived.Test.YthbdkghbkoibdaaLawPmuSetsR7
import Derived.Test.YthbdkghbkoibdaaLawPmuSetsR8
namespace Go.Proofs.Ythbdkghbkoibdaa.PmuSets
open Go.ChangeShapes Go.WideShapes Go.ChangeAt Go.RowKit Go.Sy
set_option linter.unusedVariables false
theorem own : ownKnob Try.prog.godebug = none := by kernel_rfl
theorem laidOut : laidOutB Try.prog = true := by kernel_rfl
theorem mixed : Try.prog.follows .mixedOrders = true := by kernel_rfl
theorem kinds : argK Try.prog 8 Try.f4.params.toList = some ([none, none, some 2], ks) := by kernel_rfl
theorem runs_e (σ : Nat → Nat) (vs : List Value) (w : World) (bl : List (Nat × Nat)) (hd : EntryOk w sa_e [none, none, some 2] σ vs bl) : Calls Try.prog 4 vs.toArray w fun e w' => e = .returned (.bool true) ∧ Below w.heap.size w w' := by
  by_cases h0 : (Tm.bin .ult 64 (.var 0 64) (.lit 6) : Tm).ev σ ≠ 0
  · skip
    by_cases h1 : (Tm.bin .eq 64 (.var 0 64) (.lit 0) : Tm).ev σ ≠ 0
    · skip
      by_cases h2 : (Tm.bin .eq 64 (.bin .shr 64 (.var 1 64) (.lit 4)) (.lit 0) : Tm).ev σ ≠ 0
      · skip
        exact part_runB mixed rune0 (fun _ _ h => by cases h) σ (all_cons h1 (all_cons h2 all_nil)) vs w bl hd
      · skip
        by_cases h3 : (Tm.bin .eq 64 (.bin .and 64 (.var 1 64) (.lit 1)) (.lit 0) : Tm).ev σ ≠ 0
        · skip
          by_cases h4 : (Tm.bin .eq 64 (.bin .and 64 (.bin .shr 64 (.var 1 64) (.lit 1)) (.lit 1)) (.lit 0) : Tm).ev σ ≠ 0
          · skip
            exact part_runB mixed rune1 (fun _ _ h => by cases h) σ (all_cons h1 (all_cons (not_ne h2) (all_cons h3 (all_cons h4 all_nil)))) vs w bl hd
          · skip
            exact part_runB mixed rune2 (fun _ _ h => by cases h) σ (all_cons h1 (all_cons (not_ne h2) (all_cons h3 (all_cons (not_ne h4) all_nil)))) vs w bl hd
        · skip
          by_cases h4 : (Tm.bin .eq 64 (.bin .and 64 (.bin .shr 64 (.var 1 64) (.lit 1)) (.lit 1)) (.lit 0) : Tm).ev σ ≠ 0
          · skip
            exact part_runB mixed rune3 (fun _ _ h => by cases h) σ (all_cons h1 (all_cons (not_ne h2) (all_cons (not_ne h3) (all_cons h4 all_nil)))) vs w bl hd
          · skip
            exact part_runB mixed rune4 (fun _ _ h => by cases h) σ (all_cons h1 (all_cons (not_ne h2) (all_cons (not_ne h3) (all_cons (not_ne h4) all_nil)))) vs w bl hd
    · skip
      by_cases h2 : (Tm.bin .eq 64 (.var 0 64) (.lit 1) : Tm).ev σ ≠ 0
      · skip
        by_cases h3 : (Tm.bin .eq 64 (.bin .shr 64 (.var 1 64) (.lit 4)) (.lit 0) : Tm).ev σ ≠ 0
        · skip
          exact part_runB mixed rune5 (fun _ _ h => by cases h) σ (all_cons h2 (all_cons h3 all_nil)) vs w bl hd
        · skip
          by_cases h4 : (Tm.bin .eq 64 (.bin .and 64 (.var 1 64) (.lit 1)) (.lit 0) : Tm).ev σ ≠ 0
          · skip
            exact part_runB mixed rune6 (fun _ _ h => by cases h) σ (all_cons h2 (all_cons (not_ne h3) (all_cons h4 all_nil))) vs w bl hd
          · skip
            exact part_runB mixed rune7 (fun _ _ h => by cases h) σ (all_cons h2 (all_cons (not_ne h3) (all_cons (not_ne h4) all_nil))) vs w bl hd
      · skip
        by_cases h3 : (Tm.bin .eq 64 (.var 0 64) (.lit 2) : Tm).ev σ ≠ 0
        · skip
          by_cases h4 : (Tm.bin .eq 64 (.bin .shr 64 (.var 1 64) (.lit 4)) (.lit 0) : Tm).ev σ ≠ 0
          · skip
            exact part_runB mixed rune8 (fun _ _ h => by cases h) σ (all_cons h3 (all_cons h4 all_nil)) vs w bl hd
          · skip
            exact part_runB mixed rune9 (fun _ _ h => by cases h) σ (all_cons h3 (all_cons (not_ne h4) all_nil)) vs w bl hd
        · skip
          by_cases h4 : (Tm.bin .eq 64 (.var 0 64) (.lit 3) : Tm).ev σ ≠ 0
          · skip
            by_cases h5 : (Tm.bin .eq 64 (.bin .shr 64 (.var 1 64) (.lit 4)) (.lit 0) : Tm).ev σ ≠ 0
            · skip
              exact part_runB mixed rune10 (fun _ _ h => by cases h) σ (all_cons h4 (all_cons h5 all_nil)) vs w bl hd
            · skip
              exact part_runB mixed rune11 (fun _ _ h => by cases h) σ (all_cons h4 (all_cons (not_ne h5) all_nil)) vs w bl hd
          · skip
            by_cases h5 : (Tm.bin .eq 64 (.var 0 64) (.lit 4) : Tm).ev σ ≠ 0
            · skip
              by_cases h6 : (Tm.bin .eq 64 (.bin .shr 64 (.var 1 64) (.lit 1)) (.lit 0) : Tm).ev σ ≠ 0
              · skip
                exact part_runB mixed rune12 (fun _ _ h => by cases h) σ (all_cons h5 (all_cons h6 all_nil)) vs w bl hd
              · skip
                exact part_runB mixed rune13 (fun _ _ h => by cases h) σ (all_cons h5 (all_cons (not_ne h6) all_nil)) vs w bl hd
            · skip
              by_cases h6 : (Tm.bin .eq 64 (.var 0 64) (.lit 5) : Tm).ev σ ≠ 0
              · skip
                by_cases h7 : (Tm.bin .eq 64 (.bin .shr 64 (.var 1 64) (.lit 1)) (.lit 0) : Tm).ev σ ≠ 0
                · skip
                  exact part_runB mixed rune14 (fun _ _ h => by cases h) σ (all_cons h6 (all_cons h7 all_nil)) vs w bl hd
                · skip
                  exact part_runB mixed rune15 (fun _ _ h => by cases h) σ (all_cons h6 (all_cons (not_ne h7) all_nil)) vs w bl hd
              · skip
                have a0 := ne_of_eqT h1
                have a1 := ne_of_eqT h2
                have a2 := ne_of_eqT h3
                have a3 := ne_of_eqT h4
                have a4 := ne_of_eqT h5
                have a5 := ne_of_eqT h6
                have hb : (Tm.var 0 64).ev σ < 6 := by
                  rcases Nat.lt_or_ge ((Tm.var 0 64).ev σ) 6 with hh | hh
                  · exact hh
                  · exact absurd (show (Tm.bin .ult 64 (.var 0 64) (.lit 6)).ev σ = 0 by show b2n (Nat.blt ((Tm.var 0 64).ev σ) 6) = 0; rw [nblt_f (Nat.not_lt.2 hh)]; rfl) h0
                omega
  · skip
    by_cases h1 : (Tm.bin .eq 64 (.bin .shr 64 (.var 1 64) (.lit 1)) (.lit 0) : Tm).ev σ ≠ 0
    · skip
      exact part_runB mixed rune16 (fun _ _ h => by cases h) σ (all_cons (not_ne h0) (all_cons h1 all_nil)) vs w bl hd
    · skip
      exact part_runB mixed rune17 (fun _ _ h => by cases h) σ (all_cons (not_ne h0) (all_cons (not_ne h1) all_nil)) vs w bl hd
theorem pick : ∀ nl : List Bool, nl.length = nsl ks → ∃ sa, symK ks nl 0 4294967296 0 = some sa ∧ sa.i ≤ 2 ^ 40 ∧ ∀ (σ : Nat → Nat) (vs : List Value) (w : World) (bl : List (Nat × Nat)), EntryOk w sa [none, none, some 2] σ vs bl → Calls Try.prog 4 vs.toArray w fun e w' => e = .returned (.bool true) ∧ Below w.heap.size w w' := by
  intro nl hl
  have hl : nl.length = 0 := hl
  match nl, hl with
  | [], _ => exact ⟨sa_e, by kernel_rfl, of_nble (by kernel_rfl), runs_e⟩
set_option maxRecDepth 100000 in
theorem lifted (os : Os) (started : os.Started) (H : Type) (enc : TypeId × Value → H) :
    ReturnsInHanded {} Try.checked os 4 .any (Rows.pmuSetsSpec.pre6 enc Try.prog Try.f4 Rows.pmuSetsRow.domain false) (Rows.pmuSetsSpec.post enc Try.prog Try.f4 false true false false) := by
  refine returnsInHanded_of_change (C := Try.checked) own started (by kernel_rfl) Try.func4
    (ChangeSpec.witness6 (enc := enc) (C := Try.checked) false ⟨#[], #[.int .u64 0, .int .u64 0, .agg #[.int .u64 0, .int .u64 0]], []⟩ 8 (by kernel_rfl) (by kernel_rfl) (by kernel_rfl) (by kernel_rfl)) ?_
  intro W base args ds gs before hval hW _ _
  exact law_contractA (P := Try.prog) laidOut kinds pick (by kernel_rfl) rfl (by rfl) Try.underlying4
    (fun ds h => by
      have h' : ds.length = 3 := by rw [h, Try.params4]; rfl
      match ds, h' with | [d0, d1, d2], _ => rfl) W base args ds gs before hval hW
theorem over : Rows.pmuSetsRow.holds Try.pinned (OpenSpec.ofChange Rows.pmuSetsSpec) :=
  OpenClaim.holds_of_wide 4 Try.f4 rfl rfl rfl rfl rfl rfl rfl ⟨rfl, rfl, rfl, rfl, rfl⟩ rfl rfl rfl rfl rfl (by kernel_rfl) Try.func4 (by kernel_rfl)
    (of_decide_eq_true (by kernel_rfl)) (by unfold Func.isWrapper; first | (rw [if_pos (by decide +kernel)]; kernel_rfl) | (rw [if_neg (by decide +kernel)]; exact ⟨rfl, rfl⟩))
    (fun os started H enc _ => lifted os started H enc)
theorem proved : Rows.PmuSetsSaid := over
#print axioms proved
end Go.Proofs.Ythbdkghbkoibdaa.PmuSets
namespace Go.Proofs.Ythbdkghbkoibdaa
/-- The row, under a short name, for the claim. -/
theorem pmuSets_holds : Rows.PmuSetsSaid := PmuSets.proved
end Go.Proofs.Ythbdkghbkoibdaa
