/- HsmEdges: for every input that the statement lets in the law returns true, and the input reads as it did. No condition. -/
import Derived.Test.YtjffninagbmamaaLawHsmEdgesP
import Derived.Test.YtjffninagbmamaaLawHsmEdgesR0
import Derived.Test.YtjffninagbmamaaLawHsmEdgesR1
import Derived.Test.YtjffninagbmamaaLawHsmEdgesR2
import Derived.Test.YtjffninagbmamaaLawHsmEdgesR3
namespace Go.Proofs.Ytjffninagbmamaa.HsmEdges
open Go.ChangeShapes Go.WideShapes Go.ChangeAt Go.RowKit Go.Sy
set_option linter.unusedVariables false
theorem own : ownKnob Try.prog.godebug = none := by kernel_rfl
theorem laidOut : laidOutB Try.prog = true := by kernel_rfl
theorem mixed : Try.prog.follows .mixedOrders = true := by kernel_rfl
theorem kinds : argK Try.prog 8 Try.f5.params.toList = some ([none, none], ks) := by kernel_rfl
theorem runs_f (σ : Nat → Nat) (vs : List Value) (w : World) (bl : List (Nat × Nat)) (hd : EntryOk w sa_f [none, none] σ vs bl) : Calls Try.prog 5 vs.toArray w fun e w' => e = .returned (.bool true) ∧ Below w.heap.size w w' := by
  by_cases h0 : (Tm.bin .slt 64 (.var 0 64) (.lit 1) : Tm).ev σ ≠ 0
  · skip
    exact part_runB mixed runf0 (fun _ _ h => by cases h) σ (all_cons h0 all_nil) vs w bl hd
  · skip
    by_cases h1 : (Tm.bin .eq 64 (.var 0 64) (.lit 1) : Tm).ev σ ≠ 0
    · skip
      exact part_runB mixed runf1 (fun _ _ h => by cases h) σ (all_cons h1 all_nil) vs w bl hd
    · skip
      by_cases h2 : (Tm.bin .eq 64 (.var 0 64) (.lit 2) : Tm).ev σ ≠ 0
      · skip
        exact part_runB mixed runf2 (fun _ _ h => by cases h) σ (all_cons h2 all_nil) vs w bl hd
      · skip
        by_cases h3 : (Tm.bin .eq 64 (.var 0 64) (.lit 3) : Tm).ev σ ≠ 0
        · skip
          exact part_runB mixed runf3 (fun _ _ h => by cases h) σ (all_cons h3 all_nil) vs w bl hd
        · skip
          by_cases h4 : (Tm.bin .eq 64 (.var 0 64) (.lit 4) : Tm).ev σ ≠ 0
          · skip
            exact part_runB mixed runf4 (fun _ _ h => by cases h) σ (all_cons h4 all_nil) vs w bl hd
          · skip
            by_cases h5 : (Tm.bin .eq 64 (.var 0 64) (.lit 5) : Tm).ev σ ≠ 0
            · skip
              exact part_runB mixed runf5 (fun _ _ h => by cases h) σ (all_cons h5 all_nil) vs w bl hd
            · skip
              by_cases h6 : (Tm.bin .eq 64 (.var 0 64) (.lit 6) : Tm).ev σ ≠ 0
              · skip
                exact part_runB mixed runf6 (fun _ _ h => by cases h) σ (all_cons h6 all_nil) vs w bl hd
              · skip
                by_cases h7 : (Tm.bin .eq 64 (.var 0 64) (.lit 7) : Tm).ev σ ≠ 0
                · skip
                  exact part_runB mixed runf7 (fun _ _ h => by cases h) σ (all_cons h7 all_nil) vs w bl hd
                · skip
                  by_cases h8 : (Tm.bin .eq 64 (.var 0 64) (.lit 8) : Tm).ev σ ≠ 0
                  · skip
                    exact part_runB mixed runf8 (fun _ _ h => by cases h) σ (all_cons h8 all_nil) vs w bl hd
                  · skip
                    by_cases h9 : (Tm.bin .slt 64 (.var 0 64) (.lit 9) : Tm).ev σ ≠ 0
                    · skip
                      obtain ⟨g1, g2⟩ := slt_range (by decide) (by decide) h0 h9
                      have a1 := ne_of_eqT h1
                      have a2 := ne_of_eqT h2
                      have a3 := ne_of_eqT h3
                      have a4 := ne_of_eqT h4
                      have a5 := ne_of_eqT h5
                      have a6 := ne_of_eqT h6
                      have a7 := ne_of_eqT h7
                      have a8 := ne_of_eqT h8
                      omega
                    · skip
                      exact part_runB mixed runf9 (fun _ _ h => by cases h) σ (all_cons (not_ne h9) all_nil) vs w bl hd
theorem runs_t (σ : Nat → Nat) (vs : List Value) (w : World) (bl : List (Nat × Nat)) (hd : EntryOk w sa_t [none, none] σ vs bl) : Calls Try.prog 5 vs.toArray w fun e w' => e = .returned (.bool true) ∧ Below w.heap.size w w' := by
  exact part_runB mixed runt10 (fun _ _ h => by cases h) σ all_nil vs w bl hd
theorem pick : ∀ nl : List Bool, nl.length = nsl ks → ∃ sa, symK ks nl 0 4294967296 0 = some sa ∧ sa.i ≤ 2 ^ 40 ∧ ∀ (σ : Nat → Nat) (vs : List Value) (w : World) (bl : List (Nat × Nat)), EntryOk w sa [none, none] σ vs bl → Calls Try.prog 5 vs.toArray w fun e w' => e = .returned (.bool true) ∧ Below w.heap.size w w' := by
  intro nl hl
  have hl : nl.length = 1 := hl
  match nl, hl with
  | [false], _ => exact ⟨sa_f, by kernel_rfl, of_nble (by kernel_rfl), runs_f⟩
  | [true], _ => exact ⟨sa_t, by kernel_rfl, of_nble (by kernel_rfl), runs_t⟩
set_option maxRecDepth 100000 in
theorem lifted (os : Os) (started : os.Started) (H : Type) (enc : TypeId × Value → H) :
    ReturnsInHanded {} Try.checked os 5 .any (Rows.hsmEdgesSpec.pre6 enc Try.prog Try.f5 Rows.hsmEdgesRow.domain false) (Rows.hsmEdgesSpec.post enc Try.prog Try.f5 false true false false) := by
  refine returnsInHanded_of_change (C := Try.checked) own started (by kernel_rfl) Try.func5
    (ChangeSpec.witness6 (enc := enc) (C := Try.checked) false ⟨#[], #[.int .i64 0, .slice none 0 0], []⟩ 8 (by kernel_rfl) (by kernel_rfl) (by kernel_rfl) (by kernel_rfl)) ?_
  intro W base args ds gs before hval hW _ _
  exact law_contractA (P := Try.prog) laidOut kinds pick (by kernel_rfl) rfl (by rfl) Try.underlying4
    (fun ds h => by
      have h' : ds.length = 2 := by rw [h, Try.params5]; rfl
      match ds, h' with | [d0, d1], _ => rfl) W base args ds gs before hval hW
theorem over : Rows.hsmEdgesRow.holds Try.pinned (OpenSpec.ofChange Rows.hsmEdgesSpec) :=
  OpenClaim.holds_of_wide 5 Try.f5 rfl rfl rfl rfl rfl rfl rfl ⟨rfl, rfl, rfl, rfl, rfl⟩ rfl rfl rfl rfl rfl (by kernel_rfl) Try.func5 (by kernel_rfl)
    (of_decide_eq_true (by kernel_rfl)) (by unfold Func.isWrapper; first | (rw [if_pos (by decide +kernel)]; kernel_rfl) | (rw [if_neg (by decide +kernel)]; exact ⟨rfl, rfl⟩))
    (fun os started H enc _ => lifted os started H enc)
theorem proved : Rows.HsmEdgesSaid := over
#print axioms proved
end Go.Proofs.Ytjffninagbmamaa.HsmEdges
namespace Go.Proofs.Ytjffninagbmamaa
/-- The row, under a short name, for the claim. -/
theorem hsmEdges_holds : Rows.HsmEdgesSaid := HsmEdges.proved
end Go.Proofs.Ytjffninagbmamaa
