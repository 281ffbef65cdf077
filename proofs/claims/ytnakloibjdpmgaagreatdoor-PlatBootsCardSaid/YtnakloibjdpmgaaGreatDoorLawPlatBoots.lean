/- PlatBoots: for every input that the statement lets in the law returns true, and the input reads as it did. No condition. -/
import Derived.Test.YtnakloibjdpmgaaGreatDoorLawPlatBootsP
import Derived.Test.YtnakloibjdpmgaaGreatDoorLawPlatBootsR0
import Derived.Test.YtnakloibjdpmgaaGreatDoorLawPlatBootsR1
import Derived.Test.YtnakloibjdpmgaaGreatDoorLawPlatBootsR2
import Derived.Test.YtnakloibjdpmgaaGreatDoorLawPlatBootsR3
import Derived.Test.YtnakloibjdpmgaaGreatDoorLawPlatBootsR4
import Derived.Test.YtnakloibjdpmgaaGreatDoorLawPlatBootsR5
import Derived.Test.YtnakloibjdpmgaaGreatDoorTie
import Derived.Test.YtnakloibjdpmgaaGreatDoorCards
import Derived.LaidMore
import Derived.SevenTiedAt
namespace Go.Proofs.YtnakloibjdpmgaaGreatDoor.PlatBoots
open Go.ChangeShapes Go.WideShapes Go.ChangeAt Go.RowKit Go.Sy
set_option linter.unusedVariables false
theorem own : ownKnob Tryz.prog.godebug = none := by kernel_rfl
theorem laidOut : laidOutB Tryz.prog = true := by kernel_rfl
theorem mixed : Tryz.prog.follows .mixedOrders = true := by kernel_rfl
theorem kinds : argK Tryz.prog 8 Tryz.f4.params.toList = some ([none, none], ks) := by kernel_rfl
set_option maxRecDepth 1000000 in
theorem trueRun7 : (lawRunB (envL Tryz.prog 300 false [] [] [] [] [] [] [] gts) 200 7 [] [] 0 [] []).good = true := by kernel_rfl
theorem trues : ∀ f ∈ ([7] : List Nat), TrueFn Tryz.prog gts f := by
  intro f hf
  rw [List.mem_singleton.1 hf]
  exact trueFn_of (E := envL Tryz.prog 300 false [] [] [] [] [] [] [] gts) (envL_ok mixed) trueRun7
theorem runs_e (σ : Nat → Nat) (vs : List Value) (w : World) (bl : List (Nat × Nat)) (hd : EntryOk gts w sa_e [none, none] σ vs bl) : Calls Tryz.prog 4 vs.toArray w fun e w' => e = .returned (.bool true) ∧ Below w.heap.size w w' := by
  by_cases h0 : (Tm.bin .slt 64 (.lit 8) (.var 0 64) : Tm).ev σ ≠ 0
  · skip
    exact part_runT mixed trues rune0 (fun _ _ h => by cases h) σ (all_cons h0 all_nil) vs w bl hd
  · skip
    by_cases h1 : (Tm.bin .slt 64 (.var 0 64) (.lit 1) : Tm).ev σ ≠ 0
    · skip
      exact part_runT mixed trues rune1 (fun _ _ h => by cases h) σ (all_cons (not_ne h0) (all_cons h1 all_nil)) vs w bl hd
    · skip
      by_cases h2 : (Tm.bin .eq 64 (.var 0 64) (.lit 1) : Tm).ev σ ≠ 0
      · skip
        exact part_runT mixed trues rune2 (fun _ _ h => by cases h) σ (all_cons (not_ne h0) (all_cons (not_ne h1) (all_cons h2 all_nil))) vs w bl hd
      · skip
        by_cases h3 : (Tm.bin .eq 64 (.var 0 64) (.lit 2) : Tm).ev σ ≠ 0
        · skip
          exact part_runT mixed trues rune3 (fun _ _ h => by cases h) σ (all_cons (not_ne h0) (all_cons (not_ne h1) (all_cons (not_ne h2) (all_cons h3 all_nil)))) vs w bl hd
        · skip
          by_cases h4 : (Tm.bin .eq 64 (.var 0 64) (.lit 3) : Tm).ev σ ≠ 0
          · skip
            exact part_runT mixed trues rune4 (fun _ _ h => by cases h) σ (all_cons (not_ne h0) (all_cons (not_ne h1) (all_cons (not_ne h2) (all_cons (not_ne h3) (all_cons h4 all_nil))))) vs w bl hd
          · skip
            by_cases h5 : (Tm.bin .eq 64 (.var 0 64) (.lit 4) : Tm).ev σ ≠ 0
            · skip
              exact part_runT mixed trues rune5 (fun _ _ h => by cases h) σ (all_cons (not_ne h0) (all_cons (not_ne h1) (all_cons (not_ne h2) (all_cons (not_ne h3) (all_cons (not_ne h4) (all_cons h5 all_nil)))))) vs w bl hd
            · skip
              by_cases h6 : (Tm.bin .eq 64 (.var 0 64) (.lit 5) : Tm).ev σ ≠ 0
              · skip
                exact part_runT mixed trues rune6 (fun _ _ h => by cases h) σ (all_cons (not_ne h0) (all_cons (not_ne h1) (all_cons (not_ne h2) (all_cons (not_ne h3) (all_cons (not_ne h4) (all_cons (not_ne h5) (all_cons h6 all_nil))))))) vs w bl hd
              · skip
                by_cases h7 : (Tm.bin .eq 64 (.var 0 64) (.lit 6) : Tm).ev σ ≠ 0
                · skip
                  exact part_runT mixed trues rune7 (fun _ _ h => by cases h) σ (all_cons (not_ne h0) (all_cons (not_ne h1) (all_cons (not_ne h2) (all_cons (not_ne h3) (all_cons (not_ne h4) (all_cons (not_ne h5) (all_cons (not_ne h6) (all_cons h7 all_nil)))))))) vs w bl hd
                · skip
                  by_cases h8 : (Tm.bin .eq 64 (.var 0 64) (.lit 7) : Tm).ev σ ≠ 0
                  · skip
                    exact part_runT mixed trues rune8 (fun _ _ h => by cases h) σ (all_cons (not_ne h0) (all_cons (not_ne h1) (all_cons (not_ne h2) (all_cons (not_ne h3) (all_cons (not_ne h4) (all_cons (not_ne h5) (all_cons (not_ne h6) (all_cons (not_ne h7) (all_cons h8 all_nil))))))))) vs w bl hd
                  · skip
                    by_cases h9 : (Tm.bin .eq 64 (.var 0 64) (.lit 8) : Tm).ev σ ≠ 0
                    · skip
                      exact part_runT mixed trues rune9 (fun _ _ h => by cases h) σ (all_cons (not_ne h0) (all_cons (not_ne h1) (all_cons (not_ne h2) (all_cons (not_ne h3) (all_cons (not_ne h4) (all_cons (not_ne h5) (all_cons (not_ne h6) (all_cons (not_ne h7) (all_cons (not_ne h8) (all_cons h9 all_nil)))))))))) vs w bl hd
                    · skip
                      exact part_runT mixed trues rune10 (fun _ _ h => by cases h) σ (all_cons (not_ne h0) (all_cons (not_ne h1) (all_cons (not_ne h2) (all_cons (not_ne h3) (all_cons (not_ne h4) (all_cons (not_ne h5) (all_cons (not_ne h6) (all_cons (not_ne h7) (all_cons (not_ne h8) (all_cons (not_ne h9) all_nil)))))))))) vs w bl hd
theorem pick : ∀ nl : List Bool, nl.length = nsl ks → ∃ sa, symK ks nl 0 4294967296 64 = some sa ∧ sa.i ≤ 2 ^ 40 ∧ ∀ (σ : Nat → Nat) (vs : List Value) (w : World) (bl : List (Nat × Nat)), EntryOk gts w sa [none, none] σ vs bl → Calls Tryz.prog 4 vs.toArray w fun e w' => e = .returned (.bool true) ∧ Below w.heap.size w w' := by
  intro nl hl
  have hl : nl.length = 0 := hl
  match nl, hl with
  | [], _ => exact ⟨sa_e, by kernel_rfl, of_nble (by kernel_rfl), runs_e⟩
theorem door_met (os : Os) (args : Array Value) : laidMetH Tryz.prog Rows.platBootsRow.laid ((World.doorLaid Tryz.prog 400 os).forCall (fun _ _ => 0) ⟨#[], args, []⟩).memory :=
  laidMetH_of_parts3 (fuel := 8) (laidMet_of_run' 8 (by kernel_rfl) (by kernel_rfl)) (by kernel_rfl) (by kernel_rfl)
set_option maxRecDepth 100000 in
theorem lifted (os : Os) (started : os.Started) (H : Type) (enc : TypeId × Value → H) :
    ReturnsInHanded {} Tryz.checked os 4 .any (fun w args => (Rows.platBootsSpec.pre enc Tryz.prog Tryz.f4 [] false w args ∧ laidMetH Tryz.prog Rows.platBootsRow.laid w) ∧ sizedMet enc Tryz.prog Tryz.f4 (OpenSpec.ofChange Rows.platBootsSpec) false w args)
      (Rows.platBootsSpec.post enc Tryz.prog Tryz.f4 false true false false) := by
  refine returnsInHanded_of_change_and (C := Tryz.checked) (X := fun w _ => laidMetH Tryz.prog Rows.platBootsRow.laid w) (fun _ _ _ hh h => h.of_heap hh) own started (by kernel_rfl) Tryz.func4
    (ChangeSpec.witness_shaped (enc := enc) (C := Tryz.checked) (os := os) (X := fun w _ => laidMetH Tryz.prog Rows.platBootsRow.laid w) false (World.doorLaid Tryz.prog 400 os) #[.int .i64 0, .int .u64 0] 8 rfl (World.shaped_of_RefB (by kernel_rfl) (by kernel_rfl)) (by kernel_rfl) (by kernel_rfl) (by kernel_rfl) (door_met os _)) ?_
  intro W base args ds gs before hval hW _ _ hL _
  exact law_contractA (P := Tryz.prog) laidOut kinds pick (by kernel_rfl) rfl (by rfl) Tryz.underlying4
    (fun ds h => by
      have h' : ds.length = 2 := by rw [h, Tryz.params4]; rfl
      match ds, h' with | [d0, d1], _ => rfl) W base args ds gs before hval hW tabs_nil
theorem over : Rows.platBootsRow.holds Tryz.pinned (OpenSpec.ofChange Rows.platBootsSpec) :=
  OpenClaim.holds_of_wide 4 Tryz.f4 rfl rfl rfl rfl rfl rfl rfl ⟨rfl, rfl, rfl, rfl, rfl⟩ rfl rfl rfl rfl rfl (by kernel_rfl) Tryz.func4 (by kernel_rfl)
    (of_decide_eq_true (by kernel_rfl)) (by unfold Func.isWrapper; first | (rw [if_pos (by decide +kernel)]; kernel_rfl) | (rw [if_neg (by decide +kernel)]; exact ⟨rfl, rfl⟩))
    (fun os started H enc _ => lifted os started H enc)
theorem proved : Rows.PlatBootsSaid := over
#print axioms proved
end Go.Proofs.YtnakloibjdpmgaaGreatDoor.PlatBoots
namespace Go.Proofs.YtnakloibjdpmgaaGreatDoor
open Go
/-- The row, under a short name. -/
theorem platBoots_row : Rows.PlatBootsSaid := PlatBoots.proved
/-- The tied card. -/
theorem platBoots_holds : Rows.PlatBootsCardSaid :=
  Claim7.holds_tied_plain_at .later [] [.data] true (true, "7320964ad81cbc5e5dd6b9ba09afa430feaa2081f5eff0ee16d852eef5a24c49") false
    platBoots_row (fun _ h => by cases h) (by kernel_rfl) (fun _ h => by cases h) platBoots_row_tie rfl ⟨rfl, rfl⟩ (by kernel_rfl) rfl
    (fun f fn hf hfn => by
      obtain rfl : f = 4 := Option.some.inj ((show Tryz.prog.funcNamed Rows.platBootsRow.func = some 4 by kernel_rfl).symm.trans hf) |>.symm
      obtain rfl : fn = Tryz.f4 := (Option.some.inj (Tryz.func4.symm.trans hfn)).symm
      exact ⟨by kernel_rfl, fun j t ht => by
        rw [Tryz.params4] at ht
        have hm : t ∈ [3, 27] := by simpa using Array.mem_of_getElem? ht
        have hall : ([3, 27].all fun u => !Tryz.prog.wantsStandIn u) = true := by kernel_rfl
        exact (show Tryz.prog.wantsStandIn t = false by simpa using List.all_eq_true.1 hall t hm)⟩)
    (by kernel_rfl)
end Go.Proofs.YtnakloibjdpmgaaGreatDoor
