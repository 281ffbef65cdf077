/- PlatIllegal: for every input that the statement lets in the law returns true, and the input reads as it did. No condition. -/
import Derived.Test.YtnakloibjdpmgaaGreatDoorLawPlatIllegalP
import Derived.Test.YtnakloibjdpmgaaGreatDoorLawPlatIllegalR0
import Derived.Test.YtnakloibjdpmgaaGreatDoorLawPlatIllegalR1
import Derived.Test.YtnakloibjdpmgaaGreatDoorLawPlatIllegalR2
import Derived.Test.YtnakloibjdpmgaaGreatDoorLawPlatIllegalR3
import Derived.Test.YtnakloibjdpmgaaGreatDoorLawPlatIllegalR4
import Derived.Test.YtnakloibjdpmgaaGreatDoorTie
import Derived.Test.YtnakloibjdpmgaaGreatDoorCards
import Derived.LaidMore
import Derived.SevenTiedAt
namespace Go.Proofs.YtnakloibjdpmgaaGreatDoor.PlatIllegal
open Go.ChangeShapes Go.WideShapes Go.ChangeAt Go.RowKit Go.Sy
set_option linter.unusedVariables false
theorem own : ownKnob Tryz.prog.godebug = none := by kernel_rfl
theorem laidOut : laidOutB Tryz.prog = true := by kernel_rfl
theorem mixed : Tryz.prog.follows .mixedOrders = true := by kernel_rfl
theorem kinds : argK Tryz.prog 8 Tryz.f3.params.toList = some ([none, none], ks) := by kernel_rfl
set_option maxRecDepth 1000000 in
theorem trueRun7 : (lawRunB (envL Tryz.prog 300 false [] [] [] [] [] [] [] gts) 200 7 [] [] 0 [] []).good = true := by kernel_rfl
theorem trues : ∀ f ∈ ([7] : List Nat), TrueFn Tryz.prog gts f := by
  intro f hf
  rw [List.mem_singleton.1 hf]
  exact trueFn_of (E := envL Tryz.prog 300 false [] [] [] [] [] [] [] gts) (envL_ok mixed) trueRun7
theorem rune1 : anse1.good = true := by
  have h0 := rune1_0
  have h1 := goodT_or _ _ _ h0 rune1_1
  have h2 := goodT_or _ _ _ h1 rune1_2
  have h3 := goodT_or _ _ _ h2 rune1_3
  have e : (PT.or (PT.or (PT.or ((.node .all (.node (.node .skip (.node .skip .all)) .all)) : PT) (.node .skip (.node (.node (.node .skip .all) .skip) .skip))) (.node .skip (.node (.node .skip (.node .all .skip)) .skip))) (.node .skip (.node (.node (.node .all .skip) .skip) .skip))) = PT.all := by kernel_rfl
  rw [← goodT_all, ← e]
  exact h3
theorem runs_e (σ : Nat → Nat) (vs : List Value) (w : World) (bl : List (Nat × Nat)) (hd : EntryOk gts w sa_e [none, none] σ vs bl) : Calls Tryz.prog 3 vs.toArray w fun e w' => e = .returned (.bool true) ∧ Below w.heap.size w w' := by
  by_cases h0 : (Tm.var 1 1 : Tm).ev σ ≠ 0
  · skip
    exact part_runT mixed trues rune0 (fun _ _ h => by cases h) σ (all_cons h0 all_nil) vs w bl hd
  · skip
    exact part_runT mixed trues rune1 (fun _ _ h => by cases h) σ (all_cons (not_ne h0) all_nil) vs w bl hd
theorem pick : ∀ nl : List Bool, nl.length = nsl ks → ∃ sa, symK ks nl 0 4294967296 64 = some sa ∧ sa.i ≤ 2 ^ 40 ∧ ∀ (σ : Nat → Nat) (vs : List Value) (w : World) (bl : List (Nat × Nat)), EntryOk gts w sa [none, none] σ vs bl → Calls Tryz.prog 3 vs.toArray w fun e w' => e = .returned (.bool true) ∧ Below w.heap.size w w' := by
  intro nl hl
  have hl : nl.length = 0 := hl
  match nl, hl with
  | [], _ => exact ⟨sa_e, by kernel_rfl, of_nble (by kernel_rfl), runs_e⟩
theorem door_met (os : Os) (args : Array Value) : laidMetH Tryz.prog Rows.platIllegalRow.laid ((World.doorLaid Tryz.prog 400 os).forCall (fun _ _ => 0) ⟨#[], args, []⟩).memory :=
  laidMetH_of_parts3 (fuel := 8) (laidMet_of_run' 8 (by kernel_rfl) (by kernel_rfl)) (by kernel_rfl) (by kernel_rfl)
set_option maxRecDepth 100000 in
theorem lifted (os : Os) (started : os.Started) (H : Type) (enc : TypeId × Value → H) :
    ReturnsInHanded {} Tryz.checked os 3 .any (fun w args => (Rows.platIllegalSpec.pre enc Tryz.prog Tryz.f3 [] false w args ∧ laidMetH Tryz.prog Rows.platIllegalRow.laid w) ∧ sizedMet enc Tryz.prog Tryz.f3 (OpenSpec.ofChange Rows.platIllegalSpec) false w args)
      (Rows.platIllegalSpec.post enc Tryz.prog Tryz.f3 false true false false) := by
  refine returnsInHanded_of_change_and (C := Tryz.checked) (X := fun w _ => laidMetH Tryz.prog Rows.platIllegalRow.laid w) (fun _ _ _ hh h => h.of_heap hh) own started (by kernel_rfl) Tryz.func3
    (ChangeSpec.witness_shaped (enc := enc) (C := Tryz.checked) (os := os) (X := fun w _ => laidMetH Tryz.prog Rows.platIllegalRow.laid w) false (World.doorLaid Tryz.prog 400 os) #[.int .u8 0, .bool false] 8 rfl (World.shaped_of_RefB (by kernel_rfl) (by kernel_rfl)) (by kernel_rfl) (by kernel_rfl) (by kernel_rfl) (door_met os _)) ?_
  intro W base args ds gs before hval hW _ _ hL _
  exact law_contractA (P := Tryz.prog) laidOut kinds pick (by kernel_rfl) rfl (by rfl) Tryz.underlying4
    (fun ds h => by
      have h' : ds.length = 2 := by rw [h, Tryz.params3]; rfl
      match ds, h' with | [d0, d1], _ => rfl) W base args ds gs before hval hW tabs_nil
theorem over : Rows.platIllegalRow.holds Tryz.pinned (OpenSpec.ofChange Rows.platIllegalSpec) :=
  OpenClaim.holds_of_wide 3 Tryz.f3 rfl rfl rfl rfl rfl rfl rfl ⟨rfl, rfl, rfl, rfl, rfl⟩ rfl rfl rfl rfl rfl (by kernel_rfl) Tryz.func3 (by kernel_rfl)
    (of_decide_eq_true (by kernel_rfl)) (by unfold Func.isWrapper; first | (rw [if_pos (by decide +kernel)]; kernel_rfl) | (rw [if_neg (by decide +kernel)]; exact ⟨rfl, rfl⟩))
    (fun os started H enc _ => lifted os started H enc)
theorem proved : Rows.PlatIllegalSaid := over
#print axioms proved
end Go.Proofs.YtnakloibjdpmgaaGreatDoor.PlatIllegal
namespace Go.Proofs.YtnakloibjdpmgaaGreatDoor
open Go
/-- The row, under a short name. -/
theorem platIllegal_row : Rows.PlatIllegalSaid := PlatIllegal.proved
/-- The tied card. -/
theorem platIllegal_holds : Rows.PlatIllegalCardSaid :=
  Claim7.holds_tied_plain_at .later [] [.data] true (true, "7320964ad81cbc5e5dd6b9ba09afa430feaa2081f5eff0ee16d852eef5a24c49") false
    platIllegal_row (fun _ h => by cases h) (by kernel_rfl) (fun _ h => by cases h) platIllegal_row_tie rfl ⟨rfl, rfl⟩ (by kernel_rfl) rfl
    (fun f fn hf hfn => by
      obtain rfl : f = 3 := Option.some.inj ((show Tryz.prog.funcNamed Rows.platIllegalRow.func = some 3 by kernel_rfl).symm.trans hf) |>.symm
      obtain rfl : fn = Tryz.f3 := (Option.some.inj (Tryz.func3.symm.trans hfn)).symm
      exact ⟨by kernel_rfl, fun j t ht => by
        rw [Tryz.params3] at ht
        have hm : t ∈ [5, 4] := by simpa using Array.mem_of_getElem? ht
        have hall : ([5, 4].all fun u => !Tryz.prog.wantsStandIn u) = true := by kernel_rfl
        exact (show Tryz.prog.wantsStandIn t = false by simpa using List.all_eq_true.1 hall t hm)⟩)
    (by kernel_rfl)
end Go.Proofs.YtnakloibjdpmgaaGreatDoor
