/- PlatTicks: for every input that the statement lets in the law returns true, and the input reads as it did. No condition. -/
import Derived.Test.YtnakloibjdpmgaaGreatDoorLawPlatTicksP
import Derived.Test.YtnakloibjdpmgaaGreatDoorLawPlatTicksR0
import Derived.Test.YtnakloibjdpmgaaGreatDoorLawPlatTicksR1
import Derived.Test.YtnakloibjdpmgaaGreatDoorLawPlatTicksT
import Derived.Test.YtnakloibjdpmgaaGreatDoorTie
import Derived.Test.YtnakloibjdpmgaaGreatDoorCards
import Derived.LaidMore
import Derived.SevenTiedAt
namespace Go.Proofs.YtnakloibjdpmgaaGreatDoor.PlatTicks
open Go.ChangeShapes Go.WideShapes Go.ChangeAt Go.RowKit Go.Sy
set_option linter.unusedVariables false
theorem own : ownKnob Tryz.prog.godebug = none := by kernel_rfl
theorem laidOut : laidOutB Tryz.prog = true := by kernel_rfl
theorem mixed : Tryz.prog.follows .mixedOrders = true := by kernel_rfl
theorem kinds : argK Tryz.prog 8 Tryz.f5.params.toList = some ([some 8, none], ks) := by kernel_rfl
theorem mem0 : ∀ e ∈ mt0, MemFn Tryz.prog e.f e.args e.s := fun _ h => by cases h
theorem mems : ∀ e ∈ mtl, MemFn Tryz.prog e.f e.args e.s := mem0
theorem sum0 : ∀ e ∈ ms0, SumFn Tryz.prog e := fun _ h => by cases h
theorem sums : ∀ e ∈ msl, SumFn Tryz.prog e := sum0
theorem trues : ∀ f ∈ ([7] : List Nat), TrueFn Tryz.prog gts f := by
  intro f hf
  rw [List.mem_singleton.1 hf]
  exact trueFn_of (E := envL Tryz.prog 300 false [] [] [] [] [] [] [] gts mfl mtl msl) (envL_okT mixed (fun _ h => by cases h) mems sums) trueRun7
theorem runs_f (σ : Nat → Nat) (vs : List Value) (w : World) (bl : List (Nat × Nat)) (hd : EntryOk gts w sa_f [some 8, none] σ vs bl) : Calls Tryz.prog 5 vs.toArray w fun e w' => e = .returned (.bool true) ∧ Below w.heap.size w w' := by
  exact part_runT mixed trues mems sums runf0 (fun _ _ h => by cases h) σ all_nil vs w bl hd
theorem runs_t (σ : Nat → Nat) (vs : List Value) (w : World) (bl : List (Nat × Nat)) (hd : EntryOk gts w sa_t [some 8, none] σ vs bl) : Calls Tryz.prog 5 vs.toArray w fun e w' => e = .returned (.bool true) ∧ Below w.heap.size w w' := by
  exact part_runT mixed trues mems sums runt1 (fun _ _ h => by cases h) σ all_nil vs w bl hd
theorem pick : ∀ nl : List Bool, nl.length = nsl ks → ∃ sa, symK ks nl 0 4294967296 64 = some sa ∧ sa.i ≤ 2 ^ 40 ∧ ∀ (σ : Nat → Nat) (vs : List Value) (w : World) (bl : List (Nat × Nat)), EntryOk gts w sa [some 8, none] σ vs bl → Calls Tryz.prog 5 vs.toArray w fun e w' => e = .returned (.bool true) ∧ Below w.heap.size w w' := by
  intro nl hl
  have hl : nl.length = 1 := hl
  match nl, hl with
  | [false], _ => exact ⟨sa_f, by kernel_rfl, of_nble (by kernel_rfl), runs_f⟩
  | [true], _ => exact ⟨sa_t, by kernel_rfl, of_nble (by kernel_rfl), runs_t⟩
theorem door_met (os : Os) (args : Array Value) : laidMetH Tryz.prog Rows.platTicksRow.laid ((World.doorLaid Tryz.prog 400 os).forCall (fun _ _ => 0) ⟨#[], args, []⟩).memory :=
  laidMetH_of_parts3 (fuel := 8) (laidMet_of_run' 8 (by kernel_rfl) (by kernel_rfl)) (by kernel_rfl) (by kernel_rfl)
set_option maxRecDepth 100000 in
theorem lifted (os : Os) (started : os.Started) (H : Type) (enc : TypeId × Value → H) :
    ReturnsInHanded {} Tryz.checked os 5 .any (fun w args => (Rows.platTicksSpec.pre enc Tryz.prog Tryz.f5 [] false w args ∧ laidMetH Tryz.prog Rows.platTicksRow.laid w) ∧ sizedMet enc Tryz.prog Tryz.f5 (OpenSpec.ofChange Rows.platTicksSpec) false w args)
      (Rows.platTicksSpec.post enc Tryz.prog Tryz.f5 false true false false) := by
  refine returnsInHanded_of_change_and (C := Tryz.checked) (X := fun w _ => laidMetH Tryz.prog Rows.platTicksRow.laid w) (fun _ _ _ hh h => h.of_heap hh) own started (by kernel_rfl) Tryz.func5
    (ChangeSpec.witness_shaped (enc := enc) (C := Tryz.checked) (os := os) (X := fun w _ => laidMetH Tryz.prog Rows.platTicksRow.laid w) false (World.doorLaid Tryz.prog 400 os) #[.agg #[.int .u64 0, .int .u64 0, .int .u64 0, .int .u64 0, .int .u64 0, .int .u64 0, .int .u64 0, .int .u64 0], .slice none 0 0] 8 rfl (World.shaped_of_RefB (by kernel_rfl) (by kernel_rfl)) (by kernel_rfl) (by kernel_rfl) (by kernel_rfl) (door_met os _)) ?_
  intro W base args ds gs before hval hW _ _ hL _
  exact law_contractA (P := Tryz.prog) laidOut kinds pick (by kernel_rfl) rfl (by rfl) Tryz.underlying4
    (fun ds h => by
      have h' : ds.length = 2 := by rw [h, Tryz.params5]; rfl
      match ds, h' with | [d0, d1], _ => rfl) W base args ds gs before hval hW tabs_nil
theorem over : Rows.platTicksRow.holds Tryz.pinned (OpenSpec.ofChange Rows.platTicksSpec) :=
  OpenClaim.holds_of_wide 5 Tryz.f5 rfl rfl rfl rfl rfl rfl rfl ⟨rfl, rfl, rfl, rfl, rfl⟩ rfl rfl rfl rfl rfl (by kernel_rfl) Tryz.func5 (by kernel_rfl)
    (of_decide_eq_true (by kernel_rfl)) (by unfold Func.isWrapper; first | (rw [if_pos (by decide +kernel)]; kernel_rfl) | (rw [if_neg (by decide +kernel)]; exact ⟨rfl, rfl⟩))
    (fun os started H enc _ => lifted os started H enc)
theorem proved : Rows.PlatTicksSaid := over
#print axioms proved
end Go.Proofs.YtnakloibjdpmgaaGreatDoor.PlatTicks
namespace Go.Proofs.YtnakloibjdpmgaaGreatDoor
open Go
/-- The row, under a short name. -/
theorem platTicks_row : Rows.PlatTicksSaid := PlatTicks.proved
/-- The tied card. -/
theorem platTicks_holds : Rows.PlatTicksCardSaid :=
  Claim7.holds_tied_plain_at .later [] [.data] true (true, "7320964ad81cbc5e5dd6b9ba09afa430feaa2081f5eff0ee16d852eef5a24c49") false
    platTicks_row (fun _ h => by cases h) (by kernel_rfl) (fun _ h => by cases h) platTicks_row_tie rfl ⟨rfl, rfl⟩ (by kernel_rfl) rfl
    (fun f fn hf hfn => by
      obtain rfl : f = 5 := Option.some.inj ((show Tryz.prog.funcNamed Rows.platTicksRow.func = some 5 by kernel_rfl).symm.trans hf) |>.symm
      obtain rfl : fn = Tryz.f5 := (Option.some.inj (Tryz.func5.symm.trans hfn)).symm
      exact ⟨by kernel_rfl, fun j t ht => by
        rw [Tryz.params5] at ht
        have hm : t ∈ [34, 57] := by simpa using Array.mem_of_getElem? ht
        have hall : ([34, 57].all fun u => !Tryz.prog.wantsStandIn u) = true := by kernel_rfl
        exact (show Tryz.prog.wantsStandIn t = false by simpa using List.all_eq_true.1 hall t hm)⟩)
    (by kernel_rfl)
end Go.Proofs.YtnakloibjdpmgaaGreatDoor
