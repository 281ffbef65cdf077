/- SbiResets: for every input that the statement lets in the law returns true, and the input reads as it did. No condition. -/
import Derived.Test.YtckoidjlhnnmdaaDoorLawSbiResetsP
import Derived.Test.YtckoidjlhnnmdaaDoorLawSbiResetsR0
import Derived.Test.YtckoidjlhnnmdaaDoorTie
import Derived.Test.YtckoidjlhnnmdaaDoorCards
import Derived.LaidMore
import Derived.SevenTiedAt
namespace Go.Proofs.YtckoidjlhnnmdaaDoor.SbiResets
open Go.ChangeShapes Go.WideShapes Go.ChangeAt Go.RowKit Go.Sy
set_option linter.unusedVariables false
theorem own : ownKnob Tryd.prog.godebug = none := by kernel_rfl
theorem laidOut : laidOutB Tryd.prog = true := by kernel_rfl
theorem mixed : Tryd.prog.follows .mixedOrders = true := by kernel_rfl
theorem kinds : argK Tryd.prog 8 Tryd.f3.params.toList = some ([some 2, some 2], ks) := by kernel_rfl
theorem trues : ∀ f ∈ ([] : List Nat), TrueFn Tryd.prog f := by
  intro f hf
  cases hf
theorem runs_e (σ : Nat → Nat) (vs : List Value) (w : World) (bl : List (Nat × Nat)) (hd : EntryOk w sa_e [some 2, some 2] σ vs bl) : Calls Tryd.prog 3 vs.toArray w fun e w' => e = .returned (.bool true) ∧ Below w.heap.size w w' := by
  exact part_runT mixed trues rune0 (fun _ _ h => by cases h) σ all_nil vs w bl hd
theorem pick : ∀ nl : List Bool, nl.length = nsl ks → ∃ sa, symK ks nl 0 4294967296 0 = some sa ∧ sa.i ≤ 2 ^ 40 ∧ ∀ (σ : Nat → Nat) (vs : List Value) (w : World) (bl : List (Nat × Nat)), EntryOk w sa [some 2, some 2] σ vs bl → Calls Tryd.prog 3 vs.toArray w fun e w' => e = .returned (.bool true) ∧ Below w.heap.size w w' := by
  intro nl hl
  have hl : nl.length = 0 := hl
  match nl, hl with
  | [], _ => exact ⟨sa_e, by kernel_rfl, of_nble (by kernel_rfl), runs_e⟩
theorem door_met (os : Os) (args : Array Value) : laidMetH Tryd.prog Rows.sbiResetsRow.laid ((World.doorLaid Tryd.prog 400 os).forCall (fun _ _ => 0) ⟨#[], args, []⟩).memory :=
  laidMetH_of_parts3 (fuel := 8) (laidMet_of_run' 8 (by kernel_rfl) (by kernel_rfl)) (by kernel_rfl) (by kernel_rfl)
set_option maxRecDepth 100000 in
theorem lifted (os : Os) (started : os.Started) (H : Type) (enc : TypeId × Value → H) :
    ReturnsInHanded {} Tryd.checked os 3 .any (fun w args => (Rows.sbiResetsSpec.pre enc Tryd.prog Tryd.f3 [] false w args ∧ laidMetH Tryd.prog Rows.sbiResetsRow.laid w) ∧ sizedMet enc Tryd.prog Tryd.f3 (OpenSpec.ofChange Rows.sbiResetsSpec) false w args)
      (Rows.sbiResetsSpec.post enc Tryd.prog Tryd.f3 false true false false) := by
  refine returnsInHanded_of_change_and (C := Tryd.checked) (X := fun w _ => laidMetH Tryd.prog Rows.sbiResetsRow.laid w) (fun _ _ _ hh h => h.of_heap hh) own started (by kernel_rfl) Tryd.func3
    (ChangeSpec.witness_shaped (enc := enc) (C := Tryd.checked) (os := os) (X := fun w _ => laidMetH Tryd.prog Rows.sbiResetsRow.laid w) false (World.doorLaid Tryd.prog 400 os) #[.agg #[.int .u64 0, .int .u64 0], .agg #[.int .u64 0, .int .u64 0]] 8 rfl (World.shaped_of_RefB (by kernel_rfl) (by kernel_rfl)) (by kernel_rfl) (by kernel_rfl) (by kernel_rfl) (door_met os _)) ?_
  intro W base args ds gs before hval hW _ _ _ _
  exact law_contractA (P := Tryd.prog) laidOut kinds pick (by kernel_rfl) rfl (by rfl) Tryd.underlying4
    (fun ds h => by
      have h' : ds.length = 2 := by rw [h, Tryd.params3]; rfl
      match ds, h' with | [d0, d1], _ => rfl) W base args ds gs before hval hW
theorem over : Rows.sbiResetsRow.holds Tryd.pinned (OpenSpec.ofChange Rows.sbiResetsSpec) :=
  OpenClaim.holds_of_wide 3 Tryd.f3 rfl rfl rfl rfl rfl rfl rfl ⟨rfl, rfl, rfl, rfl, rfl⟩ rfl rfl rfl rfl rfl (by kernel_rfl) Tryd.func3 (by kernel_rfl)
    (of_decide_eq_true (by kernel_rfl)) (by unfold Func.isWrapper; first | (rw [if_pos (by decide +kernel)]; kernel_rfl) | (rw [if_neg (by decide +kernel)]; exact ⟨rfl, rfl⟩))
    (fun os started H enc _ => lifted os started H enc)
theorem proved : Rows.SbiResetsSaid := over
#print axioms proved
end Go.Proofs.YtckoidjlhnnmdaaDoor.SbiResets
namespace Go.Proofs.YtckoidjlhnnmdaaDoor
open Go
/-- The row, under a short name. -/
theorem sbiResets_row : Rows.SbiResetsSaid := SbiResets.proved
/-- The tied card. -/
theorem sbiResets_holds : Rows.SbiResetsCardSaid :=
  Claim7.holds_tied_plain_at .later [] [.data] true (true, "cf452a70e76a534c2d73d4f82097de31dbcee0dafb45a413ad81ffb50990d4f9") false
    sbiResets_row (fun _ h => by cases h) (by kernel_rfl) (fun _ h => by cases h) sbiResets_row_tie rfl ⟨rfl, rfl⟩ (by kernel_rfl) rfl
    (fun f fn hf hfn => by
      obtain rfl : f = 3 := Option.some.inj ((show Tryd.prog.funcNamed Rows.sbiResetsRow.func = some 3 by kernel_rfl).symm.trans hf) |>.symm
      obtain rfl : fn = Tryd.f3 := (Option.some.inj (Tryd.func3.symm.trans hfn)).symm
      exact ⟨by kernel_rfl, fun j t ht => by
        rw [Tryd.params3] at ht
        have hm : t ∈ [23, 23] := by simpa using Array.mem_of_getElem? ht
        have hall : ([23, 23].all fun u => !Tryd.prog.wantsStandIn u) = true := by kernel_rfl
        exact (show Tryd.prog.wantsStandIn t = false by simpa using List.all_eq_true.1 hall t hm)⟩)
    (by kernel_rfl)
end Go.Proofs.YtckoidjlhnnmdaaDoor
