/- PmuErrors: for every input that the statement lets in the law returns true, and the input reads as it did. No condition. -/
import Derived.Test.YthbdkghbkoibdaaLawPmuErrorsP
import Derived.Test.YthbdkghbkoibdaaLawPmuErrorsR0
import Derived.Test.YthbdkghbkoibdaaLawPmuErrorsR1
import Derived.Test.YthbdkghbkoibdaaLawPmuErrorsR2
import Derived.Test.YthbdkghbkoibdaaLawPmuErrorsR3
import Derived.Test.YthbdkghbkoibdaaLawPmuErrorsR4
import Derived.Test.YthbdkghbkoibdaaLawPmuErrorsR5
import Derived.Test.YthbdkghbkoibdaaLawPmuErrorsR6
import Derived.Test.YthbdkghbkoibdaaLawPmuErrorsR7
import Derived.Test.YthbdkghbkoibdaaLawPmuErrorsR8
import Derived.Test.YthbdkghbkoibdaaLawPmuErrorsR9
import Derived.Test.YthbdkghbkoibdaaLawPmuErrorsR10
import Derived.Test.YthbdkghbkoibdaaLawPmuErrorsR11
import Derived.Test.YthbdkghbkoibdaaLawPmuErrorsR12
import Derived.Test.YthbdkghbkoibdaaLawPmuErrorsR13
import Derived.Test.YthbdkghbkoibdaaLawPmuErrorsR14
import Derived.Test.YthbdkghbkoibdaaLawPmuErrorsR15
import Derived.Test.YthbdkghbkoibdaaLawPmuErrorsR16
import Derived.Test.YthbdkghbkoibdaaLawPmuErrorsR17
import Derived.Test.YthbdkghbkoibdaaLawPmuErrorsR18
import Derived.Test.YthbdkghbkoibdaaLawPmuErrorsR19
import Derived.Test.YthbdkghbkoibdaaLawPmuErrorsR20
import Derived.Test.YthbdkghbkoibdaaLawPmuErrorsR21
import Derived.Test.YthbdkghbkoibdaaLawPmuErrorsR22
namespace Go.Proofs.Ythbdkghbkoibdaa.PmuErrors
open Go.ChangeShapes Go.WideShapes Go.ChangeAt Go.RowKit Go.Sy
set_option linter.unusedVariables false
theorem own : ownKnob Try.prog.godebug = none := by kernel_rfl
theorem laidOut : laidOutB Try.prog = true := by kernel_rfl
theorem mixed : Try.prog.follows .mixedOrders = true := by kernel_rfl
theorem kinds : argK Try.prog 8 Try.f7.params.toList = some ([none], ks) := by kernel_rfl
theorem runf0 : ansf0.good = true := by
  have h0 := runf0_0
  have h1 := goodT_or _ _ _ h0 runf0_1
  have h2 := goodT_or _ _ _ h1 runf0_2
  have h3 := goodT_or _ _ _ h2 runf0_3
  have h4 := goodT_or _ _ _ h3 runf0_4
  have h5 := goodT_or _ _ _ h4 runf0_5
  have h6 := goodT_or _ _ _ h5 runf0_6
  have h7 := goodT_or _ _ _ h6 runf0_7
  have h8 := goodT_or _ _ _ h7 runf0_8
  have h9 := goodT_or _ _ _ h8 runf0_9
  have h10 := goodT_or _ _ _ h9 runf0_10
  have h11 := goodT_or _ _ _ h10 runf0_11
  have h12 := goodT_or _ _ _ h11 runf0_12
  have h13 := goodT_or _ _ _ h12 runf0_13
  have h14 := goodT_or _ _ _ h13 runf0_14
  have h15 := goodT_or _ _ _ h14 runf0_15
  have h16 := goodT_or _ _ _ h15 runf0_16
  have h17 := goodT_or _ _ _ h16 runf0_17
  have h18 := goodT_or _ _ _ h17 runf0_18
  have h19 := goodT_or _ _ _ h18 runf0_19
  have h20 := goodT_or _ _ _ h19 runf0_20
  have h21 := goodT_or _ _ _ h20 runf0_21
  have e : (PT.or (PT.or (PT.or (PT.or (PT.or (PT.or (PT.or (PT.or (PT.or (PT.or (PT.or (PT.or (PT.or (PT.or (PT.or (PT.or (PT.or (PT.or (PT.or (PT.or (PT.or ((.node .skip (.node .skip (.node .skip (.node .skip (.node .skip (.node .skip (.node (.node (.node .skip .all) .all) .all))))))) : PT) (.node .skip (.node .skip (.node .skip (.node .skip (.node .skip (.node (.node (.node .skip .all) .all) (.node (.node (.node .all .skip) .skip) .skip)))))))) (.node .skip (.node .skip (.node .skip (.node .skip (.node .skip (.node (.node (.node (.node .skip .all) .skip) .skip) .skip))))))) (.node .skip (.node .skip (.node .skip (.node .skip (.node (.node (.node .skip .all) .all) (.node (.node (.node (.node .all .skip) .skip) .skip) .skip))))))) (.node .skip (.node .skip (.node .skip (.node .skip (.node (.node (.node (.node .skip .all) .skip) .skip) .skip)))))) (.node .skip (.node .skip (.node .skip (.node (.node (.node .skip .all) .all) (.node (.node (.node (.node .all .skip) .skip) .skip) .skip)))))) (.node .skip (.node .skip (.node .skip (.node (.node (.node (.node .skip .all) .skip) .skip) .skip))))) (.node .skip (.node .skip (.node (.node .skip (.node (.node .skip .all) .all)) (.node (.node (.node (.node .all .skip) .skip) .skip) .skip))))) (.node .skip (.node .skip (.node (.node (.node (.node .skip .all) .all) (.node (.node .all .skip) .skip)) .skip)))) (.node .skip (.node .skip (.node (.node (.node (.node (.node .skip (.node .skip (.node .skip .all))) .skip) .skip) .skip) .skip)))) (.node .skip (.node .skip (.node (.node (.node (.node (.node .skip (.node (.node .skip .all) (.node .all .skip))) .skip) .skip) .skip) .skip)))) (.node .skip (.node (.node (.node .skip .all) .all) (.node (.node (.node (.node (.node .all (.node (.node .all .skip) .skip)) .skip) .skip) .skip) .skip)))) (.node .skip (.node (.node (.node (.node .skip .all) .skip) .skip) .skip))) (.node .skip (.node (.node (.node (.node (.node .skip (.node .skip (.node .skip .all))) .skip) .skip) .skip) .skip))) (.node .skip (.node (.node (.node (.node (.node .skip (.node (.node .skip .all) (.node .all .skip))) .skip) .skip) .skip) .skip))) (.node (.node .skip (.node .skip .all)) (.node (.node (.node (.node (.node .all (.node (.node .all .skip) .skip)) .skip) .skip) .skip) .skip))) (.node (.node (.node (.node (.node .skip (.node .skip (.node .skip (.node (.node .skip .all) .all)))) .all) .all) (.node .all .skip)) .skip)) (.node (.node (.node (.node (.node .skip (.node .skip (.node (.node .skip (.node .skip (.node .skip .all))) (.node (.node .all .skip) .skip)))) .skip) .skip) .skip) .skip)) (.node (.node (.node (.node (.node .skip (.node .skip (.node (.node (.node (.node .skip .all) .all) (.node .all (.node .all .skip))) .skip))) .skip) .skip) .skip) .skip)) (.node (.node (.node (.node (.node .skip (.node (.node (.node .skip (.node (.node .skip .all) .all)) .all) (.node (.node (.node (.node .all .skip) .skip) .skip) .skip))) .skip) .skip) .skip) .skip)) (.node (.node (.node (.node (.node .skip (.node (.node (.node (.node .skip .all) (.node (.node .all .skip) .skip)) .skip) .skip)) .skip) .skip) .skip) .skip)) (.node (.node (.node (.node (.node .all (.node (.node (.node (.node .all .skip) .skip) .skip) .skip)) .skip) .skip) .skip) .skip)) = PT.all := by kernel_rfl
  rw [← goodT_all, ← e]
  exact h21
theorem runs_f (σ : Nat → Nat) (vs : List Value) (w : World) (bl : List (Nat × Nat)) (hd : EntryOk w sa_f [none] σ vs bl) : Calls Try.prog 7 vs.toArray w fun e w' => e = .returned (.bool true) ∧ Below w.heap.size w w' := by
  exact part_runB mixed runf0 (fun _ _ h => by cases h) σ all_nil vs w bl hd
theorem runs_t (σ : Nat → Nat) (vs : List Value) (w : World) (bl : List (Nat × Nat)) (hd : EntryOk w sa_t [none] σ vs bl) : Calls Try.prog 7 vs.toArray w fun e w' => e = .returned (.bool true) ∧ Below w.heap.size w w' := by
  exact part_runB mixed runt22 (fun _ _ h => by cases h) σ all_nil vs w bl hd
theorem pick : ∀ nl : List Bool, nl.length = nsl ks → ∃ sa, symK ks nl 0 4294967296 0 = some sa ∧ sa.i ≤ 2 ^ 40 ∧ ∀ (σ : Nat → Nat) (vs : List Value) (w : World) (bl : List (Nat × Nat)), EntryOk w sa [none] σ vs bl → Calls Try.prog 7 vs.toArray w fun e w' => e = .returned (.bool true) ∧ Below w.heap.size w w' := by
  intro nl hl
  have hl : nl.length = 1 := hl
  match nl, hl with
  | [false], _ => exact ⟨sa_f, by kernel_rfl, of_nble (by kernel_rfl), runs_f⟩
  | [true], _ => exact ⟨sa_t, by kernel_rfl, of_nble (by kernel_rfl), runs_t⟩
set_option maxRecDepth 100000 in
theorem lifted (os : Os) (started : os.Started) (H : Type) (enc : TypeId × Value → H) :
    ReturnsInHanded {} Try.checked os 7 .any (Rows.pmuErrorsSpec.pre6 enc Try.prog Try.f7 Rows.pmuErrorsRow.domain false) (Rows.pmuErrorsSpec.post enc Try.prog Try.f7 false true false false) := by
  refine returnsInHanded_of_change (C := Try.checked) own started (by kernel_rfl) Try.func7
    (ChangeSpec.witness6 (enc := enc) (C := Try.checked) false ⟨#[], #[.slice none 0 0], []⟩ 8 (by kernel_rfl) (by kernel_rfl) (by kernel_rfl) (by kernel_rfl)) ?_
  intro W base args ds gs before hval hW _ _
  exact law_contractA (P := Try.prog) laidOut kinds pick (by kernel_rfl) rfl (by rfl) Try.underlying4
    (fun ds h => by
      have h' : ds.length = 1 := by rw [h, Try.params7]; rfl
      match ds, h' with | [d0], _ => rfl) W base args ds gs before hval hW
theorem over : Rows.pmuErrorsRow.holds Try.pinned (OpenSpec.ofChange Rows.pmuErrorsSpec) :=
  OpenClaim.holds_of_wide 7 Try.f7 rfl rfl rfl rfl rfl rfl rfl ⟨rfl, rfl, rfl, rfl, rfl⟩ rfl rfl rfl rfl rfl (by kernel_rfl) Try.func7 (by kernel_rfl)
    (of_decide_eq_true (by kernel_rfl)) (by unfold Func.isWrapper; first | (rw [if_pos (by decide +kernel)]; kernel_rfl) | (rw [if_neg (by decide +kernel)]; exact ⟨rfl, rfl⟩))
    (fun os started H enc _ => lifted os started H enc)
theorem proved : Rows.PmuErrorsSaid := over
#print axioms proved
end Go.Proofs.Ythbdkghbkoibdaa.PmuErrors
namespace Go.Proofs.Ythbdkghbkoibdaa
/-- The row, under a short name, for the claim. -/
theorem pmuErrors_holds : Rows.PmuErrorsSaid := PmuErrors.proved
end Go.Proofs.Ythbdkghbkoibdaa
