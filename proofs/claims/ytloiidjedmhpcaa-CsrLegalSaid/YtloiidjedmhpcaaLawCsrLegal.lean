/- CsrLegal: for every input that the statement lets in the law returns true, and the input reads as it did. No condition. -/
import Derived.Test.YtloiidjedmhpcaaLawCsrLegalP
import Derived.Test.YtloiidjedmhpcaaLawCsrLegalR0
import Derived.Test.YtloiidjedmhpcaaLawCsrLegalR1
import Derived.Test.YtloiidjedmhpcaaLawCsrLegalR2
import Derived.Test.YtloiidjedmhpcaaLawCsrLegalR3
import Derived.Test.YtloiidjedmhpcaaLawCsrLegalR4
import Derived.Test.YtloiidjedmhpcaaLawCsrLegalR5
import Derived.Test.YtloiidjedmhpcaaLawCsrLegalR6
import Derived.Test.YtloiidjedmhpcaaLawCsrLegalR7
import Derived.Test.YtloiidjedmhpcaaLawCsrLegalR8
import Derived.Test.YtloiidjedmhpcaaLawCsrLegalR9
import Derived.Test.YtloiidjedmhpcaaLawCsrLegalR10
import Derived.Test.YtloiidjedmhpcaaLawCsrLegalR11
import Derived.Test.YtloiidjedmhpcaaLawCsrLegalR12
import Derived.Test.YtloiidjedmhpcaaLawCsrLegalR13
import Derived.Test.YtloiidjedmhpcaaLawCsrLegalR14
import Derived.Test.YtloiidjedmhpcaaLawCsrLegalR15
import Derived.Test.YtloiidjedmhpcaaLawCsrLegalR16
import Derived.Test.YtloiidjedmhpcaaLawCsrLegalR17
import Derived.Test.YtloiidjedmhpcaaLawCsrLegalR18
import Derived.Test.YtloiidjedmhpcaaLawCsrLegalR19
import Derived.Test.YtloiidjedmhpcaaLawCsrLegalR20
import Derived.Test.YtloiidjedmhpcaaLawCsrLegalR21
import Derived.Test.YtloiidjedmhpcaaLawCsrLegalR22
import Derived.Test.YtloiidjedmhpcaaLawCsrLegalR23
import Derived.Test.YtloiidjedmhpcaaLawCsrLegalR24
import Derived.Test.YtloiidjedmhpcaaLawCsrLegalR25
import Derived.Test.YtloiidjedmhpcaaLawCsrLegalR26
import Derived.Test.YtloiidjedmhpcaaLawCsrLegalR27
import Derived.Test.YtloiidjedmhpcaaLawCsrLegalR28
import Derived.Test.YtloiidjedmhpcaaLawCsrLegalR29
import Derived.Test.YtloiidjedmhpcaaLawCsrLegalR30
import Derived.Test.YtloiidjedmhpcaaLawCsrLegalR31
import Derived.Test.YtloiidjedmhpcaaLawCsrLegalR32
import Derived.Test.YtloiidjedmhpcaaLawCsrLegalR33
import Derived.Test.YtloiidjedmhpcaaLawCsrLegalR34
import Derived.Test.YtloiidjedmhpcaaLawCsrLegalR35
import Derived.Test.YtloiidjedmhpcaaLawCsrLegalR36
import Derived.Test.YtloiidjedmhpcaaLawCsrLegalR37
import Derived.Test.YtloiidjedmhpcaaLawCsrLegalR38
import Derived.Test.YtloiidjedmhpcaaLawCsrLegalR39
import Derived.Test.YtloiidjedmhpcaaLawCsrLegalR40
import Derived.Test.YtloiidjedmhpcaaLawCsrLegalR41
import Derived.Test.YtloiidjedmhpcaaLawCsrLegalR42
import Derived.Test.YtloiidjedmhpcaaLawCsrLegalR43
import Derived.Test.YtloiidjedmhpcaaLawCsrLegalR44
import Derived.Test.YtloiidjedmhpcaaLawCsrLegalR45
namespace Go.Proofs.Ytloiidjedmhpcaa.CsrLegal
open Go.ChangeShapes Go.WideShapes Go.ChangeAt Go.RowKit Go.Sy
set_option linter.unusedVariables false
theorem own : ownKnob Try.prog.godebug = none := by kernel_rfl
theorem laidOut : laidOutB Try.prog = true := by kernel_rfl
theorem mixed : Try.prog.follows .mixedOrders = true := by kernel_rfl
theorem kinds : argK Try.prog 8 Try.f4.params.toList = some ([some 12, some 5], ks) := by kernel_rfl
theorem trues : ∀ f ∈ ([] : List Nat), TrueFn Try.prog f := by
  intro f hf
  cases hf
theorem rune0 : anse0.good = true := by
  have h0 := rune0_0
  have h1 := goodT_or _ _ _ h0 rune0_1
  have h2 := goodT_or _ _ _ h1 rune0_2
  have h3 := goodT_or _ _ _ h2 rune0_3
  have h4 := goodT_or _ _ _ h3 rune0_4
  have h5 := goodT_or _ _ _ h4 rune0_5
  have h6 := goodT_or _ _ _ h5 rune0_6
  have h7 := goodT_or _ _ _ h6 rune0_7
  have h8 := goodT_or _ _ _ h7 rune0_8
  have h9 := goodT_or _ _ _ h8 rune0_9
  have h10 := goodT_or _ _ _ h9 rune0_10
  have h11 := goodT_or _ _ _ h10 rune0_11
  have h12 := goodT_or _ _ _ h11 rune0_12
  have h13 := goodT_or _ _ _ h12 rune0_13
  have h14 := goodT_or _ _ _ h13 rune0_14
  have h15 := goodT_or _ _ _ h14 rune0_15
  have h16 := goodT_or _ _ _ h15 rune0_16
  have h17 := goodT_or _ _ _ h16 rune0_17
  have h18 := goodT_or _ _ _ h17 rune0_18
  have h19 := goodT_or _ _ _ h18 rune0_19
  have h20 := goodT_or _ _ _ h19 rune0_20
  have h21 := goodT_or _ _ _ h20 rune0_21
  have h22 := goodT_or _ _ _ h21 rune0_22
  have h23 := goodT_or _ _ _ h22 rune0_23
  have h24 := goodT_or _ _ _ h23 rune0_24
  have h25 := goodT_or _ _ _ h24 rune0_25
  have h26 := goodT_or _ _ _ h25 rune0_26
  have h27 := goodT_or _ _ _ h26 rune0_27
  have h28 := goodT_or _ _ _ h27 rune0_28
  have h29 := goodT_or _ _ _ h28 rune0_29
  have h30 := goodT_or _ _ _ h29 rune0_30
  have h31 := goodT_or _ _ _ h30 rune0_31
  have h32 := goodT_or _ _ _ h31 rune0_32
  have h33 := goodT_or _ _ _ h32 rune0_33
  have h34 := goodT_or _ _ _ h33 rune0_34
  have h35 := goodT_or _ _ _ h34 rune0_35
  have h36 := goodT_or _ _ _ h35 rune0_36
  have h37 := goodT_or _ _ _ h36 rune0_37
  have h38 := goodT_or _ _ _ h37 rune0_38
  have h39 := goodT_or _ _ _ h38 rune0_39
  have h40 := goodT_or _ _ _ h39 rune0_40
  have h41 := goodT_or _ _ _ h40 rune0_41
  have h42 := goodT_or _ _ _ h41 rune0_42
  have h43 := goodT_or _ _ _ h42 rune0_43
  have h44 := goodT_or _ _ _ h43 rune0_44
  have h45 := goodT_or _ _ _ h44 rune0_45
  have e : (PT.or (PT.or (PT.or (PT.or (PT.or (PT.or (PT.or (PT.or (PT.or (PT.or (PT.or (PT.or (PT.or (PT.or (PT.or (PT.or (PT.or (PT.or (PT.or (PT.or (PT.or (PT.or (PT.or (PT.or (PT.or (PT.or (PT.or (PT.or (PT.or (PT.or (PT.or (PT.or (PT.or (PT.or (PT.or (PT.or (PT.or (PT.or (PT.or (PT.or (PT.or (PT.or (PT.or (PT.or (PT.or ((.node (.node .all (.node .all (.node .skip (.node .skip (.node .skip (.node .skip (.node .skip (.node .skip (.node .skip (.node .skip (.node .skip (.node .skip (.node .skip (.node .skip (.node .skip (.node .skip (.node .skip (.node .skip (.node .skip (.node .skip (.node (.node (.node .skip .all) .skip) .skip))))))))))))))))))))) .skip) : PT) (.node (.node .skip (.node .skip (.node .all (.node .skip (.node .skip (.node .skip (.node .skip (.node .skip (.node .skip (.node .skip (.node (.node .skip (.node .skip (.node .skip (.node .skip (.node .skip (.node .skip (.node .skip (.node .skip (.node .skip (.node .skip (.node .skip (.node .skip (.node .skip .all))))))))))))) .skip))))))))))) .all)) (.node (.node .skip (.node .skip (.node .skip (.node .all (.node .all (.node .all (.node .all (.node .skip (.node .skip (.node .skip (.node .skip (.node .skip (.node .skip (.node .skip (.node .skip (.node .skip (.node .skip (.node .skip (.node .skip (.node .skip (.node (.node (.node .all .skip) .skip) .skip))))))))))))))))))))) .skip)) (.node (.node .skip (.node .skip (.node .skip (.node .skip (.node .skip (.node .skip (.node .skip (.node .all (.node .all (.node .all (.node (.node (.node .skip (.node .skip (.node .skip (.node .skip (.node .skip (.node .skip (.node .skip (.node .skip (.node .skip (.node .skip (.node .skip (.node .skip .all)))))))))))) .skip) .skip))))))))))) .skip)) (.node (.node .skip (.node .skip (.node .skip (.node .skip (.node .skip (.node .skip (.node .skip (.node .skip (.node .skip (.node .skip (.node (.node .skip (.node .skip (.node .skip (.node .skip (.node .skip (.node .skip (.node .skip (.node .skip (.node .skip (.node .all .skip)))))))))) .skip))))))))))) .skip)) (.node (.node .skip (.node .skip (.node .skip (.node .skip (.node .skip (.node .skip (.node .skip (.node .skip (.node .skip (.node .skip (.node (.node .skip (.node .skip (.node .skip (.node .skip (.node .skip (.node .skip (.node .all .skip))))))) .skip))))))))))) .skip)) (.node (.node .skip (.node .skip (.node .skip (.node .skip (.node .skip (.node .skip (.node .skip (.node .skip (.node .skip (.node .skip (.node (.node .skip (.node .skip (.node .skip (.node .skip (.node .skip (.node .skip (.node .skip (.node .skip (.node .all .skip))))))))) .skip))))))))))) .skip)) (.node (.node .skip (.node .skip (.node .skip (.node .skip (.node .skip (.node .skip (.node .skip (.node .skip (.node .skip (.node .skip (.node .skip (.node .skip (.node .skip (.node .skip (.node .skip (.node .skip (.node .skip (.node .skip (.node .skip (.node .skip (.node .skip (.node .skip (.node .skip .all))))))))))))))))))))))) .skip)) (.node (.node .skip (.node .skip (.node .skip (.node .skip (.node .skip (.node .skip (.node .skip (.node .skip (.node .skip (.node .skip (.node .skip (.node .all .skip)))))))))))) .skip)) (.node (.node .skip (.node .skip (.node .skip (.node .skip (.node .skip (.node .skip (.node .skip (.node .skip (.node .skip (.node .skip (.node (.node .skip (.node .skip (.node .skip (.node .skip (.node .skip (.node .skip (.node .skip (.node .skip (.node .skip (.node .skip (.node (.node (.node .skip .all) .skip) .skip))))))))))) .skip))))))))))) .skip)) (.node (.node .skip (.node .skip (.node .skip (.node .skip (.node .skip (.node .skip (.node .skip (.node .skip (.node .skip (.node .skip (.node (.node (.node .all .skip) .skip) .skip))))))))))) .skip)) (.node (.node .skip (.node .skip (.node .skip (.node .skip (.node .skip (.node .skip (.node .skip (.node .skip (.node .skip (.node .skip (.node (.node (.node .skip (.node .all .skip)) .skip) .skip))))))))))) .skip)) (.node (.node .skip (.node .skip (.node .skip (.node .skip (.node .skip (.node .skip (.node .skip (.node .skip (.node .skip (.node .skip (.node (.node (.node .skip (.node .skip (.node .skip (.node .skip (.node .skip (.node .skip (.node .skip (.node .all .skip)))))))) .skip) .skip))))))))))) .skip)) (.node (.node .skip (.node .skip (.node .skip (.node .skip (.node .skip (.node .skip (.node .skip (.node .skip (.node .skip (.node .skip (.node .skip (.node .skip (.node .skip (.node .skip (.node .skip (.node .skip (.node .skip (.node .skip (.node .skip (.node .all .skip)))))))))))))))))))) .skip)) (.node (.node .skip (.node .skip (.node .skip (.node .skip (.node .skip (.node .skip (.node .skip (.node .skip (.node .skip (.node .skip (.node (.node .skip (.node .skip (.node .skip (.node .skip (.node .skip (.node .skip (.node .skip (.node .all .skip)))))))) .skip))))))))))) .skip)) (.node (.node .skip (.node .skip (.node .skip (.node .skip (.node .skip (.node .skip (.node .skip (.node .skip (.node .skip (.node .skip (.node .skip (.node .skip (.node .skip (.node .skip (.node .skip (.node .skip (.node .skip (.node .all .skip)))))))))))))))))) .skip)) (.node (.node .skip (.node .skip (.node .skip (.node .skip (.node .skip (.node .skip (.node .skip (.node .skip (.node .skip (.node .skip (.node .skip (.node .skip (.node .skip (.node .skip (.node .skip (.node .skip (.node .all .skip))))))))))))))))) .skip)) (.node (.node .skip (.node .skip (.node .skip (.node .skip (.node .skip (.node .skip (.node .skip (.node .skip (.node .skip (.node .skip (.node (.node (.node .skip (.node .skip (.node .skip (.node .skip (.node .skip (.node .skip (.node .skip (.node .skip (.node .skip (.node (.node (.node .skip .all) .skip) .skip)))))))))) .skip) .skip))))))))))) .skip)) (.node (.node .skip (.node .skip (.node .skip (.node .skip (.node .skip (.node .skip (.node .skip (.node .skip (.node .skip (.node .skip (.node (.node (.node .skip (.node .skip (.node .skip (.node .skip (.node .skip (.node .all .skip)))))) .skip) .skip))))))))))) .skip)) (.node (.node .skip (.node .skip (.node .skip (.node .skip (.node .skip (.node .skip (.node .skip (.node .skip (.node .skip (.node .skip (.node (.node .skip (.node .skip (.node .skip (.node .skip (.node .skip (.node .skip (.node .skip (.node .skip (.node .skip (.node .skip (.node (.node (.node .all .skip) .skip) .skip))))))))))) .skip))))))))))) .skip)) (.node (.node .skip (.node .skip (.node .skip (.node .skip (.node .skip (.node .skip (.node .skip (.node .skip (.node .skip (.node .skip (.node (.node .skip (.node .skip (.node .skip (.node .skip (.node .skip (.node .all (.node .skip (.node .skip (.node .skip (.node .skip (.node (.node .skip (.node .skip .all)) .skip))))))))))) .skip))))))))))) .skip)) (.node (.node .skip (.node .skip (.node .skip (.node .skip (.node .skip (.node .skip (.node .skip (.node .skip (.node .skip (.node .skip (.node .skip (.node .skip (.node .skip (.node .skip (.node .all .skip))))))))))))))) .skip)) (.node (.node .skip (.node .skip (.node .skip (.node .skip (.node .skip (.node .skip (.node .skip (.node .skip (.node .skip (.node .skip (.node .skip (.node .skip (.node .skip (.node .all .skip)))))))))))))) .skip)) (.node (.node .skip (.node .skip (.node .skip (.node .skip (.node .skip (.node .skip (.node .skip (.node .skip (.node .skip (.node .skip (.node .skip (.node .skip (.node .skip (.node .skip (.node .skip (.node .skip (.node .skip (.node .skip (.node .all .skip))))))))))))))))))) .skip)) (.node (.node .skip (.node .skip (.node .skip (.node .skip (.node .skip (.node .skip (.node .skip (.node .skip (.node .skip (.node .skip (.node (.node (.node .skip (.node .skip (.node .skip (.node .skip (.node .skip (.node .skip (.node .skip (.node .skip (.node .skip (.node (.node (.node .all .skip) .skip) .skip)))))))))) .skip) .skip))))))))))) .skip)) (.node (.node .skip (.node .skip (.node .skip (.node .skip (.node .skip (.node .skip (.node .skip (.node .skip (.node .skip (.node .skip (.node (.node (.node .skip (.node .skip (.node .skip (.node .all .skip)))) .skip) .skip))))))))))) .skip)) (.node (.node .skip (.node .skip (.node .skip (.node .skip (.node .skip (.node .skip (.node .skip (.node .skip (.node .skip (.node .skip (.node (.node .skip (.node .skip (.node .skip (.node .skip (.node .all .skip))))) (.node .skip (.node .skip (.node .skip (.node .skip (.node .skip (.node .skip (.node .skip (.node .skip (.node .skip (.node .skip (.node (.node .skip (.node (.node .all .skip) .skip)) .skip)))))))))))))))))))))) .skip)) (.node (.node .skip (.node .skip (.node .skip (.node .skip (.node .skip (.node .skip (.node .skip (.node .skip (.node .skip (.node .skip (.node .skip (.node .skip (.node .skip (.node .skip (.node .skip (.node .all .skip)))))))))))))))) .skip)) (.node (.node .skip (.node .skip (.node .skip (.node .skip (.node .skip (.node .skip (.node .skip (.node .skip (.node .skip (.node .skip (.node (.node (.node .skip (.node .skip (.node .skip (.node .skip (.node .skip (.node .skip (.node .skip (.node .skip (.node .skip (.node (.node .skip (.node .skip .all)) .skip)))))))))) .skip) (.node .skip (.node .all .skip))))))))))))) .skip)) (.node (.node .skip (.node .skip (.node .skip (.node .skip (.node .skip (.node .skip (.node .skip (.node .skip (.node .skip (.node .skip (.node (.node (.node .skip (.node .skip (.node .skip (.node .skip (.node .skip (.node .skip (.node .skip (.node .skip (.node .all .skip))))))))) .skip) .skip))))))))))) .skip)) (.node (.node .skip (.node .skip (.node .skip (.node .skip (.node .skip (.node .skip (.node .skip (.node .skip (.node .skip (.node .skip (.node (.node .skip (.node .skip (.node .skip (.node .all .skip)))) .skip))))))))))) .skip)) (.node (.node .skip (.node .skip (.node .skip (.node .skip (.node .skip (.node .skip (.node .skip (.node .skip (.node .skip (.node .skip (.node (.node (.node .skip (.node .skip (.node .skip (.node .skip (.node .all .skip))))) .skip) (.node .skip (.node .skip (.node .skip (.node .skip (.node .skip (.node .skip (.node .skip (.node .skip (.node .skip (.node .skip (.node (.node .skip (.node (.node .skip .all) .skip)) .skip)))))))))))))))))))))) .skip)) (.node (.node .skip (.node .skip (.node .skip (.node .skip (.node .skip (.node .skip (.node .skip (.node .skip (.node .skip (.node .skip (.node (.node (.node .skip (.node .skip (.node .skip (.node .skip (.node .skip (.node .skip (.node .all .skip))))))) (.node .skip (.node .skip (.node .skip (.node .skip (.node .skip (.node .skip (.node .skip (.node .skip (.node .skip (.node .skip (.node (.node .skip (.node (.node .skip .all) .skip)) .skip)))))))))))) .skip))))))))))) .skip)) (.node (.node .skip (.node .skip (.node .skip (.node .skip (.node .skip (.node .skip (.node .skip (.node .skip (.node .skip (.node .skip (.node (.node .skip (.node .skip (.node .all (.node .skip (.node .skip (.node .skip (.node .skip (.node .skip (.node .skip (.node .skip (.node .skip (.node .skip (.node .all .skip))))))))))))) .skip))))))))))) .skip)) (.node (.node .skip (.node .skip (.node .skip (.node .skip (.node .skip (.node .skip (.node .skip (.node .skip (.node .skip (.node .skip (.node (.node (.node .skip (.node .skip (.node .all .skip))) .skip) .skip))))))))))) .skip)) (.node (.node .skip (.node .skip (.node .skip (.node .skip (.node .skip (.node .skip (.node .skip (.node .skip (.node .skip (.node .skip (.node (.node (.node .skip (.node .skip (.node .skip (.node .skip (.node .skip (.node .skip (.node .skip (.node .skip (.node .skip (.node .skip (.node .skip (.node .all .skip)))))))))))) .skip) (.node .skip (.node .skip (.node .skip (.node .skip (.node .skip (.node .skip (.node .skip (.node .skip (.node .skip (.node (.node .skip (.node .all .skip)) .skip))))))))))))))))))))) .skip)) (.node (.node .skip (.node .skip (.node .skip (.node .skip (.node .skip (.node .skip (.node .skip (.node .skip (.node .skip (.node .skip (.node (.node .skip (.node .all .skip)) .skip))))))))))) .skip)) (.node (.node .skip (.node .skip (.node .skip (.node .skip (.node .skip (.node .skip (.node .skip (.node .skip (.node .skip (.node .skip (.node (.node .skip (.node .skip (.node .skip (.node .skip (.node .skip (.node .skip (.node .skip (.node .skip (.node .skip (.node .skip (.node .skip (.node (.node .all .skip) .skip)))))))))))) (.node .skip (.node .skip (.node .skip (.node .skip (.node .skip (.node .skip (.node .skip (.node .skip (.node .skip (.node .skip (.node (.node .skip (.node .skip (.node .skip .all))) .skip)))))))))))))))))))))) .skip)) (.node (.node .skip (.node .skip (.node .skip (.node .skip (.node .skip (.node .skip (.node .skip (.node .skip (.node .skip (.node .skip (.node (.node .skip (.node .skip (.node .skip (.node .skip (.node .skip (.node .skip (.node .skip (.node .skip (.node .skip (.node .skip (.node (.node .skip (.node .all .skip)) .skip))))))))))) (.node .skip (.node .skip (.node .skip (.node .skip (.node .skip (.node .skip (.node .skip (.node .skip (.node .skip (.node (.node .skip (.node .skip .all)) .skip))))))))))))))))))))) .skip)) (.node (.node .skip (.node .skip (.node .skip (.node .skip (.node .skip (.node .skip (.node .skip (.node .skip (.node .skip (.node .skip (.node (.node (.node .skip (.node .skip (.node .skip (.node .skip (.node .skip (.node .skip (.node .skip (.node .skip (.node .skip (.node .skip (.node (.node .skip (.node (.node .all .skip) .skip)) .skip))))))))))) (.node .skip (.node .skip (.node .skip (.node .skip (.node .skip (.node .skip (.node .skip (.node .skip (.node .skip (.node .skip (.node (.node .skip (.node .skip (.node .all .skip))) .skip)))))))))))) .skip))))))))))) .skip)) (.node (.node .skip (.node .skip (.node .skip (.node .skip (.node .skip (.node .skip (.node .skip (.node .skip (.node .skip (.node .skip (.node (.node .skip (.node .skip (.node .skip (.node .skip (.node .skip (.node .skip (.node .skip (.node .skip (.node .skip (.node .skip (.node .skip (.node (.node .skip (.node (.node .all .skip) .skip)) .skip)))))))))))) (.node .skip (.node .skip (.node .skip (.node .skip (.node .skip (.node .skip (.node .skip (.node .skip (.node .skip (.node .skip (.node (.node .skip (.node .skip (.node .all .skip))) .skip)))))))))))))))))))))) .skip)) (.node (.node .skip (.node .skip (.node .skip (.node .skip (.node .skip (.node .skip (.node .skip (.node .skip (.node .skip (.node .skip (.node (.node (.node .skip (.node .skip (.node .skip (.node .skip (.node .skip (.node .skip (.node .skip (.node .skip (.node .skip (.node .skip (.node (.node .all (.node (.node .skip .all) .skip)) .skip))))))))))) .skip) .skip))))))))))) .skip)) (.node (.node .skip (.node .skip (.node .skip (.node .skip (.node .skip (.node .skip (.node .skip (.node .skip (.node .skip (.node .skip (.node .skip (.node .skip (.node .skip (.node .skip (.node .skip (.node .skip (.node .skip (.node .skip (.node .skip (.node .skip (.node .skip (.node (.node .all .skip) (.node .all .skip))))))))))))))))))))))) .skip)) (.node (.node .skip (.node .skip (.node .skip (.node .skip (.node .skip (.node .skip (.node .skip (.node .skip (.node .skip (.node .skip (.node (.node .skip (.node .skip (.node .skip (.node .skip (.node .skip (.node .skip (.node .skip (.node .skip (.node .skip (.node .skip (.node .skip (.node (.node .skip (.node .skip (.node .skip .all))) .skip)))))))))))) .skip))))))))))) .skip)) (.node (.node .skip (.node .skip (.node .skip (.node .skip (.node .skip (.node .skip (.node .skip (.node .skip (.node .skip (.node .skip (.node (.node (.node .skip (.node .skip (.node .skip (.node .skip (.node .skip (.node .skip (.node .skip (.node .skip (.node .skip (.node (.node .skip (.node .all .skip)) (.node (.node .skip (.node .skip (.node .skip .all))) .skip))))))))))) .skip) .skip))))))))))) .skip)) (.node (.node .skip (.node .skip (.node .skip (.node .skip (.node .skip (.node .skip (.node .skip (.node .skip (.node .skip (.node .skip (.node (.node (.node .skip (.node .skip (.node .skip (.node .skip (.node .skip (.node .skip (.node .skip (.node .skip (.node .skip (.node .skip (.node (.node .skip (.node .skip (.node .all .skip))) .skip))))))))))) .skip) .skip))))))))))) .skip)) = PT.all := by kernel_rfl
  rw [← goodT_all, ← e]
  exact h45
theorem runs_e (σ : Nat → Nat) (vs : List Value) (w : World) (bl : List (Nat × Nat)) (hd : EntryOk w sa_e [some 12, some 5] σ vs bl) : Calls Try.prog 4 vs.toArray w fun e w' => e = .returned (.bool true) ∧ Below w.heap.size w w' := by
  exact part_runT mixed trues rune0 (fun _ _ h => by cases h) σ all_nil vs w bl hd
theorem pick : ∀ nl : List Bool, nl.length = nsl ks → ∃ sa, symK ks nl 0 4294967296 0 = some sa ∧ sa.i ≤ 2 ^ 40 ∧ ∀ (σ : Nat → Nat) (vs : List Value) (w : World) (bl : List (Nat × Nat)), EntryOk w sa [some 12, some 5] σ vs bl → Calls Try.prog 4 vs.toArray w fun e w' => e = .returned (.bool true) ∧ Below w.heap.size w w' := by
  intro nl hl
  have hl : nl.length = 0 := hl
  match nl, hl with
  | [], _ => exact ⟨sa_e, by kernel_rfl, of_nble (by kernel_rfl), runs_e⟩
set_option maxRecDepth 100000 in
theorem lifted (os : Os) (started : os.Started) (H : Type) (enc : TypeId × Value → H) :
    ReturnsInHanded {} Try.checked os 4 .any (Rows.csrLegalSpec.pre6 enc Try.prog Try.f4 Rows.csrLegalRow.domain false) (Rows.csrLegalSpec.post enc Try.prog Try.f4 false true false false) := by
  refine returnsInHanded_of_change (C := Try.checked) own started (by kernel_rfl) Try.func4
    (ChangeSpec.witness6 (enc := enc) (C := Try.checked) false ⟨#[], #[.agg #[.int .u64 0, .int .u64 0, .int .u64 0, .int .u64 0, .int .u64 0, .int .u64 0, .int .u64 0, .int .u64 0, .int .u64 0, .int .u64 0, .int .u64 0, .int .u64 0], .agg #[.int .i64 0, .int .i64 0, .bool false, .int .u64 0, .int .u64 0]], []⟩ 8 (by kernel_rfl) (by kernel_rfl) (by kernel_rfl) (by kernel_rfl)) ?_
  intro W base args ds gs before hval hW _ _
  exact law_contractA (P := Try.prog) laidOut kinds pick (by kernel_rfl) rfl (by rfl) Try.underlying4
    (fun ds h => by
      have h' : ds.length = 2 := by rw [h, Try.params4]; rfl
      match ds, h' with | [d0, d1], _ => rfl) W base args ds gs before hval hW
theorem over : Rows.csrLegalRow.holds Try.pinned (OpenSpec.ofChange Rows.csrLegalSpec) :=
  OpenClaim.holds_of_wide 4 Try.f4 rfl rfl rfl rfl rfl rfl rfl ⟨rfl, rfl, rfl, rfl, rfl⟩ rfl rfl rfl rfl rfl (by kernel_rfl) Try.func4 (by kernel_rfl)
    (of_decide_eq_true (by kernel_rfl)) (by unfold Func.isWrapper; first | (rw [if_pos (by decide +kernel)]; kernel_rfl) | (rw [if_neg (by decide +kernel)]; exact ⟨rfl, rfl⟩))
    (fun os started H enc _ => lifted os started H enc)
theorem proved : Rows.CsrLegalSaid := over
#print axioms proved
end Go.Proofs.Ytloiidjedmhpcaa.CsrLegal
namespace Go.Proofs.Ytloiidjedmhpcaa
/-- The row, under a short name, for the claim. -/
theorem csrLegal_holds : Rows.CsrLegalSaid := CsrLegal.proved
end Go.Proofs.Ytloiidjedmhpcaa
