/- EncRegisters: for every input that the statement lets in the law returns true, and the input reads as it did. No condition. -/
import Derived.Test.YtaiipnhnbpjplaaDoorLawEncRegistersP
import Derived.Test.YtaiipnhnbpjplaaDoorLawEncRegistersR0
import Derived.Test.YtaiipnhnbpjplaaDoorLawEncRegistersR1
import Derived.Test.YtaiipnhnbpjplaaDoorLawEncRegistersR2
import Derived.Test.YtaiipnhnbpjplaaDoorLawEncRegistersR3
import Derived.Test.YtaiipnhnbpjplaaDoorLawEncRegistersR4
import Derived.Test.YtaiipnhnbpjplaaDoorLawEncRegistersR5
import Derived.Test.YtaiipnhnbpjplaaDoorLawEncRegistersR6
import Derived.Test.YtaiipnhnbpjplaaDoorLawEncRegistersR7
import Derived.Test.YtaiipnhnbpjplaaDoorLawEncRegistersR8
import Derived.Test.YtaiipnhnbpjplaaDoorLawEncRegistersR9
import Derived.Test.YtaiipnhnbpjplaaDoorLawEncRegistersR10
import Derived.Test.YtaiipnhnbpjplaaDoorLawEncRegistersR11
import Derived.Test.YtaiipnhnbpjplaaDoorLawEncRegistersR12
import Derived.Test.YtaiipnhnbpjplaaDoorLawEncRegistersR13
import Derived.Test.YtaiipnhnbpjplaaDoorLawEncRegistersR14
import Derived.Test.YtaiipnhnbpjplaaDoorLawEncRegistersR15
import Derived.Test.YtaiipnhnbpjplaaDoorLawEncRegistersR16
import Derived.Test.YtaiipnhnbpjplaaDoorLawEncRegistersR17
import Derived.Test.YtaiipnhnbpjplaaDoorLawEncRegistersR18
import Derived.Test.YtaiipnhnbpjplaaDoorLawEncRegistersR19
import Derived.Test.YtaiipnhnbpjplaaDoorLawEncRegistersR20
import Derived.Test.YtaiipnhnbpjplaaDoorLawEncRegistersR21
import Derived.Test.YtaiipnhnbpjplaaDoorLawEncRegistersR22
import Derived.Test.YtaiipnhnbpjplaaDoorLawEncRegistersR23
import Derived.Test.YtaiipnhnbpjplaaDoorLawEncRegistersR24
import Derived.Test.YtaiipnhnbpjplaaDoorTie
import Derived.Test.YtaiipnhnbpjplaaDoorCards
import Derived.LaidMore
import Derived.Lay
import Derived.Stop.Joined
import Derived.SevenTiedAt
namespace Go.Proofs.YtaiipnhnbpjplaaDoor.EncRegisters
open Go.ChangeShapes Go.WideShapes Go.ChangeAt Go.RowKit Go.Sy
set_option linter.unusedVariables false
theorem own : ownKnob Tryd.prog.godebug = none := by kernel_rfl
theorem laidOut : laidOutB Tryd.prog = true := by kernel_rfl
theorem mixed : Tryd.prog.follows .mixedOrders = true := by kernel_rfl
theorem kinds : argK Tryd.prog 8 Tryd.f7.params.toList = some ([none, some 3], ks) := by kernel_rfl
set_option maxRecDepth 1000000 in
theorem trueRun8 : (lawRun (envL Tryd.prog 200 false [] [] [] [] [] []) 60 8 [] 0 []).good = true := by kernel_rfl
theorem trues : ∀ f ∈ ([8] : List Nat), TrueFn Tryd.prog f := by
  intro f hf
  rw [List.mem_singleton.1 hf]
  exact trueFn_of (E := envL Tryd.prog 200 false [] [] [] [] [] []) (envL_ok mixed) trueRun8
theorem rune0 : anse0.good = true := by
  have h0 := rune0_0
  have h1 := goodT_or _ _ _ h0 rune0_1
  have h2 := goodT_or _ _ _ h1 rune0_2
  have h3 := goodT_or _ _ _ h2 rune0_3
  have h4 := goodT_or _ _ _ h3 rune0_4
  have h5 := goodT_or _ _ _ h4 rune0_5
  have h6 := goodT_or _ _ _ h5 rune0_6
  have h7 := goodT_or _ _ _ h6 rune0_7
  have h8 := goodT_or _ _ _ h7 rune0_8
  have h9 := goodT_or _ _ _ h8 rune0_9
  have h10 := goodT_or _ _ _ h9 rune0_10
  have h11 := goodT_or _ _ _ h10 rune0_11
  have h12 := goodT_or _ _ _ h11 rune0_12
  have h13 := goodT_or _ _ _ h12 rune0_13
  have h14 := goodT_or _ _ _ h13 rune0_14
  have h15 := goodT_or _ _ _ h14 rune0_15
  have h16 := goodT_or _ _ _ h15 rune0_16
  have h17 := goodT_or _ _ _ h16 rune0_17
  have h18 := goodT_or _ _ _ h17 rune0_18
  have h19 := goodT_or _ _ _ h18 rune0_19
  have h20 := goodT_or _ _ _ h19 rune0_20
  have h21 := goodT_or _ _ _ h20 rune0_21
  have h22 := goodT_or _ _ _ h21 rune0_22
  have h23 := goodT_or _ _ _ h22 rune0_23
  have h24 := goodT_or _ _ _ h23 rune0_24
  have e : (PT.or (PT.or (PT.or (PT.or (PT.or (PT.or (PT.or (PT.or (PT.or (PT.or (PT.or (PT.or (PT.or (PT.or (PT.or (PT.or (PT.or (PT.or (PT.or (PT.or (PT.or (PT.or (PT.or (PT.or ((.node .skip (.node .skip (.node .skip (.node .skip (.node .skip (.node .skip (.node .skip (.node .skip (.node .skip (.node (.node .skip (.node .all .skip)) .skip)))))))))) : PT) (.node .skip (.node .skip (.node .skip (.node .skip (.node .skip (.node .skip (.node .skip (.node .skip (.node .skip (.node (.node (.node .all .skip) (.node .skip (.node (.node .skip (.node .skip (.node (.node .skip (.node .all .skip)) .skip))) .skip))) .skip))))))))))) (.node (.node (.node .all .skip) .skip) (.node .skip (.node .skip (.node .skip (.node .skip (.node .skip (.node .skip (.node .skip (.node .skip (.node (.node (.node .skip (.node (.node (.node .skip .all) .skip) .skip)) .skip) (.node (.node .skip (.node (.node .skip (.node .all .skip)) .skip)) .skip)))))))))))) (.node .skip (.node .skip (.node .skip (.node .skip (.node .skip (.node .skip (.node .skip (.node .skip (.node .skip (.node (.node .skip (.node .skip (.node (.node .skip (.node .skip (.node .skip (.node (.node .skip .all) .skip)))) .skip))) (.node (.node (.node .skip (.node .skip (.node .skip .all))) (.node (.node (.node .all .skip) .skip) .skip)) .skip)))))))))))) (.node .skip (.node .skip (.node .skip (.node .skip (.node .skip (.node .skip (.node .skip (.node .skip (.node .skip (.node (.node (.node .skip (.node .skip (.node .skip (.node .all (.node .skip (.node (.node .skip .all) .skip)))))) .skip) .skip))))))))))) (.node .skip (.node .skip (.node .skip (.node (.node .skip (.node .all .skip)) (.node .skip (.node .skip (.node .skip (.node .skip (.node .skip (.node (.node .skip (.node .skip (.node (.node .skip (.node .all (.node .skip (.node .skip (.node .skip (.node (.node (.node .all .skip) .skip) .skip)))))) .skip))) .skip))))))))))) (.node .skip (.node .skip (.node .skip (.node .skip (.node .skip (.node .skip (.node .skip (.node .skip (.node .skip (.node (.node .skip (.node .skip (.node (.node .skip (.node .skip (.node .skip (.node .skip (.node .all .skip))))) (.node (.node .skip .all) .skip)))) (.node (.node (.node .skip (.node (.node .skip .all) .skip)) .skip) .skip)))))))))))) (.node .skip (.node .skip (.node .skip (.node .skip (.node .skip (.node .skip (.node .skip (.node .skip (.node .skip (.node (.node (.node .skip (.node .skip (.node .skip (.node .skip (.node (.node (.node .skip .all) .skip) .skip))))) .skip) (.node (.node .skip (.node (.node (.node .skip .all) (.node .skip .all)) .skip)) .skip)))))))))))) (.node .skip (.node .skip (.node .skip (.node .skip (.node .skip (.node .skip (.node .skip (.node .skip (.node .skip (.node (.node (.node .skip (.node .skip (.node .skip (.node .skip (.node .skip (.node .skip (.node .skip .all))))))) (.node .skip (.node (.node (.node .all .skip) .skip) .skip))) .skip))))))))))) (.node .skip (.node .skip (.node .skip (.node .skip (.node .skip (.node .skip (.node .skip (.node .skip (.node .skip (.node (.node (.node .skip (.node .skip (.node .skip (.node .skip (.node (.node (.node .all .skip) .skip) (.node .skip (.node .all .skip))))))) .skip) (.node (.node (.node (.node .skip (.node .all .skip)) .skip) .skip) .skip)))))))))))) (.node .skip (.node .skip (.node .skip (.node .skip (.node (.node .skip .all) (.node .skip (.node .skip (.node .skip (.node .skip (.node (.node (.node .skip (.node (.node (.node .all .skip) .skip) .skip)) .skip) (.node (.node (.node .skip (.node .skip (.node .all .skip))) .skip) .skip)))))))))))) (.node .skip (.node .skip (.node .skip (.node .skip (.node (.node .all .skip) (.node .skip (.node .skip (.node .skip (.node .skip (.node (.node (.node .skip (.node .skip (.node .skip (.node .skip (.node .skip (.node (.node .all .skip) .skip)))))) (.node .skip (.node (.node .skip (.node .skip (.node .skip (.node .skip (.node .skip (.node (.node (.node .skip .all) .skip) .skip)))))) .skip))) .skip))))))))))) (.node .skip (.node .skip (.node .skip (.node .skip (.node .skip (.node .skip (.node .skip (.node .skip (.node .skip (.node (.node (.node .skip (.node .skip (.node (.node .all .skip) .skip))) (.node .skip (.node (.node .skip (.node .skip (.node .skip (.node .skip (.node .skip (.node (.node .skip (.node .all .skip)) .skip)))))) (.node .skip (.node .skip .all))))) .skip))))))))))) (.node .skip (.node .skip (.node .skip (.node (.node .skip (.node .skip .all)) (.node .skip (.node .skip (.node .skip (.node .skip (.node .skip (.node (.node .skip (.node .skip (.node (.node .skip (.node .skip (.node .skip (.node (.node .all .skip) (.node .skip (.node (.node .skip (.node .skip .all)) .skip)))))) .skip))) .skip))))))))))) (.node .skip (.node .skip (.node .all (.node .skip (.node .skip (.node .skip (.node .skip (.node (.node .skip .all) (.node .skip (.node (.node .skip (.node .skip (.node (.node (.node .skip .all) (.node .skip (.node .skip (.node .skip (.node .skip (.node .skip (.node (.node .all .skip) .skip))))))) .skip))) .skip))))))))))) (.node .skip (.node .skip (.node .skip (.node .skip (.node .skip (.node .all (.node .skip (.node (.node .all .skip) (.node .all (.node (.node .skip (.node .skip (.node (.node .skip (.node .skip (.node (.node (.node .all .skip) .skip) (.node .skip (.node .skip (.node .skip (.node (.node .skip .all) .skip))))))) (.node (.node .all .skip) (.node .all .skip))))) .skip))))))))))) (.node (.node .skip .all) (.node (.node .all .skip) (.node .skip (.node .skip (.node .skip (.node .skip (.node (.node .skip .all) (.node .skip (.node .skip (.node (.node .skip (.node .skip (.node (.node .skip (.node .skip (.node (.node (.node .skip .all) .skip) (.node .skip (.node .skip (.node .skip (.node .skip (.node .all .skip)))))))) .skip))) (.node (.node (.node (.node .all (.node .skip .all)) .skip) .skip) (.node .all .skip))))))))))))) (.node (.node (.node .skip .all) .skip) (.node (.node .skip .all) (.node .skip (.node (.node .all .skip) (.node .skip (.node .skip (.node (.node .all .skip) (.node .skip (.node .skip (.node (.node (.node .skip (.node .skip (.node (.node .skip .all) .skip))) (.node .skip (.node (.node .skip (.node .skip (.node .skip (.node .skip (.node .skip (.node .skip (.node .skip (.node .skip .all)))))))) .skip))) (.node (.node .skip (.node .skip (.node .skip .all))) .skip)))))))))))) (.node .skip (.node .skip (.node .skip (.node .skip (.node .skip (.node .skip (.node .skip (.node .skip (.node .skip (.node .skip (.node (.node .skip (.node .skip (.node (.node .all .skip) .skip))) (.node .skip .all))))))))))))) (.node .skip (.node .skip (.node .skip (.node .skip (.node .skip (.node .skip (.node .skip (.node .skip (.node .skip (.node (.node (.node .skip (.node .skip (.node .skip (.node .skip (.node (.node .skip .all) .skip))))) .skip) (.node (.node (.node .skip (.node (.node .all .skip) .skip)) .skip) .skip)))))))))))) (.node .skip (.node .skip (.node .skip (.node .skip (.node .skip (.node .skip (.node .skip (.node .skip (.node .skip (.node (.node (.node .skip (.node (.node .skip .all) .skip)) (.node .skip (.node (.node .skip (.node .skip (.node (.node .skip (.node .skip .all)) .skip))) .skip))) .skip))))))))))) (.node .skip (.node .skip (.node .skip (.node .skip (.node .skip (.node .skip (.node .skip (.node .skip (.node .skip (.node .skip (.node (.node .skip (.node .skip (.node (.node .skip (.node .all (.node .all (.node .all (.node (.node .skip .all) .skip))))) .skip))) .skip)))))))))))) (.node .skip (.node .skip (.node .skip (.node .skip (.node .skip (.node .skip (.node .skip (.node .skip (.node .skip (.node .skip (.node (.node .skip (.node .skip (.node (.node .skip (.node .skip (.node .skip (.node .skip (.node (.node .all .skip) .skip))))) .skip))) .skip)))))))))))) (.node .skip (.node .skip (.node .skip (.node .skip (.node .skip (.node .skip (.node .skip (.node .skip (.node .skip (.node .skip (.node (.node .skip (.node .skip (.node (.node .skip (.node .skip (.node .skip (.node .skip (.node .skip (.node .all .skip)))))) .skip))) .skip)))))))))))) (.node .skip (.node .skip (.node .skip (.node .skip (.node .skip (.node .skip (.node .skip (.node .skip (.node .skip (.node .skip (.node (.node .skip (.node .skip (.node (.node .skip (.node .skip (.node .skip (.node .skip (.node .skip (.node .skip .all)))))) .skip))) .skip)))))))))))) = PT.all := by kernel_rfl
  rw [← goodT_all, ← e]
  exact h24
theorem runs_e (σ : Nat → Nat) (vs : List Value) (w : World) (bl : List (Nat × Nat)) (hd : EntryOk w sa_e [none, some 3] σ vs bl) : Calls Tryd.prog 7 vs.toArray w fun e w' => e = .returned (.bool true) ∧ Below w.heap.size w w' := by
  exact part_runT mixed trues rune0 (fun _ _ h => by cases h) σ all_nil vs w bl hd
theorem pick : ∀ nl : List Bool, nl.length = nsl ks → ∃ sa, symK ks nl 0 4294967296 0 = some sa ∧ sa.i ≤ 2 ^ 40 ∧ ∀ (σ : Nat → Nat) (vs : List Value) (w : World) (bl : List (Nat × Nat)), EntryOk w sa [none, some 3] σ vs bl → Calls Tryd.prog 7 vs.toArray w fun e w' => e = .returned (.bool true) ∧ Below w.heap.size w w' := by
  intro nl hl
  have hl : nl.length = 0 := hl
  match nl, hl with
  | [], _ => exact ⟨sa_e, by kernel_rfl, of_nble (by kernel_rfl), runs_e⟩
set_option maxRecDepth 100000 in
theorem lifted (os : Os) (started : os.Started) (H : Type) (enc : TypeId × Value → H) :
    ReturnsInHanded {} Tryd.checked os 7 .any (fun w args => (Rows.encRegistersSpec.pre enc Tryd.prog Tryd.f7 [] false w args ∧ laidMetH Tryd.prog Rows.encRegistersRow.laid w) ∧ sizedMet enc Tryd.prog Tryd.f7 (OpenSpec.ofChange Rows.encRegistersSpec) false w args)
      (Rows.encRegistersSpec.post enc Tryd.prog Tryd.f7 false true false false) := by
  refine returnsInHanded_of_change_and (C := Tryd.checked) (X := fun w _ => laidMetH Tryd.prog Rows.encRegistersRow.laid w) (fun _ _ _ hh h => h.of_heap hh) own started (by kernel_rfl) Tryd.func7
    (ChangeSpec.witness_shaped (enc := enc) (C := Tryd.checked) (os := os) (X := fun w _ => laidMetH Tryd.prog Rows.encRegistersRow.laid w) false (World.laidAll Tryd.prog os Rows.encRegistersRow.laid) #[.int .u32 0, .agg #[.int .u8 0, .int .u8 0, .int .u8 0]] 8 (World.laidAll_os _ _ _) (World.shaped_of_ZipB (by kernel_rfl) (by kernel_rfl)) (by kernel_rfl) (by kernel_rfl) (by kernel_rfl) (by rw [MakeChecks.laidMetH_plain _ _ _ (by kernel_rfl)]; exact laidMet_laidAll _ (by kernel_rfl) (by kernel_rfl))) ?_
  intro W base args ds gs before hval hW _ _ _ _
  exact law_contractA (P := Tryd.prog) laidOut kinds pick (by kernel_rfl) rfl (by rfl) Tryd.underlying4
    (fun ds h => by
      have h' : ds.length = 2 := by rw [h, Tryd.params7]; rfl
      match ds, h' with | [d0, d1], _ => rfl) W base args ds gs before hval hW
theorem over : Rows.encRegistersRow.holds Tryd.pinned (OpenSpec.ofChange Rows.encRegistersSpec) :=
  OpenClaim.holds_of_wide 7 Tryd.f7 rfl rfl rfl rfl rfl rfl rfl ⟨rfl, rfl, rfl, rfl, rfl⟩ rfl rfl rfl rfl rfl (by kernel_rfl) Tryd.func7 (by kernel_rfl)
    (of_decide_eq_true (by kernel_rfl)) (by unfold Func.isWrapper; first | (rw [if_pos (by decide +kernel)]; kernel_rfl) | (rw [if_neg (by decide +kernel)]; exact ⟨rfl, rfl⟩))
    (fun os started H enc _ => lifted os started H enc)
theorem proved : Rows.EncRegistersSaid := over
#print axioms proved
end Go.Proofs.YtaiipnhnbpjplaaDoor.EncRegisters
namespace Go.Proofs.YtaiipnhnbpjplaaDoor
open Go
/-- The row, under a short name. -/
theorem encRegisters_row : Rows.EncRegistersSaid := EncRegisters.proved
/-- The tied card. -/
theorem encRegisters_holds : Rows.EncRegistersCardSaid :=
  Claim7.holds_tied_plain_at .later [] [.data, .data, .data, .data, .pinned] true (true, "82b3145cddd84957564239319662a7f032c6bc35cca285d7f35570caedf0bb32") false
    encRegisters_row (fun _ h => by cases h) (by kernel_rfl) (fun _ h => by cases h) encRegisters_row_tie rfl ⟨rfl, rfl⟩ (by kernel_rfl) rfl
    (fun f fn hf hfn => by
      obtain rfl : f = 7 := Option.some.inj ((show Tryd.prog.funcNamed Rows.encRegistersRow.func = some 7 by kernel_rfl).symm.trans hf) |>.symm
      obtain rfl : fn = Tryd.f7 := (Option.some.inj (Tryd.func7.symm.trans hfn)).symm
      exact ⟨by kernel_rfl, fun j t ht => by
        rw [Tryd.params7] at ht
        have hm : t ∈ [25, 37] := by simpa using Array.mem_of_getElem? ht
        have hall : ([25, 37].all fun u => !Tryd.prog.wantsStandIn u) = true := by kernel_rfl
        exact (show Tryd.prog.wantsStandIn t = false by simpa using List.all_eq_true.1 hall t hm)⟩)
    (by kernel_rfl)
end Go.Proofs.YtaiipnhnbpjplaaDoor
