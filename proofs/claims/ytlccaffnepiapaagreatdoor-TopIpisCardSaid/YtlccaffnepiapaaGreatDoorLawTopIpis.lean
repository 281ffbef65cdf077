/- TopIpis: for every input that the statement lets in the law returns true, and the input reads as it did. No condition. -/
import Derived.Test.YtlccaffnepiapaaGreatDoorLawTopIpisF0
import Derived.Test.YtlccaffnepiapaaGreatDoorLawTopIpisF1
import Derived.Test.YtlccaffnepiapaaGreatDoorLawTopIpisF2
import Derived.Test.YtlccaffnepiapaaGreatDoorLawTopIpisP
import Derived.Test.YtlccaffnepiapaaGreatDoorLawTopIpisR0
import Derived.Test.YtlccaffnepiapaaGreatDoorLawTopIpisR1
import Derived.Test.YtlccaffnepiapaaGreatDoorLawTopIpisR2
import Derived.Test.YtlccaffnepiapaaGreatDoorLawTopIpisRA
import Derived.Test.YtlccaffnepiapaaGreatDoorLawTopIpisR3
import Derived.Test.YtlccaffnepiapaaGreatDoorLawTopIpisRZ
import Derived.Test.YtlccaffnepiapaaGreatDoorLawTopIpisR4
import Derived.Test.YtlccaffnepiapaaGreatDoorLawTopIpisR5
import Derived.Test.YtlccaffnepiapaaGreatDoorLawTopIpisR6
import Derived.Test.YtlccaffnepiapaaGreatDoorLawTopIpisR7
import Derived.Test.YtlccaffnepiapaaGreatDoorLawTopIpisR8
import Derived.Test.YtlccaffnepiapaaGreatDoorLawTopIpisR9
import Derived.Test.YtlccaffnepiapaaGreatDoorLawTopIpisR10
import Derived.Test.YtlccaffnepiapaaGreatDoorLawTopIpisR11
import Derived.Test.YtlccaffnepiapaaGreatDoorLawTopIpisR12
import Derived.Test.YtlccaffnepiapaaGreatDoorLawTopIpisR13
import Derived.Test.YtlccaffnepiapaaGreatDoorLawTopIpisR14
import Derived.Test.YtlccaffnepiapaaGreatDoorLawTopIpisR15
import Derived.Test.YtlccaffnepiapaaGreatDoorLawTopIpisR16
import Derived.Test.YtlccaffnepiapaaGreatDoorLawTopIpisR17
import Derived.Test.YtlccaffnepiapaaGreatDoorLawTopIpisR18
import Derived.Test.YtlccaffnepiapaaGreatDoorLawTopIpisR19
import Derived.Test.YtlccaffnepiapaaGreatDoorLawTopIpisR20
import Derived.Test.YtlccaffnepiapaaGreatDoorLawTopIpisR21
import Derived.Test.YtlccaffnepiapaaGreatDoorLawTopIpisR22
import Derived.Test.YtlccaffnepiapaaGreatDoorLawTopIpisR23
import Derived.Test.YtlccaffnepiapaaGreatDoorLawTopIpisR24
import Derived.Test.YtlccaffnepiapaaGreatDoorLawTopIpisR25
import Derived.Test.YtlccaffnepiapaaGreatDoorLawTopIpisR26
import Derived.Test.YtlccaffnepiapaaGreatDoorLawTopIpisR27
import Derived.Test.YtlccaffnepiapaaGreatDoorLawTopIpisR28
import Derived.Test.YtlccaffnepiapaaGreatDoorLawTopIpisR29
import Derived.Test.YtlccaffnepiapaaGreatDoorLawTopIpisR30
import Derived.Test.YtlccaffnepiapaaGreatDoorLawTopIpisR31
import Derived.Test.YtlccaffnepiapaaGreatDoorLawTopIpisR32
import Derived.Test.YtlccaffnepiapaaGreatDoorLawTopIpisL0
import Derived.Test.YtlccaffnepiapaaGreatDoorLawTopIpisL1
import Derived.Test.YtlccaffnepiapaaGreatDoorLawTopIpisL2
import Derived.Test.YtlccaffnepiapaaGreatDoorLawTopIpisL3
import Derived.Test.YtlccaffnepiapaaGreatDoorLawTopIpisL4
import Derived.Test.YtlccaffnepiapaaGreatDoorLawTopIpisM0
import Derived.Test.YtlccaffnepiapaaGreatDoorLawTopIpisM1
import Derived.Test.YtlccaffnepiapaaGreatDoorLawTopIpisM2
import Derived.Test.YtlccaffnepiapaaGreatDoorTie
import Derived.Test.YtlccaffnepiapaaGreatDoorCards
import Derived.LaidMore
import Derived.Lay
import Derived.Stop.Joined
import Derived.SevenTiedAt
namespace Go.Proofs.YtlccaffnepiapaaGreatDoor.TopIpis
open Go.ChangeShapes Go.WideShapes Go.ChangeAt Go.RowKit Go.Sy
set_option linter.unusedVariables false
theorem own : ownKnob Tryz.prog.godebug = none := by kernel_rfl
theorem laidOut : laidOutB Tryz.prog = true := by kernel_rfl
theorem mixed : Tryz.prog.follows .mixedOrders = true := by kernel_rfl
theorem kinds : argK Tryz.prog 8 Tryz.f3.params.toList = some ([none, none], ks) := by kernel_rfl
theorem none7 {σ : Nat → Nat} (h : ∀ k, k < 8 → ¬ (Tm.bin .eq 64 (.bin .and 64 (.var 0 8) (.lit 7)) (.lit k)).ev σ ≠ 0) : False := by
  have e : Nat.land (σ 0 % 2 ^ 8) 7 = (σ 0 % 2 ^ 8) % 2 ^ 3 := Nat.and_two_pow_sub_one_eq_mod _ 3
  have hk : (σ 0 % 2 ^ 8) % 2 ^ 3 < 8 := Nat.mod_lt _ (by decide)
  refine h _ hk ?_
  show b2n (Nat.beq (Nat.land (σ 0 % 2 ^ 8) 7) ((σ 0 % 2 ^ 8) % 2 ^ 3)) ≠ 0
  rw [e, nbeq_t rfl]
  exact Nat.one_ne_zero
theorem mem0 : ∀ e ∈ mt0, MemFn Tryz.prog e.f e.args e.s := fun _ h => by cases h
theorem mem1 : ∀ e ∈ mt1, MemFn Tryz.prog e.f e.args e.s := by
  intro e h
  rcases List.mem_cons.1 (show e ∈ me0 :: mt0 from h) with rfl | h
  · exact memFn_of (envL_okT mixed (fun _ h => by cases h) mem0 (fun _ h => by cases h)) memRun0
  · exact mem0 e h
theorem mem2 : ∀ e ∈ mt2, MemFn Tryz.prog e.f e.args e.s := by
  intro e h
  rcases List.mem_cons.1 (show e ∈ me1 :: mt1 from h) with rfl | h
  · exact memFn_of (envL_okT mixed (fun _ h => by cases h) mem1 (fun _ h => by cases h)) memRun1
  · exact mem1 e h
theorem mem3 : ∀ e ∈ mt3, MemFn Tryz.prog e.f e.args e.s := by
  intro e h
  rcases List.mem_cons.1 (show e ∈ me2 :: mt2 from h) with rfl | h
  · exact memFn_of (envL_okT mixed (fun _ h => by cases h) mem2 (fun _ h => by cases h)) memRun2
  · exact mem2 e h
theorem mem4 : ∀ e ∈ mt4, MemFn Tryz.prog e.f e.args e.s := by
  intro e h
  rcases List.mem_cons.1 (show e ∈ me3 :: mt3 from h) with rfl | h
  · exact memFn_of (envL_okT mixed (fun _ h => by cases h) mem3 (fun _ h => by cases h)) memRun3
  · exact mem3 e h
theorem mem5 : ∀ e ∈ mt5, MemFn Tryz.prog e.f e.args e.s := by
  intro e h
  rcases List.mem_cons.1 (show e ∈ me4 :: mt4 from h) with rfl | h
  · exact memFn_of (envL_okT mixed (fun _ h => by cases h) mem4 (fun _ h => by cases h)) memRun4
  · exact mem4 e h
theorem mem6 : ∀ e ∈ mt6, MemFn Tryz.prog e.f e.args e.s := by
  intro e h
  rcases List.mem_cons.1 (show e ∈ me5 :: mt5 from h) with rfl | h
  · exact memFn_of (envL_okT mixed (fun _ h => by cases h) mem5 (fun _ h => by cases h)) memRun5
  · exact mem5 e h
theorem mem7 : ∀ e ∈ mt7, MemFn Tryz.prog e.f e.args e.s := by
  intro e h
  rcases List.mem_cons.1 (show e ∈ me6 :: mt6 from h) with rfl | h
  · exact memFn_of (envL_okT mixed (fun _ h => by cases h) mem6 (fun _ h => by cases h)) memRun6
  · exact mem6 e h
theorem mem8 : ∀ e ∈ mt8, MemFn Tryz.prog e.f e.args e.s := by
  intro e h
  rcases List.mem_cons.1 (show e ∈ me7 :: mt7 from h) with rfl | h
  · exact memFn_of (envL_okT mixed (fun _ h => by cases h) mem7 (fun _ h => by cases h)) memRun7
  · exact mem7 e h
theorem mem9 : ∀ e ∈ mt9, MemFn Tryz.prog e.f e.args e.s := by
  intro e h
  rcases List.mem_cons.1 (show e ∈ me8 :: mt8 from h) with rfl | h
  · exact memFn_of (envL_okT mixed (fun _ h => by cases h) mem8 (fun _ h => by cases h)) memRun8
  · exact mem8 e h
theorem mem10 : ∀ e ∈ mt10, MemFn Tryz.prog e.f e.args e.s := by
  intro e h
  rcases List.mem_cons.1 (show e ∈ me9 :: mt9 from h) with rfl | h
  · exact memFn_of (envL_okT mixed (fun _ h => by cases h) mem9 (fun _ h => by cases h)) memRun9
  · exact mem9 e h
theorem mem11 : ∀ e ∈ mt11, MemFn Tryz.prog e.f e.args e.s := by
  intro e h
  rcases List.mem_cons.1 (show e ∈ me10 :: mt10 from h) with rfl | h
  · exact memFn_of (envL_okT mixed (fun _ h => by cases h) mem10 (fun _ h => by cases h)) memRun10
  · exact mem10 e h
theorem mem12 : ∀ e ∈ mt12, MemFn Tryz.prog e.f e.args e.s := by
  intro e h
  rcases List.mem_cons.1 (show e ∈ me11 :: mt11 from h) with rfl | h
  · exact memFn_of (envL_okT mixed (fun _ h => by cases h) mem11 (fun _ h => by cases h)) memRun11
  · exact mem11 e h
theorem mem13 : ∀ e ∈ mt13, MemFn Tryz.prog e.f e.args e.s := by
  intro e h
  rcases List.mem_cons.1 (show e ∈ me12 :: mt12 from h) with rfl | h
  · exact memFn_of (envL_okT mixed (fun _ h => by cases h) mem12 (fun _ h => by cases h)) memRun12
  · exact mem12 e h
theorem mem14 : ∀ e ∈ mt14, MemFn Tryz.prog e.f e.args e.s := by
  intro e h
  rcases List.mem_cons.1 (show e ∈ me13 :: mt13 from h) with rfl | h
  · exact memFn_of (envL_okT mixed (fun _ h => by cases h) mem13 (fun _ h => by cases h)) memRun13
  · exact mem13 e h
theorem mem15 : ∀ e ∈ mt15, MemFn Tryz.prog e.f e.args e.s := by
  intro e h
  rcases List.mem_cons.1 (show e ∈ me14 :: mt14 from h) with rfl | h
  · exact memFn_of (envL_okT mixed (fun _ h => by cases h) mem14 (fun _ h => by cases h)) memRun14
  · exact mem14 e h
theorem mems : ∀ e ∈ mtl, MemFn Tryz.prog e.f e.args e.s := mem15
theorem sum0 : ∀ e ∈ ms0, SumFn Tryz.prog e := fun _ h => by cases h
theorem sum1 : ∀ e ∈ ms1, SumFn Tryz.prog e := by
  intro e h
  rcases List.mem_cons.1 (show e ∈ se0 :: ms0 from h) with rfl | h
  · exact sumFn_of (envL_okT mixed (fun _ h => by cases h) mems sum0) sumRun0
  · exact sum0 e h
theorem sum2 : ∀ e ∈ ms2, SumFn Tryz.prog e := by
  intro e h
  rcases List.mem_cons.1 (show e ∈ se1 :: ms1 from h) with rfl | h
  · exact sumFn_of (envL_okT mixed (fun _ h => by cases h) mems sum1) sumRun1
  · exact sum1 e h
theorem sum3 : ∀ e ∈ ms3, SumFn Tryz.prog e := by
  intro e h
  rcases List.mem_cons.1 (show e ∈ se2 :: ms2 from h) with rfl | h
  · exact sumFn_of (envL_okT mixed (fun _ h => by cases h) mems sum2) sumRun2
  · exact sum2 e h
theorem sums : ∀ e ∈ msl, SumFn Tryz.prog e := sum3
theorem trues : ∀ f ∈ ([8] : List Nat), TrueFn Tryz.prog gts f := by
  intro f hf
  rw [List.mem_singleton.1 hf]
  exact trueFn_of (E := envL Tryz.prog 300 false [] [] [] [] [] [] [] gts mfl mtl msl) (envL_okT mixed (fun _ h => by cases h) mems sums) trueRun8
theorem tabs_in {W : World} (h : laidMetH Tryz.prog Rows.topIpisRow.laid W) : TabsIn gts W := by
  rw [MakeChecks.laidMetH_plain _ _ _ (by kernel_rfl)] at h
  exact (tabs_cons (tab_of_laid h (i := 2) (name := "internal/strconv.uint64pow10") (T := tab0) (zs := [1, 10, 100, 1000, 10000, 100000, 1000000, 10000000, 100000000, 1000000000, 10000000000, 100000000000, 1000000000000, 10000000000000, 100000000000000, 1000000000000000, 10000000000000000, 100000000000000000, 1000000000000000000, 10000000000000000000]) (t := 413) (e := 39) (n := 20) (by kernel_rfl) (by kernel_rfl) (by kernel_rfl) (by kernel_rfl) (by kernel_rfl) (by kernel_rfl) (by kernel_rfl) (by kernel_rfl)) (tabs_cons (tab_of_laid h (i := 1) (name := "math/bits.deBruijn64tab") (T := tab1) (zs := [0, 1, 56, 2, 57, 49, 28, 3, 61, 58, 42, 50, 38, 29, 17, 4, 62, 47, 59, 36, 45, 43, 51, 22, 53, 39, 33, 30, 24, 18, 12, 5, 63, 55, 48, 27, 60, 41, 37, 16, 46, 35, 44, 21, 52, 32, 23, 11, 54, 26, 40, 15, 34, 20, 31, 10, 25, 14, 19, 9, 13, 8, 7, 6]) (t := 404) (e := 5) (n := 64) (by kernel_rfl) (by kernel_rfl) (by kernel_rfl) (by kernel_rfl) (by kernel_rfl) (by kernel_rfl) (by kernel_rfl) (by kernel_rfl)) tabs_nil))
theorem rune4 : anse4.good = true := by
  have h0 := rune4_0
  have h1 := goodT_or _ _ _ h0 rune4_1
  have h2 := goodT_or _ _ _ h1 rune4_2
  have h3 := goodT_or _ _ _ h2 rune4_3
  have h4 := goodT_or _ _ _ h3 rune4_4
  have e : (PT.or (PT.or (PT.or (PT.or ((.node (.node (.node (.node .skip .all) .skip) .skip) .skip) : PT) (.node (.node (.node (.node .all .skip) .skip) .skip) .skip)) (.node (.node .skip (.node (.node .all .skip) .skip)) .skip)) (.node (.node .skip (.node .skip .all)) .skip)) (.node (.node (.node .skip .all) (.node (.node .skip .all) .skip)) .all)) = PT.all := by kernel_rfl
  rw [← goodT_all, ← e]
  exact h4
theorem rune7 : anse7.good = true := by
  have h0 := rune7_0
  have h1 := goodT_or _ _ _ h0 rune7_1
  have h2 := goodT_or _ _ _ h1 rune7_2
  have h3 := goodT_or _ _ _ h2 rune7_3
  have h4 := goodT_or _ _ _ h3 rune7_4
  have h5 := goodT_or _ _ _ h4 rune7_5
  have h6 := goodT_or _ _ _ h5 rune7_6
  have h7 := goodT_or _ _ _ h6 rune7_7
  have h8 := goodT_or _ _ _ h7 rune7_8
  have h9 := goodT_or _ _ _ h8 rune7_9
  have e : (PT.or (PT.or (PT.or (PT.or (PT.or (PT.or (PT.or (PT.or (PT.or ((.node (.node (.node (.node (.node (.node .skip .all) .skip) .skip) .skip) .skip) .skip) : PT) (.node (.node (.node (.node (.node .skip (.node .skip .all)) (.node (.node .all .skip) .skip)) .skip) .skip) .skip)) (.node (.node (.node (.node (.node (.node (.node .skip (.node .all .skip)) .skip) .skip) .skip) .skip) (.node .skip (.node .all .skip))) .skip)) (.node (.node (.node .skip (.node .all .skip)) (.node .skip (.node .skip .all))) .skip)) (.node (.node (.node (.node (.node .skip (.node .all .skip)) .skip) .skip) (.node (.node (.node (.node .all .skip) .skip) .skip) .skip)) .skip)) (.node (.node (.node (.node (.node (.node (.node (.node .all .skip) .skip) .skip) .skip) .skip) .skip) (.node (.node (.node .skip (.node .skip .all)) .skip) .skip)) .skip)) (.node (.node (.node (.node .skip (.node (.node .skip .all) (.node .all .skip))) (.node .skip .all)) .skip) .skip)) (.node (.node (.node (.node .skip (.node .skip (.node .skip .all))) .skip) (.node (.node (.node .skip (.node .all .skip)) .skip) .skip)) .skip)) (.node (.node (.node (.node (.node (.node (.node (.node .skip .all) (.node .skip .all)) .skip) .skip) .skip) .skip) (.node (.node .skip .all) .skip)) .all)) (.node (.node .skip (.node (.node (.node (.node .skip .all) .skip) .skip) .skip)) .skip)) = PT.all := by kernel_rfl
  rw [← goodT_all, ← e]
  exact h9
theorem rune12 : anse12.good = true := by
  have h0 := rune12_0
  have h1 := goodT_or _ _ _ h0 rune12_1
  have h2 := goodT_or _ _ _ h1 rune12_2
  have h3 := goodT_or _ _ _ h2 rune12_3
  have h4 := goodT_or _ _ _ h3 rune12_4
  have h5 := goodT_or _ _ _ h4 rune12_5
  have h6 := goodT_or _ _ _ h5 rune12_6
  have h7 := goodT_or _ _ _ h6 rune12_7
  have h8 := goodT_or _ _ _ h7 rune12_8
  have h9 := goodT_or _ _ _ h8 rune12_9
  have h10 := goodT_or _ _ _ h9 rune12_10
  have h11 := goodT_or _ _ _ h10 rune12_11
  have h12 := goodT_or _ _ _ h11 rune12_12
  have h13 := goodT_or _ _ _ h12 rune12_13
  have e : (PT.or (PT.or (PT.or (PT.or (PT.or (PT.or (PT.or (PT.or (PT.or (PT.or (PT.or (PT.or (PT.or ((.node (.node (.node (.node .skip (.node (.node (.node (.node .all .skip) .skip) .all) .skip)) .skip) .skip) .skip) : PT) (.node (.node (.node (.node (.node (.node (.node (.node .skip .all) .skip) .skip) .skip) (.node (.node (.node (.node .skip .all) .skip) .skip) .skip)) (.node .all .skip)) (.node (.node (.node (.node (.node (.node .skip .all) .skip) .skip) (.node .all .skip)) .skip) .skip)) .skip)) (.node (.node (.node (.node (.node (.node (.node (.node .all .skip) (.node .all .skip)) .skip) .skip) .skip) .skip) .skip) .skip)) (.node (.node (.node (.node .skip (.node .skip (.node .all .skip))) .skip) (.node (.node (.node (.node .skip .all) .skip) .skip) .skip)) .skip)) (.node (.node (.node (.node .skip (.node .skip (.node .skip .all))) .skip) .skip) .all)) (.node (.node (.node (.node (.node (.node .skip (.node (.node .all .skip) .skip)) .skip) .skip) (.node .skip .all)) .skip) .skip)) (.node (.node (.node (.node (.node (.node .skip (.node .skip (.node .skip .all))) .skip) (.node (.node (.node .skip (.node .all .skip)) .skip) .skip)) .skip) (.node .skip (.node .skip (.node .skip .all)))) .skip)) (.node (.node (.node (.node (.node .skip (.node .skip .all)) .skip) .skip) (.node (.node (.node (.node (.node (.node .all .skip) .skip) .skip) .skip) .skip) .skip)) .skip)) (.node (.node (.node (.node (.node .skip (.node .all .skip)) .skip) .skip) (.node .skip (.node (.node (.node .all .skip) .skip) (.node (.node .skip .all) .skip)))) .skip)) (.node (.node .skip (.node (.node (.node (.node (.node .skip (.node .skip .all)) .skip) (.node .skip .all)) .skip) .skip)) .skip)) (.node (.node (.node (.node (.node (.node (.node .skip (.node .skip .all)) .skip) .skip) .skip) .skip) (.node (.node .skip .all) (.node (.node (.node .skip .all) .skip) .skip))) .skip)) (.node (.node (.node (.node .skip (.node (.node (.node .skip (.node .skip .all)) .skip) .skip)) .skip) (.node .skip (.node .skip (.node (.node .all .skip) .skip)))) .skip)) (.node (.node (.node (.node (.node (.node .skip (.node .skip (.node .all .skip))) .skip) .skip) .skip) (.node (.node (.node (.node (.node .skip (.node .all .skip)) .skip) .skip) .skip) .skip)) .skip)) (.node (.node (.node (.node (.node (.node .skip (.node (.node .skip .all) .skip)) .skip) .skip) .skip) (.node .skip (.node (.node .skip .all) .skip))) .skip)) = PT.all := by kernel_rfl
  rw [← goodT_all, ← e]
  exact h13
theorem rune19 : anse19.good = true := by
  have h0 := rune19_0
  have h1 := goodT_or _ _ _ h0 rune19_1
  have h2 := goodT_or _ _ _ h1 rune19_2
  have h3 := goodT_or _ _ _ h2 rune19_3
  have h4 := goodT_or _ _ _ h3 rune19_4
  have h5 := goodT_or _ _ _ h4 rune19_5
  have h6 := goodT_or _ _ _ h5 rune19_6
  have h7 := goodT_or _ _ _ h6 rune19_7
  have h8 := goodT_or _ _ _ h7 rune19_8
  have h9 := goodT_or _ _ _ h8 rune19_9
  have h10 := goodT_or _ _ _ h9 rune19_10
  have h11 := goodT_or _ _ _ h10 rune19_11
  have h12 := goodT_or _ _ _ h11 rune19_12
  have h13 := goodT_or _ _ _ h12 rune19_13
  have e : (PT.or (PT.or (PT.or (PT.or (PT.or (PT.or (PT.or (PT.or (PT.or (PT.or (PT.or (PT.or (PT.or ((.node (.node .skip (.node .skip (.node (.node (.node .all .skip) .skip) (.node .skip (.node .skip .all))))) .skip) : PT) (.node (.node .skip (.node (.node (.node (.node (.node .skip (.node .skip .all)) .skip) (.node .all .skip)) .skip) .skip)) .skip)) (.node (.node (.node (.node (.node (.node .skip (.node .all .skip)) .skip) (.node .skip (.node .skip (.node .skip .all)))) .skip) .skip) .skip)) (.node (.node .skip (.node .skip (.node .skip (.node (.node .all .skip) (.node .all .skip))))) .skip)) (.node (.node .skip (.node (.node (.node (.node (.node .skip (.node .all .skip)) .skip) .skip) .skip) (.node (.node (.node .skip .all) .skip) .skip))) .skip)) (.node (.node (.node (.node .skip (.node .skip (.node .skip (.node .all .skip)))) .skip) (.node (.node (.node .skip (.node .skip .all)) .skip) .skip)) .skip)) (.node (.node (.node (.node .skip (.node (.node (.node (.node .skip (.node .all .skip)) .skip) .skip) .skip)) .skip) (.node (.node (.node (.node (.node (.node .all .skip) .skip) .skip) .skip) .skip) .skip)) .skip)) (.node (.node (.node (.node .skip (.node .skip (.node (.node .all .skip) .skip))) .skip) .skip) .skip)) (.node (.node (.node (.node .skip (.node (.node (.node (.node (.node .all .skip) (.node .skip .all)) .skip) .skip) .skip)) .skip) .skip) .all)) (.node (.node (.node (.node (.node (.node (.node (.node .skip (.node .skip .all)) .skip) (.node .skip .all)) .skip) .skip) .skip) (.node .skip (.node .skip (.node (.node .skip .all) .skip)))) .skip)) (.node (.node (.node (.node (.node (.node (.node (.node (.node .all .skip) .skip) .skip) .skip) .skip) (.node (.node .skip (.node .skip .all)) (.node (.node .skip .all) .skip))) .all) (.node (.node (.node (.node (.node (.node .skip .all) .skip) .all) .skip) .all) (.node (.node .skip .all) .skip))) .skip)) (.node (.node (.node (.node .skip (.node (.node (.node .skip .all) (.node .all .skip)) .skip)) .skip) .skip) .skip)) (.node (.node (.node (.node (.node (.node (.node (.node .skip (.node .all .skip)) .all) .skip) .all) .skip) .skip) .skip) .skip)) (.node (.node (.node (.node (.node (.node (.node (.node (.node .skip .all) .skip) .skip) .skip) .skip) (.node (.node (.node (.node (.node .skip .all) .skip) .skip) .skip) .skip)) .skip) .skip) .skip)) = PT.all := by kernel_rfl
  rw [← goodT_all, ← e]
  exact h13
theorem rune3 : anse3.good = true := by
  have h0 := rune3_0
  have h1 := goodT_or _ _ _ h0 rune3_1
  have e : (PT.or (.node (.node .all .skip) .skip) (.node (.node .skip .all) .all)) = PT.all := by kernel_rfl
  rw [← goodT_all, ← e]
  exact h1
theorem runs_e (σ : Nat → Nat) (vs : List Value) (w : World) (bl : List (Nat × Nat)) (hd : EntryOk gts w sa_e [none, none] σ vs bl) : Calls Tryz.prog 3 vs.toArray w fun e w' => e = .returned (.bool true) ∧ Below w.heap.size w w' := by
  by_cases h0 : (Tm.bin .eq 64 (.bin .and 64 (.var 0 8) (.lit 7)) (.lit 0) : Tm).ev σ ≠ 0
  · skip
    exact part_runT mixed trues mems sums rune0 (fun _ _ h => by cases h) σ (all_cons h0 all_nil) vs w bl hd
  · skip
    by_cases h1 : (Tm.bin .eq 64 (.bin .and 64 (.var 0 8) (.lit 7)) (.lit 1) : Tm).ev σ ≠ 0
    · skip
      exact part_runT mixed trues mems sums rune1 (fun _ _ h => by cases h) σ (all_cons (not_ne h0) (all_cons h1 all_nil)) vs w bl hd
    · skip
      by_cases h2 : (Tm.bin .eq 64 (.bin .and 64 (.var 0 8) (.lit 7)) (.lit 2) : Tm).ev σ ≠ 0
      · skip
        exact part_runT mixed trues mems sums rune2 (fun _ _ h => by cases h) σ (all_cons (not_ne h0) (all_cons (not_ne h1) (all_cons h2 all_nil))) vs w bl hd
      · skip
        by_cases h3 : (Tm.bin .eq 64 (.bin .and 64 (.var 0 8) (.lit 7)) (.lit 3) : Tm).ev σ ≠ 0
        · skip
          exact part_runT mixed trues mems sums rune3 (fun _ _ h => by cases h) σ (all_cons (not_ne h0) (all_cons (not_ne h1) (all_cons (not_ne h2) (all_cons h3 all_nil)))) vs w bl hd
        · skip
          by_cases h4 : (Tm.bin .eq 64 (.bin .and 64 (.var 0 8) (.lit 7)) (.lit 4) : Tm).ev σ ≠ 0
          · skip
            exact part_runT mixed trues mems sums rune4 (fun _ _ h => by cases h) σ (all_cons (not_ne h0) (all_cons (not_ne h1) (all_cons (not_ne h2) (all_cons (not_ne h3) (all_cons h4 all_nil))))) vs w bl hd
          · skip
            by_cases h5 : (Tm.bin .eq 64 (.bin .and 64 (.var 0 8) (.lit 7)) (.lit 5) : Tm).ev σ ≠ 0
            · skip
              exact part_runT mixed trues mems sums rune7 (fun _ _ h => by cases h) σ (all_cons (not_ne h0) (all_cons (not_ne h1) (all_cons (not_ne h2) (all_cons (not_ne h3) (all_cons (not_ne h4) (all_cons h5 all_nil)))))) vs w bl hd
            · skip
              by_cases h6 : (Tm.bin .eq 64 (.bin .and 64 (.var 0 8) (.lit 7)) (.lit 6) : Tm).ev σ ≠ 0
              · skip
                exact part_runT mixed trues mems sums rune12 (fun _ _ h => by cases h) σ (all_cons (not_ne h0) (all_cons (not_ne h1) (all_cons (not_ne h2) (all_cons (not_ne h3) (all_cons (not_ne h4) (all_cons (not_ne h5) (all_cons h6 all_nil))))))) vs w bl hd
              · skip
                by_cases h7 : (Tm.bin .eq 64 (.bin .and 64 (.var 0 8) (.lit 7)) (.lit 7) : Tm).ev σ ≠ 0
                · skip
                  exact part_runT mixed trues mems sums rune19 (fun _ _ h => by cases h) σ (all_cons (not_ne h0) (all_cons (not_ne h1) (all_cons (not_ne h2) (all_cons (not_ne h3) (all_cons (not_ne h4) (all_cons (not_ne h5) (all_cons (not_ne h6) (all_cons h7 all_nil)))))))) vs w bl hd
                · skip
                  exact (none7 (σ := σ) (fun k hk => by
                    match k, hk with
                    | 0, _ => exact h0
                    | 1, _ => exact h1
                    | 2, _ => exact h2
                    | 3, _ => exact h3
                    | 4, _ => exact h4
                    | 5, _ => exact h5
                    | 6, _ => exact h6
                    | 7, _ => exact h7)).elim
theorem pick : ∀ nl : List Bool, nl.length = nsl ks → ∃ sa, symK ks nl 0 4294967296 64 = some sa ∧ sa.i ≤ 2 ^ 40 ∧ ∀ (σ : Nat → Nat) (vs : List Value) (w : World) (bl : List (Nat × Nat)), EntryOk gts w sa [none, none] σ vs bl → Calls Tryz.prog 3 vs.toArray w fun e w' => e = .returned (.bool true) ∧ Below w.heap.size w w' := by
  intro nl hl
  have hl : nl.length = 0 := hl
  match nl, hl with
  | [], _ => exact ⟨sa_e, by kernel_rfl, of_nble (by kernel_rfl), runs_e⟩
set_option maxRecDepth 100000 in
theorem lifted (os : Os) (started : os.Started) (H : Type) (enc : TypeId × Value → H) :
    ReturnsInHanded {} Tryz.checked os 3 .any (fun w args => (Rows.topIpisSpec.pre enc Tryz.prog Tryz.f3 [] false w args ∧ laidMetH Tryz.prog Rows.topIpisRow.laid w) ∧ sizedMet enc Tryz.prog Tryz.f3 (OpenSpec.ofChange Rows.topIpisSpec) false w args)
      (Rows.topIpisSpec.post enc Tryz.prog Tryz.f3 false true false false) := by
  refine returnsInHanded_of_change_and (C := Tryz.checked) (X := fun w _ => laidMetH Tryz.prog Rows.topIpisRow.laid w) (fun _ _ _ hh h => h.of_heap hh) own started (by kernel_rfl) Tryz.func3
    (ChangeSpec.witness_shaped (enc := enc) (C := Tryz.checked) (os := os) (X := fun w _ => laidMetH Tryz.prog Rows.topIpisRow.laid w) false (World.laidAll Tryz.prog os Rows.topIpisRow.laid) #[.int .u8 0, .int .u8 0] 8 (World.laidAll_os _ _ _) (World.shaped_of_ZipB (by kernel_rfl) (by kernel_rfl)) (by kernel_rfl) (by kernel_rfl) (by kernel_rfl) (by rw [MakeChecks.laidMetH_plain _ _ _ (by kernel_rfl)]; exact laidMet_laidAll _ (by kernel_rfl) (by kernel_rfl))) ?_
  intro W base args ds gs before hval hW _ _ hL _
  exact law_contractA (P := Tryz.prog) laidOut kinds pick (by kernel_rfl) rfl (by rfl) Tryz.underlying4
    (fun ds h => by
      have h' : ds.length = 2 := by rw [h, Tryz.params3]; rfl
      match ds, h' with | [d0, d1], _ => rfl) W base args ds gs before hval hW (tabs_in hL)
theorem closed : joinedFacts Tryz.prog 3 Tryz.f3 Rows.topIpisSpec Rows.topIpisRow = true := by
  unfold joinedFacts
  rw [fact0, fact1, fact2, fact3, fact4, fact5, fact6, fact7, fact8, fact9, fact10, fact11, fact12, fact13, fact14, fact15, fact16, fact17, fact18, fact19, fact20, fact21, fact22, fact23, fact24, fact25, fact26, fact27, fact29, fact30, fact31]
  kernel_rfl
theorem over : Rows.topIpisRow.holds Tryz.pinned (OpenSpec.ofChange Rows.topIpisSpec) :=
  OpenClaim.holds_of_wide 3 Tryz.f3 rfl rfl rfl rfl rfl rfl rfl ⟨rfl, rfl, rfl, rfl, rfl⟩ rfl rfl rfl rfl rfl named Tryz.func3 closed inst wrap
    (fun os started H enc _ => lifted os started H enc)
theorem proved : Rows.TopIpisSaid := over
#print axioms proved
end Go.Proofs.YtlccaffnepiapaaGreatDoor.TopIpis
namespace Go.Proofs.YtlccaffnepiapaaGreatDoor
open Go
/-- The row, under a short name. -/
theorem topIpis_row : Rows.TopIpisSaid := TopIpis.proved
/-- The tied card. -/
theorem topIpis_holds : Rows.TopIpisCardSaid :=
  Claim7.holds_tied_plain_at .later [] [.data, .data, .data, .data, .sentinel, .sentinel, .pinned] true (true, "70e3ab5d85cc6fffb5283b41ab0c5560ff30c4881980bf6218a7e149102c6a2b") true
    topIpis_row (fun _ h => by cases h) TopIpis.cw (fun _ h => by cases h) topIpis_row_tie rfl ⟨rfl, rfl⟩ (by kernel_rfl) rfl
    (fun f fn hf hfn => by
      obtain rfl : f = 3 := Option.some.inj (TopIpis.named.symm.trans hf) |>.symm
      obtain rfl : fn = Tryz.f3 := (Option.some.inj (Tryz.func3.symm.trans hfn)).symm
      exact ⟨TopIpis.looks0, fun j t ht => by
        rw [Tryz.params3] at ht
        have hm : t ∈ [5, 5] := by simpa using Array.mem_of_getElem? ht
        have hall : ([5, 5].all fun u => !Tryz.prog.wantsStandIn u) = true := by kernel_rfl
        exact (show Tryz.prog.wantsStandIn t = false by simpa using List.all_eq_true.1 hall t hm)⟩)
    TopIpis.goes0
end Go.Proofs.YtlccaffnepiapaaGreatDoor
