/- TopCounts: for every input that the statement lets in the law returns true, and the input reads as it did. No condition. -/
import Derived.Test.YtlccaffnepiapaaGreatDoorLawTopCountsF0
import Derived.Test.YtlccaffnepiapaaGreatDoorLawTopCountsF1
import Derived.Test.YtlccaffnepiapaaGreatDoorLawTopCountsF2
import Derived.Test.YtlccaffnepiapaaGreatDoorLawTopCountsP
import Derived.Test.YtlccaffnepiapaaGreatDoorLawTopCountsR0
import Derived.Test.YtlccaffnepiapaaGreatDoorLawTopCountsM0
import Derived.Test.YtlccaffnepiapaaGreatDoorLawTopCountsM1
import Derived.Test.YtlccaffnepiapaaGreatDoorLawTopCountsT
import Derived.Test.YtlccaffnepiapaaGreatDoorTie
import Derived.Test.YtlccaffnepiapaaGreatDoorCards
import Derived.LaidMore
import Derived.Lay
import Derived.Stop.Joined
import Derived.SevenTiedAt
namespace Go.Proofs.YtlccaffnepiapaaGreatDoor.TopCounts
open Go.ChangeShapes Go.WideShapes Go.ChangeAt Go.RowKit Go.Sy
set_option linter.unusedVariables false
theorem own : ownKnob Tryz.prog.godebug = none := by kernel_rfl
theorem laidOut : laidOutB Tryz.prog = true := by kernel_rfl
theorem mixed : Tryz.prog.follows .mixedOrders = true := by kernel_rfl
theorem kinds : argK Tryz.prog 8 Tryz.f4.params.toList = some ([none, none], ks) := by kernel_rfl
set_option linter.unusedSimpArgs false
theorem nz_eq {σ : Nat → Nat} {w : Nat} {a b : Tm} : (Tm.bin .eq w a b).ev σ ≠ 0 ↔ a.ev σ = b.ev σ := by
  show b2n (Nat.beq (a.ev σ) (b.ev σ)) ≠ 0 ↔ _
  by_cases h : a.ev σ = b.ev σ
  · rw [nbeq_t h]; exact ⟨fun _ => h, fun _ => Nat.one_ne_zero⟩
  · rw [nbeq_f h]; exact ⟨fun hh => absurd rfl hh, fun hh => absurd hh h⟩
theorem nz_ult {σ : Nat → Nat} {w : Nat} {a b : Tm} : (Tm.bin .ult w a b).ev σ ≠ 0 ↔ a.ev σ < b.ev σ := by
  show b2n (Nat.blt (a.ev σ) (b.ev σ)) ≠ 0 ↔ _
  by_cases h : a.ev σ < b.ev σ
  · rw [nblt_t h]; exact ⟨fun _ => h, fun _ => Nat.one_ne_zero⟩
  · rw [nblt_f h]; exact ⟨fun hh => absurd rfl hh, fun hh => absurd hh h⟩
theorem nz_slt {σ : Nat → Nat} {a b : Tm} : (Tm.bin .slt 64 a b).ev σ ≠ 0 ↔ (a.ev σ + 9223372036854775808) % 18446744073709551616 < (b.ev σ + 9223372036854775808) % 18446744073709551616 := by
  show b2n (Nat.blt ((a.ev σ + 9223372036854775808) % 18446744073709551616) ((b.ev σ + 9223372036854775808) % 18446744073709551616)) ≠ 0 ↔ _
  by_cases h : (a.ev σ + 9223372036854775808) % 18446744073709551616 < (b.ev σ + 9223372036854775808) % 18446744073709551616
  · rw [nblt_t h]; exact ⟨fun _ => h, fun _ => Nat.one_ne_zero⟩
  · rw [nblt_f h]; exact ⟨fun hh => absurd rfl hh, fun hh => absurd hh h⟩
theorem nz_not {σ : Nat → Nat} {t : Tm} : (Tm.un .bnot 1 t).ev σ ≠ 0 ↔ ¬ t.ev σ ≠ 0 := by
  show bc (Nat.beq (t.ev σ) 0) 1 0 ≠ 0 ↔ _
  by_cases h : t.ev σ = 0
  · rw [nbeq_t h]; exact ⟨fun _ hh => hh h, fun _ => Nat.one_ne_zero⟩
  · rw [nbeq_f h]; exact ⟨fun hh => absurd rfl hh, fun hh => absurd h hh⟩
theorem add_ev (x y : Nat) : O2.ev .add 64 x y = (x + y) % 18446744073709551616 := rfl
theorem mul_ev (x y : Nat) : O2.ev .mul 64 x y = (x * y) % 18446744073709551616 := rfl
theorem sub_ev (x y : Nat) : O2.ev .sub 64 x y = (x + (18446744073709551616 - y % 18446744073709551616)) % 18446744073709551616 := rfl
theorem var64 (σ : Nat → Nat) (i : Nat) : (Tm.var i 64).ev σ = σ i % 18446744073709551616 := rfl
theorem var8 (σ : Nat → Nat) (i : Nat) : (Tm.var i 8).ev σ = σ i % 256 := rfl
theorem ite_ev' (σ : Nat → Nat) (c a b : Tm) : (Tm.ite c a b).ev σ = if c.ev σ = 0 then b.ev σ else a.ev σ := ev_ite σ c a b
theorem sdiv2 {x : Nat} (h : x < 9223372036854775808) : O2.ev .sdiv 64 x 2 = x / 2 := by
  show sgn (bne (isNeg 64 x) (isNeg 64 2)) 64 (mag 64 x / mag 64 2) = _
  have e : isNeg 64 x = false := by
    show Nat.ble 9223372036854775808 x = false
    exact nble_f (by omega)
  have m1 : mag 64 x = x := by
    show bc (isNeg 64 x) _ _ = _
    rw [e]
  rw [e, m1]
  show (x / 2) % 18446744073709551616 = _
  omega
theorem z_slt {σ : Nat → Nat} {a b : Tm} : (Tm.bin .slt 64 a b).ev σ = 0 ↔ ¬ (a.ev σ + 9223372036854775808) % 18446744073709551616 < (b.ev σ + 9223372036854775808) % 18446744073709551616 := by
  rw [← nz_slt]
  exact ⟨fun h hh => hh h, fun h => Classical.not_not.1 h⟩
theorem ite_slt {σ : Nat → Nat} {a b x y : Tm} : (Tm.ite (.bin .slt 64 a b) x y).ev σ = if (a.ev σ + 9223372036854775808) % 18446744073709551616 < (b.ev σ + 9223372036854775808) % 18446744073709551616 then x.ev σ else y.ev σ := by
  rw [ite_ev']
  by_cases h : (a.ev σ + 9223372036854775808) % 18446744073709551616 < (b.ev σ + 9223372036854775808) % 18446744073709551616
  · rw [if_pos h, if_neg (nz_slt.2 h)]
  · rw [if_neg h, if_pos (z_slt.2 h)]
theorem end_ev (σ : Nat → Nat) (h : σ 2 % 18446744073709551616 < 101) : (Tm.bin .or 64 (.lit 1) (.bin .shl 64 (.bin .and 64 (.var 2 64) (.lit 9223372036854775807)) (.lit 1))).ev σ = 2 * (σ 2 % 18446744073709551616) + 1 := by
  show Nat.lor 1 (bc (Nat.ble 64 1) 0 (Nat.mod (Nat.mul (Nat.land (σ 2 % 18446744073709551616) 9223372036854775807) (p2 1)) (p2 64))) = _
  have e1 : Nat.land (σ 2 % 18446744073709551616) 9223372036854775807 = σ 2 % 18446744073709551616 % 2 ^ 63 := Nat.and_two_pow_sub_one_eq_mod _ 63
  rw [e1]
  have e2 : bc (Nat.ble 64 1) 0 (Nat.mod (Nat.mul (σ 2 % 18446744073709551616 % 2 ^ 63) (p2 1)) (p2 64)) = 2 ^ 1 * (σ 2 % 18446744073709551616) := by
    show (σ 2 % 18446744073709551616 % 2 ^ 63 * 2) % 18446744073709551616 = _
    omega
  rw [e2]
  show 1 ||| 2 ^ 1 * (σ 2 % 18446744073709551616) = _
  rw [Nat.or_comm, ← Nat.two_pow_add_eq_or_of_lt (by decide)]
theorem lems_ok : ∀ σ, ∀ v ∈ lems, v.ok σ := by
  intro σ v hv
  have hk : σ 1 % 256 < 256 := Nat.mod_lt _ (by decide)
  have hd : O2.ev .sdiv 64 (σ 1 % 256) 2 = σ 1 % 256 / 2 := sdiv2 (by omega)
  have he := end_ev σ
  simp only [lems, List.mem_cons, List.mem_nil_iff, or_false] at hv
  rcases hv with rfl | rfl | rfl | rfl | rfl | rfl | rfl | rfl | rfl | rfl | rfl | rfl | rfl | rfl | rfl | rfl | rfl
  · intro hh
    simp only [List.mem_cons, List.mem_nil_iff, or_false, forall_eq_or_imp, forall_eq] at hh
    change (Tm.ev σ _) ≠ 0
    simp only [nz_eq, nz_ult, nz_slt, nz_not] at hh ⊢
    simp only [ite_ev', ev_bin, ev_lit, add_ev, mul_ev, sub_ev, var64, var8, hd] at hh ⊢
    omega
  · intro hh
    simp only [List.mem_cons, List.mem_nil_iff, or_false, forall_eq_or_imp, forall_eq] at hh
    change (Tm.ev σ _) ≠ 0
    simp only [nz_eq, nz_ult, nz_slt, nz_not] at hh ⊢
    simp only [ite_ev', ev_bin, ev_lit, add_ev, mul_ev, sub_ev, var64, var8, hd] at hh ⊢
    omega
  · intro hh
    simp only [List.mem_cons, List.mem_nil_iff, or_false, forall_eq_or_imp, forall_eq] at hh
    change (Tm.ev σ _) ≠ 0
    simp only [nz_eq, nz_ult, nz_slt, nz_not] at hh ⊢
    simp only [ite_ev', ev_bin, ev_lit, add_ev, mul_ev, sub_ev, var64, var8, hd] at hh ⊢
    omega
  · intro hh
    simp only [List.mem_cons, List.mem_nil_iff, or_false, forall_eq_or_imp, forall_eq] at hh
    change (Tm.ev σ _) ≠ 0
    simp only [nz_eq, nz_ult, nz_slt, nz_not] at hh ⊢
    simp only [ite_ev', ev_bin, ev_lit, add_ev, mul_ev, sub_ev, var64, var8, hd] at hh ⊢
    omega
  · intro hh
    simp only [List.mem_cons, List.mem_nil_iff, or_false, forall_eq_or_imp, forall_eq] at hh
    change (Tm.ev σ _) ≠ 0
    simp only [nz_eq, nz_ult, nz_slt, nz_not] at hh ⊢
    simp only [ite_ev', ev_bin, ev_lit, add_ev, mul_ev, sub_ev, var64, var8, hd] at hh ⊢
    omega
  · intro hh
    simp only [List.mem_cons, List.mem_nil_iff, or_false, forall_eq_or_imp, forall_eq] at hh
    change (Tm.ev σ _) ≠ 0
    simp only [nz_eq, nz_ult, nz_slt, nz_not] at hh ⊢
    simp only [ite_ev', ev_bin, ev_lit, add_ev, mul_ev, sub_ev, var64, var8, hd] at hh ⊢
    omega
  · intro hh
    simp only [List.mem_cons, List.mem_nil_iff, or_false, forall_eq_or_imp, forall_eq] at hh
    change (Tm.ev σ _) ≠ 0
    simp only [nz_eq, nz_ult, nz_slt, nz_not] at hh ⊢
    simp only [ite_ev', ev_bin, ev_lit, add_ev, mul_ev, sub_ev, var64, var8, hd] at hh ⊢
    omega
  · intro hh
    simp only [List.mem_cons, List.mem_nil_iff, or_false, forall_eq_or_imp, forall_eq] at hh
    change (Tm.ev σ _) ≠ 0
    simp only [nz_eq, nz_ult, nz_slt, nz_not] at hh ⊢
    simp only [ite_ev', ev_bin, ev_lit, add_ev, mul_ev, sub_ev, var64, var8, hd] at hh ⊢
    omega
  · intro hh
    simp only [List.mem_cons, List.mem_nil_iff, or_false, forall_eq_or_imp, forall_eq] at hh
    change (Tm.ev σ _) ≠ 0
    simp only [nz_eq, nz_ult, nz_slt, nz_not] at hh ⊢
    simp only [ite_ev', ev_bin, ev_lit, add_ev, mul_ev, sub_ev, var64, var8, hd] at hh ⊢
    omega
  · intro hh
    simp only [List.mem_cons, List.mem_nil_iff, or_false, forall_eq_or_imp, forall_eq] at hh
    change (Tm.ev σ _) ≠ 0
    simp only [nz_eq, nz_ult, nz_slt, nz_not] at hh ⊢
    simp only [ite_ev', ev_bin, ev_lit, add_ev, mul_ev, sub_ev, var64, var8, hd] at hh ⊢
    omega
  · intro hh
    simp only [List.mem_cons, List.mem_nil_iff, or_false, forall_eq_or_imp, forall_eq] at hh
    change (Tm.ev σ _) ≠ 0
    simp only [nz_eq, nz_ult, nz_slt, nz_not] at hh ⊢
    simp only [ite_ev', ev_bin, ev_lit, add_ev, mul_ev, sub_ev, var64, var8, hd] at hh ⊢
    omega
  · intro hh
    simp only [List.mem_cons, List.mem_nil_iff, or_false, forall_eq_or_imp, forall_eq] at hh
    change (Tm.ev σ _) ≠ 0
    simp only [nz_eq, nz_ult, nz_slt, nz_not] at hh ⊢
    simp only [ite_slt, ev_bin, ev_lit, add_ev, mul_ev, sub_ev, var64, var8, hd] at hh ⊢
    split <;> omega
  · intro hh
    simp only [List.mem_cons, List.mem_nil_iff, or_false, forall_eq_or_imp, forall_eq] at hh
    change (Tm.ev σ _) ≠ 0
    simp only [nz_eq, nz_ult, nz_slt, nz_not] at hh ⊢
    simp only [ite_slt, ev_bin, ev_lit, add_ev, mul_ev, sub_ev, var64, var8, hd] at hh ⊢
    split <;> omega
  · intro hh
    simp only [List.mem_cons, List.mem_nil_iff, or_false, forall_eq_or_imp, forall_eq] at hh
    change (Tm.ev σ _) ≠ 0
    simp only [nz_eq, nz_ult, nz_slt, nz_not] at hh ⊢
    simp only [ite_slt, ev_bin, ev_lit, add_ev, mul_ev, sub_ev, var64, var8, hd] at hh ⊢
    split <;> omega
  · intro hh
    simp only [List.mem_cons, List.mem_nil_iff, or_false, forall_eq_or_imp, forall_eq] at hh
    change (Tm.ev σ _) ≠ 0
    simp only [nz_eq, nz_ult, nz_slt, nz_not] at hh ⊢
    simp only [ite_ev', ev_bin, ev_lit, add_ev, mul_ev, sub_ev, var64, var8, hd] at hh ⊢
    omega
  · intro hh
    simp only [List.mem_cons, List.mem_nil_iff, or_false, forall_eq_or_imp, forall_eq] at hh
    change (Tm.ev σ _) ≠ 0
    rw [nz_slt, he (by simp only [nz_eq, nz_ult, nz_slt, nz_not] at hh; simp only [ev_bin, ev_lit, add_ev, mul_ev, var64, var8] at hh; omega)]
    simp only [nz_eq, nz_ult, nz_slt, nz_not] at hh ⊢
    simp only [ite_ev', ev_bin, ev_lit, add_ev, mul_ev, sub_ev, var64, var8, hd] at hh ⊢
    omega
  · intro hh
    simp only [List.mem_cons, List.mem_nil_iff, or_false, forall_eq_or_imp, forall_eq] at hh
    change (Tm.ev σ _) ≠ 0
    rw [nz_slt, he (by simp only [nz_eq, nz_ult, nz_slt, nz_not] at hh; simp only [ev_bin, ev_lit, add_ev, mul_ev, var64, var8] at hh; omega)]
    simp only [nz_eq, nz_ult, nz_slt, nz_not] at hh ⊢
    simp only [ite_ev', ev_bin, ev_lit, add_ev, mul_ev, sub_ev, var64, var8, hd] at hh ⊢
    omega
theorem mem0 : ∀ e ∈ mt0, MemFn Tryz.prog e.f e.args e.s := fun _ h => by cases h
theorem mem1 : ∀ e ∈ mt1, MemFn Tryz.prog e.f e.args e.s := by
  intro e h
  rcases List.mem_cons.1 (show e ∈ me0 :: mt0 from h) with rfl | h
  · exact memFn_of (envL_okT mixed (fun _ h => by cases h) mem0 (fun _ h => by cases h)) memRun0
  · exact mem0 e h
theorem mem2 : ∀ e ∈ mt2, MemFn Tryz.prog e.f e.args e.s := by
  intro e h
  rcases List.mem_cons.1 (show e ∈ me1 :: mt1 from h) with rfl | h
  · exact memFn_of (envL_okT mixed (fun _ h => by cases h) mem1 (fun _ h => by cases h)) memRun1
  · exact mem1 e h
theorem mem3 : ∀ e ∈ mt3, MemFn Tryz.prog e.f e.args e.s := by
  intro e h
  rcases List.mem_cons.1 (show e ∈ me2 :: mt2 from h) with rfl | h
  · exact memFn_of (envL_okT mixed (fun _ h => by cases h) mem2 (fun _ h => by cases h)) memRun2
  · exact mem2 e h
theorem mem4 : ∀ e ∈ mt4, MemFn Tryz.prog e.f e.args e.s := by
  intro e h
  rcases List.mem_cons.1 (show e ∈ me3 :: mt3 from h) with rfl | h
  · exact memFn_of (envL_okT mixed (fun _ h => by cases h) mem3 (fun _ h => by cases h)) memRun3
  · exact mem3 e h
theorem mem5 : ∀ e ∈ mt5, MemFn Tryz.prog e.f e.args e.s := by
  intro e h
  rcases List.mem_cons.1 (show e ∈ me4 :: mt4 from h) with rfl | h
  · exact memFn_of (envL_okT mixed (fun _ h => by cases h) mem4 (fun _ h => by cases h)) memRun4
  · exact mem4 e h
theorem mems : ∀ e ∈ mtl, MemFn Tryz.prog e.f e.args e.s := mem5
theorem sum0 : ∀ e ∈ ms0, SumFn Tryz.prog e := fun _ h => by cases h
theorem sum1 : ∀ e ∈ ms1, SumFn Tryz.prog e := by
  intro e h
  rcases List.mem_cons.1 (show e ∈ se0 :: ms0 from h) with rfl | h
  · exact sumFn_of (envL_okT mixed (fun _ h => by cases h) mems sum0) sumRun0
  · exact sum0 e h
theorem sums : ∀ e ∈ msl, SumFn Tryz.prog e := sum1
theorem trues : ∀ f ∈ ([8] : List Nat), TrueFn Tryz.prog gts f := by
  intro f hf
  rw [List.mem_singleton.1 hf]
  exact trueFn_of (E := envL Tryz.prog 300 false [] [] [] [] [] [] [] gts mfl mtl msl) (envL_okT mixed (fun _ h => by cases h) mems sums) trueRun8
theorem tabs_in {W : World} (h : laidMetH Tryz.prog Rows.topCountsRow.laid W) : TabsIn gts W := by
  rw [MakeChecks.laidMetH_plain _ _ _ (by kernel_rfl)] at h
  exact (tabs_cons (tab_of_laid h (i := 2) (name := "internal/strconv.uint64pow10") (T := tab0) (zs := [1, 10, 100, 1000, 10000, 100000, 1000000, 10000000, 100000000, 1000000000, 10000000000, 100000000000, 1000000000000, 10000000000000, 100000000000000, 1000000000000000, 10000000000000000, 100000000000000000, 1000000000000000000, 10000000000000000000]) (t := 413) (e := 39) (n := 20) (by kernel_rfl) (by kernel_rfl) (by kernel_rfl) (by kernel_rfl) (by kernel_rfl) (by kernel_rfl) (by kernel_rfl) (by kernel_rfl)) (tabs_cons (tab_of_laid h (i := 1) (name := "math/bits.deBruijn64tab") (T := tab1) (zs := [0, 1, 56, 2, 57, 49, 28, 3, 61, 58, 42, 50, 38, 29, 17, 4, 62, 47, 59, 36, 45, 43, 51, 22, 53, 39, 33, 30, 24, 18, 12, 5, 63, 55, 48, 27, 60, 41, 37, 16, 46, 35, 44, 21, 52, 32, 23, 11, 54, 26, 40, 15, 34, 20, 31, 10, 25, 14, 19, 9, 13, 8, 7, 6]) (t := 404) (e := 5) (n := 64) (by kernel_rfl) (by kernel_rfl) (by kernel_rfl) (by kernel_rfl) (by kernel_rfl) (by kernel_rfl) (by kernel_rfl) (by kernel_rfl)) tabs_nil))
theorem runs_e (σ : Nat → Nat) (vs : List Value) (w : World) (bl : List (Nat × Nat)) (hd : EntryOk gts w sa_e [none, none] σ vs bl) : Calls Tryz.prog 4 vs.toArray w fun e w' => e = .returned (.bool true) ∧ Below w.heap.size w w' := by
  exact part_runT mixed trues mems sums rune0 lems_ok σ all_nil vs w bl hd
theorem pick : ∀ nl : List Bool, nl.length = nsl ks → ∃ sa, symK ks nl 0 4294967296 64 = some sa ∧ sa.i ≤ 2 ^ 40 ∧ ∀ (σ : Nat → Nat) (vs : List Value) (w : World) (bl : List (Nat × Nat)), EntryOk gts w sa [none, none] σ vs bl → Calls Tryz.prog 4 vs.toArray w fun e w' => e = .returned (.bool true) ∧ Below w.heap.size w w' := by
  intro nl hl
  have hl : nl.length = 0 := hl
  match nl, hl with
  | [], _ => exact ⟨sa_e, by kernel_rfl, of_nble (by kernel_rfl), runs_e⟩
set_option maxRecDepth 100000 in
theorem lifted (os : Os) (started : os.Started) (H : Type) (enc : TypeId × Value → H) :
    ReturnsInHanded {} Tryz.checked os 4 .any (fun w args => (Rows.topCountsSpec.pre enc Tryz.prog Tryz.f4 [] false w args ∧ laidMetH Tryz.prog Rows.topCountsRow.laid w) ∧ sizedMet enc Tryz.prog Tryz.f4 (OpenSpec.ofChange Rows.topCountsSpec) false w args)
      (Rows.topCountsSpec.post enc Tryz.prog Tryz.f4 false true false false) := by
  refine returnsInHanded_of_change_and (C := Tryz.checked) (X := fun w _ => laidMetH Tryz.prog Rows.topCountsRow.laid w) (fun _ _ _ hh h => h.of_heap hh) own started (by kernel_rfl) Tryz.func4
    (ChangeSpec.witness_shaped (enc := enc) (C := Tryz.checked) (os := os) (X := fun w _ => laidMetH Tryz.prog Rows.topCountsRow.laid w) false (World.laidAll Tryz.prog os Rows.topCountsRow.laid) #[.int .u8 0, .int .u8 0] 8 (World.laidAll_os _ _ _) (World.shaped_of_ZipB (by kernel_rfl) (by kernel_rfl)) (by kernel_rfl) (by kernel_rfl) (by kernel_rfl) (by rw [MakeChecks.laidMetH_plain _ _ _ (by kernel_rfl)]; exact laidMet_laidAll _ (by kernel_rfl) (by kernel_rfl))) ?_
  intro W base args ds gs before hval hW _ _ hL _
  exact law_contractA (P := Tryz.prog) laidOut kinds pick (by kernel_rfl) rfl (by rfl) Tryz.underlying4
    (fun ds h => by
      have h' : ds.length = 2 := by rw [h, Tryz.params4]; rfl
      match ds, h' with | [d0, d1], _ => rfl) W base args ds gs before hval hW (tabs_in hL)
theorem closed : joinedFacts Tryz.prog 4 Tryz.f4 Rows.topCountsSpec Rows.topCountsRow = true := by
  unfold joinedFacts
  rw [fact0, fact1, fact2, fact3, fact4, fact5, fact6, fact7, fact8, fact9, fact10, fact11, fact12, fact13, fact14, fact15, fact16, fact17, fact18, fact19, fact20, fact21, fact22, fact23, fact24, fact25, fact26, fact27, fact29, fact30, fact31]
  kernel_rfl
theorem over : Rows.topCountsRow.holds Tryz.pinned (OpenSpec.ofChange Rows.topCountsSpec) :=
  OpenClaim.holds_of_wide 4 Tryz.f4 rfl rfl rfl rfl rfl rfl rfl ⟨rfl, rfl, rfl, rfl, rfl⟩ rfl rfl rfl rfl rfl named Tryz.func4 closed inst wrap
    (fun os started H enc _ => lifted os started H enc)
theorem proved : Rows.TopCountsSaid := over
#print axioms proved
end Go.Proofs.YtlccaffnepiapaaGreatDoor.TopCounts
namespace Go.Proofs.YtlccaffnepiapaaGreatDoor
open Go
/-- The row, under a short name. -/
theorem topCounts_row : Rows.TopCountsSaid := TopCounts.proved
/-- The tied card. -/
theorem topCounts_holds : Rows.TopCountsCardSaid :=
  Claim7.holds_tied_plain_at .later [] [.data, .data, .data, .data, .sentinel, .sentinel, .pinned] true (true, "70e3ab5d85cc6fffb5283b41ab0c5560ff30c4881980bf6218a7e149102c6a2b") true
    topCounts_row (fun _ h => by cases h) TopCounts.cw (fun _ h => by cases h) topCounts_row_tie rfl ⟨rfl, rfl⟩ (by kernel_rfl) rfl
    (fun f fn hf hfn => by
      obtain rfl : f = 4 := Option.some.inj (TopCounts.named.symm.trans hf) |>.symm
      obtain rfl : fn = Tryz.f4 := (Option.some.inj (Tryz.func4.symm.trans hfn)).symm
      exact ⟨TopCounts.looks0, fun j t ht => by
        rw [Tryz.params4] at ht
        have hm : t ∈ [5, 5] := by simpa using Array.mem_of_getElem? ht
        have hall : ([5, 5].all fun u => !Tryz.prog.wantsStandIn u) = true := by kernel_rfl
        exact (show Tryz.prog.wantsStandIn t = false by simpa using List.all_eq_true.1 hall t hm)⟩)
    TopCounts.goes0
end Go.Proofs.YtlccaffnepiapaaGreatDoor
