/- FieldGets: for every input that the statement lets in the law returns true, and the input reads as it did. No condition. -/
import Derived.Test.YtcnaapegjhlcdaaSxC
import Derived.Test.YtcnaapegjhlcdaaRows
namespace Go.Proofs.Ytcnaapegjhlcdaa.fieldGets
open Go.ChangeShapes Go.WideShapes Go.ChangeAt Go.RowKit Go.Sx
set_option linter.unusedVariables false
theorem own : ownKnob Try.prog.godebug = none := by kernel_rfl
theorem laidOut : laidOutB Try.prog = true := by kernel_rfl
theorem mixed : Try.prog.follows .mixedOrders = true := by kernel_rfl
abbrev tK : Tm := .bin .and 8 (.var 1 8) (.lit 31)
abbrev tN : Tm := .bin .add 64 (.lit 1) (.bin .and 8 (.var 2 8) (.lit 15))
abbrev tM : Tm := .bin .add 64 (.lit 1) (.bin .and 8 (.var 3 8) (.lit 15))
abbrev tW : Tm := .bin .shr 32 (.var 0 32) tK
abbrev tA : Tm := .bin .and 32 tW (.bin .sub 32 (.bin .shl 32 (.lit 1) tN) (.lit 1))
abbrev tB : Tm := .bin .and 32 (.bin .shr 32 (.var 0 32) (.bin .add 64 tK tN)) (.bin .sub 32 (.bin .shl 32 (.lit 1) tM) (.lit 1))
abbrev tC : Tm := .bin .and 32 tW (.bin .sub 32 (.bin .shl 32 (.lit 1) (.bin .add 64 tN tM)) (.lit 1))
abbrev lKN : Tm := .bin .slt 64 (.bin .add 64 tK tN) (.lit 32)
abbrev lNM : Tm := .bin .slt 64 (.bin .add 64 tN tM) (.lit 32)
abbrev sA : Tm := .bin .add 64 tA (.bin .shl 64 (.lit 0) tN)
abbrev sB : Tm := .bin .add 64 tA (.bin .shl 64 tB tN)
noncomputable def lems : List Vc := [⟨[], .bin .ult 32 tA (.bin .shl 32 (.lit 1) tN)⟩, ⟨[], .bin .ult 32 tB (.bin .shl 32 (.lit 1) tM)⟩,
  ⟨[.un .bnot 1 lKN, .un .bnot 1 lNM], .bin .eq 64 sA tW⟩, ⟨[.un .bnot 1 lKN, lNM], .bin .eq 64 sA tC⟩, ⟨[lKN, .un .bnot 1 lNM], .bin .eq 64 sB tW⟩, ⟨[lKN, lNM], .bin .eq 64 sB tC⟩]

theorem slt_ev {w x y : Nat} : O2.slt.ev w x y = b2n (Nat.blt ((x + 2 ^ (w - 1)) % 2 ^ w) ((y + 2 ^ (w - 1)) % 2 ^ w)) := rfl
theorem slt64 {x : Nat} (h : x < 2 ^ 63) : O2.slt.ev 64 x 32 ≠ 0 ↔ x < 32 := by
  rw [slt_ev, b2n_nz, slt_iff (by decide) (by omega) (by decide)]
  omega
theorem bnot_ne {x : Nat} : O1.bnot.ev 1 x ≠ 0 ↔ x = 0 := by
  show bc (Nat.beq x 0) 1 0 ≠ 0 ↔ _
  by_cases h : x = 0
  · rw [nbeq_t h]; simp [h]
  · rw [nbeq_f h]; simp [h]
theorem eq_ne {w x y : Nat} (h : x = y) : O2.eq.ev w x y ≠ 0 := by
  show b2n (Nat.beq x y) ≠ 0
  rw [nbeq_t h]; exact Nat.one_ne_zero
theorem maskw {w n : Nat} (h : n < w) : O2.sub.ev w (O2.shl.ev w 1 n) 1 = 2 ^ n - 1 := by
  show ((bc (Nat.ble w n) 0 (1 * 2 ^ n % 2 ^ w)) + (2 ^ w - 1 % 2 ^ w)) % 2 ^ w = _
  rw [nble_f (by omega)]
  have h1 : 2 ^ n < 2 ^ w := Nat.pow_lt_pow_right (by omega) h
  have h2 := Nat.two_pow_pos n
  show ((1 * 2 ^ n % 2 ^ w) + (2 ^ w - 1 % 2 ^ w)) % 2 ^ w = _
  rw [Nat.one_mul, Nat.mod_eq_of_lt h1, Nat.mod_eq_of_lt (show 1 < 2 ^ w by omega), show 2 ^ n + (2 ^ w - 1) = (2 ^ n - 1) + 2 ^ w by omega, Nat.add_mod_right, Nat.mod_eq_of_lt (by omega)]
theorem mask32 {n : Nat} (h : n < 32) : O2.sub.ev 32 (O2.shl.ev 32 1 n) 1 = 2 ^ n - 1 := maskw h
theorem shr32 {x n : Nat} (h : n < 32) : O2.shr.ev 32 x n = x / 2 ^ n := by
  show bc (Nat.ble 32 n) 0 (x / 2 ^ n) = _
  rw [nble_f (by omega)]
theorem shl32 {n : Nat} (h : n < 32) : O2.shl.ev 32 1 n = 2 ^ n := by
  show bc (Nat.ble 32 n) 0 (1 * 2 ^ n % 2 ^ 32) = _
  rw [nble_f (by omega), Nat.one_mul, Nat.mod_eq_of_lt (Nat.pow_lt_pow_right (by omega) h)]
set_option maxRecDepth 100000 in
theorem lemsOk : ∀ σ, ∀ v ∈ lems, v.ok σ := by
  intro σ
  have hk : tK.ev σ < 32 := by
    show (σ 1 % 2 ^ 8) &&& 31 < 32
    have : (σ 1 % 2 ^ 8) &&& 31 ≤ 31 := Nat.and_le_right
    omega
  have h15 : ∀ i, (σ i % 2 ^ 8) &&& 15 ≤ 15 := fun i => Nat.and_le_right
  have hn : tN.ev σ = 1 + ((σ 2 % 2 ^ 8) &&& 15) := Nat.mod_eq_of_lt (by have := h15 2; show 1 + ((σ 2 % 2 ^ 8) &&& 15) < 2 ^ 64; omega)
  have hm : tM.ev σ = 1 + ((σ 3 % 2 ^ 8) &&& 15) := Nat.mod_eq_of_lt (by have := h15 3; show 1 + ((σ 3 % 2 ^ 8) &&& 15) < 2 ^ 64; omega)
  have hn1 : 1 ≤ tN.ev σ ∧ tN.ev σ ≤ 16 := by have := h15 2; omega
  have hm1 : 1 ≤ tM.ev σ ∧ tM.ev σ ≤ 16 := by have := h15 3; omega
  have hW : (Tm.var 0 32).ev σ < 2 ^ 32 := Nat.mod_lt _ (by decide)
  have hkn : (Tm.bin .add 64 tK tN).ev σ = tK.ev σ + tN.ev σ := Nat.mod_eq_of_lt (by show tK.ev σ + tN.ev σ < 2 ^ 64; omega)
  have hnm : (Tm.bin .add 64 tN tM).ev σ = tN.ev σ + tM.ev σ := Nat.mod_eq_of_lt (by show tN.ev σ + tM.ev σ < 2 ^ 64; omega)
  have lkn : lKN.ev σ ≠ 0 ↔ tK.ev σ + tN.ev σ < 32 := by
    rw [ev_bin, hkn, ev_lit]; exact slt64 (by omega)
  have lnm : lNM.ev σ ≠ 0 ↔ tN.ev σ + tM.ev σ < 32 := by
    rw [ev_bin, hnm, ev_lit]; exact slt64 (by omega)
  have eW : tW.ev σ = (Tm.var 0 32).ev σ / 2 ^ tK.ev σ := by rw [ev_bin]; exact shr32 hk
  have eA : tA.ev σ = tW.ev σ % 2 ^ tN.ev σ := by
    rw [ev_bin, ev_bin (σ := σ) .sub, ev_bin (σ := σ) .shl, ev_lit, mask32 (by omega)]
    exact Nat.and_two_pow_sub_one_eq_mod _ _
  have eB : tK.ev σ + tN.ev σ < 32 → tB.ev σ = (tW.ev σ / 2 ^ tN.ev σ) % 2 ^ tM.ev σ := by
    intro h
    rw [ev_bin, ev_bin (σ := σ) .sub, ev_bin (σ := σ) .shl, ev_lit, mask32 (by omega), ev_bin (σ := σ) .shr, hkn, shr32 h, eW, Nat.div_div_eq_div_mul, ← Nat.pow_add]
    exact Nat.and_two_pow_sub_one_eq_mod _ _
  have eC : tN.ev σ + tM.ev σ < 32 → tC.ev σ = tW.ev σ % 2 ^ (tN.ev σ + tM.ev σ) := by
    intro h
    rw [ev_bin, ev_bin (σ := σ) .sub, ev_bin (σ := σ) .shl, ev_lit, hnm, mask32 h]
    exact Nat.and_two_pow_sub_one_eq_mod _ _
  generalize hkk : tK.ev σ = k at *
  generalize hnn : tN.ev σ = n at *
  generalize hmm : tM.ev σ = m at *
  generalize hww : tW.ev σ = x at *
  have hx : x < 2 ^ 32 := by rw [eW]; exact Nat.lt_of_le_of_lt (Nat.div_le_self _ _) hW
  have hx2 : 32 ≤ k + n → x < 2 ^ n := by
    intro h
    rw [eW, Nat.div_lt_iff_lt_mul (Nat.two_pow_pos _), ← Nat.pow_add]
    exact Nat.lt_of_lt_of_le hW (Nat.pow_le_pow_right (by omega) (by omega))
  have hA : x % 2 ^ n < 2 ^ n := Nat.mod_lt _ (Nat.two_pow_pos _)
  have hn32 : 2 ^ n ≤ 2 ^ 16 := Nat.pow_le_pow_right (by omega) hn1.2
  have esA : sA.ev σ = x % 2 ^ n := by
    rw [ev_bin, ev_bin (σ := σ) .shl, ev_lit, hnn, eA]
    have e0 : O2.shl.ev 64 0 n = 0 := by
      show bc (Nat.ble 64 n) 0 (0 * 2 ^ n % 2 ^ 64) = 0
      rw [nble_f (by omega), Nat.zero_mul]
    rw [e0]
    exact Nat.mod_eq_of_lt (by show x % 2 ^ n + 0 < 2 ^ 64; omega)
  have esB : k + n < 32 → sB.ev σ = x % 2 ^ (n + m) := by
    intro h
    rw [ev_bin, ev_bin (σ := σ) .shl, hnn, eA, eB h]
    have hm32 : 2 ^ m ≤ 2 ^ 16 := Nat.pow_le_pow_right (by omega) hm1.2
    have hB : x / 2 ^ n % 2 ^ m < 2 ^ m := Nat.mod_lt _ (Nat.two_pow_pos _)
    have hb2 : x / 2 ^ n % 2 ^ m * 2 ^ n ≤ 2 ^ 16 * 2 ^ 16 := Nat.mul_le_mul (by omega) hn32
    have e0 : O2.shl.ev 64 (x / 2 ^ n % 2 ^ m) n = x / 2 ^ n % 2 ^ m * 2 ^ n := by
      show bc (Nat.ble 64 n) 0 (x / 2 ^ n % 2 ^ m * 2 ^ n % 2 ^ 64) = _
      rw [nble_f (by omega), Nat.mod_eq_of_lt (by omega)]
    rw [e0, Nat.pow_add, Nat.mod_mul, Nat.mul_comm (2 ^ n)]
    exact Nat.mod_eq_of_lt (by show x % 2 ^ n + x / 2 ^ n % 2 ^ m * 2 ^ n < 2 ^ 64; omega)
  have n1 : (Tm.un .bnot 1 lKN).ev σ ≠ 0 → 32 ≤ k + n := fun h => by
    rw [ev_un] at h
    have := bnot_ne.1 h
    refine Nat.le_of_not_lt fun h' => lkn.2 h' this
  have n2 : (Tm.un .bnot 1 lNM).ev σ ≠ 0 → 32 ≤ n + m := fun h => by
    rw [ev_un] at h
    have := bnot_ne.1 h
    refine Nat.le_of_not_lt fun h' => lnm.2 h' this
  intro v hv
  simp only [lems, List.mem_cons, List.not_mem_nil, or_false] at hv
  rcases hv with rfl | rfl | rfl | rfl | rfl | rfl <;> intro hf
  · show (Tm.bin .ult 32 tA (.bin .shl 32 (.lit 1) tN)).ev σ ≠ 0
    rw [ev_bin, ev_bin (σ := σ) .shl, ev_lit, hnn, shl32 (by omega), eA]
    show b2n (Nat.blt _ _) ≠ 0
    rw [nblt_t hA]; exact Nat.one_ne_zero
  · show (Tm.bin .ult 32 tB (.bin .shl 32 (.lit 1) tM)).ev σ ≠ 0
    rw [ev_bin, ev_bin (σ := σ) .shl, ev_lit, hmm, shl32 (by omega), ev_bin (σ := σ) .and, ev_bin (σ := σ) .sub, ev_bin (σ := σ) .shl, ev_lit, hmm, mask32 (by omega)]
    show b2n (Nat.blt (_ &&& (2 ^ m - 1)) (2 ^ m)) ≠ 0
    have h2 := Nat.two_pow_pos m
    have : ∀ y, y &&& (2 ^ m - 1) ≤ 2 ^ m - 1 := fun y => Nat.and_le_right
    rw [nblt_t (Nat.lt_of_le_of_lt (this _) (by omega))]; exact Nat.one_ne_zero
  · have f1 := n1 (hf _ (by simp))
    show (Tm.bin .eq 64 sA tW).ev σ ≠ 0
    rw [ev_bin, esA, hww]
    exact eq_ne (Nat.mod_eq_of_lt (hx2 f1))
  · have f1 := n1 (hf _ (by simp))
    have f2 := lnm.1 (hf _ (by simp))
    show (Tm.bin .eq 64 sA tC).ev σ ≠ 0
    rw [ev_bin, esA, eC f2]
    refine eq_ne ?_
    rw [Nat.mod_eq_of_lt (hx2 f1), Nat.mod_eq_of_lt (Nat.lt_of_lt_of_le (hx2 f1) (Nat.pow_le_pow_right (by omega) (by omega)))]
  · have f1 := lkn.1 (hf _ (by simp))
    have f2 := n2 (hf _ (by simp))
    show (Tm.bin .eq 64 sB tW).ev σ ≠ 0
    rw [ev_bin, esB f1, hww]
    refine eq_ne (Nat.mod_eq_of_lt (Nat.lt_of_lt_of_le hx (Nat.pow_le_pow_right (by omega) f2)))
  · have f1 := lkn.1 (hf _ (by simp))
    have f2 := lnm.1 (hf _ (by simp))
    show (Tm.bin .eq 64 sB tC).ev σ ≠ 0
    rw [ev_bin, esB f1, eC f2]
    exact eq_ne rfl

theorem sym : symArgs Try.prog Try.f4.params.toList 0 = some [.int .u32 (.var 0 32), .int .u8 (.var 1 8), .agg [.int .u8 (.var 2 8), .int .u8 (.var 3 8)]] := by kernel_rfl
theorem run : lawRun Try.prog 0 [] 100 60 4 lems [] [.int .u32 (.var 0 32), .int .u8 (.var 1 8), .agg [.int .u8 (.var 2 8), .int .u8 (.var 3 8)]] = true := by kernel_rfl
set_option maxRecDepth 100000 in
theorem lifted (os : Os) (started : os.Started) (H : Type) (enc : TypeId × Value → H) :
    ReturnsInHanded {} Try.checked os 4 .any (Rows.fieldGetsSpec.pre6 enc Try.prog Try.f4 Rows.fieldGetsRow.domain false) (Rows.fieldGetsSpec.post enc Try.prog Try.f4 false true false false) := by
  refine returnsInHanded_of_change (C := Try.checked) own started (by kernel_rfl) Try.func4
    (ChangeSpec.witness6 (enc := enc) (C := Try.checked) false ⟨#[], #[.int .u32 0, .int .u8 0, .agg #[.int .u8 0, .int .u8 0]], []⟩ 8 (by kernel_rfl) (by kernel_rfl) (by kernel_rfl) (by kernel_rfl)) ?_
  intro W base args ds gs before hval hW _ _
  exact law_contract (P := Try.prog) mixed laidOut sym (fun σ => ⟨_, _, _, _, _, _, run, lemsOk σ, fun _ h => by cases h⟩) (by kernel_rfl) rfl (by rfl) Try.underlying4
    (fun ds h => by
      have h' : ds.length = 3 := by rw [h, Try.params4]; rfl
      match ds, h' with | [d0, d1, d2], _ => rfl) W base args ds gs before hval hW
theorem over : Rows.fieldGetsRow.holds Try.pinned (OpenSpec.ofChange Rows.fieldGetsSpec) :=
  OpenClaim.holds_of_wide 4 Try.f4 rfl rfl rfl rfl rfl rfl rfl ⟨rfl, rfl, rfl, rfl, rfl⟩ rfl rfl rfl rfl rfl (by kernel_rfl) Try.func4 (by kernel_rfl)
    (of_decide_eq_true (by kernel_rfl)) (by unfold Func.isWrapper; first | (rw [if_pos (by decide +kernel)]; kernel_rfl) | (rw [if_neg (by decide +kernel)]; exact ⟨rfl, rfl⟩))
    (fun os started H enc _ => lifted os started H enc)
theorem proved : Rows.FieldGetsSaid := over
#print axioms proved
end Go.Proofs.Ytcnaapegjhlcdaa.fieldGets
namespace Go.Proofs.Ytcnaapegjhlcdaa
/-- The row, under a short name, for the claim. -/
theorem fieldGets_holds : Rows.FieldGetsSaid := fieldGets.proved
end Go.Proofs.Ytcnaapegjhlcdaa
