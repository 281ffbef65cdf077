/- TopDivides: for every input that the statement lets in the law returns true, and the input reads as it did. No condition. -/
import Derived.Test.YtlccaffnepiapaaGreatDoorLawTopDividesF0
import Derived.Test.YtlccaffnepiapaaGreatDoorLawTopDividesF1
import Derived.Test.YtlccaffnepiapaaGreatDoorLawTopDividesF2
import Derived.Test.YtlccaffnepiapaaGreatDoorLawTopDividesP
import Derived.Test.YtlccaffnepiapaaGreatDoorLawTopDividesR0
import Derived.Test.YtlccaffnepiapaaGreatDoorLawTopDividesR1
import Derived.Test.YtlccaffnepiapaaGreatDoorLawTopDividesM0
import Derived.Test.YtlccaffnepiapaaGreatDoorLawTopDividesM1
import Derived.Test.YtlccaffnepiapaaGreatDoorLawTopDividesM2
import Derived.Test.YtlccaffnepiapaaGreatDoorLawTopDividesM3
import Derived.Test.YtlccaffnepiapaaGreatDoorLawTopDividesT
import Derived.Test.YtlccaffnepiapaaGreatDoorTie
import Derived.Test.YtlccaffnepiapaaGreatDoorCards
import Derived.LaidMore
import Derived.Lay
import Derived.Stop.Joined
import Derived.SevenTiedAt
namespace Go.Proofs.YtlccaffnepiapaaGreatDoor.TopDivides
open Go.ChangeShapes Go.WideShapes Go.ChangeAt Go.RowKit Go.Sy
set_option linter.unusedVariables false
theorem own : ownKnob Tryz.prog.godebug = none := by kernel_rfl
theorem laidOut : laidOutB Tryz.prog = true := by kernel_rfl
theorem mixed : Tryz.prog.follows .mixedOrders = true := by kernel_rfl
theorem kinds : argK Tryz.prog 8 Tryz.f5.params.toList = some ([none, none], ks) := by kernel_rfl
/-- A number of 32 bits, with its sign, in 64. -/
def s32 (a : Nat) : Nat := if a < 2147483648 then a else a + 18446744069414584320
def s12 (a : Nat) : Nat := if a < 2048 then a else a + 18446744073709547520
theorem sx_ev (a : Nat) : O1.ev (.sx 32) 64 a = s32 a := by
  show bc (Nat.blt a (p2 (Nat.sub 32 1))) a (Nat.add a (Nat.sub (p2 64) (p2 32))) = s32 a
  unfold s32
  have e : p2 (Nat.sub 32 1) = 2147483648 := rfl
  rw [e]
  by_cases h : a < 2147483648
  · rw [nblt_t h, if_pos h]
  · rw [nblt_f h, if_neg h]; rfl
theorem sar_ev (y k : Nat) (hk : k < 64) : O2.ev .sar 64 y k = if y < 9223372036854775808 then y / 2 ^ k else 18446744073709551615 - (18446744073709551615 - y) / 2 ^ k := by
  show bc (isNeg 64 y) (Nat.sub (Nat.sub (p2 64) 1) (Nat.div (Nat.sub (Nat.sub (p2 64) 1) y) (p2 (bc (Nat.ble 64 k) 64 k)))) (Nat.div y (p2 (bc (Nat.ble 64 k) 64 k))) = _
  have e : Nat.ble 64 k = false := by
    cases h : Nat.ble 64 k
    · rfl
    · have := Nat.le_of_ble_eq_true h; omega
  rw [e]
  have e2 : isNeg 64 y = Nat.ble 9223372036854775808 y := rfl
  rw [e2]
  by_cases h : y < 9223372036854775808
  · rw [if_pos h]
    have : Nat.ble 9223372036854775808 y = false := by
      cases h2 : Nat.ble 9223372036854775808 y
      · rfl
      · have := Nat.le_of_ble_eq_true h2; omega
    rw [this]; rfl
  · rw [if_neg h, Nat.ble_eq_true_of_le (Nat.le_of_not_lt h)]; rfl
theorem shl_ev (x k : Nat) (hk : k < 64) : O2.ev .shl 64 x k = x * 2 ^ k % 18446744073709551616 := by
  show bc (Nat.ble 64 k) 0 (Nat.mod (Nat.mul x (p2 k)) (p2 64)) = _
  have e : Nat.ble 64 k = false := by
    cases h : Nat.ble 64 k
    · rfl
    · have := Nat.le_of_ble_eq_true h; omega
  rw [e]; rfl
theorem low12 (x : Nat) : O2.ev .sar 64 (O2.ev .shl 64 x 52) 52 = s12 (x % 4096) := by
  rw [shl_ev _ _ (by decide), sar_ev _ _ (by decide)]
  have e : x * 2 ^ 52 % 18446744073709551616 = (x % 4096) * 4503599627370496 := by
    rw [show (18446744073709551616 : Nat) = 4096 * 2 ^ 52 from rfl, Nat.mul_mod_mul_right]
  rw [e]
  have hm : x % 4096 < 4096 := Nat.mod_lt _ (by decide)
  generalize x % 4096 = m at *
  unfold s12
  rw [show (2 : Nat) ^ 52 = 4503599627370496 from rfl]
  by_cases h : m < 2048
  · rw [if_pos (by omega), if_pos h]; omega
  · rw [if_neg (by omega), if_neg h]; omega
theorem low32 (x : Nat) : O2.ev .sar 64 (O2.ev .shl 64 x 32) 32 = s32 (x % 4294967296) := by
  rw [shl_ev _ _ (by decide), sar_ev _ _ (by decide)]
  have e : x * 2 ^ 32 % 18446744073709551616 = (x % 4294967296) * 4294967296 := by
    rw [show (18446744073709551616 : Nat) = 4294967296 * 2 ^ 32 from rfl, Nat.mul_mod_mul_right]
  rw [e]
  have hm : x % 4294967296 < 4294967296 := Nat.mod_lt _ (by decide)
  generalize x % 4294967296 = m at *
  unfold s32
  rw [show (2 : Nat) ^ 32 = 4294967296 from rfl]
  by_cases h : m < 2147483648
  · rw [if_pos (by omega), if_pos h]; omega
  · rw [if_neg (by omega), if_neg h]; omega
theorem put1 {a : Nat} (ha : a < 4294967296) : ((s32 a + (18446744073709551616 - s12 (a % 4096) % 18446744073709551616)) % 18446744073709551616) % 4294967296 = (if a % 4096 < 2048 then a - a % 4096 else a - a % 4096 + 4096) % 4294967296 := by
  unfold s32 s12
  by_cases h1 : a < 2147483648
  · rw [if_pos h1]
    by_cases h2 : a % 4096 < 2048
    · rw [if_pos h2, if_pos h2]; omega
    · rw [if_neg h2, if_neg h2]; omega
  · rw [if_neg h1]
    by_cases h2 : a % 4096 < 2048
    · rw [if_pos h2, if_pos h2]; omega
    · rw [if_neg h2, if_neg h2]; omega
theorem put2 {a T : Nat} (ha : a < 4294967296) (hT : (if a % 4096 < 2048 then a - a % 4096 else a - a % 4096 + 4096) % 4294967296 = T) : (s32 T + s12 (a % 4096)) % 18446744073709551616 % 4294967296 = a := by
  unfold s32 s12
  by_cases h2 : a % 4096 < 2048
  · rw [if_pos h2] at hT ⊢
    by_cases h1 : T < 2147483648
    · rw [if_pos h1]; omega
    · rw [if_neg h1]; omega
  · rw [if_neg h2] at hT ⊢
    by_cases h1 : T < 2147483648
    · rw [if_pos h1]; omega
    · rw [if_neg h1]; omega
theorem put3 {T : Nat} (hT : T < 4294967296) : O2.ev .and 32 (O2.ev .shr 32 T 12) 1048575 = T / 4096 := by
  have e : Nat.land (T / 2 ^ 12) 1048575 = (T / 2 ^ 12) % 2 ^ 20 := Nat.and_two_pow_sub_one_eq_mod _ 20
  show Nat.land (T / 2 ^ 12) 1048575 = T / 4096
  rw [e]
  omega
theorem put_ev (σ : Nat → Nat) (i : Nat) : (putT i).ev σ = (sxT i).ev σ := by
  have ha : σ i % 2 ^ 32 < 4294967296 := Nat.mod_lt _ (by decide)
  have hv : (Tm.var i 32).ev σ = σ i % 2 ^ 32 := rfl
  simp only [ev_bin, ev_un, ev_lit, hv]
  generalize σ i % 2 ^ 32 = a at ha
  have e1 : O2.ev .and 32 a 4095 = a % 4096 := Nat.and_two_pow_sub_one_eq_mod a 12
  have e2 : s32 a % 4096 = a % 4096 := by unfold s32; split <;> omega
  rw [low32, low32, e1, low12, low12, Nat.mod_mod, sx_ev, e2]
  have e3 : O1.ev .tr 32 (O2.ev .sub 64 (s32 a) (s12 (a % 4096))) = (if a % 4096 < 2048 then a - a % 4096 else a - a % 4096 + 4096) % 4294967296 := put1 ha
  rw [e3]
  generalize hT : (if a % 4096 < 2048 then a - a % 4096 else a - a % 4096 + 4096) % 4294967296 = T
  have hTl : T < 4294967296 := by rw [← hT]; exact Nat.mod_lt _ (by decide)
  rw [put3 hTl, shl_ev _ _ (by decide)]
  have e5 : T / 4096 * 2 ^ 12 % 18446744073709551616 % 4294967296 = T := by
    have : T % 4096 = 0 := by rw [← hT]; split <;> omega
    omega
  rw [e5]
  have e6 : O2.ev .add 64 (s32 T) (s12 (a % 4096)) % 4294967296 = a := put2 ha hT
  rw [e6]
theorem zsum {X Y : Nat} (h : (X + Y) % 18446744073709551616 = 0) : X % 18446744073709551616 = (18446744073709551616 - Y % 18446744073709551616) % 18446744073709551616 := by omega
theorem negmul (u q : Nat) : ((18446744073709551616 - u % 18446744073709551616) % 18446744073709551616 * q) % 18446744073709551616 = (18446744073709551616 - (u * q) % 18446744073709551616) % 18446744073709551616 := by
  apply zsum
  rw [← Nat.add_mul]
  have h : ((18446744073709551616 - u % 18446744073709551616) % 18446744073709551616 + u) % 18446744073709551616 = 0 := by omega
  rw [Nat.mul_mod, h, Nat.zero_mul]
theorem neg32 {a : Nat} (ha : a < 4294967296) : isNeg 64 (s32 a) = if a < 2147483648 then false else true := by
  show Nat.ble 9223372036854775808 (s32 a) = _
  unfold s32
  by_cases h : a < 2147483648
  · rw [if_pos h, if_pos h]
    cases h2 : Nat.ble 9223372036854775808 a
    · rfl
    · have := Nat.le_of_ble_eq_true h2; omega
  · rw [if_neg h, if_neg h]; exact Nat.ble_eq_true_of_le (by omega)
theorem mag32 {a : Nat} (ha : a < 4294967296) : mag 64 (s32 a) = if a < 2147483648 then a else 4294967296 - a := by
  show bc (isNeg 64 (s32 a)) (Nat.sub (p2 64) (s32 a)) (s32 a) = _
  rw [neg32 ha]
  by_cases h : a < 2147483648
  · rw [if_pos h, if_pos h]; unfold s32; rw [if_pos h]
  · rw [if_neg h, if_neg h]
    show 18446744073709551616 - s32 a = _
    unfold s32; rw [if_neg h]; omega
theorem sgn_f (z : Nat) : sgn false 64 z = z % 18446744073709551616 := rfl
theorem sgn_t (z : Nat) : sgn true 64 z = (18446744073709551616 - z % 18446744073709551616) % 18446744073709551616 := rfl
theorem sdiv_ev (x y : Nat) : O2.ev .sdiv 64 x y = sgn (bne (isNeg 64 x) (isNeg 64 y)) 64 (mag 64 x / mag 64 y) := rfl
theorem srem_ev (x y : Nat) : O2.ev .srem 64 x y = sgn (isNeg 64 x) 64 (mag 64 x % mag 64 y) := rfl
theorem mul_ev (x y : Nat) : O2.ev .mul 64 x y = x * y % 18446744073709551616 := rfl
theorem add_ev (x y : Nat) : O2.ev .add 64 x y = (x + y) % 18446744073709551616 := rfl
theorem sub_ev (x y : Nat) : O2.ev .sub 64 x y = (x + (18446744073709551616 - y % 18446744073709551616)) % 18446744073709551616 := rfl
theorem div_ev {a b : Nat} (ha : a < 4294967296) (hb : b < 4294967296) : O2.ev .add 64 (O2.ev .mul 64 (O2.ev .sdiv 64 (s32 a) (s32 b)) (s32 b)) (O2.ev .srem 64 (s32 a) (s32 b)) = s32 a := by
  rw [sdiv_ev, srem_ev, mul_ev, add_ev, neg32 ha, neg32 hb, mag32 ha, mag32 hb]
  by_cases h1 : a < 2147483648
  · rw [if_pos h1, if_pos h1]
    by_cases h2 : b < 2147483648
    · rw [if_pos h2, if_pos h2]
      have e : s32 b = b := if_pos h2
      have ea : s32 a = a := if_pos h1
      rw [e, ea, show bne false false = false from rfl, sgn_f, sgn_f]
      have hd := Nat.div_add_mod a b
      rw [Nat.mul_comm] at hd
      have hu : a / b < 18446744073709551616 := Nat.lt_of_le_of_lt (Nat.div_le_self a b) (by omega)
      rw [Nat.mod_eq_of_lt hu]
      generalize a / b * b = m at *
      omega
    · rw [if_neg h2, if_neg h2]
      have e : s32 b = b + 18446744069414584320 := if_neg h2
      have ea : s32 a = a := if_pos h1
      rw [e, ea, show bne false true = true from rfl, sgn_t, sgn_f]
      have hd := Nat.div_add_mod a (4294967296 - b)
      have k1 := negmul (a / (4294967296 - b)) (b + 18446744069414584320)
      have k2 := negmul (4294967296 - b) (a / (4294967296 - b))
      have e2 : (18446744073709551616 - (4294967296 - b) % 18446744073709551616) % 18446744073709551616 = b + 18446744069414584320 := by omega
      rw [e2] at k2
      rw [Nat.mul_comm (a / (4294967296 - b)) (b + 18446744069414584320), k2] at k1
      rw [k1]
      generalize (4294967296 - b) * (a / (4294967296 - b)) = m at *
      omega
  · rw [if_neg h1, if_neg h1]
    by_cases h2 : b < 2147483648
    · rw [if_pos h2, if_pos h2]
      have e : s32 b = b := if_pos h2
      have ea : s32 a = a + 18446744069414584320 := if_neg h1
      rw [e, ea, show bne true false = true from rfl, sgn_t, sgn_t]
      have hd := Nat.div_add_mod (4294967296 - a) b
      rw [Nat.mul_comm] at hd
      rw [negmul]
      generalize (4294967296 - a) / b * b = m at *
      omega
    · rw [if_neg h2, if_neg h2]
      have e : s32 b = b + 18446744069414584320 := if_neg h2
      have ea : s32 a = a + 18446744069414584320 := if_neg h1
      rw [e, ea, show bne true true = false from rfl, sgn_f, sgn_t]
      have hd := Nat.div_add_mod (4294967296 - a) (4294967296 - b)
      have hu : (4294967296 - a) / (4294967296 - b) < 18446744073709551616 := Nat.lt_of_le_of_lt (Nat.div_le_self _ _) (by omega)
      rw [Nat.mod_eq_of_lt hu]
      have k2 := negmul (4294967296 - b) ((4294967296 - a) / (4294967296 - b))
      have e2 : (18446744073709551616 - (4294967296 - b) % 18446744073709551616) % 18446744073709551616 = b + 18446744069414584320 := by omega
      rw [e2] at k2
      rw [Nat.mul_comm ((4294967296 - a) / (4294967296 - b)) (b + 18446744069414584320), k2]
      generalize (4294967296 - b) * ((4294967296 - a) / (4294967296 - b)) = m at *
      omega
theorem eq_ne {σ : Nat → Nat} {w : Nat} {a b : Tm} : (Tm.bin .eq w a b).ev σ ≠ 0 ↔ a.ev σ = b.ev σ := by
  show b2n (Nat.beq (a.ev σ) (b.ev σ)) ≠ 0 ↔ _
  by_cases h : a.ev σ = b.ev σ
  · rw [nbeq_t h]; exact ⟨fun _ => h, fun _ => Nat.one_ne_zero⟩
  · rw [nbeq_f h]; exact ⟨fun hh => absurd rfl hh, fun hh => absurd hh h⟩
theorem bnot_ne {σ : Nat → Nat} {t : Tm} : (Tm.un .bnot 1 t).ev σ ≠ 0 ↔ t.ev σ = 0 := by
  show bc (Nat.beq (t.ev σ) 0) 1 0 ≠ 0 ↔ _
  by_cases h : t.ev σ = 0
  · rw [nbeq_t h]; exact ⟨fun _ => h, fun _ => Nat.one_ne_zero⟩
  · rw [nbeq_f h]; exact ⟨fun hh => absurd rfl hh, fun hh => absurd hh h⟩
theorem sxT_ev (σ : Nat → Nat) (i : Nat) : (sxT i).ev σ = s32 (σ i % 2 ^ 32) := sx_ev _
theorem v_lt (σ : Nat → Nat) (i : Nat) : σ i % 2 ^ 32 < 4294967296 := Nat.mod_lt _ (by decide)
theorem m1 {b : Nat} (hb : b < 4294967296) (h : s32 b = 18446744073709551615) : b = 4294967295 := by unfold s32 at h; split at h <;> omega
theorem lems_ok : ∀ σ, ∀ v ∈ lems, v.ok σ := by
  intro σ v hv
  simp only [lems, List.mem_cons, List.mem_nil_iff, or_false] at hv
  have a := v_lt σ 0
  have b := v_lt σ 1
  rcases hv with rfl | rfl | rfl | rfl | rfl | rfl | rfl | rfl | rfl
  · exact fun _ => eq_ne.2 (put_ev σ 0).symm
  · exact fun _ => eq_ne.2 (put_ev σ 1).symm
  · exact fun _ => eq_ne.2 (by rw [ev_bin, ev_bin, ev_bin, ev_bin, sxT_ev, sxT_ev]; exact div_ev a b)
  · intro h
    have h := bnot_ne.1 (h _ List.mem_cons_self)
    refine bnot_ne.2 (Classical.not_not.1 fun hh => ?_)
    have h3 := eq_ne.1 hh
    rw [sxT_ev, ev_lit] at h3
    have : (Tm.var 1 32).ev σ = (Tm.lit 0).ev σ := by
      show σ 1 % 2 ^ 32 = 0
      unfold s32 at h3
      split at h3 <;> omega
    exact eq_ne.2 this h
  · intro h
    have h : σ 1 % 2 ^ 32 = 0 := eq_ne.1 (h _ List.mem_cons_self)
    refine eq_ne.2 ?_
    rw [put_ev, sxT_ev, h]; rfl
  · intro h
    have h := eq_ne.1 (h _ List.mem_cons_self)
    rw [sxT_ev, ev_lit] at h
    refine eq_ne.2 ?_
    rw [ev_bin, ev_bin, ev_bin, ev_lit, sxT_ev, sxT_ev, h, add_ev, mul_ev, sub_ev]
    have k1 := negmul (s32 (σ 0 % 2 ^ 32)) 18446744073709551615
    have k2 := negmul 1 (s32 (σ 0 % 2 ^ 32))
    have hl : s32 (σ 0 % 2 ^ 32) < 18446744073709551616 := by unfold s32; split <;> omega
    generalize s32 (σ 0 % 2 ^ 32) = x at *
    rw [show (18446744073709551616 - 1 % 18446744073709551616) % 18446744073709551616 = 18446744073709551615 from rfl, Nat.one_mul, Nat.mul_comm] at k2
    rw [k2] at k1
    rw [Nat.zero_add, k1]
    omega
  · intro h
    have h := eq_ne.1 (h _ List.mem_cons_self)
    rw [sxT_ev, ev_lit] at h
    have hb := m1 b h
    refine eq_ne.2 ?_
    rw [ev_bin, ev_bin, ev_lit, sxT_ev, sxT_ev, sdiv_ev, sub_ev, neg32 a, neg32 b, mag32 a, mag32 b, hb]
    generalize σ 0 % 2 ^ 32 = x at *
    by_cases h1 : x < 2147483648
    · rw [if_pos h1, if_pos h1, show s32 x = x from if_pos h1]
      show _ = sgn true 64 (x / (4294967296 - 4294967295))
      rw [sgn_t]; omega
    · rw [if_neg h1, if_neg h1, show s32 x = x + 18446744069414584320 from if_neg h1]
      show _ = sgn false 64 ((4294967296 - x) / (4294967296 - 4294967295))
      rw [sgn_f]; omega
  · intro h
    have h := eq_ne.1 (h _ List.mem_cons_self)
    rw [sxT_ev, ev_lit] at h
    have hb := m1 b h
    refine eq_ne.2 ?_
    rw [ev_bin, ev_lit, sxT_ev, sxT_ev, srem_ev, neg32 a, mag32 a, mag32 b, hb]
    generalize σ 0 % 2 ^ 32 = x at *
    by_cases h1 : x < 2147483648
    · rw [if_pos h1, if_pos h1]
      show sgn false 64 (x % (4294967296 - 4294967295)) = 0
      rw [sgn_f]; omega
    · rw [if_neg h1, if_neg h1]
      show sgn true 64 ((4294967296 - x) % (4294967296 - 4294967295)) = 0
      rw [sgn_t]; omega
  · intro h
    have h := bnot_ne.1 (h _ List.mem_cons_self)
    intro h3
    change (sxT 1).ev σ = 0 at h3
    rw [sxT_ev] at h3
    have : (Tm.var 1 32).ev σ = (Tm.lit 0).ev σ := by
      show σ 1 % 2 ^ 32 = 0
      unfold s32 at h3
      split at h3 <;> omega
    exact eq_ne.2 this h
theorem mem0 : ∀ e ∈ mt0, MemFn Tryz.prog e.f e.args e.s := fun _ h => by cases h
theorem mem1 : ∀ e ∈ mt1, MemFn Tryz.prog e.f e.args e.s := by
  intro e h
  rcases List.mem_cons.1 (show e ∈ me0 :: mt0 from h) with rfl | h
  · exact memFn_of (envL_okT mixed (fun _ h => by cases h) mem0 (fun _ h => by cases h)) memRun0
  · exact mem0 e h
theorem mem2 : ∀ e ∈ mt2, MemFn Tryz.prog e.f e.args e.s := by
  intro e h
  rcases List.mem_cons.1 (show e ∈ me1 :: mt1 from h) with rfl | h
  · exact memFn_of (envL_okT mixed (fun _ h => by cases h) mem1 (fun _ h => by cases h)) memRun1
  · exact mem1 e h
theorem mem3 : ∀ e ∈ mt3, MemFn Tryz.prog e.f e.args e.s := by
  intro e h
  rcases List.mem_cons.1 (show e ∈ me2 :: mt2 from h) with rfl | h
  · exact memFn_of (envL_okT mixed (fun _ h => by cases h) mem2 (fun _ h => by cases h)) memRun2
  · exact mem2 e h
theorem mem4 : ∀ e ∈ mt4, MemFn Tryz.prog e.f e.args e.s := by
  intro e h
  rcases List.mem_cons.1 (show e ∈ me3 :: mt3 from h) with rfl | h
  · exact memFn_of (envL_okT mixed (fun _ h => by cases h) mem3 (fun _ h => by cases h)) memRun3
  · exact mem3 e h
theorem mem5 : ∀ e ∈ mt5, MemFn Tryz.prog e.f e.args e.s := by
  intro e h
  rcases List.mem_cons.1 (show e ∈ me4 :: mt4 from h) with rfl | h
  · exact memFn_of (envL_okT mixed (fun _ h => by cases h) mem4 (fun _ h => by cases h)) memRun4
  · exact mem4 e h
theorem mem6 : ∀ e ∈ mt6, MemFn Tryz.prog e.f e.args e.s := by
  intro e h
  rcases List.mem_cons.1 (show e ∈ me5 :: mt5 from h) with rfl | h
  · exact memFn_of (envL_okT mixed (fun _ h => by cases h) mem5 (fun _ h => by cases h)) memRun5
  · exact mem5 e h
theorem mem7 : ∀ e ∈ mt7, MemFn Tryz.prog e.f e.args e.s := by
  intro e h
  rcases List.mem_cons.1 (show e ∈ me6 :: mt6 from h) with rfl | h
  · exact memFn_of (envL_okT mixed (fun _ h => by cases h) mem6 (fun _ h => by cases h)) memRun6
  · exact mem6 e h
theorem mem8 : ∀ e ∈ mt8, MemFn Tryz.prog e.f e.args e.s := by
  intro e h
  rcases List.mem_cons.1 (show e ∈ me7 :: mt7 from h) with rfl | h
  · exact memFn_of (envL_okT mixed (fun _ h => by cases h) mem7 (fun _ h => by cases h)) memRun7
  · exact mem7 e h
theorem mem9 : ∀ e ∈ mt9, MemFn Tryz.prog e.f e.args e.s := by
  intro e h
  rcases List.mem_cons.1 (show e ∈ me8 :: mt8 from h) with rfl | h
  · exact memFn_of (envL_okT mixed (fun _ h => by cases h) mem8 (fun _ h => by cases h)) memRun8
  · exact mem8 e h
theorem mem10 : ∀ e ∈ mt10, MemFn Tryz.prog e.f e.args e.s := by
  intro e h
  rcases List.mem_cons.1 (show e ∈ me9 :: mt9 from h) with rfl | h
  · exact memFn_of (envL_okT mixed (fun _ h => by cases h) mem9 (fun _ h => by cases h)) memRun9
  · exact mem9 e h
theorem mem11 : ∀ e ∈ mt11, MemFn Tryz.prog e.f e.args e.s := by
  intro e h
  rcases List.mem_cons.1 (show e ∈ me10 :: mt10 from h) with rfl | h
  · exact memFn_of (envL_okT mixed (fun _ h => by cases h) mem10 (fun _ h => by cases h)) memRun10
  · exact mem10 e h
theorem mem12 : ∀ e ∈ mt12, MemFn Tryz.prog e.f e.args e.s := by
  intro e h
  rcases List.mem_cons.1 (show e ∈ me11 :: mt11 from h) with rfl | h
  · exact memFn_of (envL_okT mixed (fun _ h => by cases h) mem11 (fun _ h => by cases h)) memRun11
  · exact mem11 e h
theorem mem13 : ∀ e ∈ mt13, MemFn Tryz.prog e.f e.args e.s := by
  intro e h
  rcases List.mem_cons.1 (show e ∈ me12 :: mt12 from h) with rfl | h
  · exact memFn_of (envL_okT mixed (fun _ h => by cases h) mem12 (fun _ h => by cases h)) memRun12
  · exact mem12 e h
theorem mem14 : ∀ e ∈ mt14, MemFn Tryz.prog e.f e.args e.s := by
  intro e h
  rcases List.mem_cons.1 (show e ∈ me13 :: mt13 from h) with rfl | h
  · exact memFn_of (envL_okT mixed (fun _ h => by cases h) mem13 (fun _ h => by cases h)) memRun13
  · exact mem13 e h
theorem mem15 : ∀ e ∈ mt15, MemFn Tryz.prog e.f e.args e.s := by
  intro e h
  rcases List.mem_cons.1 (show e ∈ me14 :: mt14 from h) with rfl | h
  · exact memFn_of (envL_okT mixed (fun _ h => by cases h) mem14 (fun _ h => by cases h)) memRun14
  · exact mem14 e h
theorem mem16 : ∀ e ∈ mt16, MemFn Tryz.prog e.f e.args e.s := by
  intro e h
  rcases List.mem_cons.1 (show e ∈ me15 :: mt15 from h) with rfl | h
  · exact memFn_of (envL_okT mixed (fun _ h => by cases h) mem15 (fun _ h => by cases h)) memRun15
  · exact mem15 e h
theorem mem17 : ∀ e ∈ mt17, MemFn Tryz.prog e.f e.args e.s := by
  intro e h
  rcases List.mem_cons.1 (show e ∈ me16 :: mt16 from h) with rfl | h
  · exact memFn_of (envL_okT mixed (fun _ h => by cases h) mem16 (fun _ h => by cases h)) memRun16
  · exact mem16 e h
theorem mems : ∀ e ∈ mtl, MemFn Tryz.prog e.f e.args e.s := mem17
theorem sum0 : ∀ e ∈ ms0, SumFn Tryz.prog e := fun _ h => by cases h
theorem sum1 : ∀ e ∈ ms1, SumFn Tryz.prog e := by
  intro e h
  rcases List.mem_cons.1 (show e ∈ se0 :: ms0 from h) with rfl | h
  · exact sumFn_of (envL_okT mixed (fun _ h => by cases h) mems sum0) sumRun0
  · exact sum0 e h
theorem sum2 : ∀ e ∈ ms2, SumFn Tryz.prog e := by
  intro e h
  rcases List.mem_cons.1 (show e ∈ se1 :: ms1 from h) with rfl | h
  · exact sumFn_of (envL_okT mixed (fun _ h => by cases h) mems sum1) sumRun1
  · exact sum1 e h
theorem sum3 : ∀ e ∈ ms3, SumFn Tryz.prog e := by
  intro e h
  rcases List.mem_cons.1 (show e ∈ se2 :: ms2 from h) with rfl | h
  · exact sumFn_of (envL_okT mixed (fun _ h => by cases h) mems sum2) sumRun2
  · exact sum2 e h
theorem sum4 : ∀ e ∈ ms4, SumFn Tryz.prog e := by
  intro e h
  rcases List.mem_cons.1 (show e ∈ se3 :: ms3 from h) with rfl | h
  · exact sumFn_of (envL_okT mixed (fun _ h => by cases h) mems sum3) sumRun3
  · exact sum3 e h
theorem sum5 : ∀ e ∈ ms5, SumFn Tryz.prog e := by
  intro e h
  rcases List.mem_cons.1 (show e ∈ se4 :: ms4 from h) with rfl | h
  · exact sumFn_of (envL_okT mixed (fun _ h => by cases h) mems sum4) sumRun4
  · exact sum4 e h
theorem sum6 : ∀ e ∈ ms6, SumFn Tryz.prog e := by
  intro e h
  rcases List.mem_cons.1 (show e ∈ se5 :: ms5 from h) with rfl | h
  · exact sumFn_of (envL_okT mixed (fun _ h => by cases h) mems sum5) sumRun5
  · exact sum5 e h
theorem sum7 : ∀ e ∈ ms7, SumFn Tryz.prog e := by
  intro e h
  rcases List.mem_cons.1 (show e ∈ se6 :: ms6 from h) with rfl | h
  · exact sumFn_of (envL_okT mixed (fun _ h => by cases h) mems sum6) sumRun6
  · exact sum6 e h
theorem sum8 : ∀ e ∈ ms8, SumFn Tryz.prog e := by
  intro e h
  rcases List.mem_cons.1 (show e ∈ se7 :: ms7 from h) with rfl | h
  · exact sumFn_of (envL_okT mixed (fun _ h => by cases h) mems sum7) sumRun7
  · exact sum7 e h
theorem sum9 : ∀ e ∈ ms9, SumFn Tryz.prog e := by
  intro e h
  rcases List.mem_cons.1 (show e ∈ se8 :: ms8 from h) with rfl | h
  · exact sumFn_of (envL_okT mixed (fun _ h => by cases h) mems sum8) sumRun8
  · exact sum8 e h
theorem sum10 : ∀ e ∈ ms10, SumFn Tryz.prog e := by
  intro e h
  rcases List.mem_cons.1 (show e ∈ se9 :: ms9 from h) with rfl | h
  · exact sumFn_of (envL_okT mixed (fun _ h => by cases h) mems sum9) sumRun9
  · exact sum9 e h
theorem sum11 : ∀ e ∈ ms11, SumFn Tryz.prog e := by
  intro e h
  rcases List.mem_cons.1 (show e ∈ se10 :: ms10 from h) with rfl | h
  · exact sumFn_of (envL_okT mixed (fun _ h => by cases h) mems sum10) sumRun10
  · exact sum10 e h
theorem sum12 : ∀ e ∈ ms12, SumFn Tryz.prog e := by
  intro e h
  rcases List.mem_cons.1 (show e ∈ se11 :: ms11 from h) with rfl | h
  · exact sumFn_of (envL_okT mixed (fun _ h => by cases h) mems sum11) sumRun11
  · exact sum11 e h
theorem sums : ∀ e ∈ msl, SumFn Tryz.prog e := sum12
theorem trues : ∀ f ∈ ([8] : List Nat), TrueFn Tryz.prog gts f := by
  intro f hf
  rw [List.mem_singleton.1 hf]
  exact trueFn_of (E := envL Tryz.prog 300 false [] [] [] [] [] [] [] gts mfl mtl msl) (envL_okT mixed (fun _ h => by cases h) mems sums) trueRun8
theorem tabs_in {W : World} (h : laidMetH Tryz.prog Rows.topDividesRow.laid W) : TabsIn gts W := by
  rw [MakeChecks.laidMetH_plain _ _ _ (by kernel_rfl)] at h
  exact (tabs_cons (tab_of_laid h (i := 2) (name := "internal/strconv.uint64pow10") (T := tab0) (zs := [1, 10, 100, 1000, 10000, 100000, 1000000, 10000000, 100000000, 1000000000, 10000000000, 100000000000, 1000000000000, 10000000000000, 100000000000000, 1000000000000000, 10000000000000000, 100000000000000000, 1000000000000000000, 10000000000000000000]) (t := 413) (e := 39) (n := 20) (by kernel_rfl) (by kernel_rfl) (by kernel_rfl) (by kernel_rfl) (by kernel_rfl) (by kernel_rfl) (by kernel_rfl) (by kernel_rfl)) (tabs_cons (tab_of_laid h (i := 1) (name := "math/bits.deBruijn64tab") (T := tab1) (zs := [0, 1, 56, 2, 57, 49, 28, 3, 61, 58, 42, 50, 38, 29, 17, 4, 62, 47, 59, 36, 45, 43, 51, 22, 53, 39, 33, 30, 24, 18, 12, 5, 63, 55, 48, 27, 60, 41, 37, 16, 46, 35, 44, 21, 52, 32, 23, 11, 54, 26, 40, 15, 34, 20, 31, 10, 25, 14, 19, 9, 13, 8, 7, 6]) (t := 404) (e := 5) (n := 64) (by kernel_rfl) (by kernel_rfl) (by kernel_rfl) (by kernel_rfl) (by kernel_rfl) (by kernel_rfl) (by kernel_rfl) (by kernel_rfl)) tabs_nil))
theorem runs_e (σ : Nat → Nat) (vs : List Value) (w : World) (bl : List (Nat × Nat)) (hd : EntryOk gts w sa_e [none, none] σ vs bl) : Calls Tryz.prog 5 vs.toArray w fun e w' => e = .returned (.bool true) ∧ Below w.heap.size w w' := by
  by_cases h0 : (Tm.bin .eq 32 (.var 1 32) (.lit 0) : Tm).ev σ ≠ 0
  · skip
    exact part_runT mixed trues mems sums rune0 lems_ok σ (all_cons h0 all_nil) vs w bl hd
  · skip
    exact part_runT mixed trues mems sums rune1 lems_ok σ (all_cons (not_ne h0) all_nil) vs w bl hd
theorem pick : ∀ nl : List Bool, nl.length = nsl ks → ∃ sa, symK ks nl 0 4294967296 64 = some sa ∧ sa.i ≤ 2 ^ 40 ∧ ∀ (σ : Nat → Nat) (vs : List Value) (w : World) (bl : List (Nat × Nat)), EntryOk gts w sa [none, none] σ vs bl → Calls Tryz.prog 5 vs.toArray w fun e w' => e = .returned (.bool true) ∧ Below w.heap.size w w' := by
  intro nl hl
  have hl : nl.length = 0 := hl
  match nl, hl with
  | [], _ => exact ⟨sa_e, by kernel_rfl, of_nble (by kernel_rfl), runs_e⟩
set_option maxRecDepth 100000 in
theorem lifted (os : Os) (started : os.Started) (H : Type) (enc : TypeId × Value → H) :
    ReturnsInHanded {} Tryz.checked os 5 .any (fun w args => (Rows.topDividesSpec.pre enc Tryz.prog Tryz.f5 [] false w args ∧ laidMetH Tryz.prog Rows.topDividesRow.laid w) ∧ sizedMet enc Tryz.prog Tryz.f5 (OpenSpec.ofChange Rows.topDividesSpec) false w args)
      (Rows.topDividesSpec.post enc Tryz.prog Tryz.f5 false true false false) := by
  refine returnsInHanded_of_change_and (C := Tryz.checked) (X := fun w _ => laidMetH Tryz.prog Rows.topDividesRow.laid w) (fun _ _ _ hh h => h.of_heap hh) own started (by kernel_rfl) Tryz.func5
    (ChangeSpec.witness_shaped (enc := enc) (C := Tryz.checked) (os := os) (X := fun w _ => laidMetH Tryz.prog Rows.topDividesRow.laid w) false (World.laidAll Tryz.prog os Rows.topDividesRow.laid) #[.int .i32 0, .int .i32 0] 8 (World.laidAll_os _ _ _) (World.shaped_of_ZipB (by kernel_rfl) (by kernel_rfl)) (by kernel_rfl) (by kernel_rfl) (by kernel_rfl) (by rw [MakeChecks.laidMetH_plain _ _ _ (by kernel_rfl)]; exact laidMet_laidAll _ (by kernel_rfl) (by kernel_rfl))) ?_
  intro W base args ds gs before hval hW _ _ hL _
  exact law_contractA (P := Tryz.prog) laidOut kinds pick (by kernel_rfl) rfl (by rfl) Tryz.underlying4
    (fun ds h => by
      have h' : ds.length = 2 := by rw [h, Tryz.params5]; rfl
      match ds, h' with | [d0, d1], _ => rfl) W base args ds gs before hval hW (tabs_in hL)
theorem closed : joinedFacts Tryz.prog 5 Tryz.f5 Rows.topDividesSpec Rows.topDividesRow = true := by
  unfold joinedFacts
  rw [fact0, fact1, fact2, fact3, fact4, fact5, fact6, fact7, fact8, fact9, fact10, fact11, fact12, fact13, fact14, fact15, fact16, fact17, fact18, fact19, fact20, fact21, fact22, fact23, fact24, fact25, fact26, fact27, fact29, fact30, fact31]
  kernel_rfl
theorem over : Rows.topDividesRow.holds Tryz.pinned (OpenSpec.ofChange Rows.topDividesSpec) :=
  OpenClaim.holds_of_wide 5 Tryz.f5 rfl rfl rfl rfl rfl rfl rfl ⟨rfl, rfl, rfl, rfl, rfl⟩ rfl rfl rfl rfl rfl named Tryz.func5 closed inst wrap
    (fun os started H enc _ => lifted os started H enc)
theorem proved : Rows.TopDividesSaid := over
#print axioms proved
end Go.Proofs.YtlccaffnepiapaaGreatDoor.TopDivides
namespace Go.Proofs.YtlccaffnepiapaaGreatDoor
open Go
/-- The row, under a short name. -/
theorem topDivides_row : Rows.TopDividesSaid := TopDivides.proved
/-- The tied card. -/
theorem topDivides_holds : Rows.TopDividesCardSaid :=
  Claim7.holds_tied_plain_at .later [] [.data, .data, .data, .data, .sentinel, .sentinel, .pinned] true (true, "70e3ab5d85cc6fffb5283b41ab0c5560ff30c4881980bf6218a7e149102c6a2b") true
    topDivides_row (fun _ h => by cases h) TopDivides.cw (fun _ h => by cases h) topDivides_row_tie rfl ⟨rfl, rfl⟩ (by kernel_rfl) rfl
    (fun f fn hf hfn => by
      obtain rfl : f = 5 := Option.some.inj (TopDivides.named.symm.trans hf) |>.symm
      obtain rfl : fn = Tryz.f5 := (Option.some.inj (Tryz.func5.symm.trans hfn)).symm
      exact ⟨TopDivides.looks0, fun j t ht => by
        rw [Tryz.params5] at ht
        have hm : t ∈ [21, 21] := by simpa using Array.mem_of_getElem? ht
        have hall : ([21, 21].all fun u => !Tryz.prog.wantsStandIn u) = true := by kernel_rfl
        exact (show Tryz.prog.wantsStandIn t = false by simpa using List.all_eq_true.1 hall t hm)⟩)
    TopDivides.goes0
end Go.Proofs.YtlccaffnepiapaaGreatDoor
