/- A symbolic run of the program: terms, their bounds and bits, what is known on a way. -/
import GoSem.Dispatch
import Derived.KernelRfl
import Derived.Control
import Derived.Below

section
/- Terms over bits, for a symbolic run: what they are worth, and that this is what the model's operations on integers say. -/
namespace Go.Sx

/-- A choice by a Bool, by its recursor. -/
noncomputable abbrev bc {α : Type} (c : Bool) (t e : α) : α := Bool.rec e t c
theorem bc_true {α : Type} (t e : α) : bc true t e = t := rfl
theorem bc_false {α : Type} (t e : α) : bc false t e = e := rfl
theorem bc_eq {α : Type} (c : Bool) (t e : α) : bc c t e = if c = true then t else e := by cases c <;> rfl

theorem nbeq_f {m n : Nat} (h : ¬ m = n) : Nat.beq m n = false := Bool.eq_false_iff.2 fun h' => h (Nat.eq_of_beq_eq_true h')
theorem nbeq_t {m n : Nat} (h : m = n) : Nat.beq m n = true := h ▸ Nat.beq_refl m
theorem of_nbeq {m n : Nat} (h : Nat.beq m n = true) : m = n := Nat.eq_of_beq_eq_true h
theorem of_nbeq_f {m n : Nat} (h : Nat.beq m n = false) : ¬ m = n := fun e => by rw [nbeq_t e] at h; cases h
theorem of_nble {m n : Nat} (h : Nat.ble m n = true) : m ≤ n := Nat.le_of_ble_eq_true h
theorem nble_t {m n : Nat} (h : m ≤ n) : Nat.ble m n = true := Nat.ble_eq_true_of_le h
theorem nble_f {m n : Nat} (h : ¬ m ≤ n) : Nat.ble m n = false := Bool.eq_false_iff.2 fun h' => h (Nat.le_of_ble_eq_true h')
theorem of_nblt {m n : Nat} (h : Nat.blt m n = true) : m < n := Nat.le_of_ble_eq_true h
theorem nblt_t {m n : Nat} (h : m < n) : Nat.blt m n = true := Nat.ble_eq_true_of_le h
theorem nblt_f {m n : Nat} (h : ¬ m < n) : Nat.blt m n = false := nble_f h

inductive O1 | tr | sx (ws : Nat) | bnot
inductive O2 | add | sub | mul | and | or | xor | shl | shr | sar | eq | ult | slt | udiv | urem | sdiv | srem

/-- A term: a number, a variable (of so many bits), an operation, a choice. -/
inductive Tm
  | lit (n : Nat)
  | var (i w : Nat)
  | un (o : O1) (w : Nat) (a : Tm)
  | bin (o : O2) (w : Nat) (a b : Tm)
  | ite (c a b : Tm)

noncomputable def p2 (w : Nat) : Nat := Nat.pow 2 w
theorem p2_eq (w : Nat) : p2 w = 2 ^ w := rfl

noncomputable def O1.ev (o : O1) (w x : Nat) : Nat :=
  O1.rec (Nat.mod x (p2 w)) (fun ws => bc (Nat.blt x (p2 (Nat.sub ws 1))) x (Nat.add x (Nat.sub (p2 w) (p2 ws)))) (bc (Nat.beq x 0) 1 0) o

/-- A number's two's complement, magnitude of the negative. -/
noncomputable def isNeg (w x : Nat) : Bool := Nat.ble (p2 (Nat.sub w 1)) x
noncomputable def mag (w x : Nat) : Nat := bc (isNeg w x) (Nat.sub (p2 w) x) x
noncomputable def b2n (b : Bool) : Nat := bc b 1 0
noncomputable def sgn (neg : Bool) (w x : Nat) : Nat := bc neg (Nat.mod (Nat.sub (p2 w) (Nat.mod x (p2 w))) (p2 w)) (Nat.mod x (p2 w))

noncomputable def O2.ev (o : O2) (w x y : Nat) : Nat :=
  O2.rec (Nat.mod (Nat.add x y) (p2 w)) (Nat.mod (Nat.add x (Nat.sub (p2 w) (Nat.mod y (p2 w)))) (p2 w)) (Nat.mod (Nat.mul x y) (p2 w))
    (Nat.land x y) (Nat.lor x y) (Nat.xor x y)
    (bc (Nat.ble w y) 0 (Nat.mod (Nat.mul x (p2 y)) (p2 w))) (bc (Nat.ble w y) 0 (Nat.div x (p2 y)))
    (bc (isNeg w x) (Nat.sub (Nat.sub (p2 w) 1) (Nat.div (Nat.sub (Nat.sub (p2 w) 1) x) (p2 (bc (Nat.ble w y) w y)))) (Nat.div x (p2 (bc (Nat.ble w y) w y))))
    (b2n (Nat.beq x y)) (b2n (Nat.blt x y)) (b2n (Nat.blt (Nat.mod (Nat.add x (p2 (Nat.sub w 1))) (p2 w)) (Nat.mod (Nat.add y (p2 (Nat.sub w 1))) (p2 w))))
    (Nat.div x y) (Nat.mod x y)
    (sgn (bne (isNeg w x) (isNeg w y)) w (Nat.div (mag w x) (mag w y))) (sgn (isNeg w x) w (Nat.mod (mag w x) (mag w y))) o

/-- What a term is worth. -/
noncomputable def Tm.ev (σ : Nat → Nat) (t : Tm) : Nat :=
  Tm.rec (fun n => n) (fun i w => Nat.mod (σ i) (p2 w)) (fun o w _ x => O1.ev o w x) (fun o w _ _ x y => O2.ev o w x y) (fun _ _ _ c x y => bc (Nat.beq c 0) y x) t

theorem ev_lit (σ : Nat → Nat) (n : Nat) : (Tm.lit n).ev σ = n := rfl
theorem ev_un (σ : Nat → Nat) (o w a) : (Tm.un o w a).ev σ = o.ev w (a.ev σ) := rfl
theorem ev_bin (σ : Nat → Nat) (o w a b) : (Tm.bin o w a b).ev σ = o.ev w (a.ev σ) (b.ev σ) := rfl
theorem ev_ite (σ : Nat → Nat) (c a b) : (Tm.ite c a b).ev σ = if c.ev σ = 0 then b.ev σ else a.ev σ := by
  show bc (Nat.beq (c.ev σ) 0) (b.ev σ) (a.ev σ) = _
  by_cases h : c.ev σ = 0
  · rw [h]; rfl
  · rw [if_neg h, nbeq_f h]

/-! ### Smart constructors -/
noncomputable def mkUn (o : O1) (w : Nat) (a : Tm) : Tm :=
  Tm.rec (fun n => .lit (o.ev w n)) (fun i v => .un o w (.var i v)) (fun o' w' a' _ => .un o w (.un o' w' a')) (fun o' w' a' b' _ _ => .un o w (.bin o' w' a' b')) (fun c a' b' _ _ _ => .un o w (.ite c a' b')) a
theorem mkUn_ev (σ : Nat → Nat) (o w a) : (mkUn o w a).ev σ = o.ev w (a.ev σ) := by cases a <;> rfl

noncomputable def isLit (a : Tm) : Option Nat := Tm.rec (fun n => some n) (fun _ _ => none) (fun _ _ _ _ => none) (fun _ _ _ _ _ _ => none) (fun _ _ _ _ _ _ => none) a
theorem isLit_some {a : Tm} {n : Nat} (h : isLit a = some n) : a = .lit n := by
  cases a <;> simp [isLit] at h; rw [h]

noncomputable def mkBin (o : O2) (w : Nat) (a b : Tm) : Tm :=
  Option.rec (.bin o w a b) (fun x => Option.rec (.bin o w a b) (fun y => .lit (o.ev w x y)) (isLit b)) (isLit a)
theorem mkBin_ev (σ : Nat → Nat) (o w a b) : (mkBin o w a b).ev σ = o.ev w (a.ev σ) (b.ev σ) := by
  unfold mkBin
  cases ha : isLit a with
  | none => rfl
  | some x =>
    cases hb : isLit b with
    | none => rfl
    | some y => rw [isLit_some ha, isLit_some hb]; rfl

noncomputable def mkIte (c a b : Tm) : Tm := Option.rec (.ite c a b) (fun n => bc (Nat.beq n 0) b a) (isLit c)
theorem mkIte_ev (σ : Nat → Nat) (c a b) : (mkIte c a b).ev σ = if c.ev σ = 0 then b.ev σ else a.ev σ := by
  unfold mkIte
  cases hc : isLit c with
  | none => exact ev_ite σ c a b
  | some n =>
    rw [isLit_some hc, ev_lit]
    show (bc (Nat.beq n 0) b a).ev σ = _
    by_cases h : n = 0
    · subst h; rfl
    · rw [if_neg h, nbeq_f h]

/-! ### Numbers of a kind -/
/-- The number of some bits. -/
def ofB (k : IntKind) (n : Nat) : Int := k.wrap (n : Int)

theorem bits_pos (k : IntKind) : 0 < k.bits := by cases k <;> decide
theorem p2_pos (w : Nat) : 0 < p2 w := Nat.two_pow_pos w

theorem wrap_emod (k : IntKind) (x : Int) : k.wrap x % (2 ^ k.bits : Int) = x % (2 ^ k.bits : Int) := by
  unfold IntKind.wrap
  simp only
  split
  · rw [Int.sub_emod_right, Int.emod_emod_of_dvd _ (Int.dvd_refl _)]
  · rw [Int.emod_emod_of_dvd _ (Int.dvd_refl _)]
theorem wrap_congr {k : IntKind} {x y : Int} (h : x % (2 ^ k.bits : Int) = y % (2 ^ k.bits : Int)) : k.wrap x = k.wrap y := by
  unfold IntKind.wrap; simp only [h]
theorem wrap_wrap (k : IntKind) (x : Int) : k.wrap (k.wrap x) = k.wrap x := wrap_congr (wrap_emod k x)
theorem ofB_emod (k : IntKind) (n : Nat) : ofB k n % (2 ^ k.bits : Int) = (n : Int) % (2 ^ k.bits : Int) := wrap_emod k _
theorem ofB_mod (k : IntKind) (n : Nat) : ofB k (n % 2 ^ k.bits) = ofB k n := by
  unfold ofB; apply wrap_congr
  rw [Int.natCast_emod, Int.natCast_pow]
  exact Int.emod_emod_of_dvd _ (Int.dvd_refl _)
theorem ofB_unsigned {k : IntKind} (hs : k.signed = false) {n : Nat} (hn : n < 2 ^ k.bits) : ofB k n = n := by
  unfold ofB IntKind.wrap
  have : (n : Int) % 2 ^ k.bits = n := by exact_mod_cast Nat.mod_eq_of_lt hn
  simp [hs, this]
theorem ofB_signed {k : IntKind} (hs : k.signed = true) {n : Nat} (hn : n < 2 ^ k.bits) : ofB k n = if 2 ^ (k.bits - 1) ≤ n then (n : Int) - 2 ^ k.bits else n := by
  unfold ofB IntKind.wrap
  have : (n : Int) % 2 ^ k.bits = n := by exact_mod_cast Nat.mod_eq_of_lt hn
  simp only [hs, Bool.true_and, this]
  by_cases h : 2 ^ (k.bits - 1) ≤ n
  · have : (n : Int) ≥ 2 ^ (k.bits - 1) := by exact_mod_cast h
    simp [h, this]
  · have : ¬ (n : Int) ≥ 2 ^ (k.bits - 1) := by intro h'; exact h (by exact_mod_cast h')
    simp [h, this]
theorem ofB_inj {k : IntKind} {m n : Nat} (hm : m < 2 ^ k.bits) (hn : n < 2 ^ k.bits) (h : ofB k m = ofB k n) : m = n := by
  have := ofB_emod k m
  rw [h, ofB_emod] at this
  have h2 : (n % 2 ^ k.bits : Nat) = (m % 2 ^ k.bits : Nat) := by exact_mod_cast this
  rw [Nat.mod_eq_of_lt hm, Nat.mod_eq_of_lt hn] at h2
  exact h2.symm
theorem ofB_holds (k : IntKind) (n : Nat) : k.min ≤ ofB k n ∧ ofB k n ≤ k.max := by
  have h1 : ofB k n = ofB k (n % 2 ^ k.bits) := (ofB_mod k n).symm
  have hlt : n % 2 ^ k.bits < 2 ^ k.bits := Nat.mod_lt _ (Nat.two_pow_pos _)
  rw [h1]
  cases hs : k.signed
  · rw [ofB_unsigned hs hlt]
    simp only [IntKind.min, IntKind.max, hs]
    have : ((n % 2 ^ k.bits : Nat) : Int) < 2 ^ k.bits := by exact_mod_cast hlt
    simp; omega
  · rw [ofB_signed hs hlt]
    simp only [IntKind.min, IntKind.max, hs, if_true]
    have hlt' : ((n % 2 ^ k.bits : Nat) : Int) < 2 ^ k.bits := by exact_mod_cast hlt
    have hp : (2 : Int) ^ k.bits = 2 * 2 ^ (k.bits - 1) := by
      have := bits_pos k
      conv => lhs; rw [show k.bits = (k.bits - 1) + 1 by omega, Int.pow_succ]
      omega
    split
    · rename_i h
      have : (2 ^ (k.bits - 1) : Int) ≤ ((n % 2 ^ k.bits : Nat) : Int) := by exact_mod_cast h
      constructor <;> omega
    · rename_i h
      have : ((n % 2 ^ k.bits : Nat) : Int) < (2 ^ (k.bits - 1) : Int) := by exact_mod_cast (Nat.lt_of_not_le h)
      have hpos : (0 : Int) < 2 ^ (k.bits - 1) := by exact_mod_cast Nat.two_pow_pos (k.bits - 1)
      constructor <;> omega

end Go.Sx
end

section
/- What the model's operations on integers say, in bits. -/
namespace Go.Sx

theorem ofB_wrap_of_emod {k : IntKind} {z : Int} {n : Nat} (h : z % (2 ^ k.bits : Int) = (n : Int) % (2 ^ k.bits : Int)) : k.wrap z = ofB k n := wrap_congr h

theorem add_ofB (k : IntKind) (x y : Nat) : k.wrap (ofB k x + ofB k y) = ofB k (O2.add.ev k.bits x y) := by
  show _ = ofB k ((x + y) % 2 ^ k.bits)
  rw [ofB_mod]
  apply ofB_wrap_of_emod
  rw [Int.add_emod, ofB_emod, ofB_emod, ← Int.add_emod]; simp
theorem mul_ofB (k : IntKind) (x y : Nat) : k.wrap (ofB k x * ofB k y) = ofB k (O2.mul.ev k.bits x y) := by
  show _ = ofB k ((x * y) % 2 ^ k.bits)
  rw [ofB_mod]
  apply ofB_wrap_of_emod
  rw [Int.mul_emod, ofB_emod, ofB_emod, ← Int.mul_emod]; simp
theorem sub_ofB (k : IntKind) (x y : Nat) : k.wrap (ofB k x - ofB k y) = ofB k (O2.sub.ev k.bits x y) := by
  show _ = ofB k ((x + (2 ^ k.bits - y % 2 ^ k.bits)) % 2 ^ k.bits)
  rw [ofB_mod]
  apply ofB_wrap_of_emod
  rw [Int.sub_emod, ofB_emod, ofB_emod, ← Int.sub_emod]
  have hlt : y % 2 ^ k.bits < 2 ^ k.bits := Nat.mod_lt _ (Nat.two_pow_pos _)
  rw [Int.natCast_add, Int.natCast_sub (Nat.le_of_lt hlt), Int.natCast_emod]
  push_cast
  rw [show (x : Int) + (2 ^ k.bits - (y : Int) % 2 ^ k.bits) = (x - (y : Int) % 2 ^ k.bits) + 2 ^ k.bits by omega, Int.add_emod_right, Int.sub_emod, Int.sub_emod (x : Int) ((y : Int) % _), Int.emod_emod_of_dvd _ (Int.dvd_refl _)]

theorem bv_ofB (k : IntKind) (x : Nat) : BitVec.ofInt k.bits (ofB k x) = BitVec.ofNat k.bits x := by
  apply BitVec.eq_of_toNat_eq
  rw [BitVec.toNat_ofInt, BitVec.toNat_ofNat]
  have h := ofB_emod k x
  have e : ofB k x % ((2 ^ k.bits : Nat) : Int) = ((x % 2 ^ k.bits : Nat) : Int) := by push_cast; exact h
  rw [e]; rfl

theorem and_ofB (k : IntKind) {x y : Nat} (hx : x < 2 ^ k.bits) (hy : y < 2 ^ k.bits) :
    k.wrap (((BitVec.ofInt k.bits (ofB k x)) &&& (BitVec.ofInt k.bits (ofB k y))).toNat : Int) = ofB k (O2.and.ev k.bits x y) := by
  rw [bv_ofB, bv_ofB]
  show _ = ofB k (x &&& y)
  simp [ofB, Nat.mod_eq_of_lt hx, Nat.mod_eq_of_lt hy]
theorem or_ofB (k : IntKind) {x y : Nat} (hx : x < 2 ^ k.bits) (hy : y < 2 ^ k.bits) :
    k.wrap (((BitVec.ofInt k.bits (ofB k x)) ||| (BitVec.ofInt k.bits (ofB k y))).toNat : Int) = ofB k (O2.or.ev k.bits x y) := by
  rw [bv_ofB, bv_ofB]
  show _ = ofB k (x ||| y)
  simp [ofB, Nat.mod_eq_of_lt hx, Nat.mod_eq_of_lt hy]
theorem xor_ofB (k : IntKind) {x y : Nat} (hx : x < 2 ^ k.bits) (hy : y < 2 ^ k.bits) :
    k.wrap (((BitVec.ofInt k.bits (ofB k x)) ^^^ (BitVec.ofInt k.bits (ofB k y))).toNat : Int) = ofB k (O2.xor.ev k.bits x y) := by
  rw [bv_ofB, bv_ofB]
  show _ = ofB k (x ^^^ y)
  simp [ofB, Nat.mod_eq_of_lt hx, Nat.mod_eq_of_lt hy]
theorem andNot_ofB (k : IntKind) {x y : Nat} (hx : x < 2 ^ k.bits) (hy : y < 2 ^ k.bits) :
    k.wrap (((BitVec.ofInt k.bits (ofB k x)) &&& ~~~(BitVec.ofInt k.bits (ofB k y))).toNat : Int) = ofB k (O2.and.ev k.bits x (O2.xor.ev k.bits y (2 ^ k.bits - 1))) := by
  rw [bv_ofB, bv_ofB]
  show _ = ofB k (x &&& (y ^^^ (2 ^ k.bits - 1)))
  have e : (BitVec.ofNat k.bits x &&& ~~~BitVec.ofNat k.bits y).toNat = x &&& (y ^^^ (2 ^ k.bits - 1)) := by
    apply Nat.eq_of_testBit_eq
    intro i
    by_cases hi : i < k.bits
    · have h3 := Nat.testBit_two_pow_sub_succ hy i
      simp [Nat.testBit_and, Nat.testBit_xor, Nat.mod_eq_of_lt hx, Nat.mod_eq_of_lt hy, hi, Nat.testBit_two_pow_sub_one]
      rw [show 2 ^ k.bits - 1 - y = 2 ^ k.bits - (y + 1) by omega, h3]
      simp [hi]
    · have h1 : x.testBit i = false := Nat.testBit_lt_two_pow (Nat.lt_of_lt_of_le hx (Nat.pow_le_pow_right (by omega) (by omega)))
      have h2 : (BitVec.ofNat k.bits x &&& ~~~BitVec.ofNat k.bits y).toNat.testBit i = false :=
        Nat.testBit_lt_two_pow (Nat.lt_of_lt_of_le (BitVec.isLt _) (Nat.pow_le_pow_right (by omega) (by omega)))
      rw [h2]; simp [Nat.testBit_and, h1]
  rw [e]; rfl

theorem eq_ofB {k : IntKind} {x y : Nat} (hx : x < 2 ^ k.bits) (hy : y < 2 ^ k.bits) : (ofB k x == ofB k y) = Nat.beq x y := by
  by_cases h : x = y
  · subst h; simp
  · rw [nbeq_f h]
    simp only [beq_eq_false_iff_ne, ne_eq]
    exact fun e => h (ofB_inj hx hy e)

theorem two_p (k : IntKind) : (2 : Nat) ^ k.bits = 2 * 2 ^ (k.bits - 1) := by
  have := bits_pos k
  conv => lhs; rw [show k.bits = (k.bits - 1) + 1 by omega, Nat.pow_succ]
  omega

/-- The order of numbers of a kind, in bits. -/
noncomputable def ltB (k : IntKind) (x y : Nat) : Nat := bc k.signed (O2.slt.ev k.bits x y) (O2.ult.ev k.bits x y)
theorem lt_ofB {k : IntKind} {x y : Nat} (hx : x < 2 ^ k.bits) (hy : y < 2 ^ k.bits) : ltB k x y = if ofB k x < ofB k y then 1 else 0 := by
  unfold ltB
  cases hs : k.signed
  · show b2n (Nat.blt x y) = _
    rw [ofB_unsigned hs hx, ofB_unsigned hs hy]
    by_cases h : x < y
    · rw [nblt_t h, if_pos (by exact_mod_cast h)]; rfl
    · rw [nblt_f h, if_neg (by exact_mod_cast h)]; rfl
  · show b2n (Nat.blt ((x + 2 ^ (k.bits - 1)) % 2 ^ k.bits) ((y + 2 ^ (k.bits - 1)) % 2 ^ k.bits)) = _
    rw [ofB_signed hs hx, ofB_signed hs hy]
    have h2 := two_p k
    have ex : (x + 2 ^ (k.bits - 1)) % 2 ^ k.bits = if 2 ^ (k.bits - 1) ≤ x then x - 2 ^ (k.bits - 1) else x + 2 ^ (k.bits - 1) := by
      split
      · rename_i h
        rw [show x + 2 ^ (k.bits - 1) = (x - 2 ^ (k.bits - 1)) + 2 ^ k.bits by omega, Nat.add_mod_right, Nat.mod_eq_of_lt (by omega)]
      · rw [Nat.mod_eq_of_lt (by omega)]
    have ey : (y + 2 ^ (k.bits - 1)) % 2 ^ k.bits = if 2 ^ (k.bits - 1) ≤ y then y - 2 ^ (k.bits - 1) else y + 2 ^ (k.bits - 1) := by
      split
      · rename_i h
        rw [show y + 2 ^ (k.bits - 1) = (y - 2 ^ (k.bits - 1)) + 2 ^ k.bits by omega, Nat.add_mod_right, Nat.mod_eq_of_lt (by omega)]
      · rw [Nat.mod_eq_of_lt (by omega)]
    have hc : ((2 ^ k.bits : Nat) : Int) = 2 ^ k.bits := by push_cast; rfl
    rw [ex, ey, ← hc]
    generalize 2 ^ (k.bits - 1) = p at *
    generalize 2 ^ k.bits = q at *
    by_cases h1 : p ≤ x <;> by_cases h2 : p ≤ y <;> simp only [h1, h2, if_true, if_false] <;>
      first
        | (by_cases h : x - p < y - p
           · rw [nblt_t h, if_pos (by omega)]; rfl
           · rw [nblt_f h, if_neg (by omega)]; rfl)
        | (by_cases h : x - p < y + p
           · rw [nblt_t h, if_pos (by omega)]; rfl
           · rw [nblt_f h, if_neg (by omega)]; rfl)
        | (by_cases h : x + p < y - p
           · rw [nblt_t h, if_pos (by omega)]; rfl
           · rw [nblt_f h, if_neg (by omega)]; rfl)
        | (by_cases h : x + p < y + p
           · rw [nblt_t h, if_pos (by omega)]; rfl
           · rw [nblt_f h, if_neg (by omega)]; rfl)

/-- A shift to the left by n (a number of bits at most that of the kind). -/
theorem shl_ofB (k : IntKind) (x n : Nat) : k.wrap (ofB k x * 2 ^ (min n k.bits)) = ofB k (O2.shl.ev k.bits x n) := by
  show _ = ofB k (bc (Nat.ble k.bits n) 0 ((x * 2 ^ n) % 2 ^ k.bits))
  by_cases h : k.bits ≤ n
  · rw [nble_t h, Nat.min_eq_right h]
    show _ = ofB k 0
    apply ofB_wrap_of_emod
    simp
  · rw [nble_f h, Nat.min_eq_left (by omega)]
    show _ = ofB k ((x * 2 ^ n) % 2 ^ k.bits)
    rw [ofB_mod]
    apply ofB_wrap_of_emod
    rw [Int.mul_emod, ofB_emod, ← Int.mul_emod]
    push_cast; rfl

theorem shr_ofB_u {k : IntKind} (hs : k.signed = false) {x : Nat} (hx : x < 2 ^ k.bits) (n : Nat) : (ofB k x).fdiv (2 ^ (min n k.bits)) = ofB k (O2.shr.ev k.bits x n) := by
  rw [ofB_unsigned hs hx]
  show _ = ofB k (bc (Nat.ble k.bits n) 0 (x / 2 ^ n))
  have hp : (0 : Int) ≤ 2 ^ (min n k.bits) := by exact_mod_cast Nat.zero_le _
  rw [Int.fdiv_eq_ediv_of_nonneg _ hp]
  by_cases h : k.bits ≤ n
  · rw [nble_t h, Nat.min_eq_right h]
    show _ = ofB k 0
    rw [ofB_unsigned hs (Nat.two_pow_pos _)]
    have : x / 2 ^ k.bits = 0 := Nat.div_eq_of_lt hx
    exact_mod_cast this
  · rw [nble_f h, Nat.min_eq_left (by omega)]
    show _ = ofB k (x / 2 ^ n)
    rw [ofB_unsigned hs (Nat.lt_of_le_of_lt (Nat.div_le_self _ _) hx)]
    push_cast; rfl

theorem shr_ofB_s {k : IntKind} (hs : k.signed = true) {x : Nat} (hx : x < 2 ^ k.bits) (n : Nat) : (ofB k x).fdiv (2 ^ (min n k.bits)) = ofB k (O2.sar.ev k.bits x n) := by
  have hmin : bc (Nat.ble k.bits n) k.bits n = min n k.bits := by
    by_cases h : k.bits ≤ n
    · rw [nble_t h, Nat.min_eq_right h]
    · rw [nble_f h, Nat.min_eq_left (by omega)]
  show _ = ofB k (bc (isNeg k.bits x) (2 ^ k.bits - 1 - (2 ^ k.bits - 1 - x) / 2 ^ (bc (Nat.ble k.bits n) k.bits n)) (x / 2 ^ (bc (Nat.ble k.bits n) k.bits n)))
  rw [hmin]
  have h2 := two_p k
  have hp1 : 0 < 2 ^ (k.bits - 1) := Nat.two_pow_pos _
  generalize min n k.bits = m
  have hpm : 0 < 2 ^ m := Nat.two_pow_pos _
  have hp : (0 : Int) ≤ 2 ^ m := by exact_mod_cast Nat.zero_le _
  rw [Int.fdiv_eq_ediv_of_nonneg _ hp]
  by_cases h : 2 ^ (k.bits - 1) ≤ x
  · rw [show isNeg k.bits x = true from nble_t h]
    show _ = ofB k (2 ^ k.bits - 1 - (2 ^ k.bits - 1 - x) / 2 ^ m)
    have hd : (2 ^ k.bits - 1 - x) / 2 ^ m ≤ 2 ^ k.bits - 1 - x := Nat.div_le_self _ _
    have hl1 : 2 ^ k.bits - 1 - (2 ^ k.bits - 1 - x) / 2 ^ m < 2 ^ k.bits := by
      generalize (2 ^ k.bits - 1 - x) / 2 ^ m = q at *; omega
    have hl2 : 2 ^ (k.bits - 1) ≤ 2 ^ k.bits - 1 - (2 ^ k.bits - 1 - x) / 2 ^ m := by
      generalize (2 ^ k.bits - 1 - x) / 2 ^ m = q at *; omega
    have hl3 : (2 ^ k.bits - 1 - x) / 2 ^ m ≤ 2 ^ k.bits - 1 := by
      generalize (2 ^ k.bits - 1 - x) / 2 ^ m = q at *; omega
    rw [ofB_signed hs hx, if_pos h, ofB_signed hs hl1, if_pos hl2]
    have key : ((x : Int) - 2 ^ k.bits) = -((2 ^ k.bits - 1 - x : Nat) : Int) - 1 := by
      rw [Int.natCast_sub (by omega), Int.natCast_sub (by omega)]; push_cast; omega
    rw [key]
    have e1 : (-((2 ^ k.bits - 1 - x : Nat) : Int) - 1) / 2 ^ m = -(((2 ^ k.bits - 1 - x) / 2 ^ m : Nat) : Int) - 1 := by
      have hh : ∀ (a b : Nat), 0 < b → (-(a : Int) - 1) / (b : Int) = -((a / b : Nat) : Int) - 1 := by
        intro a b hb
        have := Int.negSucc_ediv (m := a) (b := (b : Int)) (by exact_mod_cast hb)
        rw [show (-(a : Int) - 1) = Int.negSucc a from by rw [Int.negSucc_eq]; omega, this]
        show -((a : Int) / (b : Int) + 1) = _
        push_cast
        omega
      have := hh (2 ^ k.bits - 1 - x) (2 ^ m) hpm
      push_cast at this ⊢
      exact this
    rw [e1]
    rw [Int.natCast_sub hl3, Int.natCast_sub (by omega)]
    push_cast; omega
  · rw [show isNeg k.bits x = false from nble_f h]
    show _ = ofB k (x / 2 ^ m)
    have hd : x / 2 ^ m ≤ x := Nat.div_le_self _ _
    rw [ofB_signed hs hx, if_neg h, ofB_signed hs (by omega), if_neg (by omega)]
    push_cast; rfl

/-- A number as one of another kind. -/
noncomputable def convT (src dst : IntKind) (t : Tm) : Tm :=
  bc (Nat.ble dst.bits src.bits) (bc (Nat.beq dst.bits src.bits) t (mkUn .tr dst.bits t)) (bc src.signed (mkUn (.sx src.bits) dst.bits t) t)
theorem conv_ofB {src dst : IntKind} (σ : Nat → Nat) {t : Tm} (hx : t.ev σ < 2 ^ src.bits) :
    dst.wrap (ofB src (t.ev σ)) = ofB dst ((convT src dst t).ev σ) ∧ (convT src dst t).ev σ < 2 ^ dst.bits := by
  unfold convT
  by_cases h : dst.bits ≤ src.bits
  · rw [nble_t h]
    have hdvd : ((2 : Int) ^ dst.bits) ∣ 2 ^ src.bits := by
      exact_mod_cast Nat.pow_dvd_pow 2 h
    have hw : dst.wrap (ofB src (t.ev σ)) = ofB dst (t.ev σ) := by
      apply ofB_wrap_of_emod
      rw [← Int.emod_emod_of_dvd _ hdvd, ofB_emod, Int.emod_emod_of_dvd _ hdvd]
    by_cases he : dst.bits = src.bits
    · rw [nbeq_t he]
      exact ⟨hw, by rw [he]; exact hx⟩
    · rw [nbeq_f he]
      show _ = ofB dst ((mkUn .tr dst.bits t).ev σ) ∧ (mkUn .tr dst.bits t).ev σ < _
      rw [mkUn_ev]
      show _ = ofB dst (t.ev σ % 2 ^ dst.bits) ∧ t.ev σ % 2 ^ dst.bits < _
      exact ⟨by rw [ofB_mod]; exact hw, Nat.mod_lt _ (Nat.two_pow_pos _)⟩
  · rw [nble_f h]
    have hlt : 2 ^ src.bits ≤ 2 ^ dst.bits := Nat.pow_le_pow_right (by omega) (by omega)
    cases hs : src.signed
    · show _ = ofB dst (t.ev σ) ∧ t.ev σ < _
      exact ⟨by rw [ofB_unsigned hs hx]; rfl, by omega⟩
    · show _ = ofB dst ((mkUn (.sx src.bits) dst.bits t).ev σ) ∧ (mkUn (.sx src.bits) dst.bits t).ev σ < _
      rw [mkUn_ev]
      show _ = ofB dst (bc (Nat.blt (t.ev σ) (2 ^ (src.bits - 1))) (t.ev σ) (t.ev σ + (2 ^ dst.bits - 2 ^ src.bits))) ∧ bc (Nat.blt (t.ev σ) (2 ^ (src.bits - 1))) (t.ev σ) (t.ev σ + (2 ^ dst.bits - 2 ^ src.bits)) < _
      by_cases hn : t.ev σ < 2 ^ (src.bits - 1)
      · rw [nblt_t hn]
        exact ⟨by rw [ofB_signed hs hx, if_neg (by omega)]; rfl, by show t.ev σ < _; omega⟩
      · rw [nblt_f hn]
        refine ⟨?_, by show t.ev σ + (2 ^ dst.bits - 2 ^ src.bits) < _; omega⟩
        show _ = ofB dst (t.ev σ + (2 ^ dst.bits - 2 ^ src.bits))
        rw [ofB_signed hs hx, if_pos (by omega)]
        apply ofB_wrap_of_emod
        rw [Int.natCast_add, Int.natCast_sub hlt]
        push_cast
        rw [show (t.ev σ : Int) + (2 ^ dst.bits - 2 ^ src.bits) = ((t.ev σ : Int) - 2 ^ src.bits) + 2 ^ dst.bits by omega, Int.add_emod_right]

end Go.Sx
end

section
/- Division of numbers of a kind, in bits. -/
namespace Go.Sx

theorem nat_tdiv (m n : Nat) : (m : Int).tdiv (n : Int) = ((m / n : Nat) : Int) := rfl
theorem nat_tmod (m n : Nat) : (m : Int).tmod (n : Int) = ((m % n : Nat) : Int) := rfl
theorem ofB_mag {k : IntKind} (hs : k.signed = true) {x : Nat} (hx : x < 2 ^ k.bits) : ofB k x = if isNeg k.bits x = true then -(mag k.bits x : Int) else (mag k.bits x : Int) := by
  rw [ofB_signed hs hx]
  unfold mag
  by_cases h : 2 ^ (k.bits - 1) ≤ x
  · rw [show isNeg k.bits x = true from nble_t h, if_pos h, if_pos rfl]
    show _ = -((2 ^ k.bits - x : Nat) : Int)
    rw [Int.natCast_sub (by omega)]; push_cast; omega
  · rw [show isNeg k.bits x = false from nble_f h, if_neg h, if_neg (by simp)]

theorem sgn_ofB (k : IntKind) (neg : Bool) (m : Nat) : ofB k (sgn neg k.bits m) = k.wrap (if neg = true then -(m : Int) else m) := by
  have hlt : m % 2 ^ k.bits < 2 ^ k.bits := Nat.mod_lt _ (Nat.two_pow_pos _)
  cases neg
  · show ofB k (m % 2 ^ k.bits) = _
    rw [ofB_mod]; rfl
  · show ofB k ((2 ^ k.bits - m % 2 ^ k.bits) % 2 ^ k.bits) = _
    rw [ofB_mod]
    symm
    apply ofB_wrap_of_emod
    simp only [if_true]
    rw [Int.natCast_sub (Nat.le_of_lt hlt), Int.natCast_emod]
    push_cast
    rw [show (2 ^ k.bits - (m : Int) % 2 ^ k.bits) = -((m : Int) % 2 ^ k.bits) + 2 ^ k.bits by omega, Int.add_emod_right, Int.neg_emod_eq_sub_emod, Int.neg_emod_eq_sub_emod, Int.sub_emod, Int.sub_emod ((2 : Int) ^ k.bits) ((m : Int) % 2 ^ k.bits), Int.emod_emod_of_dvd _ (Int.dvd_refl _)]

noncomputable def quoT (k : IntKind) (a b : Tm) : Tm := bc k.signed (mkBin .sdiv k.bits a b) (mkBin .udiv k.bits a b)
noncomputable def remT (k : IntKind) (a b : Tm) : Tm := bc k.signed (mkBin .srem k.bits a b) (mkBin .urem k.bits a b)

theorem sgn_lt (neg : Bool) (w m : Nat) : sgn neg w m < 2 ^ w := by
  cases neg <;> exact Nat.mod_lt _ (Nat.two_pow_pos _)

theorem quo_ofB {k : IntKind} (σ : Nat → Nat) {a b : Tm} (ha : a.ev σ < 2 ^ k.bits) (hb : b.ev σ < 2 ^ k.bits) :
    k.wrap ((ofB k (a.ev σ)).tdiv (ofB k (b.ev σ))) = ofB k ((quoT k a b).ev σ) ∧ (quoT k a b).ev σ < 2 ^ k.bits := by
  unfold quoT
  cases hs : k.signed
  · show _ = ofB k ((mkBin .udiv k.bits a b).ev σ) ∧ (mkBin .udiv k.bits a b).ev σ < _
    rw [mkBin_ev]
    show _ = ofB k (a.ev σ / b.ev σ) ∧ a.ev σ / b.ev σ < _
    refine ⟨?_, Nat.lt_of_le_of_lt (Nat.div_le_self _ _) ha⟩
    rw [ofB_unsigned hs ha, ofB_unsigned hs hb]
    rfl
  · show _ = ofB k ((mkBin .sdiv k.bits a b).ev σ) ∧ (mkBin .sdiv k.bits a b).ev σ < _
    rw [mkBin_ev]
    show _ = ofB k (sgn (bne (isNeg k.bits (a.ev σ)) (isNeg k.bits (b.ev σ))) k.bits (mag k.bits (a.ev σ) / mag k.bits (b.ev σ))) ∧ sgn _ _ _ < _
    refine ⟨?_, sgn_lt _ _ _⟩
    rw [sgn_ofB, ofB_mag hs ha, ofB_mag hs hb]
    cases isNeg k.bits (a.ev σ) <;> cases isNeg k.bits (b.ev σ) <;> simp [Int.neg_tdiv, Int.tdiv_neg]

theorem rem_ofB {k : IntKind} (σ : Nat → Nat) {a b : Tm} (ha : a.ev σ < 2 ^ k.bits) (hb : b.ev σ < 2 ^ k.bits) (hb0 : b.ev σ ≠ 0) :
    (ofB k (a.ev σ)).tmod (ofB k (b.ev σ)) = ofB k ((remT k a b).ev σ) ∧ (remT k a b).ev σ < 2 ^ k.bits := by
  unfold remT
  cases hs : k.signed
  · show _ = ofB k ((mkBin .urem k.bits a b).ev σ) ∧ (mkBin .urem k.bits a b).ev σ < _
    rw [mkBin_ev]
    show _ = ofB k (a.ev σ % b.ev σ) ∧ a.ev σ % b.ev σ < _
    have hl : a.ev σ % b.ev σ < 2 ^ k.bits := Nat.lt_of_le_of_lt (Nat.mod_le _ _) ha
    refine ⟨?_, hl⟩
    rw [ofB_unsigned hs ha, ofB_unsigned hs hb, ofB_unsigned hs hl]
    rfl
  · show _ = ofB k ((mkBin .srem k.bits a b).ev σ) ∧ (mkBin .srem k.bits a b).ev σ < _
    rw [mkBin_ev]
    show _ = ofB k (sgn (isNeg k.bits (a.ev σ)) k.bits (mag k.bits (a.ev σ) % mag k.bits (b.ev σ))) ∧ sgn _ _ _ < _
    refine ⟨?_, sgn_lt _ _ _⟩
    have h2 := two_p k
    have ma : mag k.bits (a.ev σ) ≤ 2 ^ (k.bits - 1) := by
      unfold mag
      by_cases h : 2 ^ (k.bits - 1) ≤ a.ev σ
      · rw [show isNeg k.bits (a.ev σ) = true from nble_t h]; show 2 ^ k.bits - a.ev σ ≤ _; omega
      · rw [show isNeg k.bits (a.ev σ) = false from nble_f h]; show a.ev σ ≤ _; omega
    have mb : 0 < mag k.bits (b.ev σ) ∧ mag k.bits (b.ev σ) ≤ 2 ^ (k.bits - 1) := by
      unfold mag
      by_cases h : 2 ^ (k.bits - 1) ≤ b.ev σ
      · rw [show isNeg k.bits (b.ev σ) = true from nble_t h]; show 0 < 2 ^ k.bits - b.ev σ ∧ 2 ^ k.bits - b.ev σ ≤ _; omega
      · rw [show isNeg k.bits (b.ev σ) = false from nble_f h]; show 0 < b.ev σ ∧ b.ev σ ≤ _; omega
    have hlt := Nat.mod_lt (mag k.bits (a.ev σ)) mb.1
    rw [sgn_ofB]
    have e : ∀ z : Int, -(2 ^ (k.bits - 1) : Int) ≤ z → z < 2 ^ (k.bits - 1) → k.wrap z = z := by
      intro z h3 h4
      have hq : (2 : Int) ^ k.bits = 2 * 2 ^ (k.bits - 1) := by exact_mod_cast h2
      unfold IntKind.wrap
      simp only [hs, Bool.true_and]
      by_cases h5 : 0 ≤ z
      · rw [Int.emod_eq_of_lt h5 (by omega)]
        simp; omega
      · have : z % 2 ^ k.bits = z + 2 ^ k.bits := by
          rw [← Int.add_emod_right, Int.emod_eq_of_lt (by omega) (by omega)]
        rw [this]
        have h6 : z + 2 ^ k.bits ≥ 2 ^ (k.bits - 1) := by omega
        simp [h6]
    have hp : ((2 ^ (k.bits - 1) : Nat) : Int) = 2 ^ (k.bits - 1) := by push_cast; rfl
    rw [e _ (by rw [← hp]; split <;> omega) (by rw [← hp]; split <;> omega)]
    rw [ofB_mag hs ha, ofB_mag hs hb]
    cases isNeg k.bits (a.ev σ) <;> cases isNeg k.bits (b.ev σ) <;> simp [Int.neg_tmod, Int.tmod_neg, nat_tmod]

end Go.Sx
end

section
/- Tries; symbolic values, and what they denote. -/
namespace Go.Sx

inductive D | a | b | c | d
inductive Tr (α : Type)
  | nil
  | node (v : Option α) (a b c d : Tr α)

section tries
variable {α : Type}
noncomputable def Tr.getD (xs : List D) : Tr α → Option α :=
  List.rec (motive := fun _ => Tr α → Option α) (fun t => Tr.rec none (fun v _ _ _ _ _ _ _ _ => v) t)
    (fun x _ ih t => Tr.rec none (fun _ a b c d _ _ _ _ => D.rec (ih a) (ih b) (ih c) (ih d) x) t) xs
noncomputable def Tr.setD (y : Option α) (xs : List D) : Tr α → Tr α :=
  List.rec (motive := fun _ => Tr α → Tr α) (fun t => Tr.rec (.node y .nil .nil .nil .nil) (fun _ a b c d _ _ _ _ => .node y a b c d) t)
    (fun x _ ih t => Tr.rec (D.rec (.node none (ih .nil) .nil .nil .nil) (.node none .nil (ih .nil) .nil .nil) (.node none .nil .nil (ih .nil) .nil) (.node none .nil .nil .nil (ih .nil)) x)
      (fun v a b c d _ _ _ _ => D.rec (.node v (ih a) b c d) (.node v a (ih b) c d) (.node v a b (ih c) d) (.node v a b c (ih d)) x) t) xs
theorem Tr.getD_nil (xs : List D) : Tr.getD xs (.nil : Tr α) = none := by cases xs <;> rfl
theorem Tr.getD_setD_eq (y : Option α) : ∀ (xs : List D) (t : Tr α), Tr.getD xs (Tr.setD y xs t) = y := by
  intro xs
  induction xs with
  | nil => intro t; cases t <;> rfl
  | cons x xs ih =>
    intro t
    cases t with
    | nil => cases x <;> exact ih _
    | node v a b c d => cases x <;> exact ih _
theorem Tr.getD_setD_ne (y : Option α) : ∀ (xs ys : List D) (t : Tr α), ys ≠ xs → Tr.getD ys (Tr.setD y xs t) = Tr.getD ys t := by
  intro xs
  induction xs with
  | nil =>
    intro ys t h
    cases ys with
    | nil => exact absurd rfl h
    | cons x ys =>
      cases t with
      | nil => show (D.rec _ _ _ _ x : Option α) = Tr.getD (x :: ys) .nil; rw [Tr.getD_nil]; cases x <;> exact Tr.getD_nil _
      | node v a b c d => rfl
  | cons x xs ih =>
    intro ys t h
    cases ys with
    | nil =>
      cases t with
      | nil => cases x <;> rfl
      | node v a b c d => cases x <;> rfl
    | cons z ys =>
      cases t with
      | nil =>
        rw [Tr.getD_nil]
        cases x <;> cases z <;>
          first
            | exact Tr.getD_nil ys
            | exact (ih ys .nil (fun e => h (by rw [e]))).trans (Tr.getD_nil ys)
      | node v a b c d =>
        cases x <;> cases z <;>
          first
            | exact ih ys _ (fun e => h (by rw [e]))
            | rfl

noncomputable def dig (r : Nat) : D := bc (Nat.beq r 0) .a (bc (Nat.beq r 1) .b (bc (Nat.beq r 2) .c .d))
noncomputable def digF (n : Nat) : Nat → List D :=
  Nat.rec (motive := fun _ => Nat → List D) (fun _ => []) (fun _ ih m => bc (Nat.beq m 0) [] (List.cons (dig (Nat.mod m 4)) (ih (Nat.div m 4)))) n
noncomputable def digs (n : Nat) : List D := digF n n
def D.val : D → Nat | .a => 0 | .b => 1 | .c => 2 | .d => 3
def valD : List D → Nat | [] => 0 | x :: xs => x.val + 4 * valD xs
theorem dig_val (m : Nat) : (dig (m % 4)).val = m % 4 := by
  have h : m % 4 < 4 := Nat.mod_lt _ (by omega)
  generalize m % 4 = r at *
  match r, h with
  | 0, _ => rfl
  | 1, _ => rfl
  | 2, _ => rfl
  | 3, _ => rfl
theorem valD_digF : ∀ n m : Nat, m ≤ n → valD (digF n m) = m := by
  intro n
  induction n with
  | zero => intro m h; have : m = 0 := by omega
            subst this; rfl
  | succ n ih =>
    intro m h
    show valD (bc (Nat.beq m 0) [] (List.cons (dig (m % 4)) (digF n (m / 4)))) = m
    by_cases hm : m = 0
    · subst hm; rfl
    · rw [nbeq_f hm]
      show (dig (m % 4)).val + 4 * valD (digF n (m / 4)) = m
      rw [ih _ (by omega), dig_val]; omega
theorem digs_inj {m n : Nat} (h : digs m = digs n) : m = n := by
  have := congrArg valD h
  rwa [digs, digs, valD_digF _ _ (Nat.le_refl _), valD_digF _ _ (Nat.le_refl _)] at this

noncomputable def Tr.get (t : Tr α) (n : Nat) : Option α := Tr.getD (digs n) t
noncomputable def Tr.set (t : Tr α) (n : Nat) (y : Option α) : Tr α := Tr.setD y (digs n) t
theorem Tr.get_nil (n : Nat) : (.nil : Tr α).get n = none := Tr.getD_nil _
theorem Tr.get_set_eq (t : Tr α) (n : Nat) (y : Option α) : (t.set n y).get n = y := Tr.getD_setD_eq _ _ _
theorem Tr.get_set_ne (t : Tr α) {n m : Nat} (y : Option α) (h : m ≠ n) : (t.set n y).get m = t.get m :=
  Tr.getD_setD_ne _ _ _ _ fun e => h (digs_inj e)
end tries

/-- A number, written out. -/
noncomputable def forceN {α : Type} (n : Nat) (k : Nat → α) : α := Nat.rec (k 0) (fun m _ => k (Nat.succ m)) n
theorem forceN_eq {α : Type} (n : Nat) (k : Nat → α) : forceN n k = k n := by cases n <;> rfl

/-! ### Symbolic values -/
inductive SV
  | int (k : IntKind) (t : Tm)
  | bool (t : Tm)
  | pnil
  | ptr (o off : Nat)
  | snil
  | slice (o off len cap : Nat)
  | sliceU (o len : Nat)
  | mnil
  | map (o : Nat)
  | func (f : Nat) (cap : List SV)
  | fnil
  | str (bs : ByteArray)
  | inil
  | agg (cs : List SV)
  | tuple (cs : List SV)

mutual
/-- What a symbolic value denotes: σ the variables, β the names of blocks. -/
inductive Den (σ : Nat → Nat) (β : Nat → Option (Nat × Nat)) : SV → Value → Prop
  | int {k : IntKind} {t : Tm} (h : t.ev σ < 2 ^ k.bits) : Den σ β (.int k t) (.int k (ofB k (t.ev σ)))
  | bool {t : Tm} (h : t.ev σ ≤ 1) : Den σ β (.bool t) (.bool (t.ev σ != 0))
  | pnil : Den σ β .pnil (.pointer none)
  | ptr {o off b c : Nat} (h : β o = some (b, c)) : Den σ β (.ptr o off) (.pointer (some ⟨b, off, none⟩))
  | snil : Den σ β .snil (.slice none 0 0)
  | slice {o off len cap b c : Nat} (h : β o = some (b, c)) : Den σ β (.slice o off len cap) (.slice (some ⟨b, off, none⟩) len cap)
  | sliceU {o len b c : Nat} (h : β o = some (b, c)) (hl : len ≤ c) : Den σ β (.sliceU o len) (.slice (some ⟨b, 0, none⟩) len c)
  | mnil : Den σ β .mnil (.map none)
  | map {o b c : Nat} (h : β o = some (b, c)) : Den σ β (.map o) (.map (some b))
  | func {f : Nat} {cap : List SV} {vs : List Value} (h : DenL σ β cap vs) : Den σ β (.func f cap) (.func (.func f) #[] vs.toArray)
  | fnil : Den σ β .fnil .nilFunc
  | str {bs : ByteArray} : Den σ β (.str bs) (.string bs)
  | inil : Den σ β .inil .nilIface
  | agg {cs : List SV} {vs : List Value} (h : DenL σ β cs vs) : Den σ β (.agg cs) (.agg vs.toArray)
  | tuple {cs : List SV} {vs : List Value} (h : DenL σ β cs vs) : Den σ β (.tuple cs) (.tuple vs.toArray)
inductive DenL (σ : Nat → Nat) (β : Nat → Option (Nat × Nat)) : List SV → List Value → Prop
  | nil : DenL σ β [] []
  | cons {c : SV} {v : Value} {cs : List SV} {vs : List Value} (h : Den σ β c v) (t : DenL σ β cs vs) : DenL σ β (c :: cs) (v :: vs)
end

def Ext (β β' : Nat → Option (Nat × Nat)) : Prop := ∀ o b, β o = some b → β' o = some b
theorem Ext.refl (β : Nat → Option (Nat × Nat)) : Ext β β := fun _ _ h => h
theorem Ext.trans {a b c : Nat → Option (Nat × Nat)} (h : Ext a b) (k : Ext b c) : Ext a c := fun o x hx => k o x (h o x hx)

mutual
theorem Den.mono {σ : Nat → Nat} {β β' : Nat → Option (Nat × Nat)} (e : Ext β β') : ∀ {s : SV} {v : Value}, Den σ β s v → Den σ β' s v
  | _, _, .int h => .int h
  | _, _, .bool h => .bool h
  | _, _, .pnil => .pnil
  | _, _, .ptr h => .ptr (e _ _ h)
  | _, _, .snil => .snil
  | _, _, .slice h => .slice (e _ _ h)
  | _, _, .sliceU h hl => .sliceU (e _ _ h) hl
  | _, _, .mnil => .mnil
  | _, _, .map h => .map (e _ _ h)
  | _, _, .func h => .func (DenL.mono e h)
  | _, _, .fnil => .fnil
  | _, _, .str => .str
  | _, _, .inil => .inil
  | _, _, .agg h => .agg (DenL.mono e h)
  | _, _, .tuple h => .tuple (DenL.mono e h)
theorem DenL.mono {σ : Nat → Nat} {β β' : Nat → Option (Nat × Nat)} (e : Ext β β') : ∀ {s : List SV} {v : List Value}, DenL σ β s v → DenL σ β' s v
  | _, _, .nil => .nil
  | _, _, .cons h t => .cons (Den.mono e h) (DenL.mono e t)
end

theorem DenL.length {σ β} : ∀ {cs : List SV} {vs : List Value}, DenL σ β cs vs → cs.length = vs.length
  | _, _, .nil => rfl
  | _, _, .cons _ t => by simp [DenL.length t]
theorem DenL.get {σ β} : ∀ {cs : List SV} {vs : List Value}, DenL σ β cs vs → ∀ {i : Nat} {c : SV}, cs[i]? = some c → ∃ v, vs[i]? = some v ∧ Den σ β c v
  | _, _, .nil, i, c, h => by simp at h
  | _, _, .cons (c := c0) (v := v0) h t, i, c, hi => by
    cases i with
    | zero => simp at hi; subst hi; exact ⟨v0, by simp, h⟩
    | succ i => simp at hi; obtain ⟨v, h1, h2⟩ := DenL.get t hi; exact ⟨v, by simpa using h1, h2⟩
theorem DenL.append {σ β} : ∀ {a b : List SV} {va vb : List Value}, DenL σ β a va → DenL σ β b vb → DenL σ β (a ++ b) (va ++ vb)
  | _, _, _, _, .nil, h => h
  | _, _, _, _, .cons h t, k => .cons h (DenL.append t k)
theorem DenL.take {σ β} : ∀ {a : List SV} {va : List Value}, DenL σ β a va → ∀ n, DenL σ β (a.take n) (va.take n)
  | _, _, .nil, n => by simpa using DenL.nil
  | _, _, .cons h t, n => by cases n with
    | zero => simpa using DenL.nil
    | succ n => simpa using DenL.cons h (DenL.take t n)
theorem DenL.drop {σ β} : ∀ {a : List SV} {va : List Value}, DenL σ β a va → ∀ n, DenL σ β (a.drop n) (va.drop n)
  | _, _, .nil, n => by simpa using DenL.nil
  | _, _, .cons h t, n => by cases n with
    | zero => simpa using DenL.cons h t
    | succ n => simpa using DenL.drop t n

end Go.Sx
end

section
/- Between which numbers a term's worth lies. -/
namespace Go.Sx

variable {α : Type}
noncomputable def lenR (l : List α) : Nat := List.rec 0 (fun _ _ ih => Nat.succ ih) l
theorem lenR_eq (l : List α) : lenR l = l.length := by
  induction l with
  | nil => rfl
  | cons x t ih => show lenR t + 1 = _; rw [ih]; rfl

structure B2 where
  lo : Nat
  hi : Nat
/-! ### Equality of terms -/
noncomputable def O1.code (o : O1) : Nat := O1.rec 1 (fun ws => Nat.add 3 ws) 2 o
theorem O1.code_inj {a b : O1} (h : a.code = b.code) : a = b := by
  cases a <;> cases b <;> simp [O1.code] at h <;> first | rfl | (subst h; rfl) | omega
noncomputable def O2.code (o : O2) : Nat := O2.rec 1 2 3 4 5 6 7 8 9 10 11 12 13 14 15 16 o
theorem O2.code_inj {a b : O2} (h : a.code = b.code) : a = b := by
  cases a <;> cases b <;> first | rfl | (simp [O2.code] at h)
noncomputable def band (a b : Bool) : Bool := bc a b false
theorem band_eq {a b : Bool} (h : band a b = true) : a = true ∧ b = true := by cases a <;> cases b <;> simp_all [band]
theorem band_t {a b : Bool} (h : a = true) (h' : b = true) : band a b = true := by subst h; subst h'; rfl

noncomputable def Tm.same (a : Tm) : Tm → Bool :=
  Tm.rec (motive := fun _ => Tm → Bool)
    (fun n b => Tm.rec (fun m => Nat.beq n m) (fun _ _ => false) (fun _ _ _ _ => false) (fun _ _ _ _ _ _ => false) (fun _ _ _ _ _ _ => false) b)
    (fun i w b => Tm.rec (fun _ => false) (fun j v => band (Nat.beq i j) (Nat.beq w v)) (fun _ _ _ _ => false) (fun _ _ _ _ _ _ => false) (fun _ _ _ _ _ _ => false) b)
    (fun o w _ ia b => Tm.rec (fun _ => false) (fun _ _ => false) (fun o' w' a' _ => band (Nat.beq o.code o'.code) (band (Nat.beq w w') (ia a'))) (fun _ _ _ _ _ _ => false) (fun _ _ _ _ _ _ => false) b)
    (fun o w _ _ ia ib b => Tm.rec (fun _ => false) (fun _ _ => false) (fun _ _ _ _ => false) (fun o' w' a' b' _ _ => band (Nat.beq o.code o'.code) (band (Nat.beq w w') (band (ia a') (ib b')))) (fun _ _ _ _ _ _ => false) b)
    (fun _ _ _ ic ia ib b => Tm.rec (fun _ => false) (fun _ _ => false) (fun _ _ _ _ => false) (fun _ _ _ _ _ _ => false) (fun c' a' b' _ _ _ => band (ic c') (band (ia a') (ib b'))) b) a
theorem Tm.same_eq : ∀ {a b : Tm}, a.same b = true → a = b := by
  intro a
  induction a with
  | lit n => intro b h; cases b <;> first | (cases h; done) | (rw [of_nbeq h])
  | var i w => intro b h; cases b <;> first | (cases h; done) | (obtain ⟨h1, h2⟩ := band_eq h; rw [of_nbeq h1, of_nbeq h2])
  | un o w a ih => intro b h; cases b <;> first | (cases h; done) | (obtain ⟨h1, h2⟩ := band_eq h; obtain ⟨h2, h3⟩ := band_eq h2; rw [O1.code_inj (of_nbeq h1), of_nbeq h2, ih h3])
  | bin o w a b iha ihb => intro b' h; cases b' <;> first | (cases h; done) | (obtain ⟨h1, h2⟩ := band_eq h; obtain ⟨h2, h3⟩ := band_eq h2; obtain ⟨h3, h4⟩ := band_eq h3; rw [O2.code_inj (of_nbeq h1), of_nbeq h2, iha h3, ihb h4])
  | ite c a b ihc iha ihb => intro b' h; cases b' <;> first | (cases h; done) | (obtain ⟨h1, h2⟩ := band_eq h; obtain ⟨h2, h3⟩ := band_eq h2; rw [ihc h1, iha h2, ihb h3])

noncomputable def maxN (a b : Nat) : Nat := bc (Nat.ble a b) b a
noncomputable def minN (a b : Nat) : Nat := bc (Nat.ble a b) a b
theorem maxN_eq (a b : Nat) : maxN a b = max a b := by
  unfold maxN
  by_cases h : a ≤ b
  · rw [nble_t h]; show b = _; omega
  · rw [nble_f h]; show a = _; omega
theorem minN_eq (a b : Nat) : minN a b = min a b := by
  unfold minN
  by_cases h : a ≤ b
  · rw [nble_t h]; show a = _; omega
  · rw [nble_f h]; show b = _; omega

/-- The least number of ones that is at least n. -/
noncomputable def ones (n : Nat) : Nat := Nat.sub (p2 (Nat.succ (Nat.log2 n))) 1
theorem le_ones (n : Nat) : n < 2 ^ (Nat.log2 n + 1) := Nat.lt_log2_self

noncomputable def rng1 (o : O1) (w : Nat) (a : B2) : B2 :=
  O1.rec (bc (Nat.blt a.hi (p2 w)) a ⟨0, Nat.sub (p2 w) 1⟩)
    (fun ws => bc (Nat.blt a.hi (p2 (Nat.sub ws 1))) a (bc (Nat.ble (p2 (Nat.sub ws 1)) a.lo) ⟨Nat.add a.lo (Nat.sub (p2 w) (p2 ws)), Nat.add a.hi (Nat.sub (p2 w) (p2 ws))⟩ ⟨0, Nat.add a.hi (p2 w)⟩))
    (bc (Nat.blt 0 a.lo) ⟨0, 0⟩ (bc (Nat.beq a.hi 0) ⟨1, 1⟩ ⟨0, 1⟩)) o
theorem rng1_ok {o : O1} {w x : Nat} {a : B2} (h : a.lo ≤ x ∧ x ≤ a.hi) : (rng1 o w a).lo ≤ o.ev w x ∧ o.ev w x ≤ (rng1 o w a).hi := by
  cases o with
  | tr =>
    show (bc (Nat.blt a.hi (2 ^ w)) a ⟨0, 2 ^ w - 1⟩ : B2).lo ≤ x % 2 ^ w ∧ x % 2 ^ w ≤ (bc (Nat.blt a.hi (2 ^ w)) a ⟨0, 2 ^ w - 1⟩ : B2).hi
    have hm := Nat.mod_lt x (Nat.two_pow_pos w)
    by_cases e : a.hi < 2 ^ w
    · rw [nblt_t e]; rw [Nat.mod_eq_of_lt (by omega)]; exact h
    · rw [nblt_f e]; show 0 ≤ _ ∧ _ ≤ 2 ^ w - 1; omega
  | sx ws =>
    have key : ∀ P Q R : Nat, (bc (Nat.blt a.hi R) a (bc (Nat.ble R a.lo) ⟨a.lo + (P - Q), a.hi + (P - Q)⟩ ⟨0, a.hi + P⟩) : B2).lo ≤ bc (Nat.blt x R) x (x + (P - Q)) ∧ bc (Nat.blt x R) x (x + (P - Q)) ≤ (bc (Nat.blt a.hi R) a (bc (Nat.ble R a.lo) ⟨a.lo + (P - Q), a.hi + (P - Q)⟩ ⟨0, a.hi + P⟩) : B2).hi := by
      intro P Q R
      by_cases e : a.hi < R
      · rw [nblt_t e, nblt_t (show x < R by omega)]; exact h
      · rw [nblt_f e]
        by_cases e3 : R ≤ a.lo
        · rw [nble_t e3, nblt_f (show ¬ x < R by omega)]; show a.lo + (P - Q) ≤ x + (P - Q) ∧ x + (P - Q) ≤ a.hi + (P - Q); omega
        · rw [nble_f e3]
          by_cases e2 : x < R
          · rw [nblt_t e2]; show 0 ≤ x ∧ x ≤ a.hi + P; omega
          · rw [nblt_f e2]; show 0 ≤ x + (P - Q) ∧ x + (P - Q) ≤ a.hi + P; omega
    exact key (2 ^ w) (2 ^ ws) (2 ^ (ws - 1))
  | bnot =>
    show (bc (Nat.blt 0 a.lo) ⟨0, 0⟩ (bc (Nat.beq a.hi 0) ⟨1, 1⟩ ⟨0, 1⟩) : B2).lo ≤ bc (Nat.beq x 0) 1 0 ∧ bc (Nat.beq x 0) 1 0 ≤ (bc (Nat.blt 0 a.lo) ⟨0, 0⟩ (bc (Nat.beq a.hi 0) ⟨1, 1⟩ ⟨0, 1⟩) : B2).hi
    by_cases e : 0 < a.lo
    · rw [nblt_t e, nbeq_f (show ¬ x = 0 by omega)]; exact ⟨Nat.le_refl _, Nat.le_refl _⟩
    · rw [nblt_f e]
      by_cases e2 : a.hi = 0
      · rw [nbeq_t e2, nbeq_t (show x = 0 by omega)]; exact ⟨Nat.le_refl _, Nat.le_refl _⟩
      · rw [nbeq_f e2]
        by_cases e3 : x = 0
        · rw [nbeq_t e3]; exact ⟨Nat.zero_le _, Nat.le_refl _⟩
        · rw [nbeq_f e3]; exact ⟨Nat.le_refl _, Nat.zero_le _⟩

noncomputable def top (w : Nat) : B2 := ⟨0, Nat.sub (p2 w) 1⟩
noncomputable def ultB (a b : B2) : B2 := bc (Nat.blt a.hi b.lo) ⟨1, 1⟩ (bc (Nat.ble b.hi a.lo) ⟨0, 0⟩ ⟨0, 1⟩)
noncomputable def eqB (a b : B2) : B2 := bc (Nat.blt a.hi b.lo) ⟨0, 0⟩ (bc (Nat.blt b.hi a.lo) ⟨0, 0⟩ (bc (Nat.beq a.lo a.hi) (bc (Nat.beq b.lo b.hi) (bc (Nat.beq a.lo b.lo) ⟨1, 1⟩ ⟨0, 1⟩) ⟨0, 1⟩) ⟨0, 1⟩))
noncomputable def sgnB (w : Nat) (a : B2) : B2 :=
  bc (Nat.blt a.hi (p2 (Nat.sub w 1))) ⟨Nat.add a.lo (p2 (Nat.sub w 1)), Nat.add a.hi (p2 (Nat.sub w 1))⟩
    (bc (band (Nat.ble (p2 (Nat.sub w 1)) a.lo) (Nat.blt a.hi (p2 w))) ⟨Nat.sub a.lo (p2 (Nat.sub w 1)), Nat.sub a.hi (p2 (Nat.sub w 1))⟩ (top w))
noncomputable def uremB (a b : B2) : B2 := bc (Nat.blt a.hi b.lo) a (bc (Nat.blt 0 b.lo) ⟨0, minN a.hi (Nat.sub b.hi 1)⟩ ⟨0, a.hi⟩)
noncomputable def udivB (a b : B2) : B2 := bc (Nat.blt 0 b.lo) ⟨Nat.div a.lo b.hi, Nat.div a.hi b.lo⟩ ⟨0, a.hi⟩
noncomputable def rng2 (o : O2) (w : Nat) (a b : B2) : B2 :=
  O2.rec
    (bc (Nat.blt (Nat.add a.hi b.hi) (p2 w)) ⟨Nat.add a.lo b.lo, Nat.add a.hi b.hi⟩ (top w))
    (bc (Nat.ble b.hi a.lo) (bc (Nat.blt a.hi (p2 w)) ⟨Nat.sub a.lo b.hi, Nat.sub a.hi b.lo⟩ (top w)) (top w))
    (bc (Nat.blt (Nat.mul a.hi b.hi) (p2 w)) ⟨Nat.mul a.lo b.lo, Nat.mul a.hi b.hi⟩ (top w))
    ⟨0, minN a.hi b.hi⟩ ⟨maxN a.lo b.lo, ones (maxN a.hi b.hi)⟩ ⟨0, ones (maxN a.hi b.hi)⟩
    (bc (Nat.blt b.hi w) (bc (Nat.blt (Nat.mul a.hi (p2 b.hi)) (p2 w)) ⟨Nat.mul a.lo (p2 b.lo), Nat.mul a.hi (p2 b.hi)⟩ (top w)) (top w))
    (bc (Nat.blt b.lo w) (bc (Nat.blt b.hi w) ⟨Nat.div a.lo (p2 b.hi), Nat.div a.hi (p2 b.lo)⟩ ⟨0, Nat.div a.hi (p2 b.lo)⟩) ⟨0, 0⟩)
    (bc (Nat.blt a.hi (p2 (Nat.sub w 1))) ⟨0, a.hi⟩ ⟨0, Nat.add a.hi (p2 w)⟩)
    (eqB a b) (ultB a b) (bc (Nat.blt 0 w) (ultB (sgnB w a) (sgnB w b)) ⟨0, 1⟩)
    (udivB a b) (uremB a b)
    (bc (Nat.blt a.hi (p2 (Nat.sub w 1))) (bc (Nat.blt b.hi (p2 (Nat.sub w 1))) (udivB a b) (top w)) (top w)) (bc (Nat.blt a.hi (p2 (Nat.sub w 1))) (bc (Nat.blt b.hi (p2 (Nat.sub w 1))) (uremB a b) (top w)) (top w)) o

theorem b2n_01 (b : Bool) : 0 ≤ b2n b ∧ b2n b ≤ 1 := by cases b <;> exact ⟨Nat.zero_le _, by decide⟩
theorem b2n_t {b : Bool} (h : b = true) : b2n b = 1 := by rw [h]; rfl
theorem b2n_f {b : Bool} (h : b = false) : b2n b = 0 := by rw [h]; rfl
theorem lor_lt {x y k : Nat} (hx : x < 2 ^ k) (hy : y < 2 ^ k) : x ||| y < 2 ^ k := Nat.or_lt_two_pow hx hy
theorem pow_le {a b : Nat} (h : a ≤ b) : 2 ^ a ≤ 2 ^ b := Nat.pow_le_pow_right (by omega) h

theorem eqB_ok {x y : Nat} {a b : B2} (ha : a.lo ≤ x ∧ x ≤ a.hi) (hb : b.lo ≤ y ∧ y ≤ b.hi) : (eqB a b).lo ≤ b2n (Nat.beq x y) ∧ b2n (Nat.beq x y) ≤ (eqB a b).hi := by
  unfold eqB
  by_cases e : a.hi < b.lo
  · rw [nblt_t e, nbeq_f (show ¬ x = y by omega)]; exact ⟨Nat.le_refl _, Nat.le_refl _⟩
  · rw [nblt_f e]
    by_cases e2 : b.hi < a.lo
    · rw [nblt_t e2, nbeq_f (show ¬ x = y by omega)]; exact ⟨Nat.le_refl _, Nat.le_refl _⟩
    · rw [nblt_f e2]
      by_cases e3 : a.lo = a.hi
      · rw [nbeq_t e3]
        by_cases e4 : b.lo = b.hi
        · rw [nbeq_t e4]
          by_cases e5 : a.lo = b.lo
          · rw [nbeq_t e5, nbeq_t (show x = y by omega)]; exact ⟨Nat.le_refl _, Nat.le_refl _⟩
          · rw [nbeq_f e5]; exact b2n_01 _
        · rw [nbeq_f e4]; exact b2n_01 _
      · rw [nbeq_f e3]; exact b2n_01 _
theorem ultB_ok {x y : Nat} {a b : B2} (ha : a.lo ≤ x ∧ x ≤ a.hi) (hb : b.lo ≤ y ∧ y ≤ b.hi) : (ultB a b).lo ≤ b2n (Nat.blt x y) ∧ b2n (Nat.blt x y) ≤ (ultB a b).hi := by
  unfold ultB
  by_cases e : a.hi < b.lo
  · rw [nblt_t e, nblt_t (show x < y by omega)]; exact ⟨Nat.le_refl _, Nat.le_refl _⟩
  · rw [nblt_f e]
    by_cases e2 : b.hi ≤ a.lo
    · rw [nble_t e2, nblt_f (show ¬ x < y by omega)]; exact ⟨Nat.le_refl _, Nat.le_refl _⟩
    · rw [nble_f e2]; exact b2n_01 _
theorem sgnB_ok {w x : Nat} {a : B2} (ha : a.lo ≤ x ∧ x ≤ a.hi) (hw : 0 < w) : (sgnB w a).lo ≤ Nat.mod (Nat.add x (p2 (Nat.sub w 1))) (p2 w) ∧ Nat.mod (Nat.add x (p2 (Nat.sub w 1))) (p2 w) ≤ (sgnB w a).hi := by
  have key : ∀ H : Nat, 0 < H → (bc (Nat.blt a.hi H) ⟨a.lo + H, a.hi + H⟩ (bc (band (Nat.ble H a.lo) (Nat.blt a.hi (2 * H))) ⟨a.lo - H, a.hi - H⟩ ⟨0, 2 * H - 1⟩) : B2).lo ≤ (x + H) % (2 * H) ∧ (x + H) % (2 * H) ≤ (bc (Nat.blt a.hi H) ⟨a.lo + H, a.hi + H⟩ (bc (band (Nat.ble H a.lo) (Nat.blt a.hi (2 * H))) ⟨a.lo - H, a.hi - H⟩ ⟨0, 2 * H - 1⟩) : B2).hi := by
    intro H hH
    by_cases e : a.hi < H
    · rw [nblt_t e, Nat.mod_eq_of_lt (by omega)]; show a.lo + H ≤ x + H ∧ x + H ≤ a.hi + H; omega
    · rw [nblt_f e]
      cases h2 : band (Nat.ble H a.lo) (Nat.blt a.hi (2 * H))
      · show 0 ≤ _ ∧ _ ≤ 2 * H - 1
        have := Nat.mod_lt (x + H) (show 0 < 2 * H by omega)
        omega
      · obtain ⟨h3, h4⟩ := band_eq h2
        have h3 := of_nble h3
        have h4 := of_nblt h4
        show a.lo - H ≤ _ ∧ _ ≤ a.hi - H
        rw [show x + H = (x - H) + 2 * H by omega, Nat.add_mod_right, Nat.mod_eq_of_lt (by omega)]
        omega
  have hh : 2 ^ w = 2 * 2 ^ (w - 1) := by
    conv => lhs; rw [show w = (w - 1) + 1 by omega, Nat.pow_succ]
    omega
  have := key (2 ^ (w - 1)) (Nat.two_pow_pos _)
  rw [← hh] at this
  exact this

theorem udivB_ok {x y : Nat} {a b : B2} (ha : a.lo ≤ x ∧ x ≤ a.hi) (hb : b.lo ≤ y ∧ y ≤ b.hi) : (udivB a b).lo ≤ x / y ∧ x / y ≤ (udivB a b).hi := by
  unfold udivB
  by_cases e : 0 < b.lo
  · rw [nblt_t e]
    exact ⟨Nat.le_trans (Nat.div_le_div_right ha.1) (Nat.div_le_div_left hb.2 (by omega)), Nat.le_trans (Nat.div_le_div_right ha.2) (Nat.div_le_div_left hb.1 e)⟩
  · rw [nblt_f e]
    exact ⟨Nat.zero_le _, Nat.le_trans (Nat.div_le_self x y) ha.2⟩
theorem uremB_ok {x y : Nat} {a b : B2} (ha : a.lo ≤ x ∧ x ≤ a.hi) (hb : b.lo ≤ y ∧ y ≤ b.hi) : (uremB a b).lo ≤ x % y ∧ x % y ≤ (uremB a b).hi := by
  unfold uremB
  by_cases e0 : a.hi < b.lo
  · rw [nblt_t e0, Nat.mod_eq_of_lt (by omega)]; exact ha
  · rw [nblt_f e0]
    have h1 := Nat.mod_le x y
    by_cases e : 0 < b.lo
    · rw [nblt_t e]
      show 0 ≤ x % y ∧ x % y ≤ minN a.hi (b.hi - 1)
      rw [minN_eq]
      have := Nat.mod_lt x (show 0 < y by omega)
      omega
    · rw [nblt_f e]; show 0 ≤ x % y ∧ x % y ≤ a.hi; omega
theorem nonneg_of {w x : Nat} (h : x < 2 ^ (w - 1)) : isNeg w x = false := nble_f (by show ¬ 2 ^ (w - 1) ≤ x; omega)
theorem mag_of {w x : Nat} (h : x < 2 ^ (w - 1)) : mag w x = x := by unfold mag; rw [nonneg_of h]

theorem rng2_ok {o : O2} {w x y : Nat} {a b : B2} (ha : a.lo ≤ x ∧ x ≤ a.hi) (hb : b.lo ≤ y ∧ y ≤ b.hi) : (rng2 o w a b).lo ≤ o.ev w x y ∧ o.ev w x y ≤ (rng2 o w a b).hi := by
  have htop : ∀ z, z < 2 ^ w → (top w).lo ≤ z ∧ z ≤ (top w).hi := fun z hz => by
    show 0 ≤ z ∧ z ≤ 2 ^ w - 1; omega
  have hp := Nat.two_pow_pos w
  cases o with
  | add =>
    show (bc (Nat.blt (a.hi + b.hi) (2 ^ w)) ⟨a.lo + b.lo, a.hi + b.hi⟩ (top w) : B2).lo ≤ (x + y) % 2 ^ w ∧ (x + y) % 2 ^ w ≤ (bc (Nat.blt (a.hi + b.hi) (2 ^ w)) ⟨a.lo + b.lo, a.hi + b.hi⟩ (top w) : B2).hi
    by_cases e : a.hi + b.hi < 2 ^ w
    · rw [nblt_t e, Nat.mod_eq_of_lt (by omega)]; show a.lo + b.lo ≤ x + y ∧ x + y ≤ a.hi + b.hi; omega
    · rw [nblt_f e]; exact htop _ (Nat.mod_lt _ hp)
  | sub =>
    show (bc (Nat.ble b.hi a.lo) (bc (Nat.blt a.hi (2 ^ w)) ⟨a.lo - b.hi, a.hi - b.lo⟩ (top w)) (top w) : B2).lo ≤ (x + (2 ^ w - y % 2 ^ w)) % 2 ^ w ∧ (x + (2 ^ w - y % 2 ^ w)) % 2 ^ w ≤ (bc (Nat.ble b.hi a.lo) (bc (Nat.blt a.hi (2 ^ w)) ⟨a.lo - b.hi, a.hi - b.lo⟩ (top w)) (top w) : B2).hi
    by_cases e : b.hi ≤ a.lo
    · rw [nble_t e]
      by_cases e2 : a.hi < 2 ^ w
      · rw [nblt_t e2]
        rw [Nat.mod_eq_of_lt (show y < 2 ^ w by omega), show x + (2 ^ w - y) = (x - y) + 2 ^ w by omega, Nat.add_mod_right, Nat.mod_eq_of_lt (by omega)]
        show a.lo - b.hi ≤ x - y ∧ x - y ≤ a.hi - b.lo; omega
      · rw [nblt_f e2]; exact htop _ (Nat.mod_lt _ hp)
    · rw [nble_f e]; exact htop _ (Nat.mod_lt _ hp)
  | mul =>
    show (bc (Nat.blt (a.hi * b.hi) (2 ^ w)) ⟨a.lo * b.lo, a.hi * b.hi⟩ (top w) : B2).lo ≤ (x * y) % 2 ^ w ∧ (x * y) % 2 ^ w ≤ (bc (Nat.blt (a.hi * b.hi) (2 ^ w)) ⟨a.lo * b.lo, a.hi * b.hi⟩ (top w) : B2).hi
    have h1 : x * y ≤ a.hi * b.hi := Nat.mul_le_mul ha.2 hb.2
    have h2 : a.lo * b.lo ≤ x * y := Nat.mul_le_mul ha.1 hb.1
    by_cases e : a.hi * b.hi < 2 ^ w
    · rw [nblt_t e, Nat.mod_eq_of_lt (by omega)]; exact ⟨h2, h1⟩
    · rw [nblt_f e]; exact htop _ (Nat.mod_lt _ hp)
  | and =>
    show 0 ≤ x &&& y ∧ x &&& y ≤ minN a.hi b.hi
    rw [minN_eq]
    have h1 : x &&& y ≤ x := Nat.and_le_left
    have h2 : x &&& y ≤ y := Nat.and_le_right
    omega
  | or =>
    show maxN a.lo b.lo ≤ x ||| y ∧ x ||| y ≤ 2 ^ (Nat.log2 (maxN a.hi b.hi) + 1) - 1
    rw [maxN_eq, maxN_eq]
    have h1 : x ≤ x ||| y := Nat.left_le_or
    have h2 : y ≤ x ||| y := Nat.right_le_or
    have h3 := le_ones (max a.hi b.hi)
    have h4 : x ||| y < 2 ^ (Nat.log2 (max a.hi b.hi) + 1) := Nat.or_lt_two_pow (by omega) (by omega)
    omega
  | xor =>
    show 0 ≤ x ^^^ y ∧ x ^^^ y ≤ 2 ^ (Nat.log2 (maxN a.hi b.hi) + 1) - 1
    rw [maxN_eq]
    have h3 := le_ones (max a.hi b.hi)
    have h4 : x ^^^ y < 2 ^ (Nat.log2 (max a.hi b.hi) + 1) := Nat.xor_lt_two_pow (by omega) (by omega)
    omega
  | shl =>
    show (bc (Nat.blt b.hi w) (bc (Nat.blt (a.hi * 2 ^ b.hi) (2 ^ w)) ⟨a.lo * 2 ^ b.lo, a.hi * 2 ^ b.hi⟩ (top w)) (top w) : B2).lo ≤ bc (Nat.ble w y) 0 (x * 2 ^ y % 2 ^ w) ∧ bc (Nat.ble w y) 0 (x * 2 ^ y % 2 ^ w) ≤ (bc (Nat.blt b.hi w) (bc (Nat.blt (a.hi * 2 ^ b.hi) (2 ^ w)) ⟨a.lo * 2 ^ b.lo, a.hi * 2 ^ b.hi⟩ (top w)) (top w) : B2).hi
    have hev : bc (Nat.ble w y) 0 (x * 2 ^ y % 2 ^ w) < 2 ^ w := by
      cases Nat.ble w y
      · exact Nat.mod_lt _ hp
      · exact hp
    by_cases e2 : b.hi < w
    · rw [nblt_t e2]
      by_cases e : a.hi * 2 ^ b.hi < 2 ^ w
      · rw [nblt_t e, nble_f (show ¬ w ≤ y by omega)]
        have h1 : x * 2 ^ y ≤ a.hi * 2 ^ b.hi := Nat.mul_le_mul ha.2 (pow_le hb.2)
        have h2 : a.lo * 2 ^ b.lo ≤ x * 2 ^ y := Nat.mul_le_mul ha.1 (pow_le hb.1)
        show a.lo * 2 ^ b.lo ≤ x * 2 ^ y % 2 ^ w ∧ x * 2 ^ y % 2 ^ w ≤ a.hi * 2 ^ b.hi
        rw [Nat.mod_eq_of_lt (Nat.lt_of_le_of_lt h1 e)]
        exact ⟨h2, h1⟩
      · rw [nblt_f e]; exact htop _ hev
    · rw [nblt_f e2]; exact htop _ hev
  | shr =>
    show (bc (Nat.blt b.lo w) (bc (Nat.blt b.hi w) ⟨a.lo / 2 ^ b.hi, a.hi / 2 ^ b.lo⟩ ⟨0, a.hi / 2 ^ b.lo⟩) ⟨0, 0⟩ : B2).lo ≤ bc (Nat.ble w y) 0 (x / 2 ^ y) ∧ bc (Nat.ble w y) 0 (x / 2 ^ y) ≤ (bc (Nat.blt b.lo w) (bc (Nat.blt b.hi w) ⟨a.lo / 2 ^ b.hi, a.hi / 2 ^ b.lo⟩ ⟨0, a.hi / 2 ^ b.lo⟩) ⟨0, 0⟩ : B2).hi
    have h1 : x / 2 ^ y ≤ a.hi / 2 ^ b.lo := Nat.le_trans (Nat.div_le_div_right ha.2) (Nat.div_le_div_left (pow_le hb.1) (Nat.two_pow_pos _))
    have h2 : a.lo / 2 ^ b.hi ≤ x / 2 ^ y := Nat.le_trans (Nat.div_le_div_right ha.1) (Nat.div_le_div_left (pow_le hb.2) (Nat.two_pow_pos _))
    by_cases e : b.lo < w
    · rw [nblt_t e]
      by_cases e2 : b.hi < w
      · rw [nblt_t e2, nble_f (show ¬ w ≤ y by omega)]; exact ⟨h2, h1⟩
      · rw [nblt_f e2]
        cases Nat.ble w y
        · exact ⟨Nat.zero_le _, h1⟩
        · exact ⟨Nat.zero_le _, Nat.zero_le _⟩
    · rw [nblt_f e, nble_t (show w ≤ y by omega)]; exact ⟨Nat.zero_le _, Nat.zero_le _⟩
  | sar =>
    show (bc (Nat.blt a.hi (2 ^ (w - 1))) ⟨0, a.hi⟩ ⟨0, a.hi + 2 ^ w⟩ : B2).lo ≤ bc (Nat.ble (2 ^ (w - 1)) x) (2 ^ w - 1 - (2 ^ w - 1 - x) / 2 ^ bc (Nat.ble w y) w y) (x / 2 ^ bc (Nat.ble w y) w y) ∧ bc (Nat.ble (2 ^ (w - 1)) x) (2 ^ w - 1 - (2 ^ w - 1 - x) / 2 ^ bc (Nat.ble w y) w y) (x / 2 ^ bc (Nat.ble w y) w y) ≤ (bc (Nat.blt a.hi (2 ^ (w - 1))) ⟨0, a.hi⟩ ⟨0, a.hi + 2 ^ w⟩ : B2).hi
    have h1 : x / 2 ^ bc (Nat.ble w y) w y ≤ x := Nat.div_le_self _ _
    by_cases e : a.hi < 2 ^ (w - 1)
    · rw [nblt_t e, nble_f (show ¬ 2 ^ (w - 1) ≤ x by omega)]
      exact ⟨Nat.zero_le _, Nat.le_trans h1 ha.2⟩
    · rw [nblt_f e]
      cases Nat.ble (2 ^ (w - 1)) x
      · exact ⟨Nat.zero_le _, Nat.le_trans h1 (Nat.le_trans ha.2 (Nat.le_add_right _ _))⟩
      · refine ⟨Nat.zero_le _, ?_⟩
        exact Nat.le_trans (Nat.sub_le _ _) (Nat.le_trans (Nat.sub_le _ _) (Nat.le_add_left _ _))
  | eq => exact eqB_ok ha hb
  | ult => exact ultB_ok ha hb
  | slt =>
    by_cases hw : 0 < w
    · have := ultB_ok (sgnB_ok ha hw) (sgnB_ok hb hw)
      show (bc (Nat.blt 0 w) (ultB (sgnB w a) (sgnB w b)) ⟨0, 1⟩ : B2).lo ≤ _ ∧ _ ≤ (bc (Nat.blt 0 w) (ultB (sgnB w a) (sgnB w b)) ⟨0, 1⟩ : B2).hi
      rw [nblt_t hw]; exact this
    · show (bc (Nat.blt 0 w) (ultB (sgnB w a) (sgnB w b)) ⟨0, 1⟩ : B2).lo ≤ _ ∧ _ ≤ (bc (Nat.blt 0 w) (ultB (sgnB w a) (sgnB w b)) ⟨0, 1⟩ : B2).hi
      rw [nblt_f hw]; exact b2n_01 _
  | udiv => exact udivB_ok ha hb
  | urem => exact uremB_ok ha hb
  | sdiv =>
    show (bc (Nat.blt a.hi (2 ^ (w - 1))) (bc (Nat.blt b.hi (2 ^ (w - 1))) (udivB a b) (top w)) (top w) : B2).lo ≤ sgn (bne (isNeg w x) (isNeg w y)) w (Nat.div (mag w x) (mag w y)) ∧ sgn (bne (isNeg w x) (isNeg w y)) w (Nat.div (mag w x) (mag w y)) ≤ (bc (Nat.blt a.hi (2 ^ (w - 1))) (bc (Nat.blt b.hi (2 ^ (w - 1))) (udivB a b) (top w)) (top w) : B2).hi
    have ht : sgn (bne (isNeg w x) (isNeg w y)) w (Nat.div (mag w x) (mag w y)) < 2 ^ w := by cases (bne (isNeg w x) (isNeg w y)) <;> exact Nat.mod_lt _ hp
    by_cases e : a.hi < 2 ^ (w - 1)
    · by_cases e2 : b.hi < 2 ^ (w - 1)
      · rw [nblt_t e, nblt_t e2, nonneg_of (show x < 2 ^ (w - 1) by omega), nonneg_of (show y < 2 ^ (w - 1) by omega), mag_of (show x < 2 ^ (w - 1) by omega), mag_of (show y < 2 ^ (w - 1) by omega)]
        have h1 : x / y ≤ x := Nat.div_le_self _ _
        have h2 : 2 ^ (w - 1) ≤ 2 ^ w := pow_le (Nat.sub_le _ _)
        have h3 : sgn (bne false false) w (Nat.div x y) = x / y := Nat.mod_eq_of_lt (show x / y < 2 ^ w by omega)
        rw [h3]; exact udivB_ok ha hb
      · rw [nblt_t e, nblt_f e2]; exact htop _ ht
    · rw [nblt_f e]; exact htop _ ht
  | srem =>
    show (bc (Nat.blt a.hi (2 ^ (w - 1))) (bc (Nat.blt b.hi (2 ^ (w - 1))) (uremB a b) (top w)) (top w) : B2).lo ≤ sgn (isNeg w x) w (Nat.mod (mag w x) (mag w y)) ∧ sgn (isNeg w x) w (Nat.mod (mag w x) (mag w y)) ≤ (bc (Nat.blt a.hi (2 ^ (w - 1))) (bc (Nat.blt b.hi (2 ^ (w - 1))) (uremB a b) (top w)) (top w) : B2).hi
    have ht : sgn (isNeg w x) w (Nat.mod (mag w x) (mag w y)) < 2 ^ w := by cases (isNeg w x) <;> exact Nat.mod_lt _ hp
    by_cases e : a.hi < 2 ^ (w - 1)
    · by_cases e2 : b.hi < 2 ^ (w - 1)
      · rw [nblt_t e, nblt_t e2, nonneg_of (show x < 2 ^ (w - 1) by omega), mag_of (show x < 2 ^ (w - 1) by omega), mag_of (show y < 2 ^ (w - 1) by omega)]
        have h1 : x % y ≤ x := Nat.mod_le _ _
        have h2 : 2 ^ (w - 1) ≤ 2 ^ w := pow_le (Nat.sub_le _ _)
        have h3 : sgn false w (Nat.mod x y) = x % y := Nat.mod_eq_of_lt (show x % y < 2 ^ w by omega)
        rw [h3]; exact uremB_ok ha hb
      · rw [nblt_t e, nblt_f e2]; exact htop _ ht
    · rw [nblt_f e]; exact htop _ ht

/-! ### Terms -/
/-- Between which numbers a term is known to lie. -/
structure Bnd where
  t : Tm
  lo : Nat
  hi : Nat
def Bnd.ok (σ : Nat → Nat) (b : Bnd) : Prop := b.lo ≤ b.t.ev σ ∧ b.t.ev σ ≤ b.hi
theorem Bnd.mk_ok {σ} {e : Tm} {lo hi : Nat} (h : lo ≤ e.ev σ ∧ e.ev σ ≤ hi) : (⟨e, lo, hi⟩ : Bnd).ok σ := h
def In (x : Nat) (b : B2) : Prop := b.lo ≤ x ∧ x ≤ b.hi

noncomputable def withB {α : Type} (b : B2) (k : B2 → α) : α := B2.rec (fun l h => forceN l fun l => forceN h fun h => k ⟨l, h⟩) b
theorem withB_eq {α : Type} (b : B2) (k : B2 → α) : withB b k = k b := by
  cases b with
  | mk l h => show forceN l (fun l => forceN h fun h => k ⟨l, h⟩) = k ⟨l, h⟩; rw [forceN_eq, forceN_eq]

/-- With what is known of the term itself. -/
noncomputable def meetB (l : List Bnd) (t : Tm) (b : B2) : B2 :=
  List.rec b (fun x _ ih => bc (Tm.same x.t t) ⟨maxN x.lo ih.lo, minN x.hi ih.hi⟩ ih) l
theorem meetB_ok {σ} {l : List Bnd} (h : ∀ b ∈ l, b.ok σ) {t : Tm} {b : B2} (hb : In (t.ev σ) b) : In (t.ev σ) (meetB l t b) := by
  induction l with
  | nil => exact hb
  | cons x l ih =>
    have ih' := ih fun y hy => h y (List.mem_cons_of_mem _ hy)
    have hx := h x List.mem_cons_self
    show In _ (bc (Tm.same x.t t) ⟨maxN x.lo (meetB l t b).lo, minN x.hi (meetB l t b).hi⟩ (meetB l t b))
    cases hs : Tm.same x.t t
    · exact ih'
    · have e := Tm.same_eq hs
      unfold Bnd.ok at hx
      rw [e] at hx
      unfold In at ih' ⊢
      show maxN _ _ ≤ _ ∧ _ ≤ minN _ _
      rw [maxN_eq, minN_eq]
      omega

noncomputable def iteB (c a b : B2) : B2 := bc (Nat.blt 0 c.lo) a (bc (Nat.beq c.hi 0) b ⟨minN a.lo b.lo, maxN a.hi b.hi⟩)
noncomputable def rng (l : List Bnd) (t : Tm) : B2 :=
  Tm.rec (fun n => ⟨n, n⟩) (fun i w => meetB l (.var i w) (top w)) (fun o w a ra => withB ra fun ra => meetB l (.un o w a) (rng1 o w ra))
    (fun o w a b ra rb => withB ra fun ra => withB rb fun rb => meetB l (.bin o w a b) (rng2 o w ra rb))
    (fun c a b rc ra rb => withB rc fun rc => withB ra fun ra => withB rb fun rb => meetB l (.ite c a b) (iteB rc ra rb)) t
theorem rng_ok {σ} {l : List Bnd} (h : ∀ b ∈ l, b.ok σ) (t : Tm) : In (t.ev σ) (rng l t) := by
  induction t with
  | lit n => exact ⟨Nat.le_refl _, Nat.le_refl _⟩
  | var i w =>
    refine meetB_ok h ?_
    show 0 ≤ σ i % 2 ^ w ∧ σ i % 2 ^ w ≤ 2 ^ w - 1
    have := Nat.mod_lt (σ i) (Nat.two_pow_pos w)
    omega
  | un o w a ih =>
    show In _ (withB (rng l a) fun ra => meetB l (.un o w a) (rng1 o w ra))
    rw [withB_eq]
    exact meetB_ok h (rng1_ok ih)
  | bin o w a b iha ihb =>
    show In _ (withB (rng l a) fun ra => withB (rng l b) fun rb => meetB l (.bin o w a b) (rng2 o w ra rb))
    rw [withB_eq, withB_eq]
    exact meetB_ok h (rng2_ok iha ihb)
  | ite c a b ihc iha ihb =>
    show In _ (withB (rng l c) fun rc => withB (rng l a) fun ra => withB (rng l b) fun rb => meetB l (.ite c a b) (iteB rc ra rb))
    rw [withB_eq, withB_eq, withB_eq]
    refine meetB_ok h ?_
    rw [ev_ite]
    unfold In at *
    unfold iteB
    by_cases e : 0 < (rng l c).lo
    · rw [nblt_t e, if_neg (by omega)]; exact iha
    · rw [nblt_f e]
      by_cases e2 : (rng l c).hi = 0
      · rw [nbeq_t e2, if_pos (by omega)]; exact ihb
      · rw [nbeq_f e2]
        show minN _ _ ≤ _ ∧ _ ≤ maxN _ _
        rw [minN_eq, maxN_eq]
        split <;> omega

/-! ### What a fact says of a term -/
/-- a o b holds (or, where neg, does not); one of the two is a number. -/
noncomputable def bndEq (neg : Bool) (l : List Bnd) (e : Tm) (n : Nat) : Option Bnd :=
  bc neg (withB (rng l e) fun r => bc (Nat.beq r.lo n) (some ⟨e, Nat.succ n, r.hi⟩) (bc (Nat.beq r.hi n) (some ⟨e, r.lo, Nat.pred n⟩) none)) (some ⟨e, n, n⟩)
/-- e < n -/
noncomputable def bndLt (neg : Bool) (l : List Bnd) (e : Tm) (n : Nat) : Option Bnd :=
  bc neg (withB (rng l e) fun r => some ⟨e, n, r.hi⟩) (some ⟨e, 0, Nat.pred n⟩)
/-- n < e -/
noncomputable def bndGt (neg : Bool) (l : List Bnd) (e : Tm) (n : Nat) : Option Bnd :=
  bc neg (some ⟨e, 0, n⟩) (withB (rng l e) fun r => some ⟨e, Nat.succ n, r.hi⟩)
/-- e < n, of numbers with a sign -/
noncomputable def bndLtS (w : Nat) (neg : Bool) (l : List Bnd) (e : Tm) (n : Nat) : Option Bnd :=
  bc (Nat.blt n (p2 (Nat.sub w 1))) (withB (rng l e) fun r => bc (Nat.blt r.hi (p2 (Nat.sub w 1))) (bndLt neg l e n)
    (bc (Nat.blt r.hi (p2 w)) (bc neg (some ⟨e, n, Nat.pred (p2 (Nat.sub w 1))⟩) (bc (Nat.beq n 0) (some ⟨e, p2 (Nat.sub w 1), r.hi⟩) none)) none)) none
/-- n < e, of numbers with a sign -/
noncomputable def bndGtS (w : Nat) (neg : Bool) (l : List Bnd) (e : Tm) (n : Nat) : Option Bnd :=
  bc (Nat.blt n (p2 (Nat.sub w 1))) (withB (rng l e) fun r => bc (Nat.blt r.hi (p2 (Nat.sub w 1))) (bndGt neg l e n)
    (bc (Nat.blt r.hi (p2 w)) (bc neg none (some ⟨e, Nat.succ n, Nat.pred (p2 (Nat.sub w 1))⟩)) none)) none

theorem bndEq_ok {σ} {l : List Bnd} (h : ∀ b ∈ l, b.ok σ) {neg : Bool} {e : Tm} {n : Nat} {b : Bnd} (hb : bndEq neg l e n = some b) (hf : neg = false ↔ e.ev σ = n) : b.ok σ := by
  unfold bndEq at hb
  have hr := rng_ok h e
  cases neg with
  | false =>
    change some _ = some b at hb
    cases hb
    have := hf.1 rfl
    exact ⟨Nat.le_of_eq this.symm, Nat.le_of_eq this⟩
  | true =>
    change withB (rng l e) _ = some b at hb
    rw [withB_eq] at hb
    have hne : ¬ e.ev σ = n := fun x => by have := hf.2 x; cases this
    unfold In at hr
    cases h1 : Nat.beq (rng l e).lo n
    · rw [h1] at hb
      change bc (Nat.beq (rng l e).hi n) _ none = some b at hb
      cases h2 : Nat.beq (rng l e).hi n
      · rw [h2] at hb; cases hb
      · rw [h2] at hb; cases hb
        have := of_nbeq h2
        refine Bnd.mk_ok ?_
        rw [Nat.pred_eq_sub_one]; omega
    · rw [h1] at hb; cases hb
      have := of_nbeq h1
      refine Bnd.mk_ok ?_
      omega
theorem bndLt_ok {σ} {l : List Bnd} (h : ∀ b ∈ l, b.ok σ) {neg : Bool} {e : Tm} {n : Nat} {b : Bnd} (hb : bndLt neg l e n = some b) (hf : neg = false ↔ e.ev σ < n) : b.ok σ := by
  unfold bndLt at hb
  have hr := rng_ok h e
  cases neg with
  | false =>
    change some _ = some b at hb
    cases hb
    have := hf.1 rfl
    refine Bnd.mk_ok ?_
    rw [Nat.pred_eq_sub_one]; omega
  | true =>
    change withB (rng l e) _ = some b at hb
    rw [withB_eq] at hb
    cases hb
    have hne : ¬ e.ev σ < n := fun x => by have := hf.2 x; cases this
    unfold In at hr
    refine Bnd.mk_ok ?_
    omega
theorem bndGt_ok {σ} {l : List Bnd} (h : ∀ b ∈ l, b.ok σ) {neg : Bool} {e : Tm} {n : Nat} {b : Bnd} (hb : bndGt neg l e n = some b) (hf : neg = false ↔ n < e.ev σ) : b.ok σ := by
  unfold bndGt at hb
  have hr := rng_ok h e
  cases neg with
  | true =>
    change some _ = some b at hb
    cases hb
    have hne : ¬ n < e.ev σ := fun x => by have := hf.2 x; cases this
    refine Bnd.mk_ok ?_
    omega
  | false =>
    change withB (rng l e) _ = some b at hb
    rw [withB_eq] at hb
    cases hb
    have := hf.1 rfl
    unfold In at hr
    refine Bnd.mk_ok ?_
    omega

theorem slt_iff {w x y : Nat} (hw : 0 < w) (hx : x < 2 ^ w) (hy : y < 2 ^ (w - 1)) : Nat.blt ((x + 2 ^ (w - 1)) % 2 ^ w) ((y + 2 ^ (w - 1)) % 2 ^ w) = true ↔ (x < y ∨ 2 ^ (w - 1) ≤ x) := by
  have hh : 2 ^ w = 2 * 2 ^ (w - 1) := by
    conv => lhs; rw [show w = (w - 1) + 1 by omega, Nat.pow_succ]
    omega
  rw [hh] at hx ⊢
  generalize 2 ^ (w - 1) = H at *
  rw [Nat.mod_eq_of_lt (show y + H < 2 * H by omega)]
  by_cases e : x < H
  · rw [Nat.mod_eq_of_lt (show x + H < 2 * H by omega)]
    constructor
    · intro h; have := of_nblt h; omega
    · intro h; exact nblt_t (by omega)
  · rw [show x + H = (x - H) + 2 * H by omega, Nat.add_mod_right, Nat.mod_eq_of_lt (by omega)]
    constructor
    · intro h; omega
    · intro h; exact nblt_t (by omega)
theorem sgt_iff {w x y : Nat} (hw : 0 < w) (hx : x < 2 ^ w) (hy : y < 2 ^ (w - 1)) : Nat.blt ((y + 2 ^ (w - 1)) % 2 ^ w) ((x + 2 ^ (w - 1)) % 2 ^ w) = true ↔ (y < x ∧ x < 2 ^ (w - 1)) := by
  have hh : 2 ^ w = 2 * 2 ^ (w - 1) := by
    conv => lhs; rw [show w = (w - 1) + 1 by omega, Nat.pow_succ]
    omega
  rw [hh] at hx ⊢
  generalize 2 ^ (w - 1) = H at *
  rw [Nat.mod_eq_of_lt (show y + H < 2 * H by omega)]
  by_cases e : x < H
  · rw [Nat.mod_eq_of_lt (show x + H < 2 * H by omega)]
    constructor
    · intro h; have := of_nblt h; omega
    · intro h; exact nblt_t (by omega)
  · rw [show x + H = (x - H) + 2 * H by omega, Nat.add_mod_right, Nat.mod_eq_of_lt (by omega)]
    constructor
    · intro h; have := of_nblt h; omega
    · intro h; exact nblt_t (by omega)

theorem bndLtS_ok {σ} {l : List Bnd} (h : ∀ b ∈ l, b.ok σ) {w : Nat} (hw : 0 < w) {neg : Bool} {e : Tm} {n : Nat} {b : Bnd} (hb : bndLtS w neg l e n = some b)
    (hf : neg = false ↔ Nat.blt ((e.ev σ + 2 ^ (w - 1)) % 2 ^ w) ((n + 2 ^ (w - 1)) % 2 ^ w) = true) : b.ok σ := by
  unfold bndLtS at hb
  have hr := rng_ok h e
  unfold In at hr
  by_cases e1 : n < 2 ^ (w - 1)
  · rw [show Nat.blt n (p2 (Nat.sub w 1)) = true from nblt_t e1] at hb
    change withB (rng l e) _ = some b at hb
    rw [withB_eq] at hb
    have hh : 2 ^ (w - 1) < 2 ^ w := Nat.pow_lt_pow_right (by omega) (by omega)
    by_cases e2 : (rng l e).hi < 2 ^ (w - 1)
    · rw [show Nat.blt (rng l e).hi (p2 (Nat.sub w 1)) = true from nblt_t e2] at hb
      refine bndLt_ok h hb ?_
      rw [hf, slt_iff hw (by omega) e1]; omega
    · rw [show Nat.blt (rng l e).hi (p2 (Nat.sub w 1)) = false from nblt_f e2] at hb
      by_cases e3 : (rng l e).hi < 2 ^ w
      · rw [show Nat.blt (rng l e).hi (p2 w) = true from nblt_t e3] at hb
        rw [slt_iff hw (by omega) e1] at hf
        cases neg with
        | true =>
          cases hb
          have : ¬ (e.ev σ < n ∨ 2 ^ (w - 1) ≤ e.ev σ) := fun x => by have := hf.2 x; cases this
          refine Bnd.mk_ok ?_
          rw [Nat.pred_eq_sub_one]
          show n ≤ e.ev σ ∧ e.ev σ ≤ 2 ^ (w - 1) - 1
          omega
        | false =>
          change bc (Nat.beq n 0) _ none = some b at hb
          cases e4 : Nat.beq n 0
          · rw [e4] at hb; cases hb
          · rw [e4] at hb; cases hb
            have := of_nbeq e4
            have := hf.1 rfl
            refine Bnd.mk_ok ?_
            show 2 ^ (w - 1) ≤ e.ev σ ∧ e.ev σ ≤ (rng l e).hi
            omega
      · rw [show Nat.blt (rng l e).hi (p2 w) = false from nblt_f e3] at hb; cases hb
  · rw [show Nat.blt n (p2 (Nat.sub w 1)) = false from nblt_f e1] at hb; cases hb
theorem bndGtS_ok {σ} {l : List Bnd} (h : ∀ b ∈ l, b.ok σ) {w : Nat} (hw : 0 < w) {neg : Bool} {e : Tm} {n : Nat} {b : Bnd} (hb : bndGtS w neg l e n = some b)
    (hf : neg = false ↔ Nat.blt ((n + 2 ^ (w - 1)) % 2 ^ w) ((e.ev σ + 2 ^ (w - 1)) % 2 ^ w) = true) : b.ok σ := by
  unfold bndGtS at hb
  have hr := rng_ok h e
  unfold In at hr
  by_cases e1 : n < 2 ^ (w - 1)
  · rw [show Nat.blt n (p2 (Nat.sub w 1)) = true from nblt_t e1] at hb
    change withB (rng l e) _ = some b at hb
    rw [withB_eq] at hb
    have hh : 2 ^ (w - 1) < 2 ^ w := Nat.pow_lt_pow_right (by omega) (by omega)
    by_cases e2 : (rng l e).hi < 2 ^ (w - 1)
    · rw [show Nat.blt (rng l e).hi (p2 (Nat.sub w 1)) = true from nblt_t e2] at hb
      refine bndGt_ok h hb ?_
      rw [hf, sgt_iff hw (by omega) e1]; omega
    · rw [show Nat.blt (rng l e).hi (p2 (Nat.sub w 1)) = false from nblt_f e2] at hb
      by_cases e3 : (rng l e).hi < 2 ^ w
      · rw [show Nat.blt (rng l e).hi (p2 w) = true from nblt_t e3] at hb
        rw [sgt_iff hw (by omega) e1] at hf
        cases neg with
        | true => cases hb
        | false =>
          cases hb
          have := hf.1 rfl
          refine Bnd.mk_ok ?_
          rw [Nat.pred_eq_sub_one]
          show n + 1 ≤ e.ev σ ∧ e.ev σ ≤ 2 ^ (w - 1) - 1
          omega
      · rw [show Nat.blt (rng l e).hi (p2 w) = false from nblt_f e3] at hb; cases hb
  · rw [show Nat.blt n (p2 (Nat.sub w 1)) = false from nblt_f e1] at hb; cases hb

noncomputable def oneOf (a b : Tm) (ka : Tm → Nat → Option Bnd) (kb : Tm → Nat → Option Bnd) : Option Bnd :=
  Option.rec (Option.rec none (fun n => kb b n) (isLit a)) (fun n => ka a n) (isLit b)
noncomputable def bnd2 (neg : Bool) (l : List Bnd) (o : O2) (w : Nat) (a b : Tm) : Option Bnd :=
  O2.rec none none none none none none none none none (oneOf a b (bndEq neg l) (bndEq neg l)) (oneOf a b (bndLt neg l) (bndGt neg l))
    (bc (Nat.blt 0 w) (oneOf a b (bndLtS w neg l) (bndGtS w neg l)) none) none none none none o
theorem oneOf_ok {P : Bnd → Prop} {a b : Tm} {ka kb : Tm → Nat → Option Bnd} {r : Bnd} (h : oneOf a b ka kb = some r) (ha : ∀ n, b = .lit n → ka a n = some r → P r) (hb : ∀ n, a = .lit n → kb b n = some r → P r) : P r := by
  unfold oneOf at h
  cases h1 : isLit b with
  | some n => rw [h1] at h; exact ha n (isLit_some h1) h
  | none =>
    rw [h1] at h
    cases h2 : isLit a with
    | some n => rw [h2] at h; exact hb n (isLit_some h2) h
    | none => rw [h2] at h; cases h
theorem b2n_nz {b : Bool} : b2n b ≠ 0 ↔ b = true := by cases b <;> simp [b2n]
theorem bnd2_ok {σ} {l : List Bnd} (h : ∀ b ∈ l, b.ok σ) {neg : Bool} {o : O2} {w : Nat} {a b : Tm} {r : Bnd} (hr : bnd2 neg l o w a b = some r) (hf : neg = false ↔ o.ev w (a.ev σ) (b.ev σ) ≠ 0) : r.ok σ := by
  cases o with
  | eq =>
    have hf : neg = false ↔ a.ev σ = b.ev σ := by
      rw [hf]; show b2n (Nat.beq _ _) ≠ 0 ↔ _; rw [b2n_nz]; exact ⟨of_nbeq, nbeq_t⟩
    refine oneOf_ok (P := fun r => r.ok σ) hr (fun n hb hr => bndEq_ok h hr ?_) (fun n ha hr => bndEq_ok h hr ?_)
    · rw [hf, hb, ev_lit]
    · rw [hf, ha, ev_lit]; exact eq_comm
  | ult =>
    have hf : neg = false ↔ a.ev σ < b.ev σ := by
      rw [hf]; show b2n (Nat.blt _ _) ≠ 0 ↔ _; rw [b2n_nz]; exact ⟨of_nblt, nblt_t⟩
    refine oneOf_ok (P := fun r => r.ok σ) hr (fun n hb hr => bndLt_ok h hr ?_) (fun n ha hr => bndGt_ok h hr ?_)
    · rw [hf, hb, ev_lit]
    · rw [hf, ha, ev_lit]
  | slt =>
    have hf : neg = false ↔ Nat.blt ((a.ev σ + 2 ^ (w - 1)) % 2 ^ w) ((b.ev σ + 2 ^ (w - 1)) % 2 ^ w) = true := by
      rw [hf]; show b2n (Nat.blt _ _) ≠ 0 ↔ _; rw [b2n_nz]; exact Iff.rfl
    change bc (Nat.blt 0 w) _ none = some r at hr
    by_cases hw : 0 < w
    · rw [nblt_t hw] at hr
      refine oneOf_ok (P := fun r => r.ok σ) hr (fun n hb hr => bndLtS_ok h hw hr ?_) (fun n ha hr => bndGtS_ok h hw hr ?_)
      · rw [hf, hb, ev_lit]
      · rw [hf, ha, ev_lit]
    · rw [nblt_f hw] at hr; cases hr
  | _ => cases hr

/-- What a fact says: the term is not 0. -/
noncomputable def asBnd (l : List Bnd) (t : Tm) : Option Bnd :=
  Tm.rec (fun _ => none) (fun _ _ => none)
    (fun o _ a _ => O1.rec none (fun _ => none) (Tm.rec (fun _ => some ⟨a, 0, 0⟩) (fun _ _ => some ⟨a, 0, 0⟩) (fun _ _ _ _ => some ⟨a, 0, 0⟩) (fun o w a b _ _ => bnd2 true l o w a b) (fun _ _ _ _ _ _ => some ⟨a, 0, 0⟩) a) o)
    (fun o w a b _ _ => bnd2 false l o w a b) (fun _ _ _ _ _ _ => none) t
theorem asBnd_ok {σ} {l : List Bnd} (h : ∀ b ∈ l, b.ok σ) {t : Tm} {r : Bnd} (hr : asBnd l t = some r) (ht : t.ev σ ≠ 0) : r.ok σ := by
  cases t with
  | un o w a =>
    cases o with
    | bnot =>
      have h0 : a.ev σ = 0 := by
        rw [ev_un] at ht
        change bc (Nat.beq (a.ev σ) 0) 1 0 ≠ 0 at ht
        by_cases e : a.ev σ = 0
        · exact e
        · rw [nbeq_f e] at ht; exact absurd rfl ht
      cases a with
      | bin o w a b => exact bnd2_ok h (neg := true) hr ⟨(fun x => by cases x), fun x => absurd h0 x⟩
      | _ => cases hr; exact ⟨Nat.zero_le _, Nat.le_of_eq h0⟩
    | _ => cases hr
  | bin o w a b => exact bnd2_ok h (neg := false) hr ⟨fun _ => ht, fun _ => rfl⟩
  | _ => cases hr

/-! ### Backwards: what a term's bounds say of its parts -/
noncomputable def consB (t : Tm) (lo hi : Nat) (l : List Bnd) : List Bnd := forceN lo fun lo => forceN hi fun hi => ⟨t, lo, hi⟩ :: l
theorem consB_eq (t : Tm) (lo hi : Nat) (l : List Bnd) : consB t lo hi l = ⟨t, lo, hi⟩ :: l := by unfold consB; rw [forceN_eq, forceN_eq]
noncomputable def backB (bl : List Bnd) (t : Tm) : Nat → Nat → List Bnd :=
  Tm.rec (motive := fun _ => Nat → Nat → List Bnd) (fun _ _ _ => []) (fun i w lo hi => consB (.var i w) lo hi [])
    (fun o w a ih lo hi => consB (.un o w a) lo hi (withB (rng bl a) fun r => O1.rec (bc (Nat.blt r.hi (p2 w)) (ih lo hi) []) (fun ws => bc (Nat.blt r.hi (p2 (Nat.sub ws 1))) (ih lo hi) []) [] o))
    (fun o w a b iha ihb lo hi => consB (.bin o w a b) lo hi (O2.rec
      (Option.rec (Option.rec [] (fun c => withB (rng bl b) fun r => bc (Nat.blt (Nat.add c r.hi) (p2 w)) (ihb (Nat.sub lo c) (Nat.sub hi c)) []) (isLit a)) (fun c => withB (rng bl a) fun r => bc (Nat.blt (Nat.add r.hi c) (p2 w)) (iha (Nat.sub lo c) (Nat.sub hi c)) []) (isLit b))
      (Option.rec [] (fun c => withB (rng bl a) fun r => bc (Nat.ble c r.lo) (bc (Nat.blt r.hi (p2 w)) (iha (Nat.add lo c) (Nat.add hi c)) []) []) (isLit b))
      [] [] [] [] [] [] [] [] [] [] [] [] [] [] o))
    (fun c a b _ _ _ lo hi => consB (.ite c a b) lo hi []) t
theorem backB_ok {σ} {bl : List Bnd} (h : ∀ b ∈ bl, b.ok σ) (t : Tm) : ∀ {lo hi : Nat}, lo ≤ t.ev σ ∧ t.ev σ ≤ hi → ∀ b ∈ backB bl t lo hi, b.ok σ := by
  have cons : ∀ {t : Tm} {lo hi : Nat} {l : List Bnd}, lo ≤ t.ev σ ∧ t.ev σ ≤ hi → (∀ b ∈ l, b.ok σ) → ∀ b ∈ consB t lo hi l, b.ok σ := by
    intro t lo hi l ht hl b hb
    rw [consB_eq] at hb
    rcases List.mem_cons.1 hb with rfl | hb
    · exact ht
    · exact hl b hb
  have nil : ∀ b ∈ ([] : List Bnd), b.ok σ := fun b hb => by cases hb
  induction t with
  | lit n => intro lo hi _; exact nil
  | var i w => intro lo hi ht; exact cons ht nil
  | un o w a ih =>
    intro lo hi ht
    refine cons ht ?_
    rw [withB_eq]
    have hr := rng_ok h a
    unfold In at hr
    rw [ev_un] at ht
    cases o with
    | tr =>
      show ∀ b ∈ bc (Nat.blt (rng bl a).hi (p2 w)) (backB bl a lo hi) [], b.ok σ
      by_cases e : (rng bl a).hi < 2 ^ w
      · rw [show Nat.blt (rng bl a).hi (p2 w) = true from nblt_t e]
        refine ih ?_
        change lo ≤ a.ev σ % 2 ^ w ∧ a.ev σ % 2 ^ w ≤ hi at ht
        rw [Nat.mod_eq_of_lt (by omega)] at ht; exact ht
      · rw [show Nat.blt (rng bl a).hi (p2 w) = false from nblt_f e]; exact nil
    | sx ws =>
      show ∀ b ∈ bc (Nat.blt (rng bl a).hi (p2 (Nat.sub ws 1))) (backB bl a lo hi) [], b.ok σ
      by_cases e : (rng bl a).hi < 2 ^ (ws - 1)
      · rw [show Nat.blt (rng bl a).hi (p2 (Nat.sub ws 1)) = true from nblt_t e]
        refine ih ?_
        change lo ≤ bc (Nat.blt (a.ev σ) (2 ^ (ws - 1))) (a.ev σ) _ ∧ bc (Nat.blt (a.ev σ) (2 ^ (ws - 1))) (a.ev σ) _ ≤ hi at ht
        rw [nblt_t (by omega)] at ht; exact ht
      · rw [show Nat.blt (rng bl a).hi (p2 (Nat.sub ws 1)) = false from nblt_f e]; exact nil
    | bnot => exact nil
  | bin o w a b iha ihb =>
    intro lo hi ht
    refine cons ht ?_
    rw [ev_bin] at ht
    cases o with
    | add =>
      change lo ≤ (a.ev σ + b.ev σ) % 2 ^ w ∧ (a.ev σ + b.ev σ) % 2 ^ w ≤ hi at ht
      cases hb : isLit b with
      | some c =>
        show ∀ b ∈ withB (rng bl a) (fun r => bc (Nat.blt (Nat.add r.hi c) (p2 w)) (backB bl a (Nat.sub lo c) (Nat.sub hi c)) []), b.ok σ
        rw [withB_eq]
        have hr := rng_ok h a
        unfold In at hr
        rw [isLit_some hb, ev_lit] at ht
        by_cases e : (rng bl a).hi + c < 2 ^ w
        · rw [show Nat.blt (Nat.add (rng bl a).hi c) (p2 w) = true from nblt_t e]
          refine iha ?_
          rw [Nat.mod_eq_of_lt (by omega)] at ht
          show lo - c ≤ _ ∧ _ ≤ hi - c
          omega
        · rw [show Nat.blt (Nat.add (rng bl a).hi c) (p2 w) = false from nblt_f e]; exact nil
      | none =>
        cases ha : isLit a with
        | some c =>
          show ∀ x ∈ withB (rng bl b) (fun r => bc (Nat.blt (Nat.add c r.hi) (p2 w)) (backB bl b (Nat.sub lo c) (Nat.sub hi c)) []), x.ok σ
          rw [withB_eq]
          have hr := rng_ok h b
          unfold In at hr
          rw [isLit_some ha, ev_lit] at ht
          by_cases e : c + (rng bl b).hi < 2 ^ w
          · rw [show Nat.blt (Nat.add c (rng bl b).hi) (p2 w) = true from nblt_t e]
            refine ihb ?_
            rw [Nat.mod_eq_of_lt (by omega)] at ht
            show lo - c ≤ _ ∧ _ ≤ hi - c
            omega
          · rw [show Nat.blt (Nat.add c (rng bl b).hi) (p2 w) = false from nblt_f e]; exact nil
        | none => exact nil
    | sub =>
      change lo ≤ (a.ev σ + (2 ^ w - b.ev σ % 2 ^ w)) % 2 ^ w ∧ (a.ev σ + (2 ^ w - b.ev σ % 2 ^ w)) % 2 ^ w ≤ hi at ht
      cases hb : isLit b with
      | some c =>
        show ∀ b ∈ withB (rng bl a) (fun r => bc (Nat.ble c r.lo) (bc (Nat.blt r.hi (p2 w)) (backB bl a (Nat.add lo c) (Nat.add hi c)) []) []), b.ok σ
        rw [withB_eq]
        have hr := rng_ok h a
        unfold In at hr
        rw [isLit_some hb, ev_lit] at ht
        by_cases e : c ≤ (rng bl a).lo
        · rw [nble_t e]
          by_cases e2 : (rng bl a).hi < 2 ^ w
          · rw [show Nat.blt (rng bl a).hi (p2 w) = true from nblt_t e2]
            refine iha ?_
            rw [Nat.mod_eq_of_lt (show c < 2 ^ w by omega), show a.ev σ + (2 ^ w - c) = (a.ev σ - c) + 2 ^ w by omega, Nat.add_mod_right, Nat.mod_eq_of_lt (by omega)] at ht
            show lo + c ≤ _ ∧ _ ≤ hi + c
            omega
          · rw [show Nat.blt (rng bl a).hi (p2 w) = false from nblt_f e2]; exact nil
        · rw [nble_f e]; exact nil
      | none => exact nil
    | _ => exact nil
  | ite c a b _ _ _ => intro lo hi ht; exact cons ht nil

end Go.Sx
end

section
/- The bits of a term, each a number: 0, 1, 2 where nobody knows, from 4 on the bit of a variable, or, odd, its opposite. -/
namespace Go.Sx

/-- Bit k of variable i. -/
noncomputable def bitLit (i k : Nat) : Nat := Nat.add 4 (Nat.mul 2 (Nat.add (Nat.mul i 64) k))
noncomputable def bden (σ : Nat → Nat) (n : Nat) : Bool := ((σ ((n - 4) / 2 / 64)).testBit ((n - 4) / 2 % 64)) != (n % 2 == 1)
def Bok (σ : Nat → Nat) (n : Nat) (b : Bool) : Prop := (n = 0 → b = false) ∧ (n = 1 → b = true) ∧ n ≠ 3 ∧ (4 ≤ n → b = bden σ n)

theorem Bok.zero {σ} : Bok σ 0 false := ⟨fun _ => rfl, (fun h => by cases h), by decide, fun h => by omega⟩
theorem Bok.one {σ} : Bok σ 1 true := ⟨(fun h => by cases h), fun _ => rfl, by decide, fun h => by omega⟩
theorem Bok.top {σ b} : Bok σ 2 b := ⟨(fun h => by cases h), (fun h => by cases h), by decide, fun h => by omega⟩
theorem Bok.of0 {σ b} (h : Bok σ 0 b) : b = false := h.1 rfl
theorem Bok.of1 {σ b} (h : Bok σ 1 b) : b = true := h.2.1 rfl
theorem Bok.lit {σ} {i k : Nat} (hk : k < 64) : Bok σ (bitLit i k) ((σ i).testBit k) := by
  unfold bitLit
  show Bok σ (4 + 2 * (i * 64 + k)) _
  refine ⟨fun h => by omega, fun h => by omega, by omega, fun _ => ?_⟩
  unfold bden
  rw [show (4 + 2 * (i * 64 + k) - 4) / 2 / 64 = i by omega, show (4 + 2 * (i * 64 + k) - 4) / 2 % 64 = k by omega, show (4 + 2 * (i * 64 + k)) % 2 = 0 by omega]
  simp
/-- Two that are the same number, and known, are the same bit. -/
theorem Bok.same {σ n a b} (h : n ≠ 2) (ha : Bok σ n a) (hb : Bok σ n b) : a = b := by
  by_cases h0 : n = 0
  · rw [ha.1 h0, hb.1 h0]
  · by_cases h1 : n = 1
    · rw [ha.2.1 h1, hb.2.1 h1]
    · have h3 := ha.2.2.1
      rw [ha.2.2.2 (by omega), hb.2.2.2 (by omega)]

noncomputable def bNeg (a : Nat) : Nat := bc (Nat.beq a 2) 2 (Nat.xor a 1)
theorem xor1 (a : Nat) : a ^^^ 1 = if a % 2 = 0 then a + 1 else a - 1 := by
  split
  · rename_i h
    apply Nat.eq_of_testBit_eq
    intro i
    rw [Nat.testBit_xor]
    obtain ⟨m, rfl⟩ : ∃ m, a = 2 * m := ⟨a / 2, by omega⟩
    cases i with
    | zero => simp
    | succ i =>
      rw [Nat.testBit_succ, Nat.testBit_succ, Nat.testBit_succ]
      rw [show (2 * m + 1) / 2 = m by omega, show 2 * m / 2 = m by omega]; simp
  · rename_i h
    apply Nat.eq_of_testBit_eq
    intro i
    rw [Nat.testBit_xor]
    obtain ⟨m, rfl⟩ : ∃ m, a = 2 * m + 1 := ⟨a / 2, by omega⟩
    cases i with
    | zero => simp
    | succ i =>
      rw [Nat.testBit_succ, Nat.testBit_succ, Nat.testBit_succ]
      rw [show (2 * m + 1) / 2 = m by omega, show (2 * m + 1 - 1) / 2 = m by omega]; simp
theorem bden_xor1 {σ} {n : Nat} (h : 4 ≤ n) : bden σ (n ^^^ 1) = !bden σ n := by
  unfold bden
  rw [xor1]
  split
  · rename_i h2
    rw [show (n + 1 - 4) / 2 = (n - 4) / 2 by omega, show (n + 1) % 2 = 1 by omega, h2]
    cases (σ ((n - 4) / 2 / 64)).testBit ((n - 4) / 2 % 64) <;> rfl
  · rename_i h2
    rw [show (n - 1 - 4) / 2 = (n - 4) / 2 by omega, show (n - 1) % 2 = 0 by omega, show n % 2 = 1 by omega]
    cases (σ ((n - 4) / 2 / 64)).testBit ((n - 4) / 2 % 64) <;> rfl
theorem bNeg_ok {σ n b} (h : Bok σ n b) : Bok σ (bNeg n) (!b) := by
  unfold bNeg
  by_cases h2 : n = 2
  · rw [nbeq_t h2]; exact Bok.top
  · rw [nbeq_f h2]
    show Bok σ (n ^^^ 1) (!b)
    by_cases h0 : n = 0
    · subst h0; rw [h.of0]; exact Bok.one
    · by_cases h1 : n = 1
      · subst h1; rw [h.of1]; exact Bok.zero
      · have h3 := h.2.2.1
        have h4 : 4 ≤ n := by omega
        have hx := xor1 n
        refine ⟨fun e => ?_, fun e => ?_, ?_, fun _ => ?_⟩
        · rw [e] at hx; split at hx <;> omega
        · rw [e] at hx; split at hx <;> omega
        · intro e; rw [e] at hx; split at hx <;> omega
        · rw [bden_xor1 h4, h.2.2.2 h4]

/-- Two numbers known to be opposite bits. -/
noncomputable def bOpp (a b : Nat) : Bool := bc (Nat.beq a 2) false (bc (Nat.beq b 2) false (Nat.beq (Nat.xor a 1) b))
theorem bOpp_ok {σ m n a b} (ha : Bok σ m a) (hb : Bok σ n b) (h : bOpp m n = true) : b = !a := by
  unfold bOpp at h
  by_cases h1 : m = 2
  · rw [nbeq_t h1] at h; cases h
  · rw [nbeq_f h1] at h
    by_cases h2 : n = 2
    · rw [nbeq_t h2] at h; cases h
    · rw [nbeq_f h2] at h
      have h3 := of_nbeq h
      have := bNeg_ok ha
      unfold bNeg at this
      rw [nbeq_f h1] at this
      change Bok σ (Nat.xor m 1) _ at this
      rw [h3] at this
      exact Bok.same h2 hb this
noncomputable def bAnd (a b : Nat) : Nat := bc (Nat.beq a 0) 0 (bc (Nat.beq b 0) 0 (bc (Nat.beq a 1) b (bc (Nat.beq b 1) a (bc (Nat.beq a b) a (bc (bOpp a b) 0 2)))))
theorem bAnd_ok {σ m n a b} (ha : Bok σ m a) (hb : Bok σ n b) : Bok σ (bAnd m n) (a && b) := by
  unfold bAnd
  by_cases h1 : m = 0
  · rw [nbeq_t h1]; subst h1; rw [ha.of0]; exact Bok.zero
  · rw [nbeq_f h1]
    by_cases h2 : n = 0
    · rw [nbeq_t h2]; subst h2; rw [hb.of0, Bool.and_false]; exact Bok.zero
    · rw [nbeq_f h2]
      by_cases h3 : m = 1
      · rw [nbeq_t h3]; subst h3; rw [ha.of1, Bool.true_and]; exact hb
      · rw [nbeq_f h3]
        by_cases h4 : n = 1
        · rw [nbeq_t h4]; subst h4; rw [hb.of1, Bool.and_true]; exact ha
        · rw [nbeq_f h4]
          by_cases h5 : m = n
          · rw [nbeq_t h5]; subst h5
            by_cases h6 : m = 2
            · subst h6; exact Bok.top
            · rw [Bok.same h6 ha hb, Bool.and_self]; exact hb
          · rw [nbeq_f h5]
            cases h6 : bOpp m n
            · exact Bok.top
            · rw [bOpp_ok ha hb h6]; cases a <;> exact Bok.zero
noncomputable def bOr (a b : Nat) : Nat := bc (Nat.beq a 1) 1 (bc (Nat.beq b 1) 1 (bc (Nat.beq a 0) b (bc (Nat.beq b 0) a (bc (Nat.beq a b) a (bc (bOpp a b) 1 2)))))
theorem bOr_ok {σ m n a b} (ha : Bok σ m a) (hb : Bok σ n b) : Bok σ (bOr m n) (a || b) := by
  unfold bOr
  by_cases h1 : m = 1
  · rw [nbeq_t h1]; subst h1; rw [ha.of1]; exact Bok.one
  · rw [nbeq_f h1]
    by_cases h2 : n = 1
    · rw [nbeq_t h2]; subst h2; rw [hb.of1, Bool.or_true]; exact Bok.one
    · rw [nbeq_f h2]
      by_cases h3 : m = 0
      · rw [nbeq_t h3]; subst h3; rw [ha.of0, Bool.false_or]; exact hb
      · rw [nbeq_f h3]
        by_cases h4 : n = 0
        · rw [nbeq_t h4]; subst h4; rw [hb.of0, Bool.or_false]; exact ha
        · rw [nbeq_f h4]
          by_cases h5 : m = n
          · rw [nbeq_t h5]; subst h5
            by_cases h6 : m = 2
            · subst h6; exact Bok.top
            · rw [Bok.same h6 ha hb, Bool.or_self]; exact hb
          · rw [nbeq_f h5]
            cases h6 : bOpp m n
            · exact Bok.top
            · rw [bOpp_ok ha hb h6]; cases a <;> exact Bok.one
noncomputable def bXor (a b : Nat) : Nat := bc (Nat.beq a 0) b (bc (Nat.beq b 0) a (bc (Nat.beq a 1) (bNeg b) (bc (Nat.beq b 1) (bNeg a) (bc (Nat.beq a b) (bc (Nat.beq a 2) 2 0) (bc (bOpp a b) 1 2)))))
theorem bXor_ok {σ m n a b} (ha : Bok σ m a) (hb : Bok σ n b) : Bok σ (bXor m n) (a ^^ b) := by
  unfold bXor
  by_cases h1 : m = 0
  · rw [nbeq_t h1]; subst h1; rw [ha.of0, Bool.false_xor]; exact hb
  · rw [nbeq_f h1]
    by_cases h2 : n = 0
    · rw [nbeq_t h2]; subst h2; rw [hb.of0, Bool.xor_false]; exact ha
    · rw [nbeq_f h2]
      by_cases h3 : m = 1
      · rw [nbeq_t h3]; subst h3; rw [ha.of1, Bool.true_xor]; exact bNeg_ok hb
      · rw [nbeq_f h3]
        by_cases h4 : n = 1
        · rw [nbeq_t h4]; subst h4; rw [hb.of1, Bool.xor_true]; exact bNeg_ok ha
        · rw [nbeq_f h4]
          by_cases h5 : m = n
          · rw [nbeq_t h5]; subst h5
            by_cases h6 : m = 2
            · rw [nbeq_t h6]; exact Bok.top
            · rw [nbeq_f h6, Bok.same h6 ha hb, Bool.xor_self]; exact Bok.zero
          · rw [nbeq_f h5]
            cases h6 : bOpp m n
            · exact Bok.top
            · rw [bOpp_ok ha hb h6]; cases a <;> exact Bok.one
/-- The carry. -/
noncomputable def bMaj (a b c : Nat) : Nat := bOr (bAnd a b) (bAnd c (bOr a b))
theorem bMaj_ok {σ m n p a b c} (ha : Bok σ m a) (hb : Bok σ n b) (hc : Bok σ p c) : Bok σ (bMaj m n p) ((a && b) || (c && (a || b))) := bOr_ok (bAnd_ok ha hb) (bAnd_ok hc (bOr_ok ha hb))
noncomputable def bMrg (a b : Nat) : Nat := bc (Nat.beq a b) a 2

/-! ### Lists of bits, the lowest first; what is not there is 0 -/
noncomputable def getB (l : List Nat) (k : Nat) : Nat := l.getD k 0
def Lok (σ : Nat → Nat) (l : List Nat) (x : Nat) : Prop := ∀ k, Bok σ (l.getD k 0) (x.testBit k)
theorem Lok.nil {σ} : Lok σ [] 0 := fun k => by simp; exact Bok.zero
theorem Lok.head {σ n l x} (h : Lok σ (n :: l) x) : Bok σ n (x.testBit 0) := h 0
theorem Lok.tail {σ n l x} (h : Lok σ (n :: l) x) : Lok σ l (x / 2) := fun k => by
  have := h (k + 1); rw [Nat.testBit_succ] at this; exact this
theorem Lok.cons {σ n l x} (h : Bok σ n (x.testBit 0)) (t : Lok σ l (x / 2)) : Lok σ (n :: l) x := fun k => by
  cases k with
  | zero => exact h
  | succ k => rw [Nat.testBit_succ]; exact t k
theorem Lok.nil0 {σ x} (h : Lok σ [] x) : x = 0 := Nat.eq_of_testBit_eq fun i => by
  rw [(h i : Bok σ 0 _).of0, Nat.zero_testBit]
theorem Lok.ext {σ l x y} (h : Lok σ l x) (e : x = y) : Lok σ l y := e ▸ h

noncomputable def mapB (f : Nat → Nat) (l : List Nat) : List Nat := List.rec [] (fun a _ ih => forceN (f a) fun x => x :: ih) l
noncomputable def zipB (f : Nat → Nat → Nat) (l : List Nat) : List Nat → List Nat :=
  List.rec (motive := fun _ => List Nat → List Nat) (fun m => mapB (f 0) m) (fun a _ ih m => List.rec (forceN (f a 0) fun x => x :: ih []) (fun b m' _ => forceN (f a b) fun x => x :: ih m') m) l
theorem mapB_get {f : Nat → Nat} (hf : f 0 = 0) : ∀ (l : List Nat) (k : Nat), (mapB f l).getD k 0 = f (l.getD k 0)
  | [], k => by show ([] : List Nat).getD k 0 = _; simp [hf]
  | a :: l, k => by
    show (forceN (f a) fun x => x :: mapB f l).getD k 0 = _
    rw [forceN_eq]
    cases k with
    | zero => rfl
    | succ k => exact mapB_get hf l k
theorem zipB_get {f : Nat → Nat → Nat} (hf : f 0 0 = 0) : ∀ (l m : List Nat) (k : Nat), (zipB f l m).getD k 0 = f (l.getD k 0) (m.getD k 0)
  | [], m, k => mapB_get (f := f 0) hf m k
  | a :: l, [], k => by
    show (forceN (f a 0) fun x => x :: zipB f l []).getD k 0 = _
    rw [forceN_eq]
    cases k with
    | zero => rfl
    | succ k => exact zipB_get hf l [] k
  | a :: l, b :: m, k => by
    show (forceN (f a b) fun x => x :: zipB f l m).getD k 0 = _
    rw [forceN_eq]
    cases k with
    | zero => rfl
    | succ k => exact zipB_get hf l m k
theorem and_ok {σ l m x y} (hx : Lok σ l x) (hy : Lok σ m y) : Lok σ (zipB bAnd l m) (x &&& y) := fun k => by
  rw [zipB_get (by rfl), Nat.testBit_and]; exact bAnd_ok (hx k) (hy k)
theorem or_ok {σ l m x y} (hx : Lok σ l x) (hy : Lok σ m y) : Lok σ (zipB bOr l m) (x ||| y) := fun k => by
  rw [zipB_get (by rfl), Nat.testBit_or]; exact bOr_ok (hx k) (hy k)
theorem xor_ok {σ l m x y} (hx : Lok σ l x) (hy : Lok σ m y) : Lok σ (zipB bXor l m) (x ^^^ y) := fun k => by
  rw [zipB_get (by rfl), Nat.testBit_xor]; exact bXor_ok (hx k) (hy k)
theorem mrg_ok {σ l m x} (h : Lok σ l x ∨ Lok σ m x) : Lok σ (zipB bMrg l m) x := fun k => by
  rw [zipB_get (by rfl)]
  unfold bMrg
  by_cases e : l.getD k 0 = m.getD k 0
  · rw [nbeq_t e]
    rcases h with h | h
    · exact h k
    · have := h k; rw [← e] at this; exact this
  · rw [nbeq_f e]; exact Bok.top

/-! ### Shifts -/
noncomputable def takeB (n : Nat) (l : List Nat) : List Nat := Nat.rec (motive := fun _ => List Nat → List Nat) (fun _ => []) (fun _ ih l => List.rec [] (fun a l' _ => a :: ih l') l) n l
noncomputable def dropB (n : Nat) (l : List Nat) : List Nat := Nat.rec (motive := fun _ => List Nat → List Nat) (fun l => l) (fun _ ih l => List.rec [] (fun _ l' _ => ih l') l) n l
noncomputable def zerosB (n : Nat) (l : List Nat) : List Nat := Nat.rec l (fun _ ih => 0 :: ih) n
noncomputable def topsB (n : Nat) : List Nat := Nat.rec [] (fun _ ih => 2 :: ih) n
theorem takeB_ok {σ} : ∀ {n : Nat} {l : List Nat} {x : Nat}, Lok σ l x → Lok σ (takeB n l) (x % 2 ^ n)
  | 0, l, x, _ => by rw [Nat.pow_zero, Nat.mod_one]; exact Lok.nil
  | n + 1, [], x, h => by rw [h.nil0, Nat.zero_mod]; exact Lok.nil
  | n + 1, a :: l, x, h => by
    show Lok σ (a :: takeB n l) _
    refine Lok.cons ?_ ?_
    · rw [Nat.testBit_mod_two_pow]
      have := h.head
      simp only [Nat.zero_lt_succ, decide_true, Bool.true_and]; exact this
    · have := takeB_ok (n := n) h.tail
      refine this.ext ?_
      rw [Nat.pow_succ, Nat.mul_comm, Nat.mod_mul_right_div_self]
theorem dropB_ok {σ} : ∀ {n : Nat} {l : List Nat} {x : Nat}, Lok σ l x → Lok σ (dropB n l) (x / 2 ^ n)
  | 0, l, x, h => by rw [Nat.pow_zero, Nat.div_one]; exact h
  | n + 1, [], x, h => by rw [h.nil0, Nat.zero_div]; exact Lok.nil
  | n + 1, a :: l, x, h => by
    show Lok σ (dropB n l) _
    refine (dropB_ok (n := n) h.tail).ext ?_
    rw [Nat.div_div_eq_div_mul, Nat.pow_succ, Nat.mul_comm]
theorem zerosB_ok {σ} : ∀ {n : Nat} {l : List Nat} {x : Nat}, Lok σ l x → Lok σ (zerosB n l) (x * 2 ^ n)
  | 0, l, x, h => by rw [Nat.pow_zero, Nat.mul_one]; exact h
  | n + 1, l, x, h => by
    show Lok σ (0 :: zerosB n l) _
    have e : x * 2 ^ (n + 1) = 2 * (x * 2 ^ n) := by rw [Nat.pow_succ, ← Nat.mul_assoc]; omega
    refine Lok.cons ?_ ?_
    · rw [e]
      have : (2 * (x * 2 ^ n)).testBit 0 = false := by simp [Nat.testBit_zero]
      rw [this]; exact Bok.zero
    · refine (zerosB_ok (n := n) h).ext ?_
      rw [e]; omega
theorem topsB_get (n k : Nat) : (topsB n).getD k 0 = if k < n then 2 else 0 := by
  induction n generalizing k with
  | zero => rfl
  | succ n ih =>
    show (2 :: topsB n).getD k 0 = _
    cases k with
    | zero => rfl
    | succ k =>
      rw [List.getD_cons_succ, ih]
      by_cases e : k < n
      · rw [if_pos e, if_pos (by omega)]
      · rw [if_neg e, if_neg (by omega)]
theorem tops_ok {σ} {n x : Nat} (h : x < 2 ^ n) : Lok σ (topsB n) x := fun k => by
  rw [topsB_get]
  split
  · exact Bok.top
  · rename_i hk
    rw [Nat.testBit_lt_two_pow (Nat.lt_of_lt_of_le h (pow_le (by omega)))]; exact Bok.zero
/-- The bits of a number, where it has at most so many. -/
noncomputable def litB (n : Nat) (fuel : Nat) : List Nat := Nat.rec (motive := fun _ => Nat → List Nat) (fun _ => []) (fun _ ih n => bc (Nat.beq n 0) [] (forceN (Nat.mod n 2) fun b => b :: ih (Nat.div n 2))) fuel n
theorem litB_ok {σ} : ∀ {fuel n : Nat}, n < 2 ^ fuel → Lok σ (litB n fuel) n
  | 0, n, h => by rw [show n = 0 by simpa using h]; exact Lok.nil
  | fuel + 1, n, h => by
    show Lok σ (bc (Nat.beq n 0) [] (forceN (Nat.mod n 2) fun b => b :: litB (Nat.div n 2) fuel)) n
    by_cases e : n = 0
    · rw [nbeq_t e]; subst e; exact Lok.nil
    · rw [nbeq_f e]
      show Lok σ (forceN (Nat.mod n 2) fun b => b :: litB (Nat.div n 2) fuel) n
      rw [forceN_eq]
      refine Lok.cons ?_ (litB_ok (fuel := fuel) (n := n / 2) ?_)
      · rw [Nat.testBit_zero]
        have : n % 2 = 0 ∨ n % 2 = 1 := by omega
        rcases this with h | h
        · rw [show Nat.mod n 2 = 0 from h, h]; exact Bok.zero
        · rw [show Nat.mod n 2 = 1 from h, h]; exact Bok.one
      · rw [Nat.pow_succ] at h; omega
/-- Bits of a variable, as far as they are known. -/
structure KV where
  i : Nat
  ones : Nat
  zeros : Nat
def KV.ok (σ : Nat → Nat) (v : KV) : Prop := ∀ k, (v.ones.testBit k = true → (σ v.i).testBit k = true) ∧ (v.zeros.testBit k = true → (σ v.i).testBit k = false)
noncomputable def tb (n k : Nat) : Bool := Nat.beq (Nat.mod (Nat.div n (p2 k)) 2) 1
theorem tb_eq (n k : Nat) : tb n k = n.testBit k := by
  show Nat.beq (n / 2 ^ k % 2) 1 = _
  rw [Nat.testBit_eq_decide_div_mod_eq]
  by_cases h : n / 2 ^ k % 2 = 1
  · rw [nbeq_t h, h]; rfl
  · rw [nbeq_f h]; exact (decide_eq_false h).symm
noncomputable def kvAt (l : List KV) (i k : Nat) : Nat := List.rec (bitLit i k) (fun v _ ih => bc (Nat.beq v.i i) (bc (tb v.ones k) 1 (bc (tb v.zeros k) 0 ih)) ih) l
theorem kvAt_ok {σ} {l : List KV} (h : ∀ v ∈ l, v.ok σ) {i k : Nat} (hk : k < 64) : Bok σ (kvAt l i k) ((σ i).testBit k) := by
  induction l with
  | nil => exact Bok.lit hk
  | cons v l ih =>
    have ih := ih fun x hx => h x (List.mem_cons_of_mem _ hx)
    have hv := h v List.mem_cons_self
    show Bok σ (bc (Nat.beq v.i i) (bc (tb v.ones k) 1 (bc (tb v.zeros k) 0 (kvAt l i k))) (kvAt l i k)) _
    cases h1 : Nat.beq v.i i
    · exact ih
    · have e := of_nbeq h1
      unfold KV.ok at hv
      rw [e] at hv
      rw [tb_eq, tb_eq]
      cases h2 : v.ones.testBit k
      · cases h3 : v.zeros.testBit k
        · exact ih
        · rw [(hv k).2 h3]; exact Bok.zero
      · rw [(hv k).1 h2]; exact Bok.one
noncomputable def varB (l : List KV) (i : Nat) (k n : Nat) : List Nat := Nat.rec (motive := fun _ => Nat → List Nat) (fun _ => []) (fun _ ih k => forceN (kvAt l i k) fun b => b :: ih (Nat.succ k)) n k
theorem varB_get {l : List KV} {i : Nat} : ∀ {n k j : Nat}, (varB l i k n).getD j 0 = if j < n then kvAt l i (k + j) else 0
  | 0, k, j => rfl
  | n + 1, k, j => by
    show (forceN (kvAt l i k) fun b => b :: varB l i (Nat.succ k) n).getD j 0 = _
    rw [forceN_eq]
    cases j with
    | zero => rfl
    | succ j =>
      rw [List.getD_cons_succ, varB_get (n := n)]
      by_cases e : j < n
      · rw [if_pos e, if_pos (by omega), show k.succ + j = k + (j + 1) by omega]
      · rw [if_neg e, if_neg (by omega)]
theorem varB_ok {σ} {l : List KV} (h : ∀ v ∈ l, v.ok σ) {i w : Nat} (hw : w ≤ 64) : Lok σ (varB l i 0 w) (σ i % 2 ^ w) := fun k => by
  rw [varB_get, Nat.testBit_mod_two_pow]
  by_cases e : k < w
  · rw [if_pos e, Nat.zero_add, decide_eq_true e, Bool.true_and]; exact kvAt_ok h (by omega)
  · rw [if_neg e, decide_eq_false e, Bool.false_and]; exact Bok.zero

/-! ### Sums -/
noncomputable def getH (l : List Nat) : Nat := List.rec 0 (fun a _ _ => a) l
noncomputable def addB (n : Nat) : List Nat → List Nat → Nat → List Nat :=
  Nat.rec (motive := fun _ => List Nat → List Nat → Nat → List Nat) (fun _ _ _ => [])
    (fun _ ih l m c => forceN (getH l) fun a => forceN (getH m) fun b => forceN (bXor (bXor a b) c) fun s => forceN (bMaj a b c) fun c' => s :: ih (dropB 1 l) (dropB 1 m) c') n
theorem getH_ok {σ} {l : List Nat} {x : Nat} (h : Lok σ l x) : Bok σ (getH l) (x.testBit 0) := by
  cases l with
  | nil => exact h 0
  | cons a l => exact h.head
theorem b2n_eq (b : Bool) : b2n b = b.toNat := by cases b <;> rfl
theorem addB_ok {σ} : ∀ {n : Nat} {l m : List Nat} {c x y : Nat} {b : Bool}, Lok σ l x → Lok σ m y → Bok σ c b → Lok σ (addB n l m c) ((x + y + b.toNat) % 2 ^ n)
  | 0, l, m, c, x, y, b, _, _, _ => by rw [Nat.pow_zero, Nat.mod_one]; exact Lok.nil
  | n + 1, l, m, c, x, y, b, hx, hy, hc => by
    show Lok σ (forceN (getH l) fun a => forceN (getH m) fun b => forceN (bXor (bXor a b) c) fun s => forceN (bMaj a b c) fun c' => s :: addB n (dropB 1 l) (dropB 1 m) c') _
    rw [forceN_eq, forceN_eq, forceN_eq, forceN_eq]
    have h1 := getH_ok hx
    have h2 := getH_ok hy
    refine Lok.cons ?_ ?_
    · have : ((x + y + b.toNat) % 2 ^ (n + 1)).testBit 0 = ((x.testBit 0 ^^ y.testBit 0) ^^ b) := by
        rw [Nat.testBit_mod_two_pow, Nat.testBit_zero, Nat.testBit_zero, Nat.testBit_zero]
        simp only [Nat.zero_lt_succ, decide_true, Bool.true_and]
        have hx2 : x % 2 = 0 ∨ x % 2 = 1 := by omega
        have hy2 : y % 2 = 0 ∨ y % 2 = 1 := by omega
        cases b <;> rcases hx2 with hx2 | hx2 <;> rcases hy2 with hy2 | hy2 <;> simp [Nat.add_mod, hx2, hy2]
      rw [this]; exact bXor_ok (bXor_ok h1 h2) hc
    · have h3 := addB_ok (n := n) (dropB_ok (n := 1) hx) (dropB_ok (n := 1) hy) (bMaj_ok h1 h2 hc)
      refine h3.ext ?_
      rw [show (x + y + b.toNat) % 2 ^ (n + 1) / 2 = (x + y + b.toNat) / 2 % 2 ^ n by rw [Nat.pow_succ, Nat.mul_comm, Nat.mod_mul_right_div_self]]
      congr 1
      rw [Nat.pow_one, Nat.testBit_zero, Nat.testBit_zero]
      have hx2 : x % 2 = 0 ∨ x % 2 = 1 := by omega
      have hy2 : y % 2 = 0 ∨ y % 2 = 1 := by omega
      cases b <;> rcases hx2 with hx2 | hx2 <;> rcases hy2 with hy2 | hy2 <;> simp [hx2, hy2] <;> omega
noncomputable def negB (w : Nat) (l : List Nat) : List Nat := Nat.rec (motive := fun _ => List Nat → List Nat) (fun _ => []) (fun _ ih l => forceN (bNeg (getH l)) fun b => b :: ih (dropB 1 l)) w l
theorem negB_ok {σ} : ∀ {n : Nat} {l : List Nat} {x : Nat}, Lok σ l x → Lok σ (negB n l) (2 ^ n - 1 - x % 2 ^ n)
  | 0, l, x, _ => by rw [show 2 ^ 0 - 1 - x % 2 ^ 0 = 0 by simp]; exact Lok.nil
  | n + 1, l, x, h => by
    show Lok σ (forceN (bNeg (getH l)) fun b => b :: negB n (dropB 1 l)) _
    rw [forceN_eq]
    have hp := Nat.two_pow_pos n
    have e1 : x % 2 ^ (n + 1) = 2 * (x / 2 % 2 ^ n) + x % 2 := by
      rw [Nat.pow_succ, Nat.mul_comm, Nat.mod_mul, Nat.add_comm]
    have hlt : x / 2 % 2 ^ n < 2 ^ n := Nat.mod_lt _ hp
    have e2 : 2 ^ (n + 1) = 2 * 2 ^ n := by rw [Nat.pow_succ]; omega
    refine Lok.cons ?_ ?_
    · have := bNeg_ok (getH_ok h)
      have e3 : (2 ^ (n + 1) - 1 - x % 2 ^ (n + 1)).testBit 0 = !x.testBit 0 := by
        rw [e1, e2, Nat.testBit_zero, Nat.testBit_zero]
        have hx2 : x % 2 = 0 ∨ x % 2 = 1 := by omega
        rcases hx2 with hx2 | hx2
        · rw [show (2 * 2 ^ n - 1 - (2 * (x / 2 % 2 ^ n) + x % 2)) % 2 = 1 by omega, hx2]; rfl
        · rw [show (2 * 2 ^ n - 1 - (2 * (x / 2 % 2 ^ n) + x % 2)) % 2 = 0 by omega, hx2]; rfl
      rw [e3]; exact this
    · refine (negB_ok (n := n) (dropB_ok (n := 1) h)).ext ?_
      rw [e1, e2, Nat.pow_one]; omega

/-! ### Comparisons -/
noncomputable def truthB (l : List Nat) : Nat := List.rec 0 (fun a _ ih => bOr a ih) l
theorem truthB_ok {σ} : ∀ {l : List Nat} {x : Nat}, Lok σ l x → Bok σ (truthB l) (decide (x ≠ 0))
  | [], x, h => by rw [h.nil0]; exact Bok.zero
  | a :: l, x, h => by
    show Bok σ (bOr a (truthB l)) _
    have := bOr_ok h.head (truthB_ok h.tail)
    have e : (x.testBit 0 || decide (x / 2 ≠ 0)) = decide (x ≠ 0) := by
      rw [Nat.testBit_zero]
      by_cases h1 : x % 2 = 1
      · rw [decide_eq_true h1, Bool.true_or, decide_eq_true (show x ≠ 0 by omega)]
      · rw [decide_eq_false h1, Bool.false_or]
        by_cases h2 : x = 0
        · subst h2; rfl
        · rw [decide_eq_true h2, decide_eq_true (show x / 2 ≠ 0 by omega)]
    rw [← e]; exact this
noncomputable def eqBits (l m : List Nat) : Nat := bNeg (truthB (zipB bXor l m))
theorem eqBits_ok {σ l m x y} (hx : Lok σ l x) (hy : Lok σ m y) : Bok σ (eqBits l m) (decide (x = y)) := by
  have := bNeg_ok (truthB_ok (xor_ok hx hy))
  have e : (!decide (x ^^^ y ≠ 0)) = decide (x = y) := by
    by_cases h : x = y
    · subst h; simp
    · have : x ^^^ y ≠ 0 := fun h' => h (Nat.eq_of_testBit_eq fun i => by
        have : (x ^^^ y).testBit i = false := by rw [h', Nat.zero_testBit]
        rw [Nat.testBit_xor] at this
        cases hx : x.testBit i <;> cases hy : y.testBit i <;> simp_all)
      simp [h, this]
  rw [← e]; exact this
/-- Less: the highest bit in which they differ says it. -/
noncomputable def ltBits (n : Nat) : List Nat → List Nat → Nat → Nat :=
  Nat.rec (motive := fun _ => List Nat → List Nat → Nat → Nat) (fun _ _ c => c)
    (fun _ ih l m c => forceN (bMaj (bNeg (getH l)) (getH m) c) fun c => ih (dropB 1 l) (dropB 1 m) c) n
theorem ltBits_ok {σ} : ∀ {n : Nat} {l m : List Nat} {c x y : Nat} {b : Bool}, Lok σ l x → Lok σ m y → Bok σ c b → Bok σ (ltBits n l m c) (decide (x % 2 ^ n < y % 2 ^ n + b.toNat))
  | 0, l, m, c, x, y, b, _, _, hc => by
    rw [Nat.pow_zero, Nat.mod_one, Nat.mod_one]
    have : decide (0 < 0 + b.toNat) = b := by cases b <;> rfl
    rw [this]; exact hc
  | n + 1, l, m, c, x, y, b, hx, hy, hc => by
    show Bok σ (forceN (bMaj (bNeg (getH l)) (getH m) c) fun c => ltBits n (dropB 1 l) (dropB 1 m) c) _
    rw [forceN_eq]
    have h := ltBits_ok (n := n) (dropB_ok (n := 1) hx) (dropB_ok (n := 1) hy) (bMaj_ok (bNeg_ok (getH_ok hx)) (getH_ok hy) hc)
    have e1 : ∀ z : Nat, z % 2 ^ (n + 1) = 2 * (z / 2 % 2 ^ n) + z % 2 := fun z => by rw [Nat.pow_succ, Nat.mul_comm, Nat.mod_mul, Nat.add_comm]
    rw [e1, e1]
    rw [Nat.pow_one, Nat.testBit_zero, Nat.testBit_zero] at h
    have hx2 : x % 2 = 0 ∨ x % 2 = 1 := by omega
    have hy2 : y % 2 = 0 ∨ y % 2 = 1 := by omega
    generalize x / 2 % 2 ^ n = X at *
    generalize y / 2 % 2 ^ n = Y at *
    have e : decide (2 * X + x % 2 < 2 * Y + y % 2 + b.toNat) = decide (X < Y + ((!decide (x % 2 = 1) && decide (y % 2 = 1)) || (b && (!decide (x % 2 = 1) || decide (y % 2 = 1)))).toNat) := by
      cases b <;> rcases hx2 with hx2 | hx2 <;> rcases hy2 with hy2 | hy2 <;> rw [hx2, hy2] <;> apply decide_eq_decide.2 <;> simp <;> omega
    rw [e]; exact h

/-! ### Terms -/
theorem Lok.lt {σ} : ∀ {l : List Nat} {x : Nat}, Lok σ l x → x < 2 ^ lenR l
  | [], x, h => by rw [h.nil0]; exact Nat.one_pos
  | a :: l, x, h => by
    have := Lok.lt h.tail
    show x < 2 ^ (Nat.succ (lenR l))
    rw [Nat.succ_eq_add_one, Nat.pow_succ]; omega
theorem Lok.bit {σ b} {n : Nat} (h : Bok σ n b) : Lok σ [n] (b2n b) := by
  refine Lok.cons ?_ ?_
  · cases b
    · exact h
    · exact h
  · have : b2n b / 2 = 0 := by cases b <;> rfl
    rw [this]; exact Lok.nil

/-- The sign, as often as it takes. -/
noncomputable def padS (n : Nat) (s : Nat) (m : Nat) : List Nat → List Nat :=
  Nat.rec (motive := fun _ => List Nat → List Nat) (fun _ => Nat.rec [] (fun _ ih => s :: ih) m) (fun _ ih l => getH l :: ih (dropB 1 l)) n
theorem reps_get (s m k : Nat) : (Nat.rec [] (fun _ ih => s :: ih) m : List Nat).getD k 0 = if k < m then s else 0 := by
  induction m generalizing k with
  | zero => rfl
  | succ n ih =>
    show (s :: (Nat.rec [] (fun _ ih => s :: ih) n : List Nat)).getD k 0 = _
    cases k with
    | zero => rfl
    | succ k =>
      rw [List.getD_cons_succ, ih]
      by_cases e : k < n
      · rw [if_pos e, if_pos (by omega)]
      · rw [if_neg e, if_neg (by omega)]
theorem getH_eq (l : List Nat) : getH l = l.getD 0 0 := by cases l <;> rfl
theorem drop1_get (l : List Nat) (k : Nat) : (dropB 1 l).getD k 0 = l.getD (k + 1) 0 := by cases l <;> rfl
theorem padS_get (s m : Nat) : ∀ (n : Nat) (l : List Nat) (k : Nat), (padS n s m l).getD k 0 = if k < n then l.getD k 0 else if k < n + m then s else 0
  | 0, l, k => by
    show (Nat.rec [] (fun _ ih => s :: ih) m : List Nat).getD k 0 = _
    rw [reps_get]; simp
  | n + 1, l, k => by
    show (getH l :: padS n s m (dropB 1 l)).getD k 0 = _
    cases k with
    | zero => rw [getH_eq]; rfl
    | succ k =>
      rw [List.getD_cons_succ, padS_get s m n, drop1_get]
      by_cases e : k < n
      · rw [if_pos e, if_pos (by omega)]
      · rw [if_neg e, if_neg (show ¬ k + 1 < n + 1 by omega)]
        by_cases e : k < n + m
        · rw [if_pos e, if_pos (by omega)]
        · rw [if_neg e, if_neg (by omega)]
theorem top_bit {ws x : Nat} (h : 0 < ws) (hx : x < 2 ^ ws) : x.testBit (ws - 1) = decide (2 ^ (ws - 1) ≤ x) := by
  have e : 2 ^ ws = 2 * 2 ^ (ws - 1) := by
    conv => lhs; rw [show ws = (ws - 1) + 1 by omega, Nat.pow_succ]
    omega
  have hp := Nat.two_pow_pos (ws - 1)
  rw [Nat.testBit_eq_decide_div_mod_eq]
  apply decide_eq_decide.2
  have hq : x / 2 ^ (ws - 1) < 2 := by rw [Nat.div_lt_iff_lt_mul hp]; omega
  constructor
  · intro h
    have : x / 2 ^ (ws - 1) ≠ 0 := by omega
    exact Nat.le_of_not_lt fun h' => this (Nat.div_eq_of_lt h')
  · intro h
    have : 0 < x / 2 ^ (ws - 1) := Nat.div_pos h hp
    omega
theorem sx_ok {σ} {ws w : Nat} {l : List Nat} {x : Nat} (h : Lok σ l x) (h0 : 0 < ws) (hw : ws ≤ w) (hx : x < 2 ^ ws) : Lok σ (padS ws (l.getD (ws - 1) 0) (w - ws) l) ((O1.sx ws).ev w x) := fun k => by
  rw [padS_get]
  show Bok σ _ ((bc (Nat.blt x (2 ^ (ws - 1))) x (x + (2 ^ w - 2 ^ ws))).testBit k)
  have ht := top_bit h0 hx
  have hs := h (ws - 1)
  rw [ht] at hs
  by_cases e : x < 2 ^ (ws - 1)
  · rw [nblt_t e]
    rw [decide_eq_false (by omega)] at hs
    by_cases e1 : k < ws
    · rw [if_pos e1]; exact h k
    · rw [if_neg e1]
      have hk : x.testBit k = false := Nat.testBit_lt_two_pow (Nat.lt_of_lt_of_le hx (pow_le (by omega)))
      by_cases e2 : k < ws + (w - ws)
      · rw [if_pos e2, hk]; exact hs
      · rw [if_neg e2, hk]; exact Bok.zero
  · rw [nblt_f e]
    rw [decide_eq_true (by omega)] at hs
    have e3 : x + (2 ^ w - 2 ^ ws) = 2 ^ ws * (2 ^ (w - ws) - 1) + x := by
      rw [Nat.mul_sub, ← Nat.pow_add, Nat.mul_one, show ws + (w - ws) = w by omega, Nat.add_comm]
    show Bok σ _ ((x + (2 ^ w - 2 ^ ws)).testBit k)
    rw [e3, Nat.testBit_two_pow_mul_add _ hx]
    by_cases e1 : k < ws
    · rw [if_pos e1, if_pos e1]; exact h k
    · rw [if_neg e1, if_neg e1, Nat.testBit_two_pow_sub_one]
      by_cases e2 : k < ws + (w - ws)
      · rw [if_pos e2, decide_eq_true (by omega)]; exact hs
      · rw [if_neg e2, decide_eq_false (by omega)]; exact Bok.zero
theorem sar_ok {σ} {w : Nat} {l : List Nat} {x y : Nat} (h : Lok σ l x) (h0 : 0 < w) (hx : x < 2 ^ w) (hy : y < w) : Lok σ (padS (w - y) (l.getD (w - 1) 0) y (dropB y l)) (O2.sar.ev w x y) := fun k => by
  rw [padS_get]
  have ht := top_bit h0 hx
  have hs := h (w - 1)
  rw [ht] at hs
  have hd := dropB_ok (n := y) h
  show Bok σ _ ((bc (Nat.ble (2 ^ (w - 1)) x) (2 ^ w - 1 - (2 ^ w - 1 - x) / 2 ^ bc (Nat.ble w y) w y) (x / 2 ^ bc (Nat.ble w y) w y)).testBit k)
  rw [nble_f (show ¬ w ≤ y by omega)]
  by_cases e : 2 ^ (w - 1) ≤ x
  · rw [nble_t e]
    rw [decide_eq_true e] at hs
    show Bok σ _ ((2 ^ w - 1 - (2 ^ w - 1 - x) / 2 ^ y).testBit k)
    have hlt : (2 ^ w - 1 - x) / 2 ^ y < 2 ^ w := by
      have := Nat.div_le_self (2 ^ w - 1 - x) (2 ^ y)
      have := Nat.two_pow_pos w
      omega
    rw [show 2 ^ w - 1 - (2 ^ w - 1 - x) / 2 ^ y = 2 ^ w - ((2 ^ w - 1 - x) / 2 ^ y + 1) by omega, Nat.testBit_two_pow_sub_succ hlt, Nat.testBit_div_two_pow, show 2 ^ w - 1 - x = 2 ^ w - (x + 1) by omega, Nat.testBit_two_pow_sub_succ hx]
    by_cases e1 : k < w - y
    · rw [if_pos e1, decide_eq_true (by omega), decide_eq_true (by omega)]
      have := hd k
      rw [Nat.testBit_div_two_pow] at this
      simpa using this
    · rw [if_neg e1]
      by_cases e2 : k < w - y + y
      · rw [if_pos e2, decide_eq_true (by omega), decide_eq_false (by omega)]
        simpa using hs
      · rw [if_neg e2, decide_eq_false (by omega)]
        simpa using Bok.zero
  · rw [nble_f e]
    rw [decide_eq_false e] at hs
    show Bok σ _ ((x / 2 ^ y).testBit k)
    by_cases e1 : k < w - y
    · rw [if_pos e1]; exact hd k
    · rw [if_neg e1, Nat.testBit_div_two_pow]
      have hk : x.testBit (k + y) = false := Nat.testBit_lt_two_pow (Nat.lt_of_lt_of_le hx (pow_le (by omega)))
      rw [hk]
      by_cases e2 : k < w - y + y
      · rw [if_pos e2]; exact hs
      · rw [if_neg e2]; exact Bok.zero

noncomputable def isP2 (n : Nat) : Bool := Nat.beq n (p2 (Nat.log2 n))
/-- Only how many bits it may have. -/
noncomputable def wide (bl : List Bnd) (t : Tm) : List Nat := withB (rng bl t) fun r => topsB (Nat.succ (Nat.log2 r.hi))
theorem wide_ok {σ} {bl : List Bnd} (h : ∀ b ∈ bl, b.ok σ) (t : Tm) : Lok σ (wide bl t) (t.ev σ) := by
  unfold wide
  rw [withB_eq]
  have := (rng_ok h t).2
  exact tops_ok (Nat.lt_of_le_of_lt this Nat.lt_log2_self)

noncomputable def bits1 (o : O1) (w : Nat) (l : List Nat) (f : List Nat) : List Nat :=
  O1.rec (takeB w l) (fun ws => bc (band (Nat.blt 0 ws) (band (Nat.ble ws w) (Nat.ble (lenR l) ws))) (padS ws (l.getD (Nat.sub ws 1) 0) (Nat.sub w ws) l) f) [bNeg (truthB l)] o
theorem bits1_ok {σ} {o : O1} {w : Nat} {l f : List Nat} {x : Nat} (h : Lok σ l x) (hf : Lok σ f (o.ev w x)) : Lok σ (bits1 o w l f) (o.ev w x) := by
  cases o with
  | tr => exact takeB_ok h
  | sx ws =>
    show Lok σ (bc (band (Nat.blt 0 ws) (band (Nat.ble ws w) (Nat.ble (lenR l) ws))) (padS ws (l.getD (ws - 1) 0) (w - ws) l) f) _
    cases hc : band (Nat.blt 0 ws) (band (Nat.ble ws w) (Nat.ble (lenR l) ws))
    · exact hf
    · obtain ⟨h1, h2⟩ := band_eq hc
      obtain ⟨h2, h3⟩ := band_eq h2
      exact sx_ok h (of_nblt h1) (of_nble h2) (Nat.lt_of_lt_of_le h.lt (pow_le (of_nble h3)))
  | bnot =>
    have := Lok.bit (bNeg_ok (truthB_ok h))
    refine this.ext ?_
    show _ = bc (Nat.beq x 0) 1 0
    by_cases e : x = 0
    · subst e; rfl
    · rw [nbeq_f e, decide_eq_true e]; rfl

/-- The number, where all bits are known. -/
noncomputable def constB (l : List Nat) : Option Nat := List.rec (some 0) (fun a _ ih => Option.rec none (fun v => bc (Nat.beq a 0) (some (Nat.mul 2 v)) (bc (Nat.beq a 1) (some (Nat.succ (Nat.mul 2 v))) none)) ih) l
theorem constB_ok {σ} : ∀ {l : List Nat} {x n : Nat}, Lok σ l x → constB l = some n → x = n
  | [], x, n, h, hc => by cases hc; exact h.nil0
  | a :: l, x, n, h, hc => by
    change Option.rec none (fun v => bc (Nat.beq a 0) (some (Nat.mul 2 v)) (bc (Nat.beq a 1) (some (Nat.succ (Nat.mul 2 v))) none)) (constB l) = some n at hc
    cases hv : constB l with
    | none => rw [hv] at hc; cases hc
    | some v =>
      rw [hv] at hc
      have ih := constB_ok h.tail hv
      have h0 := h.head
      rw [Nat.testBit_zero] at h0
      change bc (Nat.beq a 0) (some (2 * v)) (bc (Nat.beq a 1) (some (Nat.succ (2 * v))) none) = some n at hc
      by_cases e : a = 0
      · rw [nbeq_t e] at hc; cases hc
        rw [e] at h0
        have := of_decide_eq_false h0.of0
        omega
      · rw [nbeq_f e] at hc
        by_cases e1 : a = 1
        · rw [nbeq_t e1] at hc; cases hc
          rw [e1] at h0
          have := of_decide_eq_true h0.of1
          omega
        · rw [nbeq_f e1] at hc; cases hc
noncomputable def amt (b : Tm) (m : List Nat) (k : Nat → List Nat) (f : List Nat) : List Nat := Option.rec (Option.rec f k (constB m)) k (isLit b)
theorem amt_ok {σ} {P : List Nat → Prop} {b : Tm} {m : List Nat} {k : Nat → List Nat} {f : List Nat} (hm : Lok σ m (b.ev σ)) (hf : P f) (hk : ∀ n, b.ev σ = n → P (k n)) : P (amt b m k f) := by
  unfold amt
  cases h : isLit b with
  | some n => exact hk n (by rw [isLit_some h]; rfl)
  | none =>
    show P (Option.rec f k (constB m))
    cases hc : constB m with
    | none => exact hf
    | some n => exact hk n (constB_ok hm hc)
noncomputable def shB (b : Tm) (k : Nat → List Nat) (f : List Nat) : List Nat := Option.rec f k (isLit b)
noncomputable def bits2 (o : O2) (w : Nat) (a b : Tm) (l m f : List Nat) : List Nat :=
  O2.rec (addB w l m 0) (addB w l (negB w m) 1)
    (shB b (fun n => bc (isP2 n) (takeB w (zerosB (Nat.log2 n) l)) f) (shB a (fun n => bc (isP2 n) (takeB w (zerosB (Nat.log2 n) m)) f) f))
    (zipB bAnd l m) (zipB bOr l m) (zipB bXor l m)
    (amt b m (fun y => bc (Nat.ble w y) [] (takeB w (zerosB y l))) f) (amt b m (fun y => bc (Nat.ble w y) [] (dropB y l)) f)
    (amt b m (fun y => bc (band (Nat.blt y w) (Nat.ble (lenR l) w)) (padS (Nat.sub w y) (l.getD (Nat.sub w 1) 0) y (dropB y l)) f) f)
    [eqBits l m] [ltBits (maxN (lenR l) (lenR m)) l m 0]
    (bc (Nat.ble w 64) (bc (Nat.blt 0 w) [ltBits w (addB w l (litB (p2 (Nat.sub w 1)) 64) 0) (addB w m (litB (p2 (Nat.sub w 1)) 64) 0) 0] f) f)
    (shB b (fun n => bc (isP2 n) (dropB (Nat.log2 n) l) f) f) (shB b (fun n => bc (isP2 n) (takeB (Nat.log2 n) l) f) f) f
    (shB b (fun n => bc (band (isP2 n) (band (Nat.blt n (p2 (Nat.sub w 1))) (Nat.beq (truthB (takeB (Nat.log2 n) l)) 0))) [] f) f) o
theorem shB_ok {P : List Nat → Prop} {b : Tm} {k : Nat → List Nat} {f : List Nat} (hf : P f) (hk : ∀ n, b = .lit n → P (k n)) : P (shB b k f) := by
  unfold shB
  cases h : isLit b with
  | none => exact hf
  | some n => exact hk n (isLit_some h)
theorem bits2_ok {σ} {o : O2} {w : Nat} {a b : Tm} {l m f : List Nat} (hl : Lok σ l (a.ev σ)) (hm : Lok σ m (b.ev σ)) (hf : Lok σ f (o.ev w (a.ev σ) (b.ev σ))) : Lok σ (bits2 o w a b l m f) (o.ev w (a.ev σ) (b.ev σ)) := by
  cases o with
  | add =>
    have := addB_ok (n := w) hl hm (Bok.zero (σ := σ))
    exact this
  | sub =>
    have := addB_ok (n := w) hl (negB_ok (n := w) hm) (Bok.one (σ := σ))
    refine this.ext ?_
    show (a.ev σ + (2 ^ w - 1 - b.ev σ % 2 ^ w) + 1) % 2 ^ w = (a.ev σ + (2 ^ w - b.ev σ % 2 ^ w)) % 2 ^ w
    have := Nat.mod_lt (b.ev σ) (Nat.two_pow_pos w)
    congr 1; omega
  | mul =>
    refine shB_ok (P := fun r => Lok σ r _) (shB_ok (P := fun r => Lok σ r _) hf fun n hn => ?_) fun n hn => ?_
    · cases hp : isP2 n
      · exact hf
      · refine (takeB_ok (zerosB_ok (n := Nat.log2 n) hm)).ext ?_
        have := of_nbeq hp
        rw [hn, ev_lit]
        show b.ev σ * p2 (Nat.log2 n) % 2 ^ w = n * b.ev σ % 2 ^ w
        rw [← this, Nat.mul_comm]
    · cases hp : isP2 n
      · exact hf
      · refine (takeB_ok (zerosB_ok (n := Nat.log2 n) hl)).ext ?_
        have := of_nbeq hp
        rw [hn, ev_lit]
        show a.ev σ * p2 (Nat.log2 n) % 2 ^ w = a.ev σ * n % 2 ^ w
        rw [← this]
  | and => exact and_ok hl hm
  | or => exact or_ok hl hm
  | xor => exact xor_ok hl hm
  | shl =>
    refine amt_ok (P := fun r => Lok σ r _) hm hf fun n hn => ?_
    rw [hn]
    show Lok σ (bc (Nat.ble w n) [] (takeB w (zerosB n l))) (bc (Nat.ble w n) 0 (a.ev σ * 2 ^ n % 2 ^ w))
    cases Nat.ble w n
    · exact takeB_ok (zerosB_ok hl)
    · exact Lok.nil
  | shr =>
    refine amt_ok (P := fun r => Lok σ r _) hm hf fun n hn => ?_
    rw [hn]
    show Lok σ (bc (Nat.ble w n) [] (dropB n l)) (bc (Nat.ble w n) 0 (a.ev σ / 2 ^ n))
    cases Nat.ble w n
    · exact dropB_ok hl
    · exact Lok.nil
  | sar =>
    refine amt_ok (P := fun r => Lok σ r _) hm hf fun n hn => ?_
    cases hc : band (Nat.blt n w) (Nat.ble (lenR l) w)
    · exact hf
    · obtain ⟨h1, h2⟩ := band_eq hc
      rw [hn]
      have h1 := of_nblt h1
      exact sar_ok hl (by omega) (Nat.lt_of_lt_of_le hl.lt (pow_le (of_nble h2))) h1
  | eq =>
    have := Lok.bit (eqBits_ok hl hm)
    refine this.ext ?_
    show _ = b2n (Nat.beq _ _)
    by_cases e : a.ev σ = b.ev σ
    · rw [nbeq_t e, decide_eq_true e]
    · rw [nbeq_f e, decide_eq_false e]
  | ult =>
    have h := ltBits_ok (n := maxN (lenR l) (lenR m)) hl hm (Bok.zero (σ := σ))
    have := Lok.bit h
    refine this.ext ?_
    rw [maxN_eq, Nat.mod_eq_of_lt (Nat.lt_of_lt_of_le hl.lt (pow_le (Nat.le_max_left _ _))), Nat.mod_eq_of_lt (Nat.lt_of_lt_of_le hm.lt (pow_le (Nat.le_max_right _ _)))]
    show b2n (decide (a.ev σ < b.ev σ)) = b2n (Nat.blt _ _)
    by_cases e : a.ev σ < b.ev σ
    · rw [nblt_t e, decide_eq_true e]
    · rw [nblt_f e, decide_eq_false e]
  | slt =>
    show Lok σ (bc (Nat.ble w 64) (bc (Nat.blt 0 w) [ltBits w (addB w l (litB (p2 (Nat.sub w 1)) 64) 0) (addB w m (litB (p2 (Nat.sub w 1)) 64) 0) 0] f) f) _
    by_cases h1 : w ≤ 64
    · rw [nble_t h1]
      by_cases h2 : 0 < w
      · rw [nblt_t h2]
        have hh : Lok σ (litB (p2 (Nat.sub w 1)) 64) (2 ^ (w - 1)) := litB_ok (Nat.pow_lt_pow_right (by omega) (show w - 1 < 64 by omega))
        have ha := addB_ok (n := w) hl hh (Bok.zero (σ := σ))
        have hb := addB_ok (n := w) hm hh (Bok.zero (σ := σ))
        have := Lok.bit (ltBits_ok (n := w) ha hb (Bok.zero (σ := σ)))
        refine this.ext ?_
        show b2n (decide ((a.ev σ + 2 ^ (w - 1)) % 2 ^ w % 2 ^ w < (b.ev σ + 2 ^ (w - 1)) % 2 ^ w % 2 ^ w)) = b2n (Nat.blt ((a.ev σ + 2 ^ (w - 1)) % 2 ^ w) ((b.ev σ + 2 ^ (w - 1)) % 2 ^ w))
        rw [Nat.mod_mod, Nat.mod_mod]
        by_cases e : (a.ev σ + 2 ^ (w - 1)) % 2 ^ w < (b.ev σ + 2 ^ (w - 1)) % 2 ^ w
        · rw [nblt_t e, decide_eq_true e]
        · rw [nblt_f e, decide_eq_false e]
      · rw [nblt_f h2]; exact hf
    · rw [nble_f h1]; exact hf
  | udiv =>
    refine shB_ok (P := fun r => Lok σ r _) hf fun n hn => ?_
    cases hp : isP2 n
    · exact hf
    · refine (dropB_ok (n := Nat.log2 n) hl).ext ?_
      have := of_nbeq hp
      rw [hn, ev_lit]
      show a.ev σ / p2 (Nat.log2 n) = a.ev σ / n
      rw [← this]
  | urem =>
    refine shB_ok (P := fun r => Lok σ r _) hf fun n hn => ?_
    cases hp : isP2 n
    · exact hf
    · refine (takeB_ok (n := Nat.log2 n) hl).ext ?_
      have := of_nbeq hp
      rw [hn, ev_lit]
      show a.ev σ % p2 (Nat.log2 n) = a.ev σ % n
      rw [← this]
  | sdiv => exact hf
  | srem =>
    refine shB_ok (P := fun r => Lok σ r _) hf fun n hn => ?_
    cases hc : band (isP2 n) (band (Nat.blt n (p2 (Nat.sub w 1))) (Nat.beq (truthB (takeB (Nat.log2 n) l)) 0))
    · exact hf
    · obtain ⟨h1, h2⟩ := band_eq hc
      obtain ⟨h2, h3⟩ := band_eq h2
      have ht := truthB_ok (takeB_ok (n := Nat.log2 n) hl)
      rw [of_nbeq h3] at ht
      have h0 : a.ev σ % 2 ^ (Nat.log2 n) = 0 := Classical.not_not.1 (of_decide_eq_false ht.of0)
      have hp := of_nbeq h1
      change n = 2 ^ Nat.log2 n at hp
      have hlt : n < 2 ^ (w - 1) := of_nblt h2
      have hle : Nat.log2 n ≤ w := by
        refine Nat.le_of_not_lt fun h => ?_
        have h5 : 2 ^ w ≤ 2 ^ Nat.log2 n := pow_le (Nat.le_of_lt h)
        have h6 : 2 ^ (w - 1) ≤ 2 ^ w := pow_le (Nat.sub_le _ _)
        omega
      have hd1 : n ∣ a.ev σ := by rw [hp]; exact Nat.dvd_of_mod_eq_zero h0
      have hd2 : n ∣ 2 ^ w := by rw [hp]; exact Nat.pow_dvd_pow 2 hle
      have hd3 : n ∣ mag w (a.ev σ) := by
        unfold mag
        cases isNeg w (a.ev σ)
        · exact hd1
        · exact Nat.dvd_sub hd2 hd1
      rw [hn, ev_lit]
      have e : O2.srem.ev w (a.ev σ) n = 0 := by
        show sgn (isNeg w (a.ev σ)) w (mag w (a.ev σ) % mag w n) = 0
        rw [mag_of hlt, Nat.mod_eq_zero_of_dvd hd3]
        cases isNeg w (a.ev σ)
        · show 0 % 2 ^ w = 0; exact Nat.zero_mod _
        · show (2 ^ w - 0 % 2 ^ w) % 2 ^ w = 0; rw [Nat.zero_mod, Nat.sub_zero, Nat.mod_self]
      rw [e]; exact Lok.nil

noncomputable def iteBits (c a b : List Nat) : List Nat := forceN (truthB c) fun r => bc (Nat.beq r 0) b (bc (Nat.beq r 1) a (zipB bMrg a b))
noncomputable def bitsOf (kv : List KV) (bl : List Bnd) (t : Tm) : List Nat :=
  Tm.rec (fun n => bc (Nat.blt n (p2 64)) (litB n 64) (topsB (Nat.succ (Nat.log2 n)))) (fun i w => withB (rng bl (.var i w)) fun r => takeB (bc (Nat.beq r.hi 0) 0 (Nat.succ (Nat.log2 r.hi))) (bc (Nat.ble w 64) (varB kv i 0 w) (topsB w)))
    (fun o w a la => bits1 o w la (wide bl (.un o w a))) (fun o w a b la lb => bits2 o w a b la lb (wide bl (.bin o w a b))) (fun _ _ _ lc la lb => iteBits lc la lb) t
theorem bitsOf_ok {σ} {kv : List KV} {bl : List Bnd} (hk : ∀ v ∈ kv, v.ok σ) (hb : ∀ b ∈ bl, b.ok σ) (t : Tm) : Lok σ (bitsOf kv bl t) (t.ev σ) := by
  induction t with
  | lit n =>
    show Lok σ (bc (Nat.blt n (p2 64)) (litB n 64) (topsB (Nat.succ (Nat.log2 n)))) n
    cases h : Nat.blt n (p2 64)
    · exact tops_ok Nat.lt_log2_self
    · exact litB_ok (of_nblt h)
  | var i w =>
    show Lok σ (withB (rng bl (.var i w)) fun r => takeB (bc (Nat.beq r.hi 0) 0 (Nat.succ (Nat.log2 r.hi))) (bc (Nat.ble w 64) (varB kv i 0 w) (topsB w))) (σ i % 2 ^ w)
    rw [withB_eq]
    have hr := (rng_ok hb (.var i w)).2
    change σ i % 2 ^ w ≤ (rng bl (.var i w)).hi at hr
    have hv : Lok σ (bc (Nat.ble w 64) (varB kv i 0 w) (topsB w)) (σ i % 2 ^ w) := by
      cases h : Nat.ble w 64
      · exact tops_ok (Nat.mod_lt _ (Nat.two_pow_pos w))
      · exact varB_ok hk (of_nble h)
    refine (takeB_ok (n := bc (Nat.beq (rng bl (.var i w)).hi 0) 0 (Nat.succ (Nat.log2 (rng bl (.var i w)).hi))) hv).ext ?_
    refine Nat.mod_eq_of_lt ?_
    by_cases e : (rng bl (.var i w)).hi = 0
    · rw [nbeq_t e]; show _ < 2 ^ 0; omega
    · rw [nbeq_f e]
      exact Nat.lt_of_le_of_lt hr Nat.lt_log2_self
  | un o w a ih => exact bits1_ok ih (wide_ok hb (.un o w a))
  | bin o w a b iha ihb => exact bits2_ok iha ihb (wide_ok hb (.bin o w a b))
  | ite c a b ihc iha ihb =>
    show Lok σ (forceN (truthB (bitsOf kv bl c)) fun r => bc (Nat.beq r 0) (bitsOf kv bl b) (bc (Nat.beq r 1) (bitsOf kv bl a) (zipB bMrg (bitsOf kv bl a) (bitsOf kv bl b)))) _
    rw [forceN_eq, ev_ite]
    have ht := truthB_ok ihc
    cases h0 : Nat.beq (truthB (bitsOf kv bl c)) 0
    · cases h1 : Nat.beq (truthB (bitsOf kv bl c)) 1
      · show Lok σ (zipB bMrg (bitsOf kv bl a) (bitsOf kv bl b)) _
        refine mrg_ok ?_
        split
        · exact .inr ihb
        · exact .inl iha
      · rw [of_nbeq h1] at ht
        have := of_decide_eq_true ht.of1
        rw [if_neg this]; exact iha
    · rw [of_nbeq h0] at ht
      have := of_decide_eq_false ht.of0
      rw [if_pos (Classical.not_not.1 this)]; exact ihb

end Go.Sx
end

section
/- The state of a symbolic run: heap, facts; what it says of a world. -/
namespace Go.Sx
open Go.RowKit

/-! ### Facts -/
structure Sub where
  i : Nat
  w : Nat
  n : Nat
/-- A law of terms, proved beside: with these facts that is none of 0. -/
structure Vc where
  facts : List Tm
  goal : Tm
def Vc.ok (σ : Nat → Nat) (v : Vc) : Prop := (∀ t ∈ v.facts, t.ev σ ≠ 0) → v.goal.ev σ ≠ 0
/-- Where a way is not known: on which term it is to be parted first, as far as 'on' is known. -/
structure Hint where
  on : Tm
  by_ : Tm
structure PC where
  facts : List Tm
  subs : List Sub
  bnds : List Bnd
  kv : List KV
  lems : List Vc
  cz : Nat
  hints : List Hint

def PC.ok (σ : Nat → Nat) (pc : PC) : Prop := (∀ t ∈ pc.facts, t.ev σ ≠ 0) ∧ (∀ s ∈ pc.subs, σ s.i % 2 ^ s.w = s.n) ∧ (∀ b ∈ pc.bnds, b.ok σ) ∧ (∀ v ∈ pc.kv, v.ok σ) ∧ ∀ v ∈ pc.lems, v.ok σ

noncomputable def subAt (l : List Sub) (i w : Nat) : Tm :=
  List.rec (.var i w) (fun s _ ih => bc (band (Nat.beq s.i i) (Nat.beq s.w w)) (.lit s.n) ih) l
theorem subAt_ev {σ} {l : List Sub} (h : ∀ s ∈ l, σ s.i % 2 ^ s.w = s.n) (i w : Nat) : (subAt l i w).ev σ = σ i % 2 ^ w := by
  induction l with
  | nil => rfl
  | cons s l ih =>
    show Tm.ev σ (bc (band (Nat.beq s.i i) (Nat.beq s.w w)) (.lit s.n) (subAt l i w)) = _
    cases hb : band (Nat.beq s.i i) (Nat.beq s.w w)
    · exact ih fun x hx => h x (List.mem_cons_of_mem _ hx)
    · obtain ⟨h1, h2⟩ := band_eq hb
      show s.n = _
      rw [← h s List.mem_cons_self, of_nbeq h1, of_nbeq h2]

noncomputable def redT (l : List Sub) (t : Tm) : Tm :=
  Tm.rec (fun n => .lit n) (fun i w => subAt l i w) (fun o w _ a => mkUn o w a) (fun o w _ _ a b => mkBin o w a b) (fun _ _ _ c a b => mkIte c a b) t
theorem redT_ev {σ} {l : List Sub} (h : ∀ s ∈ l, σ s.i % 2 ^ s.w = s.n) (t : Tm) : (redT l t).ev σ = t.ev σ := by
  induction t with
  | lit n => rfl
  | var i w => exact subAt_ev h i w
  | un o w a ih => show (mkUn o w (redT l a)).ev σ = _; rw [mkUn_ev, ih, ev_un]
  | bin o w a b iha ihb => show (mkBin o w (redT l a) (redT l b)).ev σ = _; rw [mkBin_ev, iha, ihb, ev_bin]
  | ite c a b ihc iha ihb => show (mkIte (redT l c) (redT l a) (redT l b)).ev σ = _; rw [mkIte_ev, ihc, iha, ihb, ev_ite]

noncomputable def mkNot (t : Tm) : Tm := mkUn .bnot 1 t
theorem mkNot_ev (σ) (t : Tm) : (mkNot t).ev σ = if t.ev σ = 0 then 1 else 0 := by
  unfold mkNot; rw [mkUn_ev]
  show bc (Nat.beq (t.ev σ) 0) 1 0 = _
  by_cases h : t.ev σ = 0
  · rw [nbeq_t h, if_pos h]
  · rw [nbeq_f h, if_neg h]

noncomputable def inFacts (l : List Tm) (t : Tm) : Bool := List.rec false (fun x _ ih => bc (Tm.same x t) true ih) l
theorem inFacts_mem {l : List Tm} {t : Tm} (h : inFacts l t = true) : t ∈ l := by
  induction l with
  | nil => cases h
  | cons x l ih =>
    change bc (Tm.same x t) true (inFacts l t) = true at h
    cases hb : Tm.same x t
    · rw [hb] at h; exact List.mem_cons_of_mem _ (ih h)
    · rw [← Tm.same_eq hb]; exact List.mem_cons_self

noncomputable def allIn (l : List Tm) (fs : List Tm) : Bool := List.rec true (fun f _ ih => bc (inFacts l f) ih false) fs
theorem allIn_mem {l : List Tm} {fs : List Tm} (h : allIn l fs = true) : ∀ t ∈ fs, t ∈ l := by
  induction fs with
  | nil => intro t ht; cases ht
  | cons f fs ih =>
    change bc (inFacts l f) (allIn l fs) false = true at h
    cases hb : inFacts l f
    · rw [hb] at h; cases h
    · rw [hb] at h
      intro t ht
      rcases List.mem_cons.1 ht with rfl | ht
      · exact inFacts_mem hb
      · exact ih h t ht
/-- Whether a law proved beside says it. -/
noncomputable def byLem (l : List Tm) (vs : List Vc) (t : Tm) : Bool := List.rec false (fun v _ ih => bc (Tm.same v.goal t) (bc (allIn l v.facts) true ih) ih) vs
theorem byLem_ok {σ} {l : List Tm} {vs : List Vc} {t : Tm} (hl : ∀ t ∈ l, t.ev σ ≠ 0) (hv : ∀ v ∈ vs, v.ok σ) (h : byLem l vs t = true) : t.ev σ ≠ 0 := by
  induction vs with
  | nil => cases h
  | cons v vs ih =>
    have ih := ih fun x hx => hv x (List.mem_cons_of_mem _ hx)
    change bc (Tm.same v.goal t) (bc (allIn l v.facts) true (byLem l vs t)) (byLem l vs t) = true at h
    cases h1 : Tm.same v.goal t
    · rw [h1] at h; exact ih h
    · rw [h1] at h
      cases h2 : allIn l v.facts
      · rw [h2] at h; exact ih h
      · rw [← Tm.same_eq h1]
        exact hv v List.mem_cons_self fun t ht => hl t (allIn_mem h2 t ht)

theorem ne_of_not {σ} {t : Tm} (h : (mkNot t).ev σ ≠ 0) : t.ev σ = 0 := by
  rw [mkNot_ev] at h
  by_cases e : t.ev σ = 0
  · exact e
  · rw [if_neg e] at h; exact absurd rfl h
/-- A verdict: 1 it is, 0 it is not, 2 nobody knows. -/
def Vok (σ : Nat → Nat) (t : Tm) (d : Nat) : Prop := (d = 1 → t.ev σ ≠ 0) ∧ (d = 0 → t.ev σ = 0)
theorem Vok.two {σ t} : Vok σ t 2 := ⟨(fun h => by cases h), (fun h => by cases h)⟩
theorem Vok.one {σ t} (h : t.ev σ ≠ 0) : Vok σ t 1 := ⟨fun _ => h, (fun h => by cases h)⟩
theorem Vok.zero {σ t} (h : t.ev σ = 0) : Vok σ t 0 := ⟨(fun h => by cases h), fun _ => h⟩

/-- Whether a fact is known as such. -/
noncomputable def decF (pc : PC) (t : Tm) (els : Nat) : Nat :=
  Option.rec (bc (inFacts pc.facts t) 1 (bc (inFacts pc.facts (mkNot t)) 0 (bc (byLem pc.facts pc.lems t) 1 (bc (byLem pc.facts pc.lems (mkNot t)) 0 els)))) (fun n => bc (Nat.beq n 0) 0 1) (isLit t)
theorem decF_ok {σ} {pc : PC} (h : pc.ok σ) {t : Tm} {els : Nat} (he : Vok σ t els) : Vok σ t (decF pc t els) := by
  unfold decF
  cases hl : isLit t with
  | some n =>
    rw [isLit_some hl]
    by_cases hn : n = 0
    · subst hn; exact Vok.zero rfl
    · show Vok σ _ (bc (Nat.beq n 0) 0 1)
      rw [nbeq_f hn]; exact Vok.one hn
  | none =>
    show Vok σ t (bc (inFacts pc.facts t) 1 (bc (inFacts pc.facts (mkNot t)) 0 (bc (byLem pc.facts pc.lems t) 1 (bc (byLem pc.facts pc.lems (mkNot t)) 0 els))))
    cases h1 : inFacts pc.facts t
    · cases h2 : inFacts pc.facts (mkNot t)
      · cases h5 : byLem pc.facts pc.lems t
        · cases h6 : byLem pc.facts pc.lems (mkNot t)
          · exact he
          · exact Vok.zero (ne_of_not (byLem_ok h.1 h.2.2.2.2 h6))
        · exact Vok.one (byLem_ok h.1 h.2.2.2.2 h5)
      · exact Vok.zero (ne_of_not (h.1 _ (inFacts_mem h2)))
    · exact Vok.one (h.1 _ (inFacts_mem h1))

/-- Whether a fact is known, also by its bounds and its bits. -/
noncomputable def decT (pc : PC) (t : Tm) : Nat :=
  decF pc t (withB (rng pc.bnds t) fun b => bc (Nat.blt 0 b.lo) 1 (bc (Nat.beq b.hi 0) 0 (forceN (truthB (bitsOf pc.kv pc.bnds t)) fun r => bc (Nat.beq r 1) 1 (bc (Nat.beq r 0) 0 2))))
theorem decT_ok {σ} {pc : PC} (h : pc.ok σ) {t : Tm} : Vok σ t (decT pc t) := by
  refine decF_ok h ?_
  rw [withB_eq]
  have hr := rng_ok h.2.2.1 t
  unfold In at hr
  cases h3 : Nat.blt 0 (rng pc.bnds t).lo
  · cases h4 : Nat.beq (rng pc.bnds t).hi 0
    · show Vok σ t (forceN (truthB (bitsOf pc.kv pc.bnds t)) fun r => bc (Nat.beq r 1) 1 (bc (Nat.beq r 0) 0 2))
      rw [forceN_eq]
      have hb := truthB_ok (bitsOf_ok h.2.2.2.1 h.2.2.1 t)
      cases h5 : Nat.beq (truthB (bitsOf pc.kv pc.bnds t)) 1
      · cases h6 : Nat.beq (truthB (bitsOf pc.kv pc.bnds t)) 0
        · exact Vok.two
        · rw [of_nbeq h6] at hb
          exact Vok.zero (Classical.not_not.1 (of_decide_eq_false hb.of0))
      · rw [of_nbeq h5] at hb
        exact Vok.one (of_decide_eq_true hb.of1)
    · have := of_nbeq h4
      exact Vok.zero (by omega)
  · have := of_nblt h3
    exact Vok.one (by omega)

/-- A condition, as far as it is known. -/
noncomputable def isCmp (o : O2) : Bool := bc (Nat.ble 10 o.code) (Nat.ble o.code 12) false
noncomputable def simpT (pc : PC) (t : Tm) : Tm :=
  Tm.rec (fun n => .lit n) (fun i w => forceN (decT pc (Tm.var i w)) fun d => bc (Nat.beq d 0) (Tm.lit 0) (bc (Nat.beq d 1) (bc (Nat.beq w 1) (Tm.lit 1) (Tm.var i w)) (Tm.var i w)))
    (fun o w a ih => O1.rec (.un o w a) (fun _ => .un o w a) (mkNot ih) o)
    (fun o w a b _ _ => bc (isCmp o) (forceN (decT pc (Tm.bin o w a b)) fun d => bc (Nat.beq d 0) (Tm.lit 0) (bc (Nat.beq d 1) (Tm.lit 1) (Tm.bin o w a b))) (Tm.bin o w a b))
    (fun _ _ _ c a b => mkIte c a b) t
theorem cmp_01 {o : O2} {w x y : Nat} (h : isCmp o = true) : o.ev w x y = 0 ∨ o.ev w x y = 1 := by
  cases o <;> first | (cases h; done) | skip
  · show b2n _ = 0 ∨ b2n _ = 1
    cases Nat.beq x y <;> simp [b2n]
  · show b2n _ = 0 ∨ b2n _ = 1
    cases Nat.blt x y <;> simp [b2n]
  · show b2n _ = 0 ∨ b2n _ = 1
    cases Nat.blt (Nat.mod (Nat.add x (p2 (Nat.sub w 1))) (p2 w)) (Nat.mod (Nat.add y (p2 (Nat.sub w 1))) (p2 w)) <;> simp [b2n]
theorem simpT_ev {σ} {pc : PC} (h : pc.ok σ) (t : Tm) : (simpT pc t).ev σ = t.ev σ := by
  induction t with
  | lit n => rfl
  | var i w =>
    show (forceN (decT pc (Tm.var i w)) fun d => bc (Nat.beq d 0) (Tm.lit 0) (bc (Nat.beq d 1) (bc (Nat.beq w 1) (Tm.lit 1) (Tm.var i w)) (Tm.var i w))).ev σ = _
    rw [forceN_eq]
    have hd := decT_ok h (t := .var i w)
    cases h0 : Nat.beq (decT pc (Tm.var i w)) 0
    · cases h1 : Nat.beq (decT pc (Tm.var i w)) 1
      · rfl
      · cases h2 : Nat.beq w 1
        · rfl
        · have h2 := of_nbeq h2
          subst h2
          have := hd.1 (of_nbeq h1)
          change σ i % 2 ^ 1 ≠ 0 at this
          show 1 = σ i % 2 ^ 1
          omega
    · exact (hd.2 (of_nbeq h0)).symm
  | un o w a ih =>
    cases o with
    | bnot =>
      show (mkNot (simpT pc a)).ev σ = O1.bnot.ev w (a.ev σ)
      rw [mkNot_ev, ih]
      show _ = bc (Nat.beq (a.ev σ) 0) 1 0
      by_cases e : a.ev σ = 0
      · rw [if_pos e, nbeq_t e]
      · rw [if_neg e, nbeq_f e]
    | _ => rfl
  | bin o w a b _ _ =>
    show (bc (isCmp o) (forceN (decT pc (Tm.bin o w a b)) fun d => bc (Nat.beq d 0) (Tm.lit 0) (bc (Nat.beq d 1) (Tm.lit 1) (Tm.bin o w a b))) (Tm.bin o w a b)).ev σ = _
    cases hc : isCmp o
    · rfl
    · show (forceN (decT pc (Tm.bin o w a b)) fun d => bc (Nat.beq d 0) (Tm.lit 0) (bc (Nat.beq d 1) (Tm.lit 1) (Tm.bin o w a b))).ev σ = _
      rw [forceN_eq]
      have hd := decT_ok h (t := .bin o w a b)
      cases h0 : Nat.beq (decT pc (Tm.bin o w a b)) 0
      · cases h1 : Nat.beq (decT pc (Tm.bin o w a b)) 1
        · rfl
        · have := hd.1 (of_nbeq h1)
          rw [ev_bin] at this ⊢
          rcases cmp_01 (w := w) (x := a.ev σ) (y := b.ev σ) hc with e | e
          · exact absurd e this
          · exact e.symm
      · exact (hd.2 (of_nbeq h0)).symm
  | ite c a b ihc iha ihb =>
    show (mkIte (simpT pc c) (simpT pc a) (simpT pc b)).ev σ = _
    rw [mkIte_ev, ev_ite, ihc, iha, ihb]

theorem eq_ev_ne {w x y : Nat} (h : O2.eq.ev w x y ≠ 0) : x = y := by
  by_cases e : x = y
  · exact e
  · have : O2.eq.ev w x y = b2n (Nat.beq x y) := rfl
    rw [this, nbeq_f e] at h; exact absurd rfl h
/-! ### Bits that are learnt -/
noncomputable def kvSet (v : KV) (k : Nat) (neg : Bool) : KV := bc neg ⟨v.i, v.ones, Nat.lor v.zeros (p2 k)⟩ ⟨v.i, Nat.lor v.ones (p2 k), v.zeros⟩
noncomputable def forceKv {α : Type} (v : KV) (k : KV → α) : α := KV.rec (fun i o z => forceN i fun i => forceN o fun o => forceN z fun z => k ⟨i, o, z⟩) v
theorem forceKv_eq {α : Type} (v : KV) (k : KV → α) : forceKv v k = k v := by
  cases v with
  | mk i o z => show forceN i (fun i => forceN o fun o => forceN z fun z => k ⟨i, o, z⟩) = _; rw [forceN_eq, forceN_eq, forceN_eq]
noncomputable def kvAdd (i k : Nat) (neg : Bool) (l : List KV) : List KV :=
  List.rec (forceKv (kvSet ⟨i, 0, 0⟩ k neg) fun v => [v]) (fun v l' ih => bc (Nat.beq v.i i) (forceKv (kvSet v k neg) fun v => v :: l') (v :: ih)) l
theorem kvSet_ok {σ} {v : KV} {k : Nat} {neg : Bool} (hv : v.ok σ) (h : (σ v.i).testBit k = !neg) : (kvSet v k neg).ok σ := fun j => by
  have hj := hv j
  cases neg with
  | true =>
    refine ⟨hj.1, fun hz => ?_⟩
    change (v.zeros ||| 2 ^ k).testBit j = true at hz
    rw [Nat.testBit_or, Nat.testBit_two_pow, Bool.or_eq_true] at hz
    rcases hz with hz | hz
    · exact hj.2 hz
    · have := of_decide_eq_true hz; subst this; exact h
  | false =>
    refine ⟨fun hz => ?_, hj.2⟩
    change (v.ones ||| 2 ^ k).testBit j = true at hz
    rw [Nat.testBit_or, Nat.testBit_two_pow, Bool.or_eq_true] at hz
    rcases hz with hz | hz
    · exact hj.1 hz
    · have := of_decide_eq_true hz; subst this; exact h
theorem kvAdd_ok {σ} {l : List KV} (hl : ∀ v ∈ l, v.ok σ) {i k : Nat} {neg : Bool} (h : (σ i).testBit k = !neg) : ∀ v ∈ kvAdd i k neg l, v.ok σ := by
  induction l with
  | nil =>
    intro v hv
    change v ∈ forceKv (kvSet ⟨i, 0, 0⟩ k neg) (fun v => [v]) at hv
    rw [forceKv_eq] at hv
    rw [List.mem_singleton.1 hv]
    exact kvSet_ok (v := ⟨i, 0, 0⟩) (fun j => by
      refine ⟨fun h => ?_, fun h => ?_⟩
      · change (0 : Nat).testBit j = true at h; rw [Nat.zero_testBit] at h; cases h
      · change (0 : Nat).testBit j = true at h; rw [Nat.zero_testBit] at h; cases h) h
  | cons x l ih =>
    have ih := ih fun y hy => hl y (List.mem_cons_of_mem _ hy)
    intro v hv
    change v ∈ bc (Nat.beq x.i i) (forceKv (kvSet x k neg) fun v => v :: l) (x :: kvAdd i k neg l) at hv
    cases he : Nat.beq x.i i
    · rw [he] at hv
      rcases List.mem_cons.1 hv with rfl | hv
      · exact hl _ List.mem_cons_self
      · exact ih v hv
    · rw [he] at hv
      change v ∈ forceKv (kvSet x k neg) (fun v => v :: l) at hv
      rw [forceKv_eq] at hv
      rcases List.mem_cons.1 hv with rfl | hv
      · exact kvSet_ok (hl _ List.mem_cons_self) (by rw [of_nbeq he]; exact h)
      · exact hl v (List.mem_cons_of_mem _ hv)
/-- A bit that is true. -/
noncomputable def learn1 (n : Nat) (l : List KV) : List KV := bc (Nat.ble 4 n) (kvAdd (Nat.div (Nat.div (Nat.sub n 4) 2) 64) (Nat.mod (Nat.div (Nat.sub n 4) 2) 64) (Nat.beq (Nat.mod n 2) 1) l) l
theorem learn1_ok {σ} {l : List KV} (hl : ∀ v ∈ l, v.ok σ) {n : Nat} (h : Bok σ n true) : ∀ v ∈ learn1 n l, v.ok σ := by
  unfold learn1
  cases hn : Nat.ble 4 n
  · exact hl
  · refine kvAdd_ok hl ?_
    have := h.2.2.2 (of_nble hn)
    unfold bden at this
    show (σ ((n - 4) / 2 / 64)).testBit ((n - 4) / 2 % 64) = !Nat.beq (n % 2) 1
    have e : (n % 2 == 1) = Nat.beq (n % 2) 1 := by
      by_cases e : n % 2 = 1
      · rw [nbeq_t e, e]; rfl
      · rw [nbeq_f e]; exact beq_eq_false_iff_ne.2 e
    rw [e] at this
    cases hx : (σ ((n - 4) / 2 / 64)).testBit ((n - 4) / 2 % 64) <;> cases hy : Nat.beq (n % 2) 1 <;> rw [hx, hy] at this <;> first | rfl | cases this
/-- Two bits that are the same. -/
noncomputable def learn2 (a b : Nat) (l : List KV) : List KV :=
  bc (Nat.beq a 0) (learn1 (bNeg b) l) (bc (Nat.beq a 1) (learn1 b l) (bc (Nat.beq b 0) (learn1 (bNeg a) l) (bc (Nat.beq b 1) (learn1 a l) l)))
theorem learn2_ok {σ} {l : List KV} (hl : ∀ v ∈ l, v.ok σ) {m n : Nat} {b : Bool} (ha : Bok σ m b) (hb : Bok σ n b) : ∀ v ∈ learn2 m n l, v.ok σ := by
  unfold learn2
  cases h1 : Nat.beq m 0
  · cases h2 : Nat.beq m 1
    · cases h3 : Nat.beq n 0
      · cases h4 : Nat.beq n 1
        · exact hl
        · rw [of_nbeq h4] at hb; exact learn1_ok hl (by rw [← hb.of1]; exact ha)
      · rw [of_nbeq h3] at hb; exact learn1_ok hl (by have := bNeg_ok ha; rw [hb.of0] at this; exact this)
    · rw [of_nbeq h2] at ha; exact learn1_ok hl (by rw [← ha.of1]; exact hb)
  · rw [of_nbeq h1] at ha; exact learn1_ok hl (by have := bNeg_ok hb; rw [ha.of0] at this; exact this)
noncomputable def learnL (l : List Nat) : List Nat → List KV → List KV :=
  List.rec (motive := fun _ => List Nat → List KV → List KV) (fun m kv => List.rec (motive := fun _ => List KV → List KV) (fun kv => kv) (fun b _ ih kv => ih (learn2 0 b kv)) m kv)
    (fun a _ ih m kv => List.rec (motive := fun _ => List KV → List KV) (fun kv => ih [] (learn2 a 0 kv)) (fun b m' _ kv => ih m' (learn2 a b kv)) m kv) l
theorem learnL_ok {σ} : ∀ {l m : List Nat} {x : Nat} {kv : List KV}, (∀ v ∈ kv, v.ok σ) → Lok σ l x → Lok σ m x → ∀ v ∈ learnL l m kv, v.ok σ
  | [], [], _, kv, hk, _, _ => hk
  | [], b :: m, x, kv, hk, hl, hm => learnL_ok (l := []) (m := m) (kv := learn2 0 b kv) (learn2_ok hk (hl 0) hm.head) (by have := hl.nil0; subst this; exact Lok.nil) hm.tail
  | a :: l, [], x, kv, hk, hl, hm => learnL_ok (l := l) (m := []) (kv := learn2 a 0 kv) (learn2_ok hk hl.head (hm 0)) hl.tail (by have := hm.nil0; subst this; exact Lok.nil)
  | a :: l, b :: m, x, kv, hk, hl, hm => learnL_ok (l := l) (m := m) (kv := learn2 a b kv) (learn2_ok hk hl.head hm.head) hl.tail hm.tail
noncomputable def learnT (bl : List Bnd) (kv : List KV) (t : Tm) : List KV :=
  Tm.rec (fun _ => kv) (fun i w => learn1 (truthB (bitsOf kv bl (.var i w))) kv) (fun o w a _ => forceN (truthB (bitsOf kv bl (.un o w a))) fun r => learn1 r kv)
    (fun o w a b _ _ => bc (Nat.beq o.code 10) (learnL (bitsOf kv bl a) (bitsOf kv bl b) kv) (forceN (truthB (bitsOf kv bl (.bin o w a b))) fun r => learn1 r kv)) (fun _ _ _ _ _ _ => kv) t
theorem learnT_ok {σ} {bl : List Bnd} {kv : List KV} (hb : ∀ b ∈ bl, b.ok σ) (hk : ∀ v ∈ kv, v.ok σ) {t : Tm} (ht : t.ev σ ≠ 0) : ∀ v ∈ learnT bl kv t, v.ok σ := by
  have key : ∀ {t : Tm}, t.ev σ ≠ 0 → Bok σ (truthB (bitsOf kv bl t)) true := fun {t} ht => by
    have := truthB_ok (bitsOf_ok hk hb t)
    rw [decide_eq_true ht] at this; exact this
  cases t with
  | lit n => exact hk
  | var i w => exact learn1_ok hk (key ht)
  | un o w a =>
    show ∀ v ∈ (forceN (truthB (bitsOf kv bl (.un o w a))) fun r => learn1 r kv), v.ok σ
    rw [forceN_eq]; exact learn1_ok hk (key ht)
  | bin o w a b =>
    show ∀ v ∈ bc (Nat.beq o.code 10) (learnL (bitsOf kv bl a) (bitsOf kv bl b) kv) (forceN (truthB (bitsOf kv bl (.bin o w a b))) fun r => learn1 r kv), v.ok σ
    cases ho : Nat.beq o.code 10
    · show ∀ v ∈ (forceN (truthB (bitsOf kv bl (.bin o w a b))) fun r => learn1 r kv), v.ok σ
      rw [forceN_eq]; exact learn1_ok hk (key ht)
    · have := O2.code_inj (b := .eq) (of_nbeq ho)
      subst this
      rw [ev_bin] at ht
      have he := eq_ev_ne ht
      exact learnL_ok hk (bitsOf_ok hk hb a) (by rw [he]; exact bitsOf_ok hk hb b)
  | ite c a b => exact hk

/-! ### One fact more -/
noncomputable def forceKV {α : Type} (l : List KV) (k : List KV → α) : α := List.rec (k []) (fun v l' _ => k (v :: l')) l
theorem forceKV_eq {α : Type} (l : List KV) (k : List KV → α) : forceKV l k = k l := by cases l <;> rfl
/-- The variables among bounds that are one number. -/
noncomputable def subsOf (l : List Bnd) (s : List Sub) : List Sub :=
  List.rec s (fun b _ ih => Tm.rec (fun _ => ih) (fun i w => bc (Nat.beq b.lo b.hi) (⟨i, w, b.lo⟩ :: ih) ih) (fun _ _ _ _ => ih) (fun _ _ _ _ _ _ => ih) (fun _ _ _ _ _ _ => ih) b.t) l
theorem subsOf_ok {σ} {l : List Bnd} {s : List Sub} (hl : ∀ b ∈ l, b.ok σ) (hs : ∀ x ∈ s, σ x.i % 2 ^ x.w = x.n) : ∀ x ∈ subsOf l s, σ x.i % 2 ^ x.w = x.n := by
  induction l with
  | nil => exact hs
  | cons b l ih =>
    have ih := ih fun y hy => hl y (List.mem_cons_of_mem _ hy)
    have hb := hl b List.mem_cons_self
    obtain ⟨t, lo, hi⟩ := b
    cases t with
    | var i w =>
      show ∀ x ∈ bc (Nat.beq lo hi) (⟨i, w, lo⟩ :: subsOf l s) (subsOf l s), σ x.i % 2 ^ x.w = x.n
      cases he : Nat.beq lo hi
      · exact ih
      · intro x hx
        rcases List.mem_cons.1 hx with rfl | hx
        · have e := of_nbeq he
          unfold Bnd.ok at hb
          change lo ≤ σ i % 2 ^ w ∧ σ i % 2 ^ w ≤ hi at hb
          show σ i % 2 ^ w = lo
          omega
        · exact ih x hx
    | _ => exact ih
noncomputable def newB (bl : List Bnd) (t : Tm) : List Bnd := Option.rec [] (fun b => backB bl b.t b.lo b.hi) (asBnd bl t)
theorem newB_ok {σ} {bl : List Bnd} (h : ∀ b ∈ bl, b.ok σ) {t : Tm} (ht : t.ev σ ≠ 0) : ∀ b ∈ newB bl t, b.ok σ := by
  unfold newB
  cases ha : asBnd bl t with
  | none => intro b hb; cases hb
  | some b => exact backB_ok h b.t (asBnd_ok h ha ht)
noncomputable def appB (l m : List Bnd) : List Bnd := List.rec m (fun x _ ih => x :: ih) l
theorem appB_ok {σ} {l m : List Bnd} (hl : ∀ b ∈ l, b.ok σ) (hm : ∀ b ∈ m, b.ok σ) : ∀ b ∈ appB l m, b.ok σ := by
  induction l with
  | nil => exact hm
  | cons x l ih =>
    intro b hb
    change b ∈ x :: appB l m at hb
    rcases List.mem_cons.1 hb with rfl | hb
    · exact hl _ List.mem_cons_self
    · exact ih (fun y hy => hl y (List.mem_cons_of_mem _ hy)) b hb
noncomputable def forceBs {α : Type} (l : List Bnd) (k : List Bnd → α) : α := List.rec (k []) (fun v l' _ => k (v :: l')) l
theorem forceBs_eq {α : Type} (l : List Bnd) (k : List Bnd → α) : forceBs l k = k l := by cases l <;> rfl
noncomputable def PC.add1 (pc : PC) (t : Tm) : PC :=
  forceBs (newB pc.bnds t) fun nb => forceKV (learnT pc.bnds pc.kv t) fun kv => ⟨t :: pc.facts, subsOf nb pc.subs, appB nb pc.bnds, kv, pc.lems, pc.cz, pc.hints⟩
theorem PC.add1_ok {σ} {pc : PC} (h : pc.ok σ) {t : Tm} (ht : t.ev σ ≠ 0) : (pc.add1 t).ok σ := by
  unfold PC.add1
  rw [forceBs_eq, forceKV_eq]
  have hn := newB_ok h.2.2.1 ht
  refine ⟨fun x hx => ?_, subsOf_ok hn h.2.1, appB_ok hn h.2.2.1, learnT_ok h.2.2.1 h.2.2.2.1 ht, h.2.2.2.2⟩
  rcases List.mem_cons.1 hx with rfl | hx
  · exact ht
  · exact h.1 x hx
noncomputable def litIs (z : Bool) (t : Tm) : Bool := Option.rec false (fun n => bc z (Nat.beq n 0) (Nat.blt 0 n)) (isLit t)
theorem litIs_t {σ} {t : Tm} (h : litIs true t = true) : t.ev σ = 0 := by
  unfold litIs at h
  cases hl : isLit t with
  | none => rw [hl] at h; cases h
  | some n => rw [hl] at h; rw [isLit_some hl]; exact of_nbeq h
theorem litIs_f {σ} {t : Tm} (h : litIs false t = true) : t.ev σ ≠ 0 := by
  unfold litIs at h
  cases hl : isLit t with
  | none => rw [hl] at h; cases h
  | some n => rw [hl] at h; rw [isLit_some hl]; have := of_nblt h; exact Nat.ne_of_gt this
/-- The parts of a fact: t, or, where neg, that it is none. -/
noncomputable def addD (t : Tm) : Bool → PC → PC :=
  Tm.rec (motive := fun _ => Bool → PC → PC) (fun _ _ pc => pc) (fun i w neg pc => pc.add1 (bc neg (mkNot (.var i w)) (.var i w)))
    (fun o w a ih neg pc => O1.rec (pc.add1 (bc neg (mkNot (.un o w a)) (.un o w a))) (fun _ => pc.add1 (bc neg (mkNot (.un o w a)) (.un o w a))) (ih (Bool.not neg) pc) o)
    (fun o w a b _ _ neg pc => pc.add1 (bc neg (mkNot (.bin o w a b)) (.bin o w a b)))
    (fun c a b ihc iha ihb neg pc => bc (litIs (Bool.not neg) b) (iha neg (ihc false pc)) (bc (litIs (Bool.not neg) a) (ihb neg (ihc true pc)) (pc.add1 (bc neg (mkNot (.ite c a b)) (.ite c a b))))) t
def Sok (σ : Nat → Nat) (neg : Bool) (t : Tm) : Prop := (neg = false → t.ev σ ≠ 0) ∧ (neg = true → t.ev σ = 0)
theorem addD1 {σ} {pc : PC} (h : pc.ok σ) {t : Tm} {neg : Bool} (ht : Sok σ neg t) : (pc.add1 (bc neg (mkNot t) t)).ok σ := by
  cases neg with
  | false => exact PC.add1_ok h (ht.1 rfl)
  | true => exact PC.add1_ok h (by show (mkNot t).ev σ ≠ 0; rw [mkNot_ev, if_pos (ht.2 rfl)]; exact Nat.one_ne_zero)
theorem addD_ok {σ} {t : Tm} : ∀ {neg : Bool} {pc : PC}, pc.ok σ → Sok σ neg t → (addD t neg pc).ok σ := by
  induction t with
  | lit n => intro neg pc h _; exact h
  | var i w => intro neg pc h ht; exact addD1 h ht
  | un o w a ih =>
    intro neg pc h ht
    cases o with
    | bnot =>
      refine ih h ?_
      have e : (Tm.un .bnot w a).ev σ = if a.ev σ = 0 then 1 else 0 := mkNot_ev σ a ▸ by
        unfold mkNot; rw [mkUn_ev]; rfl
      unfold Sok at ht
      rw [e] at ht
      cases neg with
      | false =>
        refine ⟨(fun h => by cases h), fun _ => ?_⟩
        have := ht.1 rfl
        by_cases e : a.ev σ = 0
        · exact e
        · rw [if_neg e] at this; exact absurd rfl this
      | true =>
        refine ⟨fun _ => ?_, (fun h => by cases h)⟩
        have := ht.2 rfl
        intro e; rw [if_pos e] at this; cases this
    | _ => exact addD1 h ht
  | bin o w a b _ _ => intro neg pc h ht; exact addD1 h ht
  | ite c a b ihc iha ihb =>
    intro neg pc h ht
    show (bc (litIs (Bool.not neg) b) (addD a neg (addD c false pc)) (bc (litIs (Bool.not neg) a) (addD b neg (addD c true pc)) (pc.add1 (bc neg (mkNot (.ite c a b)) (.ite c a b))))).ok σ
    have ht' := ht
    unfold Sok at ht'
    rw [ev_ite] at ht'
    cases h1 : litIs (Bool.not neg) b
    · cases h2 : litIs (Bool.not neg) a
      · exact addD1 h ht
      · show (addD b neg (addD c true pc)).ok σ
        by_cases e : c.ev σ = 0
        · rw [if_pos e] at ht'
          exact ihb (ihc h ⟨(fun h => by cases h), fun _ => e⟩) ht'
        · exfalso
          rw [if_neg e] at ht'
          cases neg with
          | false => exact ht'.1 rfl (litIs_t h2)
          | true => exact litIs_f h2 (ht'.2 rfl)
    · show (addD a neg (addD c false pc)).ok σ
      by_cases e : c.ev σ = 0
      · exfalso
        rw [if_pos e] at ht'
        cases neg with
        | false => exact ht'.1 rfl (litIs_t h1)
        | true => exact litIs_f h1 (ht'.2 rfl)
      · rw [if_neg e] at ht'
        exact iha (ihc h ⟨fun _ => e, (fun h => by cases h)⟩) ht'
noncomputable def forcePC {α : Type} (pc : PC) (k : PC → α) : α := PC.rec (fun a b c d e f g => k ⟨a, b, c, d, e, f, g⟩) pc
theorem forcePC_eq {α : Type} (pc : PC) (k : PC → α) : forcePC pc k = k pc := by cases pc; rfl
noncomputable def PC.add (pc : PC) (t : Tm) (neg : Bool) : PC := addD t neg pc
theorem PC.add_ok {σ} {pc : PC} (h : pc.ok σ) {t : Tm} {neg : Bool} (ht : Sok σ neg t) : (pc.add t neg).ok σ := addD_ok h ht

/-! ### The heap -/
structure ME where
  key : SV
  val : SV
  born : Nat
inductive SObj
  | cells (cs : List SV) (e : Nat)
  | grown (cs : List SV) (e z : Nat)
  | map (es : List ME) (clock : Nat)
structure HE where
  ob : SObj
  ro : Bool

inductive DenM (σ : Nat → Nat) (β : Nat → Option (Nat × Nat)) : List ME → List MapEntry → Prop
  | nil : DenM σ β [] []
  | cons {m : ME} {k v : Value} {ms : List ME} {es : List MapEntry} (hk : Den σ β m.key k) (hv : Den σ β m.val v) (t : DenM σ β ms es) : DenM σ β (m :: ms) (⟨k, v, m.born⟩ :: es)
theorem DenM.mono {σ} {β β' : Nat → Option (Nat × Nat)} (e : Ext β β') : ∀ {a : List ME} {b : List MapEntry}, DenM σ β a b → DenM σ β' a b
  | _, _, .nil => .nil
  | _, _, .cons hk hv t => .cons (hk.mono e) (hv.mono e) (DenM.mono e t)

/-- What an object denotes; c: how many cells a grown one has. -/
inductive ObjDen (σ : Nat → Nat) (β : Nat → Option (Nat × Nat)) (c : Nat) : SObj → Obj → Prop
  | cells {cs : List SV} {vs : List Value} {e : Nat} (h : DenL σ β cs vs) : ObjDen σ β c (.cells cs e) (.cells vs.toArray e (0, 0))
  | grown {cs : List SV} {vs rest : List Value} {e z : Nat} (h : DenL σ β cs vs) (hc : (vs ++ rest).length = c * z) : ObjDen σ β c (.grown cs e z) (.cells (vs ++ rest).toArray e (0, 0))
  | map {es : List ME} {ms : List MapEntry} {clock : Nat} (h : DenM σ β es ms) : ObjDen σ β c (.map es clock) (.map ms.toArray clock)
theorem ObjDen.mono {σ} {β β' : Nat → Option (Nat × Nat)} (e : Ext β β') {c : Nat} {s : SObj} {o : Obj} (h : ObjDen σ β c s o) : ObjDen σ β' c s o := by
  cases h with
  | cells h => exact .cells (h.mono e)
  | grown h hc => exact .grown (h.mono e) hc
  | map h => exact .map (h.mono e)

structure St where
  hp : Tr HE
  nn : Nat
  pc : PC

/-- What a state says of a world: w0 is the world at the beginning. -/
structure Rep (σ : Nat → Nat) (w0 : World) (β : Nat → Option (Nat × Nat)) (st : St) (w : World) : Prop where
  pc : st.pc.ok σ
  below : Below w0.heap.size w0 w
  fresh : ∀ o, st.nn ≤ o → β o = none
  heap : ∀ o he, st.hp.get o = some he → ∃ b c x, β o = some (b, c) ∧ w.heap[b]? = some x ∧ ObjDen σ β c he.ob x ∧ (he.ro = false → w0.heap.size ≤ b)
  inj : ∀ o o' he he' b c c', st.hp.get o = some he → st.hp.get o' = some he' → β o = some (b, c) → β o' = some (b, c') → o = o'

structure Fr where
  t : Tr SV
  n : Nat

structure RepF (σ : Nat → Nat) (β : Nat → Option (Nat × Nat)) (F : Fr) (a : Act) : Prop where
  size : a.tmps.size = F.n
  defers : a.defers = []
  tmp : ∀ i s, F.t.get i = some s → ∃ v, a.tmps[i]? = some v ∧ Den σ β s v

theorem RepF.mono {σ} {β β' : Nat → Option (Nat × Nat)} (e : Ext β β') {F : Fr} {a : Act} (h : RepF σ β F a) : RepF σ β' F a :=
  ⟨h.size, h.defers, fun i s hs => let ⟨v, h1, h2⟩ := h.tmp i s hs; ⟨v, h1, h2.mono e⟩⟩

theorem Rep.assume {σ w0 β} {st : St} {w : World} (h : Rep σ w0 β st w) {pc : PC} (hp : pc.ok σ) : Rep σ w0 β ⟨st.hp, st.nn, pc⟩ w :=
  ⟨hp, h.below, h.fresh, h.heap, h.inj⟩

end Go.Sx
end
