/- A symbolic run of the program: terms, trees, bounds. -/
import GoSem.Dispatch
import Derived.KernelRfl

section
/- Terms over bits, for a symbolic run: what they are worth, and that this is what the model's operations on integers say. -/
namespace Go.Sy

/-- A choice by a Bool, by its recursor. -/
noncomputable abbrev bc {α : Type} (c : Bool) (t e : α) : α := Bool.rec e t c
theorem bc_true {α : Type} (t e : α) : bc true t e = t := rfl
theorem bc_false {α : Type} (t e : α) : bc false t e = e := rfl
theorem bc_eq {α : Type} (c : Bool) (t e : α) : bc c t e = if c = true then t else e := by cases c <;> rfl

theorem nbeq_f {m n : Nat} (h : ¬ m = n) : Nat.beq m n = false := Bool.eq_false_iff.2 fun h' => h (Nat.eq_of_beq_eq_true h')
theorem nbeq_t {m n : Nat} (h : m = n) : Nat.beq m n = true := h ▸ Nat.beq_refl m
theorem of_nbeq {m n : Nat} (h : Nat.beq m n = true) : m = n := Nat.eq_of_beq_eq_true h
theorem of_nbeq_f {m n : Nat} (h : Nat.beq m n = false) : ¬ m = n := fun e => by rw [nbeq_t e] at h; cases h
theorem of_nble {m n : Nat} (h : Nat.ble m n = true) : m ≤ n := Nat.le_of_ble_eq_true h
theorem nble_t {m n : Nat} (h : m ≤ n) : Nat.ble m n = true := Nat.ble_eq_true_of_le h
theorem nble_f {m n : Nat} (h : ¬ m ≤ n) : Nat.ble m n = false := Bool.eq_false_iff.2 fun h' => h (Nat.le_of_ble_eq_true h')
theorem of_nblt {m n : Nat} (h : Nat.blt m n = true) : m < n := Nat.le_of_ble_eq_true h
theorem nblt_t {m n : Nat} (h : m < n) : Nat.blt m n = true := Nat.ble_eq_true_of_le h
theorem nblt_f {m n : Nat} (h : ¬ m < n) : Nat.blt m n = false := nble_f h

inductive O1 | tr | sx (ws : Nat) | bnot
inductive O2 | add | sub | mul | and | or | xor | shl | shr | sar | eq | ult | slt | udiv | urem | sdiv | srem | pair

/-- A term: a number, a variable (of so many bits), an operation, a choice. -/
inductive Tm
  | lit (n : Nat)
  | var (i w : Nat)
  | un (o : O1) (w : Nat) (a : Tm)
  | bin (o : O2) (w : Nat) (a b : Tm)
  | ite (c a b : Tm)
  | app (f w : Nat) (a : Tm)

noncomputable def p2 (w : Nat) : Nat := Nat.pow 2 w
theorem p2_eq (w : Nat) : p2 w = 2 ^ w := rfl

noncomputable def O1.ev (o : O1) (w x : Nat) : Nat :=
  O1.rec (Nat.mod x (p2 w)) (fun ws => bc (Nat.blt x (p2 (Nat.sub ws 1))) x (Nat.add x (Nat.sub (p2 w) (p2 ws)))) (bc (Nat.beq x 0) 1 0) o

/-- A number's two's complement, magnitude of the negative. -/
noncomputable def isNeg (w x : Nat) : Bool := Nat.ble (p2 (Nat.sub w 1)) x
noncomputable def mag (w x : Nat) : Nat := bc (isNeg w x) (Nat.sub (p2 w) x) x
noncomputable def b2n (b : Bool) : Nat := bc b 1 0
noncomputable def sgn (neg : Bool) (w x : Nat) : Nat := bc neg (Nat.mod (Nat.sub (p2 w) (Nat.mod x (p2 w))) (p2 w)) (Nat.mod x (p2 w))

noncomputable def O2.ev (o : O2) (w x y : Nat) : Nat :=
  O2.rec (Nat.mod (Nat.add x y) (p2 w)) (Nat.mod (Nat.add x (Nat.sub (p2 w) (Nat.mod y (p2 w)))) (p2 w)) (Nat.mod (Nat.mul x y) (p2 w))
    (Nat.land x y) (Nat.lor x y) (Nat.xor x y)
    (bc (Nat.ble w y) 0 (Nat.mod (Nat.mul x (p2 y)) (p2 w))) (bc (Nat.ble w y) 0 (Nat.div x (p2 y)))
    (bc (isNeg w x) (Nat.sub (Nat.sub (p2 w) 1) (Nat.div (Nat.sub (Nat.sub (p2 w) 1) x) (p2 (bc (Nat.ble w y) w y)))) (Nat.div x (p2 (bc (Nat.ble w y) w y))))
    (b2n (Nat.beq x y)) (b2n (Nat.blt x y)) (b2n (Nat.blt (Nat.mod (Nat.add x (p2 (Nat.sub w 1))) (p2 w)) (Nat.mod (Nat.add y (p2 (Nat.sub w 1))) (p2 w))))
    (Nat.div x y) (Nat.mod x y)
    (sgn (bne (isNeg w x) (isNeg w y)) w (Nat.div (mag w x) (mag w y))) (sgn (isNeg w x) w (Nat.mod (mag w x) (mag w y))) (Nat.add (Nat.mul (Nat.add x y) (Nat.add x y)) y) o

/-- Where an application's worth lies among the variables'. -/
noncomputable def appAt (f x : Nat) : Nat := Nat.add (Nat.pow 2 40) (O2.pair.ev 0 f x)
/-- What a term is worth. -/
noncomputable def Tm.ev (σ : Nat → Nat) (t : Tm) : Nat :=
  Tm.rec (fun n => n) (fun i w => Nat.mod (σ i) (p2 w)) (fun o w _ x => O1.ev o w x) (fun o w _ _ x y => O2.ev o w x y) (fun _ _ _ c x y => bc (Nat.beq c 0) y x) (fun f w _ x => Nat.mod (σ (appAt f x)) (p2 w)) t

theorem ev_lit (σ : Nat → Nat) (n : Nat) : (Tm.lit n).ev σ = n := rfl
theorem ev_un (σ : Nat → Nat) (o w a) : (Tm.un o w a).ev σ = o.ev w (a.ev σ) := rfl
theorem ev_bin (σ : Nat → Nat) (o w a b) : (Tm.bin o w a b).ev σ = o.ev w (a.ev σ) (b.ev σ) := rfl
theorem ev_app (σ : Nat → Nat) (f w a) : (Tm.app f w a).ev σ = σ (appAt f (a.ev σ)) % 2 ^ w := rfl
theorem ev_ite (σ : Nat → Nat) (c a b) : (Tm.ite c a b).ev σ = if c.ev σ = 0 then b.ev σ else a.ev σ := by
  show bc (Nat.beq (c.ev σ) 0) (b.ev σ) (a.ev σ) = _
  by_cases h : c.ev σ = 0
  · rw [h]; rfl
  · rw [if_neg h, nbeq_f h]

/-! ### Smart constructors -/
noncomputable def mkUn (o : O1) (w : Nat) (a : Tm) : Tm :=
  Tm.rec (fun n => .lit (o.ev w n)) (fun i v => .un o w (.var i v)) (fun o' w' a' _ => .un o w (.un o' w' a')) (fun o' w' a' b' _ _ => .un o w (.bin o' w' a' b')) (fun c a' b' _ _ _ => .un o w (.ite c a' b')) (fun f' w' a' _ => .un o w (.app f' w' a')) a
theorem mkUn_ev (σ : Nat → Nat) (o w a) : (mkUn o w a).ev σ = o.ev w (a.ev σ) := by cases a <;> rfl

noncomputable def isLit (a : Tm) : Option Nat := Tm.rec (fun n => some n) (fun _ _ => none) (fun _ _ _ _ => none) (fun _ _ _ _ _ _ => none) (fun _ _ _ _ _ _ => none) (fun _ _ _ _ => none) a
theorem isLit_some {a : Tm} {n : Nat} (h : isLit a = some n) : a = .lit n := by
  cases a <;> simp [isLit] at h; rw [h]

noncomputable def mkBin (o : O2) (w : Nat) (a b : Tm) : Tm :=
  Option.rec (.bin o w a b) (fun x => Option.rec (.bin o w a b) (fun y => .lit (o.ev w x y)) (isLit b)) (isLit a)
theorem mkBin_ev (σ : Nat → Nat) (o w a b) : (mkBin o w a b).ev σ = o.ev w (a.ev σ) (b.ev σ) := by
  unfold mkBin
  cases ha : isLit a with
  | none => rfl
  | some x =>
    cases hb : isLit b with
    | none => rfl
    | some y => rw [isLit_some ha, isLit_some hb]; rfl

noncomputable def mkIte (c a b : Tm) : Tm := Option.rec (.ite c a b) (fun n => bc (Nat.beq n 0) b a) (isLit c)
theorem mkIte_ev (σ : Nat → Nat) (c a b) : (mkIte c a b).ev σ = if c.ev σ = 0 then b.ev σ else a.ev σ := by
  unfold mkIte
  cases hc : isLit c with
  | none => exact ev_ite σ c a b
  | some n =>
    rw [isLit_some hc, ev_lit]
    show (bc (Nat.beq n 0) b a).ev σ = _
    by_cases h : n = 0
    · subst h; rfl
    · rw [if_neg h, nbeq_f h]

/-! ### Numbers of a kind -/
/-- The number of some bits. -/
def ofB (k : IntKind) (n : Nat) : Int := k.wrap (n : Int)

theorem bits_pos (k : IntKind) : 0 < k.bits := by cases k <;> decide
theorem p2_pos (w : Nat) : 0 < p2 w := Nat.two_pow_pos w

theorem wrap_emod (k : IntKind) (x : Int) : k.wrap x % (2 ^ k.bits : Int) = x % (2 ^ k.bits : Int) := by
  unfold IntKind.wrap
  simp only
  split
  · rw [Int.sub_emod_right, Int.emod_emod_of_dvd _ (Int.dvd_refl _)]
  · rw [Int.emod_emod_of_dvd _ (Int.dvd_refl _)]
theorem wrap_congr {k : IntKind} {x y : Int} (h : x % (2 ^ k.bits : Int) = y % (2 ^ k.bits : Int)) : k.wrap x = k.wrap y := by
  unfold IntKind.wrap; simp only [h]
theorem wrap_wrap (k : IntKind) (x : Int) : k.wrap (k.wrap x) = k.wrap x := wrap_congr (wrap_emod k x)
theorem ofB_emod (k : IntKind) (n : Nat) : ofB k n % (2 ^ k.bits : Int) = (n : Int) % (2 ^ k.bits : Int) := wrap_emod k _
theorem ofB_mod (k : IntKind) (n : Nat) : ofB k (n % 2 ^ k.bits) = ofB k n := by
  unfold ofB; apply wrap_congr
  rw [Int.natCast_emod, Int.natCast_pow]
  exact Int.emod_emod_of_dvd _ (Int.dvd_refl _)
theorem ofB_unsigned {k : IntKind} (hs : k.signed = false) {n : Nat} (hn : n < 2 ^ k.bits) : ofB k n = n := by
  unfold ofB IntKind.wrap
  have : (n : Int) % 2 ^ k.bits = n := by exact_mod_cast Nat.mod_eq_of_lt hn
  simp [hs, this]
theorem ofB_signed {k : IntKind} (hs : k.signed = true) {n : Nat} (hn : n < 2 ^ k.bits) : ofB k n = if 2 ^ (k.bits - 1) ≤ n then (n : Int) - 2 ^ k.bits else n := by
  unfold ofB IntKind.wrap
  have : (n : Int) % 2 ^ k.bits = n := by exact_mod_cast Nat.mod_eq_of_lt hn
  simp only [hs, Bool.true_and, this]
  by_cases h : 2 ^ (k.bits - 1) ≤ n
  · have : (n : Int) ≥ 2 ^ (k.bits - 1) := by exact_mod_cast h
    simp [h, this]
  · have : ¬ (n : Int) ≥ 2 ^ (k.bits - 1) := by intro h'; exact h (by exact_mod_cast h')
    simp [h, this]
theorem ofB_inj {k : IntKind} {m n : Nat} (hm : m < 2 ^ k.bits) (hn : n < 2 ^ k.bits) (h : ofB k m = ofB k n) : m = n := by
  have := ofB_emod k m
  rw [h, ofB_emod] at this
  have h2 : (n % 2 ^ k.bits : Nat) = (m % 2 ^ k.bits : Nat) := by exact_mod_cast this
  rw [Nat.mod_eq_of_lt hm, Nat.mod_eq_of_lt hn] at h2
  exact h2.symm
theorem ofB_holds (k : IntKind) (n : Nat) : k.min ≤ ofB k n ∧ ofB k n ≤ k.max := by
  have h1 : ofB k n = ofB k (n % 2 ^ k.bits) := (ofB_mod k n).symm
  have hlt : n % 2 ^ k.bits < 2 ^ k.bits := Nat.mod_lt _ (Nat.two_pow_pos _)
  rw [h1]
  cases hs : k.signed
  · rw [ofB_unsigned hs hlt]
    simp only [IntKind.min, IntKind.max, hs]
    have : ((n % 2 ^ k.bits : Nat) : Int) < 2 ^ k.bits := by exact_mod_cast hlt
    simp; omega
  · rw [ofB_signed hs hlt]
    simp only [IntKind.min, IntKind.max, hs, if_true]
    have hlt' : ((n % 2 ^ k.bits : Nat) : Int) < 2 ^ k.bits := by exact_mod_cast hlt
    have hp : (2 : Int) ^ k.bits = 2 * 2 ^ (k.bits - 1) := by
      have := bits_pos k
      conv => lhs; rw [show k.bits = (k.bits - 1) + 1 by omega, Int.pow_succ]
      omega
    split
    · rename_i h
      have : (2 ^ (k.bits - 1) : Int) ≤ ((n % 2 ^ k.bits : Nat) : Int) := by exact_mod_cast h
      constructor <;> omega
    · rename_i h
      have : ((n % 2 ^ k.bits : Nat) : Int) < (2 ^ (k.bits - 1) : Int) := by exact_mod_cast (Nat.lt_of_not_le h)
      have hpos : (0 : Int) < 2 ^ (k.bits - 1) := by exact_mod_cast Nat.two_pow_pos (k.bits - 1)
      constructor <;> omega

end Go.Sy
end

section
/- What the model's operations on integers say, in bits. -/
namespace Go.Sy

theorem ofB_wrap_of_emod {k : IntKind} {z : Int} {n : Nat} (h : z % (2 ^ k.bits : Int) = (n : Int) % (2 ^ k.bits : Int)) : k.wrap z = ofB k n := wrap_congr h

theorem add_ofB (k : IntKind) (x y : Nat) : k.wrap (ofB k x + ofB k y) = ofB k (O2.add.ev k.bits x y) := by
  show _ = ofB k ((x + y) % 2 ^ k.bits)
  rw [ofB_mod]
  apply ofB_wrap_of_emod
  rw [Int.add_emod, ofB_emod, ofB_emod, ← Int.add_emod]; simp
theorem mul_ofB (k : IntKind) (x y : Nat) : k.wrap (ofB k x * ofB k y) = ofB k (O2.mul.ev k.bits x y) := by
  show _ = ofB k ((x * y) % 2 ^ k.bits)
  rw [ofB_mod]
  apply ofB_wrap_of_emod
  rw [Int.mul_emod, ofB_emod, ofB_emod, ← Int.mul_emod]; simp
theorem sub_ofB (k : IntKind) (x y : Nat) : k.wrap (ofB k x - ofB k y) = ofB k (O2.sub.ev k.bits x y) := by
  show _ = ofB k ((x + (2 ^ k.bits - y % 2 ^ k.bits)) % 2 ^ k.bits)
  rw [ofB_mod]
  apply ofB_wrap_of_emod
  rw [Int.sub_emod, ofB_emod, ofB_emod, ← Int.sub_emod]
  have hlt : y % 2 ^ k.bits < 2 ^ k.bits := Nat.mod_lt _ (Nat.two_pow_pos _)
  rw [Int.natCast_add, Int.natCast_sub (Nat.le_of_lt hlt), Int.natCast_emod]
  push_cast
  rw [show (x : Int) + (2 ^ k.bits - (y : Int) % 2 ^ k.bits) = (x - (y : Int) % 2 ^ k.bits) + 2 ^ k.bits by omega, Int.add_emod_right, Int.sub_emod, Int.sub_emod (x : Int) ((y : Int) % _), Int.emod_emod_of_dvd _ (Int.dvd_refl _)]

theorem bv_ofB (k : IntKind) (x : Nat) : BitVec.ofInt k.bits (ofB k x) = BitVec.ofNat k.bits x := by
  apply BitVec.eq_of_toNat_eq
  rw [BitVec.toNat_ofInt, BitVec.toNat_ofNat]
  have h := ofB_emod k x
  have e : ofB k x % ((2 ^ k.bits : Nat) : Int) = ((x % 2 ^ k.bits : Nat) : Int) := by push_cast; exact h
  rw [e]; rfl

theorem and_ofB (k : IntKind) {x y : Nat} (hx : x < 2 ^ k.bits) (hy : y < 2 ^ k.bits) :
    k.wrap (((BitVec.ofInt k.bits (ofB k x)) &&& (BitVec.ofInt k.bits (ofB k y))).toNat : Int) = ofB k (O2.and.ev k.bits x y) := by
  rw [bv_ofB, bv_ofB]
  show _ = ofB k (x &&& y)
  simp [ofB, Nat.mod_eq_of_lt hx, Nat.mod_eq_of_lt hy]
theorem or_ofB (k : IntKind) {x y : Nat} (hx : x < 2 ^ k.bits) (hy : y < 2 ^ k.bits) :
    k.wrap (((BitVec.ofInt k.bits (ofB k x)) ||| (BitVec.ofInt k.bits (ofB k y))).toNat : Int) = ofB k (O2.or.ev k.bits x y) := by
  rw [bv_ofB, bv_ofB]
  show _ = ofB k (x ||| y)
  simp [ofB, Nat.mod_eq_of_lt hx, Nat.mod_eq_of_lt hy]
theorem xor_ofB (k : IntKind) {x y : Nat} (hx : x < 2 ^ k.bits) (hy : y < 2 ^ k.bits) :
    k.wrap (((BitVec.ofInt k.bits (ofB k x)) ^^^ (BitVec.ofInt k.bits (ofB k y))).toNat : Int) = ofB k (O2.xor.ev k.bits x y) := by
  rw [bv_ofB, bv_ofB]
  show _ = ofB k (x ^^^ y)
  simp [ofB, Nat.mod_eq_of_lt hx, Nat.mod_eq_of_lt hy]
theorem andNot_ofB (k : IntKind) {x y : Nat} (hx : x < 2 ^ k.bits) (hy : y < 2 ^ k.bits) :
    k.wrap (((BitVec.ofInt k.bits (ofB k x)) &&& ~~~(BitVec.ofInt k.bits (ofB k y))).toNat : Int) = ofB k (O2.and.ev k.bits x (O2.xor.ev k.bits y (2 ^ k.bits - 1))) := by
  rw [bv_ofB, bv_ofB]
  show _ = ofB k (x &&& (y ^^^ (2 ^ k.bits - 1)))
  have e : (BitVec.ofNat k.bits x &&& ~~~BitVec.ofNat k.bits y).toNat = x &&& (y ^^^ (2 ^ k.bits - 1)) := by
    apply Nat.eq_of_testBit_eq
    intro i
    by_cases hi : i < k.bits
    · have h3 := Nat.testBit_two_pow_sub_succ hy i
      simp [Nat.testBit_and, Nat.testBit_xor, Nat.mod_eq_of_lt hx, Nat.mod_eq_of_lt hy, hi, Nat.testBit_two_pow_sub_one]
      rw [show 2 ^ k.bits - 1 - y = 2 ^ k.bits - (y + 1) by omega, h3]
      simp [hi]
    · have h1 : x.testBit i = false := Nat.testBit_lt_two_pow (Nat.lt_of_lt_of_le hx (Nat.pow_le_pow_right (by omega) (by omega)))
      have h2 : (BitVec.ofNat k.bits x &&& ~~~BitVec.ofNat k.bits y).toNat.testBit i = false :=
        Nat.testBit_lt_two_pow (Nat.lt_of_lt_of_le (BitVec.isLt _) (Nat.pow_le_pow_right (by omega) (by omega)))
      rw [h2]; simp [Nat.testBit_and, h1]
  rw [e]; rfl

theorem eq_ofB {k : IntKind} {x y : Nat} (hx : x < 2 ^ k.bits) (hy : y < 2 ^ k.bits) : (ofB k x == ofB k y) = Nat.beq x y := by
  by_cases h : x = y
  · subst h; simp
  · rw [nbeq_f h]
    simp only [beq_eq_false_iff_ne, ne_eq]
    exact fun e => h (ofB_inj hx hy e)

theorem two_p (k : IntKind) : (2 : Nat) ^ k.bits = 2 * 2 ^ (k.bits - 1) := by
  have := bits_pos k
  conv => lhs; rw [show k.bits = (k.bits - 1) + 1 by omega, Nat.pow_succ]
  omega

/-- The order of numbers of a kind, in bits. -/
noncomputable def ltB (k : IntKind) (x y : Nat) : Nat := bc k.signed (O2.slt.ev k.bits x y) (O2.ult.ev k.bits x y)
theorem lt_ofB {k : IntKind} {x y : Nat} (hx : x < 2 ^ k.bits) (hy : y < 2 ^ k.bits) : ltB k x y = if ofB k x < ofB k y then 1 else 0 := by
  unfold ltB
  cases hs : k.signed
  · show b2n (Nat.blt x y) = _
    rw [ofB_unsigned hs hx, ofB_unsigned hs hy]
    by_cases h : x < y
    · rw [nblt_t h, if_pos (by exact_mod_cast h)]; rfl
    · rw [nblt_f h, if_neg (by exact_mod_cast h)]; rfl
  · show b2n (Nat.blt ((x + 2 ^ (k.bits - 1)) % 2 ^ k.bits) ((y + 2 ^ (k.bits - 1)) % 2 ^ k.bits)) = _
    rw [ofB_signed hs hx, ofB_signed hs hy]
    have h2 := two_p k
    have ex : (x + 2 ^ (k.bits - 1)) % 2 ^ k.bits = if 2 ^ (k.bits - 1) ≤ x then x - 2 ^ (k.bits - 1) else x + 2 ^ (k.bits - 1) := by
      split
      · rename_i h
        rw [show x + 2 ^ (k.bits - 1) = (x - 2 ^ (k.bits - 1)) + 2 ^ k.bits by omega, Nat.add_mod_right, Nat.mod_eq_of_lt (by omega)]
      · rw [Nat.mod_eq_of_lt (by omega)]
    have ey : (y + 2 ^ (k.bits - 1)) % 2 ^ k.bits = if 2 ^ (k.bits - 1) ≤ y then y - 2 ^ (k.bits - 1) else y + 2 ^ (k.bits - 1) := by
      split
      · rename_i h
        rw [show y + 2 ^ (k.bits - 1) = (y - 2 ^ (k.bits - 1)) + 2 ^ k.bits by omega, Nat.add_mod_right, Nat.mod_eq_of_lt (by omega)]
      · rw [Nat.mod_eq_of_lt (by omega)]
    have hc : ((2 ^ k.bits : Nat) : Int) = 2 ^ k.bits := by push_cast; rfl
    rw [ex, ey, ← hc]
    generalize 2 ^ (k.bits - 1) = p at *
    generalize 2 ^ k.bits = q at *
    by_cases h1 : p ≤ x <;> by_cases h2 : p ≤ y <;> simp only [h1, h2, if_true, if_false] <;>
      first
        | (by_cases h : x - p < y - p
           · rw [nblt_t h, if_pos (by omega)]; rfl
           · rw [nblt_f h, if_neg (by omega)]; rfl)
        | (by_cases h : x - p < y + p
           · rw [nblt_t h, if_pos (by omega)]; rfl
           · rw [nblt_f h, if_neg (by omega)]; rfl)
        | (by_cases h : x + p < y - p
           · rw [nblt_t h, if_pos (by omega)]; rfl
           · rw [nblt_f h, if_neg (by omega)]; rfl)
        | (by_cases h : x + p < y + p
           · rw [nblt_t h, if_pos (by omega)]; rfl
           · rw [nblt_f h, if_neg (by omega)]; rfl)

/-- A shift to the left by n (a number of bits at most that of the kind). -/
theorem shl_ofB (k : IntKind) (x n : Nat) : k.wrap (ofB k x * 2 ^ (min n k.bits)) = ofB k (O2.shl.ev k.bits x n) := by
  show _ = ofB k (bc (Nat.ble k.bits n) 0 ((x * 2 ^ n) % 2 ^ k.bits))
  by_cases h : k.bits ≤ n
  · rw [nble_t h, Nat.min_eq_right h]
    show _ = ofB k 0
    apply ofB_wrap_of_emod
    simp
  · rw [nble_f h, Nat.min_eq_left (by omega)]
    show _ = ofB k ((x * 2 ^ n) % 2 ^ k.bits)
    rw [ofB_mod]
    apply ofB_wrap_of_emod
    rw [Int.mul_emod, ofB_emod, ← Int.mul_emod]
    push_cast; rfl

theorem shr_ofB_u {k : IntKind} (hs : k.signed = false) {x : Nat} (hx : x < 2 ^ k.bits) (n : Nat) : (ofB k x).fdiv (2 ^ (min n k.bits)) = ofB k (O2.shr.ev k.bits x n) := by
  rw [ofB_unsigned hs hx]
  show _ = ofB k (bc (Nat.ble k.bits n) 0 (x / 2 ^ n))
  have hp : (0 : Int) ≤ 2 ^ (min n k.bits) := by exact_mod_cast Nat.zero_le _
  rw [Int.fdiv_eq_ediv_of_nonneg _ hp]
  by_cases h : k.bits ≤ n
  · rw [nble_t h, Nat.min_eq_right h]
    show _ = ofB k 0
    rw [ofB_unsigned hs (Nat.two_pow_pos _)]
    have : x / 2 ^ k.bits = 0 := Nat.div_eq_of_lt hx
    exact_mod_cast this
  · rw [nble_f h, Nat.min_eq_left (by omega)]
    show _ = ofB k (x / 2 ^ n)
    rw [ofB_unsigned hs (Nat.lt_of_le_of_lt (Nat.div_le_self _ _) hx)]
    push_cast; rfl

theorem shr_ofB_s {k : IntKind} (hs : k.signed = true) {x : Nat} (hx : x < 2 ^ k.bits) (n : Nat) : (ofB k x).fdiv (2 ^ (min n k.bits)) = ofB k (O2.sar.ev k.bits x n) := by
  have hmin : bc (Nat.ble k.bits n) k.bits n = min n k.bits := by
    by_cases h : k.bits ≤ n
    · rw [nble_t h, Nat.min_eq_right h]
    · rw [nble_f h, Nat.min_eq_left (by omega)]
  show _ = ofB k (bc (isNeg k.bits x) (2 ^ k.bits - 1 - (2 ^ k.bits - 1 - x) / 2 ^ (bc (Nat.ble k.bits n) k.bits n)) (x / 2 ^ (bc (Nat.ble k.bits n) k.bits n)))
  rw [hmin]
  have h2 := two_p k
  have hp1 : 0 < 2 ^ (k.bits - 1) := Nat.two_pow_pos _
  generalize min n k.bits = m
  have hpm : 0 < 2 ^ m := Nat.two_pow_pos _
  have hp : (0 : Int) ≤ 2 ^ m := by exact_mod_cast Nat.zero_le _
  rw [Int.fdiv_eq_ediv_of_nonneg _ hp]
  by_cases h : 2 ^ (k.bits - 1) ≤ x
  · rw [show isNeg k.bits x = true from nble_t h]
    show _ = ofB k (2 ^ k.bits - 1 - (2 ^ k.bits - 1 - x) / 2 ^ m)
    have hd : (2 ^ k.bits - 1 - x) / 2 ^ m ≤ 2 ^ k.bits - 1 - x := Nat.div_le_self _ _
    have hl1 : 2 ^ k.bits - 1 - (2 ^ k.bits - 1 - x) / 2 ^ m < 2 ^ k.bits := by
      generalize (2 ^ k.bits - 1 - x) / 2 ^ m = q at *; omega
    have hl2 : 2 ^ (k.bits - 1) ≤ 2 ^ k.bits - 1 - (2 ^ k.bits - 1 - x) / 2 ^ m := by
      generalize (2 ^ k.bits - 1 - x) / 2 ^ m = q at *; omega
    have hl3 : (2 ^ k.bits - 1 - x) / 2 ^ m ≤ 2 ^ k.bits - 1 := by
      generalize (2 ^ k.bits - 1 - x) / 2 ^ m = q at *; omega
    rw [ofB_signed hs hx, if_pos h, ofB_signed hs hl1, if_pos hl2]
    have key : ((x : Int) - 2 ^ k.bits) = -((2 ^ k.bits - 1 - x : Nat) : Int) - 1 := by
      rw [Int.natCast_sub (by omega), Int.natCast_sub (by omega)]; push_cast; omega
    rw [key]
    have e1 : (-((2 ^ k.bits - 1 - x : Nat) : Int) - 1) / 2 ^ m = -(((2 ^ k.bits - 1 - x) / 2 ^ m : Nat) : Int) - 1 := by
      have hh : ∀ (a b : Nat), 0 < b → (-(a : Int) - 1) / (b : Int) = -((a / b : Nat) : Int) - 1 := by
        intro a b hb
        have := Int.negSucc_ediv (m := a) (b := (b : Int)) (by exact_mod_cast hb)
        rw [show (-(a : Int) - 1) = Int.negSucc a from by rw [Int.negSucc_eq]; omega, this]
        show -((a : Int) / (b : Int) + 1) = _
        push_cast
        omega
      have := hh (2 ^ k.bits - 1 - x) (2 ^ m) hpm
      push_cast at this ⊢
      exact this
    rw [e1]
    rw [Int.natCast_sub hl3, Int.natCast_sub (by omega)]
    push_cast; omega
  · rw [show isNeg k.bits x = false from nble_f h]
    show _ = ofB k (x / 2 ^ m)
    have hd : x / 2 ^ m ≤ x := Nat.div_le_self _ _
    rw [ofB_signed hs hx, if_neg h, ofB_signed hs (by omega), if_neg (by omega)]
    push_cast; rfl

/-- A number as one of another kind. -/
noncomputable def convT (src dst : IntKind) (t : Tm) : Tm :=
  bc (Nat.ble dst.bits src.bits) (bc (Nat.beq dst.bits src.bits) t (mkUn .tr dst.bits t)) (bc src.signed (mkUn (.sx src.bits) dst.bits t) t)
theorem conv_ofB {src dst : IntKind} (σ : Nat → Nat) {t : Tm} (hx : t.ev σ < 2 ^ src.bits) :
    dst.wrap (ofB src (t.ev σ)) = ofB dst ((convT src dst t).ev σ) ∧ (convT src dst t).ev σ < 2 ^ dst.bits := by
  unfold convT
  by_cases h : dst.bits ≤ src.bits
  · rw [nble_t h]
    have hdvd : ((2 : Int) ^ dst.bits) ∣ 2 ^ src.bits := by
      exact_mod_cast Nat.pow_dvd_pow 2 h
    have hw : dst.wrap (ofB src (t.ev σ)) = ofB dst (t.ev σ) := by
      apply ofB_wrap_of_emod
      rw [← Int.emod_emod_of_dvd _ hdvd, ofB_emod, Int.emod_emod_of_dvd _ hdvd]
    by_cases he : dst.bits = src.bits
    · rw [nbeq_t he]
      exact ⟨hw, by rw [he]; exact hx⟩
    · rw [nbeq_f he]
      show _ = ofB dst ((mkUn .tr dst.bits t).ev σ) ∧ (mkUn .tr dst.bits t).ev σ < _
      rw [mkUn_ev]
      show _ = ofB dst (t.ev σ % 2 ^ dst.bits) ∧ t.ev σ % 2 ^ dst.bits < _
      exact ⟨by rw [ofB_mod]; exact hw, Nat.mod_lt _ (Nat.two_pow_pos _)⟩
  · rw [nble_f h]
    have hlt : 2 ^ src.bits ≤ 2 ^ dst.bits := Nat.pow_le_pow_right (by omega) (by omega)
    cases hs : src.signed
    · show _ = ofB dst (t.ev σ) ∧ t.ev σ < _
      exact ⟨by rw [ofB_unsigned hs hx]; rfl, by omega⟩
    · show _ = ofB dst ((mkUn (.sx src.bits) dst.bits t).ev σ) ∧ (mkUn (.sx src.bits) dst.bits t).ev σ < _
      rw [mkUn_ev]
      show _ = ofB dst (bc (Nat.blt (t.ev σ) (2 ^ (src.bits - 1))) (t.ev σ) (t.ev σ + (2 ^ dst.bits - 2 ^ src.bits))) ∧ bc (Nat.blt (t.ev σ) (2 ^ (src.bits - 1))) (t.ev σ) (t.ev σ + (2 ^ dst.bits - 2 ^ src.bits)) < _
      by_cases hn : t.ev σ < 2 ^ (src.bits - 1)
      · rw [nblt_t hn]
        exact ⟨by rw [ofB_signed hs hx, if_neg (by omega)]; rfl, by show t.ev σ < _; omega⟩
      · rw [nblt_f hn]
        refine ⟨?_, by show t.ev σ + (2 ^ dst.bits - 2 ^ src.bits) < _; omega⟩
        show _ = ofB dst (t.ev σ + (2 ^ dst.bits - 2 ^ src.bits))
        rw [ofB_signed hs hx, if_pos (by omega)]
        apply ofB_wrap_of_emod
        rw [Int.natCast_add, Int.natCast_sub hlt]
        push_cast
        rw [show (t.ev σ : Int) + (2 ^ dst.bits - 2 ^ src.bits) = ((t.ev σ : Int) - 2 ^ src.bits) + 2 ^ dst.bits by omega, Int.add_emod_right]

end Go.Sy
end

section
/- Division of numbers of a kind, in bits. -/
namespace Go.Sy

theorem nat_tdiv (m n : Nat) : (m : Int).tdiv (n : Int) = ((m / n : Nat) : Int) := rfl
theorem nat_tmod (m n : Nat) : (m : Int).tmod (n : Int) = ((m % n : Nat) : Int) := rfl
theorem ofB_mag {k : IntKind} (hs : k.signed = true) {x : Nat} (hx : x < 2 ^ k.bits) : ofB k x = if isNeg k.bits x = true then -(mag k.bits x : Int) else (mag k.bits x : Int) := by
  rw [ofB_signed hs hx]
  unfold mag
  by_cases h : 2 ^ (k.bits - 1) ≤ x
  · rw [show isNeg k.bits x = true from nble_t h, if_pos h, if_pos rfl]
    show _ = -((2 ^ k.bits - x : Nat) : Int)
    rw [Int.natCast_sub (by omega)]; push_cast; omega
  · rw [show isNeg k.bits x = false from nble_f h, if_neg h, if_neg (by simp)]

theorem sgn_ofB (k : IntKind) (neg : Bool) (m : Nat) : ofB k (sgn neg k.bits m) = k.wrap (if neg = true then -(m : Int) else m) := by
  have hlt : m % 2 ^ k.bits < 2 ^ k.bits := Nat.mod_lt _ (Nat.two_pow_pos _)
  cases neg
  · show ofB k (m % 2 ^ k.bits) = _
    rw [ofB_mod]; rfl
  · show ofB k ((2 ^ k.bits - m % 2 ^ k.bits) % 2 ^ k.bits) = _
    rw [ofB_mod]
    symm
    apply ofB_wrap_of_emod
    simp only [if_true]
    rw [Int.natCast_sub (Nat.le_of_lt hlt), Int.natCast_emod]
    push_cast
    rw [show (2 ^ k.bits - (m : Int) % 2 ^ k.bits) = -((m : Int) % 2 ^ k.bits) + 2 ^ k.bits by omega, Int.add_emod_right, Int.neg_emod_eq_sub_emod, Int.neg_emod_eq_sub_emod, Int.sub_emod, Int.sub_emod ((2 : Int) ^ k.bits) ((m : Int) % 2 ^ k.bits), Int.emod_emod_of_dvd _ (Int.dvd_refl _)]

noncomputable def quoT (k : IntKind) (a b : Tm) : Tm := bc k.signed (mkBin .sdiv k.bits a b) (mkBin .udiv k.bits a b)
noncomputable def remT (k : IntKind) (a b : Tm) : Tm := bc k.signed (mkBin .srem k.bits a b) (mkBin .urem k.bits a b)

theorem sgn_lt (neg : Bool) (w m : Nat) : sgn neg w m < 2 ^ w := by
  cases neg <;> exact Nat.mod_lt _ (Nat.two_pow_pos _)

theorem quo_ofB {k : IntKind} (σ : Nat → Nat) {a b : Tm} (ha : a.ev σ < 2 ^ k.bits) (hb : b.ev σ < 2 ^ k.bits) :
    k.wrap ((ofB k (a.ev σ)).tdiv (ofB k (b.ev σ))) = ofB k ((quoT k a b).ev σ) ∧ (quoT k a b).ev σ < 2 ^ k.bits := by
  unfold quoT
  cases hs : k.signed
  · show _ = ofB k ((mkBin .udiv k.bits a b).ev σ) ∧ (mkBin .udiv k.bits a b).ev σ < _
    rw [mkBin_ev]
    show _ = ofB k (a.ev σ / b.ev σ) ∧ a.ev σ / b.ev σ < _
    refine ⟨?_, Nat.lt_of_le_of_lt (Nat.div_le_self _ _) ha⟩
    rw [ofB_unsigned hs ha, ofB_unsigned hs hb]
    rfl
  · show _ = ofB k ((mkBin .sdiv k.bits a b).ev σ) ∧ (mkBin .sdiv k.bits a b).ev σ < _
    rw [mkBin_ev]
    show _ = ofB k (sgn (bne (isNeg k.bits (a.ev σ)) (isNeg k.bits (b.ev σ))) k.bits (mag k.bits (a.ev σ) / mag k.bits (b.ev σ))) ∧ sgn _ _ _ < _
    refine ⟨?_, sgn_lt _ _ _⟩
    rw [sgn_ofB, ofB_mag hs ha, ofB_mag hs hb]
    cases isNeg k.bits (a.ev σ) <;> cases isNeg k.bits (b.ev σ) <;> simp [Int.neg_tdiv, Int.tdiv_neg]

theorem rem_ofB {k : IntKind} (σ : Nat → Nat) {a b : Tm} (ha : a.ev σ < 2 ^ k.bits) (hb : b.ev σ < 2 ^ k.bits) (hb0 : b.ev σ ≠ 0) :
    (ofB k (a.ev σ)).tmod (ofB k (b.ev σ)) = ofB k ((remT k a b).ev σ) ∧ (remT k a b).ev σ < 2 ^ k.bits := by
  unfold remT
  cases hs : k.signed
  · show _ = ofB k ((mkBin .urem k.bits a b).ev σ) ∧ (mkBin .urem k.bits a b).ev σ < _
    rw [mkBin_ev]
    show _ = ofB k (a.ev σ % b.ev σ) ∧ a.ev σ % b.ev σ < _
    have hl : a.ev σ % b.ev σ < 2 ^ k.bits := Nat.lt_of_le_of_lt (Nat.mod_le _ _) ha
    refine ⟨?_, hl⟩
    rw [ofB_unsigned hs ha, ofB_unsigned hs hb, ofB_unsigned hs hl]
    rfl
  · show _ = ofB k ((mkBin .srem k.bits a b).ev σ) ∧ (mkBin .srem k.bits a b).ev σ < _
    rw [mkBin_ev]
    show _ = ofB k (sgn (isNeg k.bits (a.ev σ)) k.bits (mag k.bits (a.ev σ) % mag k.bits (b.ev σ))) ∧ sgn _ _ _ < _
    refine ⟨?_, sgn_lt _ _ _⟩
    have h2 := two_p k
    have ma : mag k.bits (a.ev σ) ≤ 2 ^ (k.bits - 1) := by
      unfold mag
      by_cases h : 2 ^ (k.bits - 1) ≤ a.ev σ
      · rw [show isNeg k.bits (a.ev σ) = true from nble_t h]; show 2 ^ k.bits - a.ev σ ≤ _; omega
      · rw [show isNeg k.bits (a.ev σ) = false from nble_f h]; show a.ev σ ≤ _; omega
    have mb : 0 < mag k.bits (b.ev σ) ∧ mag k.bits (b.ev σ) ≤ 2 ^ (k.bits - 1) := by
      unfold mag
      by_cases h : 2 ^ (k.bits - 1) ≤ b.ev σ
      · rw [show isNeg k.bits (b.ev σ) = true from nble_t h]; show 0 < 2 ^ k.bits - b.ev σ ∧ 2 ^ k.bits - b.ev σ ≤ _; omega
      · rw [show isNeg k.bits (b.ev σ) = false from nble_f h]; show 0 < b.ev σ ∧ b.ev σ ≤ _; omega
    have hlt := Nat.mod_lt (mag k.bits (a.ev σ)) mb.1
    rw [sgn_ofB]
    have e : ∀ z : Int, -(2 ^ (k.bits - 1) : Int) ≤ z → z < 2 ^ (k.bits - 1) → k.wrap z = z := by
      intro z h3 h4
      have hq : (2 : Int) ^ k.bits = 2 * 2 ^ (k.bits - 1) := by exact_mod_cast h2
      unfold IntKind.wrap
      simp only [hs, Bool.true_and]
      by_cases h5 : 0 ≤ z
      · rw [Int.emod_eq_of_lt h5 (by omega)]
        simp; omega
      · have : z % 2 ^ k.bits = z + 2 ^ k.bits := by
          rw [← Int.add_emod_right, Int.emod_eq_of_lt (by omega) (by omega)]
        rw [this]
        have h6 : z + 2 ^ k.bits ≥ 2 ^ (k.bits - 1) := by omega
        simp [h6]
    have hp : ((2 ^ (k.bits - 1) : Nat) : Int) = 2 ^ (k.bits - 1) := by push_cast; rfl
    rw [e _ (by rw [← hp]; split <;> omega) (by rw [← hp]; split <;> omega)]
    rw [ofB_mag hs ha, ofB_mag hs hb]
    cases isNeg k.bits (a.ev σ) <;> cases isNeg k.bits (b.ev σ) <;> simp [Int.neg_tmod, Int.tmod_neg, nat_tmod]

end Go.Sy
end

section
/- Tries. -/
namespace Go.Sy

inductive D | a | b | c | d
inductive Tr (α : Type)
  | nil
  | node (v : Option α) (a b c d : Tr α)

section tries
variable {α : Type}
noncomputable def Tr.getD (xs : List D) : Tr α → Option α :=
  List.rec (motive := fun _ => Tr α → Option α) (fun t => Tr.rec none (fun v _ _ _ _ _ _ _ _ => v) t)
    (fun x _ ih t => Tr.rec none (fun _ a b c d _ _ _ _ => D.rec (ih a) (ih b) (ih c) (ih d) x) t) xs
noncomputable def Tr.setD (y : Option α) (xs : List D) : Tr α → Tr α :=
  List.rec (motive := fun _ => Tr α → Tr α) (fun t => Tr.rec (.node y .nil .nil .nil .nil) (fun _ a b c d _ _ _ _ => .node y a b c d) t)
    (fun x _ ih t => Tr.rec (D.rec (.node none (ih .nil) .nil .nil .nil) (.node none .nil (ih .nil) .nil .nil) (.node none .nil .nil (ih .nil) .nil) (.node none .nil .nil .nil (ih .nil)) x)
      (fun v a b c d _ _ _ _ => D.rec (.node v (ih a) b c d) (.node v a (ih b) c d) (.node v a b (ih c) d) (.node v a b c (ih d)) x) t) xs
theorem Tr.getD_nil (xs : List D) : Tr.getD xs (.nil : Tr α) = none := by cases xs <;> rfl
theorem Tr.getD_setD_eq (y : Option α) : ∀ (xs : List D) (t : Tr α), Tr.getD xs (Tr.setD y xs t) = y := by
  intro xs
  induction xs with
  | nil => intro t; cases t <;> rfl
  | cons x xs ih =>
    intro t
    cases t with
    | nil => cases x <;> exact ih _
    | node v a b c d => cases x <;> exact ih _
theorem Tr.getD_setD_ne (y : Option α) : ∀ (xs ys : List D) (t : Tr α), ys ≠ xs → Tr.getD ys (Tr.setD y xs t) = Tr.getD ys t := by
  intro xs
  induction xs with
  | nil =>
    intro ys t h
    cases ys with
    | nil => exact absurd rfl h
    | cons x ys =>
      cases t with
      | nil => show (D.rec _ _ _ _ x : Option α) = Tr.getD (x :: ys) .nil; rw [Tr.getD_nil]; cases x <;> exact Tr.getD_nil _
      | node v a b c d => rfl
  | cons x xs ih =>
    intro ys t h
    cases ys with
    | nil =>
      cases t with
      | nil => cases x <;> rfl
      | node v a b c d => cases x <;> rfl
    | cons z ys =>
      cases t with
      | nil =>
        rw [Tr.getD_nil]
        cases x <;> cases z <;>
          first
            | exact Tr.getD_nil ys
            | exact (ih ys .nil (fun e => h (by rw [e]))).trans (Tr.getD_nil ys)
      | node v a b c d =>
        cases x <;> cases z <;>
          first
            | exact ih ys _ (fun e => h (by rw [e]))
            | rfl

noncomputable def dig (r : Nat) : D := bc (Nat.beq r 0) .a (bc (Nat.beq r 1) .b (bc (Nat.beq r 2) .c .d))
noncomputable def digF (n : Nat) : Nat → List D :=
  Nat.rec (motive := fun _ => Nat → List D) (fun _ => []) (fun _ ih m => bc (Nat.beq m 0) [] (List.cons (dig (Nat.mod m 4)) (ih (Nat.div m 4)))) n
noncomputable def digs (n : Nat) : List D := digF n n
def D.val : D → Nat | .a => 0 | .b => 1 | .c => 2 | .d => 3
def valD : List D → Nat | [] => 0 | x :: xs => x.val + 4 * valD xs
theorem dig_val (m : Nat) : (dig (m % 4)).val = m % 4 := by
  have h : m % 4 < 4 := Nat.mod_lt _ (by omega)
  generalize m % 4 = r at *
  match r, h with
  | 0, _ => rfl
  | 1, _ => rfl
  | 2, _ => rfl
  | 3, _ => rfl
theorem valD_digF : ∀ n m : Nat, m ≤ n → valD (digF n m) = m := by
  intro n
  induction n with
  | zero => intro m h; have : m = 0 := by omega
            subst this; rfl
  | succ n ih =>
    intro m h
    show valD (bc (Nat.beq m 0) [] (List.cons (dig (m % 4)) (digF n (m / 4)))) = m
    by_cases hm : m = 0
    · subst hm; rfl
    · rw [nbeq_f hm]
      show (dig (m % 4)).val + 4 * valD (digF n (m / 4)) = m
      rw [ih _ (by omega), dig_val]; omega
theorem digs_inj {m n : Nat} (h : digs m = digs n) : m = n := by
  have := congrArg valD h
  rwa [digs, digs, valD_digF _ _ (Nat.le_refl _), valD_digF _ _ (Nat.le_refl _)] at this

noncomputable def Tr.get (t : Tr α) (n : Nat) : Option α := Tr.getD (digs n) t
noncomputable def Tr.set (t : Tr α) (n : Nat) (y : Option α) : Tr α := Tr.setD y (digs n) t
theorem Tr.get_nil (n : Nat) : (.nil : Tr α).get n = none := Tr.getD_nil _
theorem Tr.get_set_eq (t : Tr α) (n : Nat) (y : Option α) : (t.set n y).get n = y := Tr.getD_setD_eq _ _ _
theorem Tr.get_set_ne (t : Tr α) {n m : Nat} (y : Option α) (h : m ≠ n) : (t.set n y).get m = t.get m :=
  Tr.getD_setD_ne _ _ _ _ fun e => h (digs_inj e)
end tries

/-- A number, written out. -/
noncomputable def forceN {α : Type} (n : Nat) (k : Nat → α) : α := Nat.rec (k 0) (fun m _ => k (Nat.succ m)) n
theorem forceN_eq {α : Type} (n : Nat) (k : Nat → α) : forceN n k = k n := by cases n <;> rfl

noncomputable def forceT {α : Type} (t : Tm) (k : Tm → α) : α :=
  Tm.casesOn t (fun n => forceN n fun n => k (.lit n)) (fun i w => k (.var i w)) (fun o w a => k (.un o w a)) (fun o w a b => k (.bin o w a b)) (fun c a b => k (.ite c a b)) (fun f w a => k (.app f w a))
theorem forceT_eq {α : Type} (t : Tm) (k : Tm → α) : forceT t k = k t := by cases t <;> first | rfl | exact forceN_eq _ (fun n => k (.lit n))

end Go.Sy
end

section
/- Between which numbers a term's worth lies. -/
namespace Go.Sy

variable {α : Type}
noncomputable def lenR (l : List α) : Nat := List.rec 0 (fun _ _ ih => Nat.succ ih) l
theorem lenR_eq (l : List α) : lenR l = l.length := by
  induction l with
  | nil => rfl
  | cons x t ih => show lenR t + 1 = _; rw [ih]; rfl

structure B2 where
  lo : Nat
  hi : Nat
/-! ### Equality of terms -/
noncomputable def O1.code (o : O1) : Nat := O1.rec 1 (fun ws => Nat.add 3 ws) 2 o
theorem O1.code_inj {a b : O1} (h : a.code = b.code) : a = b := by
  cases a <;> cases b <;> simp [O1.code] at h <;> first | rfl | (subst h; rfl) | omega
noncomputable def O2.code (o : O2) : Nat := O2.rec 1 2 3 4 5 6 7 8 9 10 11 12 13 14 15 16 17 o
theorem O2.code_inj {a b : O2} (h : a.code = b.code) : a = b := by
  cases a <;> cases b <;> first | rfl | (simp [O2.code] at h)
noncomputable def band (a b : Bool) : Bool := bc a b false
theorem band_eq {a b : Bool} (h : band a b = true) : a = true ∧ b = true := by cases a <;> cases b <;> simp_all [band]
theorem band_t {a b : Bool} (h : a = true) (h' : b = true) : band a b = true := by subst h; subst h'; rfl

noncomputable def Tm.same (a : Tm) : Tm → Bool :=
  Tm.rec (motive := fun _ => Tm → Bool)
    (fun n b => Tm.rec (fun m => Nat.beq n m) (fun _ _ => false) (fun _ _ _ _ => false) (fun _ _ _ _ _ _ => false) (fun _ _ _ _ _ _ => false) (fun _ _ _ _ => false) b)
    (fun i w b => Tm.rec (fun _ => false) (fun j v => band (Nat.beq i j) (Nat.beq w v)) (fun _ _ _ _ => false) (fun _ _ _ _ _ _ => false) (fun _ _ _ _ _ _ => false) (fun _ _ _ _ => false) b)
    (fun o w _ ia b => Tm.rec (fun _ => false) (fun _ _ => false) (fun o' w' a' _ => band (Nat.beq o.code o'.code) (band (Nat.beq w w') (ia a'))) (fun _ _ _ _ _ _ => false) (fun _ _ _ _ _ _ => false) (fun _ _ _ _ => false) b)
    (fun o w _ _ ia ib b => Tm.rec (fun _ => false) (fun _ _ => false) (fun _ _ _ _ => false) (fun o' w' a' b' _ _ => band (Nat.beq o.code o'.code) (band (Nat.beq w w') (band (ia a') (ib b')))) (fun _ _ _ _ _ _ => false) (fun _ _ _ _ => false) b)
    (fun _ _ _ ic ia ib b => Tm.rec (fun _ => false) (fun _ _ => false) (fun _ _ _ _ => false) (fun _ _ _ _ _ _ => false) (fun c' a' b' _ _ _ => band (ic c') (band (ia a') (ib b'))) (fun _ _ _ _ => false) b)
    (fun f w _ ia b => Tm.rec (fun _ => false) (fun _ _ => false) (fun _ _ _ _ => false) (fun _ _ _ _ _ _ => false) (fun _ _ _ _ _ _ => false) (fun f' w' a' _ => band (Nat.beq f f') (band (Nat.beq w w') (ia a'))) b) a
theorem Tm.same_eq : ∀ {a b : Tm}, a.same b = true → a = b := by
  intro a
  induction a with
  | lit n => intro b h; cases b <;> first | (cases h; done) | (rw [of_nbeq h])
  | var i w => intro b h; cases b <;> first | (cases h; done) | (obtain ⟨h1, h2⟩ := band_eq h; rw [of_nbeq h1, of_nbeq h2])
  | un o w a ih => intro b h; cases b <;> first | (cases h; done) | (obtain ⟨h1, h2⟩ := band_eq h; obtain ⟨h2, h3⟩ := band_eq h2; rw [O1.code_inj (of_nbeq h1), of_nbeq h2, ih h3])
  | bin o w a b iha ihb => intro b' h; cases b' <;> first | (cases h; done) | (obtain ⟨h1, h2⟩ := band_eq h; obtain ⟨h2, h3⟩ := band_eq h2; obtain ⟨h3, h4⟩ := band_eq h3; rw [O2.code_inj (of_nbeq h1), of_nbeq h2, iha h3, ihb h4])
  | ite c a b ihc iha ihb => intro b' h; cases b' <;> first | (cases h; done) | (obtain ⟨h1, h2⟩ := band_eq h; obtain ⟨h2, h3⟩ := band_eq h2; rw [ihc h1, iha h2, ihb h3])
  | app f w a ih => intro b h; cases b <;> first | (cases h; done) | (obtain ⟨h1, h2⟩ := band_eq h; obtain ⟨h2, h3⟩ := band_eq h2; rw [of_nbeq h1, of_nbeq h2, ih h3])

noncomputable def maxN (a b : Nat) : Nat := bc (Nat.ble a b) b a
noncomputable def minN (a b : Nat) : Nat := bc (Nat.ble a b) a b
theorem maxN_eq (a b : Nat) : maxN a b = max a b := by
  unfold maxN
  by_cases h : a ≤ b
  · rw [nble_t h]; show b = _; omega
  · rw [nble_f h]; show a = _; omega
theorem minN_eq (a b : Nat) : minN a b = min a b := by
  unfold minN
  by_cases h : a ≤ b
  · rw [nble_t h]; show a = _; omega
  · rw [nble_f h]; show b = _; omega

/-- The least number of ones that is at least n. -/
noncomputable def ones (n : Nat) : Nat := Nat.sub (p2 (Nat.succ (Nat.log2 n))) 1
theorem le_ones (n : Nat) : n < 2 ^ (Nat.log2 n + 1) := Nat.lt_log2_self

/-- The low bits of what lies within one block of so many. -/
noncomputable def modB (m : Nat) (a els : B2) : B2 := bc (Nat.beq (Nat.div a.lo m) (Nat.div a.hi m)) ⟨Nat.mod a.lo m, Nat.mod a.hi m⟩ els
theorem modB_ok {m x : Nat} {a els : B2} (h : a.lo ≤ x ∧ x ≤ a.hi) (he : els.lo ≤ x % m ∧ x % m ≤ els.hi) : (modB m a els).lo ≤ x % m ∧ x % m ≤ (modB m a els).hi := by
  unfold modB
  cases hb : Nat.beq (Nat.div a.lo m) (Nat.div a.hi m)
  · exact he
  · have e : a.lo / m = a.hi / m := of_nbeq hb
    have h1 : a.lo / m ≤ x / m := Nat.div_le_div_right h.1
    have h2 : x / m ≤ a.hi / m := Nat.div_le_div_right h.2
    have e1 : x / m = a.lo / m := by omega
    have e2 : x / m = a.hi / m := by omega
    have r0 := Nat.div_add_mod x m
    have r1 := Nat.div_add_mod a.lo m
    have r2 := Nat.div_add_mod a.hi m
    rw [e1] at r0
    rw [← e] at r2
    show a.lo % m ≤ x % m ∧ x % m ≤ a.hi % m
    omega
noncomputable def andB (a b : B2) : B2 :=
  bc (Nat.beq b.lo b.hi) (bc (Nat.beq (ones b.hi) b.hi) (modB (Nat.succ b.hi) a ⟨0, minN a.hi b.hi⟩) ⟨0, minN a.hi b.hi⟩) ⟨0, minN a.hi b.hi⟩
theorem andB_ok {x y : Nat} {a b : B2} (ha : a.lo ≤ x ∧ x ≤ a.hi) (hb : b.lo ≤ y ∧ y ≤ b.hi) : (andB a b).lo ≤ x &&& y ∧ x &&& y ≤ (andB a b).hi := by
  have base : 0 ≤ x &&& y ∧ x &&& y ≤ minN a.hi b.hi := by
    rw [minN_eq]
    have h1 : x &&& y ≤ x := Nat.and_le_left
    have h2 : x &&& y ≤ y := Nat.and_le_right
    omega
  unfold andB
  cases h1 : Nat.beq b.lo b.hi
  · exact base
  · cases h2 : Nat.beq (ones b.hi) b.hi
    · exact base
    · have e1 := of_nbeq h1
      have e2 : 2 ^ (Nat.log2 b.hi + 1) - 1 = b.hi := of_nbeq h2
      have hy : y = 2 ^ (Nat.log2 b.hi + 1) - 1 := by omega
      have hp := Nat.two_pow_pos (Nat.log2 b.hi + 1)
      have hs : Nat.succ b.hi = 2 ^ (Nat.log2 b.hi + 1) := by rw [Nat.succ_eq_add_one]; omega
      have hx : x &&& y = x % Nat.succ b.hi := by rw [hs, hy, Nat.and_two_pow_sub_one_eq_mod]
      rw [hx]
      rw [hx] at base
      exact modB_ok ha base
noncomputable def rng1 (o : O1) (w : Nat) (a : B2) : B2 :=
  O1.rec (bc (Nat.blt a.hi (p2 w)) a (modB (p2 w) a ⟨0, Nat.sub (p2 w) 1⟩))
    (fun ws => bc (Nat.blt a.hi (p2 (Nat.sub ws 1))) a (bc (Nat.ble (p2 (Nat.sub ws 1)) a.lo) ⟨Nat.add a.lo (Nat.sub (p2 w) (p2 ws)), Nat.add a.hi (Nat.sub (p2 w) (p2 ws))⟩ ⟨0, Nat.add a.hi (p2 w)⟩))
    (bc (Nat.blt 0 a.lo) ⟨0, 0⟩ (bc (Nat.beq a.hi 0) ⟨1, 1⟩ ⟨0, 1⟩)) o
theorem rng1_ok {o : O1} {w x : Nat} {a : B2} (h : a.lo ≤ x ∧ x ≤ a.hi) : (rng1 o w a).lo ≤ o.ev w x ∧ o.ev w x ≤ (rng1 o w a).hi := by
  cases o with
  | tr =>
    show (bc (Nat.blt a.hi (2 ^ w)) a (modB (2 ^ w) a ⟨0, 2 ^ w - 1⟩) : B2).lo ≤ x % 2 ^ w ∧ x % 2 ^ w ≤ (bc (Nat.blt a.hi (2 ^ w)) a (modB (2 ^ w) a ⟨0, 2 ^ w - 1⟩) : B2).hi
    have hm := Nat.mod_lt x (Nat.two_pow_pos w)
    by_cases e : a.hi < 2 ^ w
    · rw [nblt_t e]; rw [Nat.mod_eq_of_lt (by omega)]; exact h
    · rw [nblt_f e]; exact modB_ok h (by show 0 ≤ _ ∧ _ ≤ 2 ^ w - 1; omega)
  | sx ws =>
    have key : ∀ P Q R : Nat, (bc (Nat.blt a.hi R) a (bc (Nat.ble R a.lo) ⟨a.lo + (P - Q), a.hi + (P - Q)⟩ ⟨0, a.hi + P⟩) : B2).lo ≤ bc (Nat.blt x R) x (x + (P - Q)) ∧ bc (Nat.blt x R) x (x + (P - Q)) ≤ (bc (Nat.blt a.hi R) a (bc (Nat.ble R a.lo) ⟨a.lo + (P - Q), a.hi + (P - Q)⟩ ⟨0, a.hi + P⟩) : B2).hi := by
      intro P Q R
      by_cases e : a.hi < R
      · rw [nblt_t e, nblt_t (show x < R by omega)]; exact h
      · rw [nblt_f e]
        by_cases e3 : R ≤ a.lo
        · rw [nble_t e3, nblt_f (show ¬ x < R by omega)]; show a.lo + (P - Q) ≤ x + (P - Q) ∧ x + (P - Q) ≤ a.hi + (P - Q); omega
        · rw [nble_f e3]
          by_cases e2 : x < R
          · rw [nblt_t e2]; show 0 ≤ x ∧ x ≤ a.hi + P; omega
          · rw [nblt_f e2]; show 0 ≤ x + (P - Q) ∧ x + (P - Q) ≤ a.hi + P; omega
    exact key (2 ^ w) (2 ^ ws) (2 ^ (ws - 1))
  | bnot =>
    show (bc (Nat.blt 0 a.lo) ⟨0, 0⟩ (bc (Nat.beq a.hi 0) ⟨1, 1⟩ ⟨0, 1⟩) : B2).lo ≤ bc (Nat.beq x 0) 1 0 ∧ bc (Nat.beq x 0) 1 0 ≤ (bc (Nat.blt 0 a.lo) ⟨0, 0⟩ (bc (Nat.beq a.hi 0) ⟨1, 1⟩ ⟨0, 1⟩) : B2).hi
    by_cases e : 0 < a.lo
    · rw [nblt_t e, nbeq_f (show ¬ x = 0 by omega)]; exact ⟨Nat.le_refl _, Nat.le_refl _⟩
    · rw [nblt_f e]
      by_cases e2 : a.hi = 0
      · rw [nbeq_t e2, nbeq_t (show x = 0 by omega)]; exact ⟨Nat.le_refl _, Nat.le_refl _⟩
      · rw [nbeq_f e2]
        by_cases e3 : x = 0
        · rw [nbeq_t e3]; exact ⟨Nat.zero_le _, Nat.le_refl _⟩
        · rw [nbeq_f e3]; exact ⟨Nat.le_refl _, Nat.zero_le _⟩

noncomputable def top (w : Nat) : B2 := ⟨0, Nat.sub (p2 w) 1⟩
noncomputable def ultB (a b : B2) : B2 := bc (Nat.blt a.hi b.lo) ⟨1, 1⟩ (bc (Nat.ble b.hi a.lo) ⟨0, 0⟩ ⟨0, 1⟩)
noncomputable def eqB (a b : B2) : B2 := bc (Nat.blt a.hi b.lo) ⟨0, 0⟩ (bc (Nat.blt b.hi a.lo) ⟨0, 0⟩ (bc (Nat.beq a.lo a.hi) (bc (Nat.beq b.lo b.hi) (bc (Nat.beq a.lo b.lo) ⟨1, 1⟩ ⟨0, 1⟩) ⟨0, 1⟩) ⟨0, 1⟩))
noncomputable def sgnB (w : Nat) (a : B2) : B2 :=
  bc (Nat.blt a.hi (p2 (Nat.sub w 1))) ⟨Nat.add a.lo (p2 (Nat.sub w 1)), Nat.add a.hi (p2 (Nat.sub w 1))⟩
    (bc (band (Nat.ble (p2 (Nat.sub w 1)) a.lo) (Nat.blt a.hi (p2 w))) ⟨Nat.sub a.lo (p2 (Nat.sub w 1)), Nat.sub a.hi (p2 (Nat.sub w 1))⟩ (top w))
noncomputable def uremB (a b : B2) : B2 := bc (Nat.blt a.hi b.lo) a (bc (Nat.blt 0 b.lo) ⟨0, minN a.hi (Nat.sub b.hi 1)⟩ ⟨0, a.hi⟩)
noncomputable def udivB (a b : B2) : B2 := bc (Nat.blt 0 b.lo) ⟨Nat.div a.lo b.hi, Nat.div a.hi b.lo⟩ ⟨0, a.hi⟩
noncomputable def rng2 (o : O2) (w : Nat) (a b : B2) : B2 :=
  O2.rec
    (bc (Nat.blt (Nat.add a.hi b.hi) (p2 w)) ⟨Nat.add a.lo b.lo, Nat.add a.hi b.hi⟩ (top w))
    (bc (Nat.ble b.hi a.lo) (bc (Nat.blt a.hi (p2 w)) ⟨Nat.sub a.lo b.hi, Nat.sub a.hi b.lo⟩ (top w)) (bc (Nat.blt a.hi b.lo) (bc (Nat.blt b.hi (p2 w)) ⟨Nat.sub (Nat.add a.lo (p2 w)) b.hi, Nat.sub (Nat.add a.hi (p2 w)) b.lo⟩ (top w)) (top w)))
    (bc (Nat.blt (Nat.mul a.hi b.hi) (p2 w)) ⟨Nat.mul a.lo b.lo, Nat.mul a.hi b.hi⟩ (top w))
    (andB a b) ⟨maxN a.lo b.lo, ones (maxN a.hi b.hi)⟩ ⟨0, ones (maxN a.hi b.hi)⟩
    (bc (Nat.blt b.hi w) (bc (Nat.blt (Nat.mul a.hi (p2 b.hi)) (p2 w)) ⟨Nat.mul a.lo (p2 b.lo), Nat.mul a.hi (p2 b.hi)⟩ (top w)) (top w))
    (bc (Nat.blt b.lo w) (bc (Nat.blt b.hi w) ⟨Nat.div a.lo (p2 b.hi), Nat.div a.hi (p2 b.lo)⟩ ⟨0, Nat.div a.hi (p2 b.lo)⟩) ⟨0, 0⟩)
    (bc (Nat.blt a.hi (p2 (Nat.sub w 1))) ⟨0, a.hi⟩ ⟨0, Nat.add a.hi (p2 w)⟩)
    (eqB a b) (ultB a b) (bc (Nat.blt 0 w) (ultB (sgnB w a) (sgnB w b)) ⟨0, 1⟩)
    (udivB a b) (uremB a b)
    (bc (Nat.blt a.hi (p2 (Nat.sub w 1))) (bc (Nat.blt b.hi (p2 (Nat.sub w 1))) (udivB a b) (top w)) (top w)) (bc (Nat.blt a.hi (p2 (Nat.sub w 1))) (bc (Nat.blt b.hi (p2 (Nat.sub w 1))) (uremB a b) (top w)) (top w))
    ⟨Nat.add (Nat.mul (Nat.add a.lo b.lo) (Nat.add a.lo b.lo)) b.lo, Nat.add (Nat.mul (Nat.add a.hi b.hi) (Nat.add a.hi b.hi)) b.hi⟩ o

theorem b2n_01 (b : Bool) : 0 ≤ b2n b ∧ b2n b ≤ 1 := by cases b <;> exact ⟨Nat.zero_le _, by decide⟩
theorem b2n_t {b : Bool} (h : b = true) : b2n b = 1 := by rw [h]; rfl
theorem b2n_f {b : Bool} (h : b = false) : b2n b = 0 := by rw [h]; rfl
theorem lor_lt {x y k : Nat} (hx : x < 2 ^ k) (hy : y < 2 ^ k) : x ||| y < 2 ^ k := Nat.or_lt_two_pow hx hy
theorem pow_le {a b : Nat} (h : a ≤ b) : 2 ^ a ≤ 2 ^ b := Nat.pow_le_pow_right (by omega) h

theorem eqB_ok {x y : Nat} {a b : B2} (ha : a.lo ≤ x ∧ x ≤ a.hi) (hb : b.lo ≤ y ∧ y ≤ b.hi) : (eqB a b).lo ≤ b2n (Nat.beq x y) ∧ b2n (Nat.beq x y) ≤ (eqB a b).hi := by
  unfold eqB
  by_cases e : a.hi < b.lo
  · rw [nblt_t e, nbeq_f (show ¬ x = y by omega)]; exact ⟨Nat.le_refl _, Nat.le_refl _⟩
  · rw [nblt_f e]
    by_cases e2 : b.hi < a.lo
    · rw [nblt_t e2, nbeq_f (show ¬ x = y by omega)]; exact ⟨Nat.le_refl _, Nat.le_refl _⟩
    · rw [nblt_f e2]
      by_cases e3 : a.lo = a.hi
      · rw [nbeq_t e3]
        by_cases e4 : b.lo = b.hi
        · rw [nbeq_t e4]
          by_cases e5 : a.lo = b.lo
          · rw [nbeq_t e5, nbeq_t (show x = y by omega)]; exact ⟨Nat.le_refl _, Nat.le_refl _⟩
          · rw [nbeq_f e5]; exact b2n_01 _
        · rw [nbeq_f e4]; exact b2n_01 _
      · rw [nbeq_f e3]; exact b2n_01 _
theorem ultB_ok {x y : Nat} {a b : B2} (ha : a.lo ≤ x ∧ x ≤ a.hi) (hb : b.lo ≤ y ∧ y ≤ b.hi) : (ultB a b).lo ≤ b2n (Nat.blt x y) ∧ b2n (Nat.blt x y) ≤ (ultB a b).hi := by
  unfold ultB
  by_cases e : a.hi < b.lo
  · rw [nblt_t e, nblt_t (show x < y by omega)]; exact ⟨Nat.le_refl _, Nat.le_refl _⟩
  · rw [nblt_f e]
    by_cases e2 : b.hi ≤ a.lo
    · rw [nble_t e2, nblt_f (show ¬ x < y by omega)]; exact ⟨Nat.le_refl _, Nat.le_refl _⟩
    · rw [nble_f e2]; exact b2n_01 _
theorem sgnB_ok {w x : Nat} {a : B2} (ha : a.lo ≤ x ∧ x ≤ a.hi) (hw : 0 < w) : (sgnB w a).lo ≤ Nat.mod (Nat.add x (p2 (Nat.sub w 1))) (p2 w) ∧ Nat.mod (Nat.add x (p2 (Nat.sub w 1))) (p2 w) ≤ (sgnB w a).hi := by
  have key : ∀ H : Nat, 0 < H → (bc (Nat.blt a.hi H) ⟨a.lo + H, a.hi + H⟩ (bc (band (Nat.ble H a.lo) (Nat.blt a.hi (2 * H))) ⟨a.lo - H, a.hi - H⟩ ⟨0, 2 * H - 1⟩) : B2).lo ≤ (x + H) % (2 * H) ∧ (x + H) % (2 * H) ≤ (bc (Nat.blt a.hi H) ⟨a.lo + H, a.hi + H⟩ (bc (band (Nat.ble H a.lo) (Nat.blt a.hi (2 * H))) ⟨a.lo - H, a.hi - H⟩ ⟨0, 2 * H - 1⟩) : B2).hi := by
    intro H hH
    by_cases e : a.hi < H
    · rw [nblt_t e, Nat.mod_eq_of_lt (by omega)]; show a.lo + H ≤ x + H ∧ x + H ≤ a.hi + H; omega
    · rw [nblt_f e]
      cases h2 : band (Nat.ble H a.lo) (Nat.blt a.hi (2 * H))
      · show 0 ≤ _ ∧ _ ≤ 2 * H - 1
        have := Nat.mod_lt (x + H) (show 0 < 2 * H by omega)
        omega
      · obtain ⟨h3, h4⟩ := band_eq h2
        have h3 := of_nble h3
        have h4 := of_nblt h4
        show a.lo - H ≤ _ ∧ _ ≤ a.hi - H
        rw [show x + H = (x - H) + 2 * H by omega, Nat.add_mod_right, Nat.mod_eq_of_lt (by omega)]
        omega
  have hh : 2 ^ w = 2 * 2 ^ (w - 1) := by
    conv => lhs; rw [show w = (w - 1) + 1 by omega, Nat.pow_succ]
    omega
  have := key (2 ^ (w - 1)) (Nat.two_pow_pos _)
  rw [← hh] at this
  exact this

theorem udivB_ok {x y : Nat} {a b : B2} (ha : a.lo ≤ x ∧ x ≤ a.hi) (hb : b.lo ≤ y ∧ y ≤ b.hi) : (udivB a b).lo ≤ x / y ∧ x / y ≤ (udivB a b).hi := by
  unfold udivB
  by_cases e : 0 < b.lo
  · rw [nblt_t e]
    exact ⟨Nat.le_trans (Nat.div_le_div_right ha.1) (Nat.div_le_div_left hb.2 (by omega)), Nat.le_trans (Nat.div_le_div_right ha.2) (Nat.div_le_div_left hb.1 e)⟩
  · rw [nblt_f e]
    exact ⟨Nat.zero_le _, Nat.le_trans (Nat.div_le_self x y) ha.2⟩
theorem uremB_ok {x y : Nat} {a b : B2} (ha : a.lo ≤ x ∧ x ≤ a.hi) (hb : b.lo ≤ y ∧ y ≤ b.hi) : (uremB a b).lo ≤ x % y ∧ x % y ≤ (uremB a b).hi := by
  unfold uremB
  by_cases e0 : a.hi < b.lo
  · rw [nblt_t e0, Nat.mod_eq_of_lt (by omega)]; exact ha
  · rw [nblt_f e0]
    have h1 := Nat.mod_le x y
    by_cases e : 0 < b.lo
    · rw [nblt_t e]
      show 0 ≤ x % y ∧ x % y ≤ minN a.hi (b.hi - 1)
      rw [minN_eq]
      have := Nat.mod_lt x (show 0 < y by omega)
      omega
    · rw [nblt_f e]; show 0 ≤ x % y ∧ x % y ≤ a.hi; omega
theorem nonneg_of {w x : Nat} (h : x < 2 ^ (w - 1)) : isNeg w x = false := nble_f (by show ¬ 2 ^ (w - 1) ≤ x; omega)
theorem mag_of {w x : Nat} (h : x < 2 ^ (w - 1)) : mag w x = x := by unfold mag; rw [nonneg_of h]

theorem rng2_ok {o : O2} {w x y : Nat} {a b : B2} (ha : a.lo ≤ x ∧ x ≤ a.hi) (hb : b.lo ≤ y ∧ y ≤ b.hi) : (rng2 o w a b).lo ≤ o.ev w x y ∧ o.ev w x y ≤ (rng2 o w a b).hi := by
  have htop : ∀ z, z < 2 ^ w → (top w).lo ≤ z ∧ z ≤ (top w).hi := fun z hz => by
    show 0 ≤ z ∧ z ≤ 2 ^ w - 1; omega
  have hp := Nat.two_pow_pos w
  cases o with
  | add =>
    show (bc (Nat.blt (a.hi + b.hi) (2 ^ w)) ⟨a.lo + b.lo, a.hi + b.hi⟩ (top w) : B2).lo ≤ (x + y) % 2 ^ w ∧ (x + y) % 2 ^ w ≤ (bc (Nat.blt (a.hi + b.hi) (2 ^ w)) ⟨a.lo + b.lo, a.hi + b.hi⟩ (top w) : B2).hi
    by_cases e : a.hi + b.hi < 2 ^ w
    · rw [nblt_t e, Nat.mod_eq_of_lt (by omega)]; show a.lo + b.lo ≤ x + y ∧ x + y ≤ a.hi + b.hi; omega
    · rw [nblt_f e]; exact htop _ (Nat.mod_lt _ hp)
  | sub =>
    have e0 : rng2 .sub w a b = bc (Nat.ble b.hi a.lo) (bc (Nat.blt a.hi (2 ^ w)) ⟨a.lo - b.hi, a.hi - b.lo⟩ (top w)) (bc (Nat.blt a.hi b.lo) (bc (Nat.blt b.hi (2 ^ w)) ⟨a.lo + 2 ^ w - b.hi, a.hi + 2 ^ w - b.lo⟩ (top w)) (top w)) := rfl
    rw [e0]
    show _ ≤ (x + (2 ^ w - y % 2 ^ w)) % 2 ^ w ∧ (x + (2 ^ w - y % 2 ^ w)) % 2 ^ w ≤ _
    by_cases e : b.hi ≤ a.lo
    · rw [nble_t e]
      by_cases e2 : a.hi < 2 ^ w
      · rw [nblt_t e2]
        rw [Nat.mod_eq_of_lt (show y < 2 ^ w by omega), show x + (2 ^ w - y) = (x - y) + 2 ^ w by omega, Nat.add_mod_right, Nat.mod_eq_of_lt (by omega)]
        show a.lo - b.hi ≤ x - y ∧ x - y ≤ a.hi - b.lo; omega
      · rw [nblt_f e2]; exact htop _ (Nat.mod_lt _ hp)
    · rw [nble_f e]
      by_cases e3 : a.hi < b.lo
      · rw [nblt_t e3]
        by_cases e4 : b.hi < 2 ^ w
        · rw [nblt_t e4]
          rw [Nat.mod_eq_of_lt (show y < 2 ^ w by omega), Nat.mod_eq_of_lt (show x + (2 ^ w - y) < 2 ^ w by omega)]
          show a.lo + 2 ^ w - b.hi ≤ x + (2 ^ w - y) ∧ x + (2 ^ w - y) ≤ a.hi + 2 ^ w - b.lo; omega
        · rw [nblt_f e4]; exact htop _ (Nat.mod_lt _ hp)
      · rw [nblt_f e3]; exact htop _ (Nat.mod_lt _ hp)
  | mul =>
    show (bc (Nat.blt (a.hi * b.hi) (2 ^ w)) ⟨a.lo * b.lo, a.hi * b.hi⟩ (top w) : B2).lo ≤ (x * y) % 2 ^ w ∧ (x * y) % 2 ^ w ≤ (bc (Nat.blt (a.hi * b.hi) (2 ^ w)) ⟨a.lo * b.lo, a.hi * b.hi⟩ (top w) : B2).hi
    have h1 : x * y ≤ a.hi * b.hi := Nat.mul_le_mul ha.2 hb.2
    have h2 : a.lo * b.lo ≤ x * y := Nat.mul_le_mul ha.1 hb.1
    by_cases e : a.hi * b.hi < 2 ^ w
    · rw [nblt_t e, Nat.mod_eq_of_lt (by omega)]; exact ⟨h2, h1⟩
    · rw [nblt_f e]; exact htop _ (Nat.mod_lt _ hp)
  | and => exact andB_ok ha hb
  | or =>
    show maxN a.lo b.lo ≤ x ||| y ∧ x ||| y ≤ 2 ^ (Nat.log2 (maxN a.hi b.hi) + 1) - 1
    rw [maxN_eq, maxN_eq]
    have h1 : x ≤ x ||| y := Nat.left_le_or
    have h2 : y ≤ x ||| y := Nat.right_le_or
    have h3 := le_ones (max a.hi b.hi)
    have h4 : x ||| y < 2 ^ (Nat.log2 (max a.hi b.hi) + 1) := Nat.or_lt_two_pow (by omega) (by omega)
    omega
  | xor =>
    show 0 ≤ x ^^^ y ∧ x ^^^ y ≤ 2 ^ (Nat.log2 (maxN a.hi b.hi) + 1) - 1
    rw [maxN_eq]
    have h3 := le_ones (max a.hi b.hi)
    have h4 : x ^^^ y < 2 ^ (Nat.log2 (max a.hi b.hi) + 1) := Nat.xor_lt_two_pow (by omega) (by omega)
    omega
  | shl =>
    show (bc (Nat.blt b.hi w) (bc (Nat.blt (a.hi * 2 ^ b.hi) (2 ^ w)) ⟨a.lo * 2 ^ b.lo, a.hi * 2 ^ b.hi⟩ (top w)) (top w) : B2).lo ≤ bc (Nat.ble w y) 0 (x * 2 ^ y % 2 ^ w) ∧ bc (Nat.ble w y) 0 (x * 2 ^ y % 2 ^ w) ≤ (bc (Nat.blt b.hi w) (bc (Nat.blt (a.hi * 2 ^ b.hi) (2 ^ w)) ⟨a.lo * 2 ^ b.lo, a.hi * 2 ^ b.hi⟩ (top w)) (top w) : B2).hi
    have hev : bc (Nat.ble w y) 0 (x * 2 ^ y % 2 ^ w) < 2 ^ w := by
      cases Nat.ble w y
      · exact Nat.mod_lt _ hp
      · exact hp
    by_cases e2 : b.hi < w
    · rw [nblt_t e2]
      by_cases e : a.hi * 2 ^ b.hi < 2 ^ w
      · rw [nblt_t e, nble_f (show ¬ w ≤ y by omega)]
        have h1 : x * 2 ^ y ≤ a.hi * 2 ^ b.hi := Nat.mul_le_mul ha.2 (pow_le hb.2)
        have h2 : a.lo * 2 ^ b.lo ≤ x * 2 ^ y := Nat.mul_le_mul ha.1 (pow_le hb.1)
        show a.lo * 2 ^ b.lo ≤ x * 2 ^ y % 2 ^ w ∧ x * 2 ^ y % 2 ^ w ≤ a.hi * 2 ^ b.hi
        rw [Nat.mod_eq_of_lt (Nat.lt_of_le_of_lt h1 e)]
        exact ⟨h2, h1⟩
      · rw [nblt_f e]; exact htop _ hev
    · rw [nblt_f e2]; exact htop _ hev
  | shr =>
    show (bc (Nat.blt b.lo w) (bc (Nat.blt b.hi w) ⟨a.lo / 2 ^ b.hi, a.hi / 2 ^ b.lo⟩ ⟨0, a.hi / 2 ^ b.lo⟩) ⟨0, 0⟩ : B2).lo ≤ bc (Nat.ble w y) 0 (x / 2 ^ y) ∧ bc (Nat.ble w y) 0 (x / 2 ^ y) ≤ (bc (Nat.blt b.lo w) (bc (Nat.blt b.hi w) ⟨a.lo / 2 ^ b.hi, a.hi / 2 ^ b.lo⟩ ⟨0, a.hi / 2 ^ b.lo⟩) ⟨0, 0⟩ : B2).hi
    have h1 : x / 2 ^ y ≤ a.hi / 2 ^ b.lo := Nat.le_trans (Nat.div_le_div_right ha.2) (Nat.div_le_div_left (pow_le hb.1) (Nat.two_pow_pos _))
    have h2 : a.lo / 2 ^ b.hi ≤ x / 2 ^ y := Nat.le_trans (Nat.div_le_div_right ha.1) (Nat.div_le_div_left (pow_le hb.2) (Nat.two_pow_pos _))
    by_cases e : b.lo < w
    · rw [nblt_t e]
      by_cases e2 : b.hi < w
      · rw [nblt_t e2, nble_f (show ¬ w ≤ y by omega)]; exact ⟨h2, h1⟩
      · rw [nblt_f e2]
        cases Nat.ble w y
        · exact ⟨Nat.zero_le _, h1⟩
        · exact ⟨Nat.zero_le _, Nat.zero_le _⟩
    · rw [nblt_f e, nble_t (show w ≤ y by omega)]; exact ⟨Nat.zero_le _, Nat.zero_le _⟩
  | sar =>
    show (bc (Nat.blt a.hi (2 ^ (w - 1))) ⟨0, a.hi⟩ ⟨0, a.hi + 2 ^ w⟩ : B2).lo ≤ bc (Nat.ble (2 ^ (w - 1)) x) (2 ^ w - 1 - (2 ^ w - 1 - x) / 2 ^ bc (Nat.ble w y) w y) (x / 2 ^ bc (Nat.ble w y) w y) ∧ bc (Nat.ble (2 ^ (w - 1)) x) (2 ^ w - 1 - (2 ^ w - 1 - x) / 2 ^ bc (Nat.ble w y) w y) (x / 2 ^ bc (Nat.ble w y) w y) ≤ (bc (Nat.blt a.hi (2 ^ (w - 1))) ⟨0, a.hi⟩ ⟨0, a.hi + 2 ^ w⟩ : B2).hi
    have h1 : x / 2 ^ bc (Nat.ble w y) w y ≤ x := Nat.div_le_self _ _
    by_cases e : a.hi < 2 ^ (w - 1)
    · rw [nblt_t e, nble_f (show ¬ 2 ^ (w - 1) ≤ x by omega)]
      exact ⟨Nat.zero_le _, Nat.le_trans h1 ha.2⟩
    · rw [nblt_f e]
      cases Nat.ble (2 ^ (w - 1)) x
      · exact ⟨Nat.zero_le _, Nat.le_trans h1 (Nat.le_trans ha.2 (Nat.le_add_right _ _))⟩
      · refine ⟨Nat.zero_le _, ?_⟩
        exact Nat.le_trans (Nat.sub_le _ _) (Nat.le_trans (Nat.sub_le _ _) (Nat.le_add_left _ _))
  | eq => exact eqB_ok ha hb
  | ult => exact ultB_ok ha hb
  | slt =>
    by_cases hw : 0 < w
    · have := ultB_ok (sgnB_ok ha hw) (sgnB_ok hb hw)
      show (bc (Nat.blt 0 w) (ultB (sgnB w a) (sgnB w b)) ⟨0, 1⟩ : B2).lo ≤ _ ∧ _ ≤ (bc (Nat.blt 0 w) (ultB (sgnB w a) (sgnB w b)) ⟨0, 1⟩ : B2).hi
      rw [nblt_t hw]; exact this
    · show (bc (Nat.blt 0 w) (ultB (sgnB w a) (sgnB w b)) ⟨0, 1⟩ : B2).lo ≤ _ ∧ _ ≤ (bc (Nat.blt 0 w) (ultB (sgnB w a) (sgnB w b)) ⟨0, 1⟩ : B2).hi
      rw [nblt_f hw]; exact b2n_01 _
  | udiv => exact udivB_ok ha hb
  | urem => exact uremB_ok ha hb
  | sdiv =>
    show (bc (Nat.blt a.hi (2 ^ (w - 1))) (bc (Nat.blt b.hi (2 ^ (w - 1))) (udivB a b) (top w)) (top w) : B2).lo ≤ sgn (bne (isNeg w x) (isNeg w y)) w (Nat.div (mag w x) (mag w y)) ∧ sgn (bne (isNeg w x) (isNeg w y)) w (Nat.div (mag w x) (mag w y)) ≤ (bc (Nat.blt a.hi (2 ^ (w - 1))) (bc (Nat.blt b.hi (2 ^ (w - 1))) (udivB a b) (top w)) (top w) : B2).hi
    have ht : sgn (bne (isNeg w x) (isNeg w y)) w (Nat.div (mag w x) (mag w y)) < 2 ^ w := by cases (bne (isNeg w x) (isNeg w y)) <;> exact Nat.mod_lt _ hp
    by_cases e : a.hi < 2 ^ (w - 1)
    · by_cases e2 : b.hi < 2 ^ (w - 1)
      · rw [nblt_t e, nblt_t e2, nonneg_of (show x < 2 ^ (w - 1) by omega), nonneg_of (show y < 2 ^ (w - 1) by omega), mag_of (show x < 2 ^ (w - 1) by omega), mag_of (show y < 2 ^ (w - 1) by omega)]
        have h1 : x / y ≤ x := Nat.div_le_self _ _
        have h2 : 2 ^ (w - 1) ≤ 2 ^ w := pow_le (Nat.sub_le _ _)
        have h3 : sgn (bne false false) w (Nat.div x y) = x / y := Nat.mod_eq_of_lt (show x / y < 2 ^ w by omega)
        rw [h3]; exact udivB_ok ha hb
      · rw [nblt_t e, nblt_f e2]; exact htop _ ht
    · rw [nblt_f e]; exact htop _ ht
  | srem =>
    show (bc (Nat.blt a.hi (2 ^ (w - 1))) (bc (Nat.blt b.hi (2 ^ (w - 1))) (uremB a b) (top w)) (top w) : B2).lo ≤ sgn (isNeg w x) w (Nat.mod (mag w x) (mag w y)) ∧ sgn (isNeg w x) w (Nat.mod (mag w x) (mag w y)) ≤ (bc (Nat.blt a.hi (2 ^ (w - 1))) (bc (Nat.blt b.hi (2 ^ (w - 1))) (uremB a b) (top w)) (top w) : B2).hi
    have ht : sgn (isNeg w x) w (Nat.mod (mag w x) (mag w y)) < 2 ^ w := by cases (isNeg w x) <;> exact Nat.mod_lt _ hp
    by_cases e : a.hi < 2 ^ (w - 1)
    · by_cases e2 : b.hi < 2 ^ (w - 1)
      · rw [nblt_t e, nblt_t e2, nonneg_of (show x < 2 ^ (w - 1) by omega), mag_of (show x < 2 ^ (w - 1) by omega), mag_of (show y < 2 ^ (w - 1) by omega)]
        have h1 : x % y ≤ x := Nat.mod_le _ _
        have h2 : 2 ^ (w - 1) ≤ 2 ^ w := pow_le (Nat.sub_le _ _)
        have h3 : sgn false w (Nat.mod x y) = x % y := Nat.mod_eq_of_lt (show x % y < 2 ^ w by omega)
        rw [h3]; exact uremB_ok ha hb
      · rw [nblt_t e, nblt_f e2]; exact htop _ ht
    · rw [nblt_f e]; exact htop _ ht
  | pair =>
    show (a.lo + b.lo) * (a.lo + b.lo) + b.lo ≤ (x + y) * (x + y) + y ∧ (x + y) * (x + y) + y ≤ (a.hi + b.hi) * (a.hi + b.hi) + b.hi
    have h1 : (a.lo + b.lo) * (a.lo + b.lo) ≤ (x + y) * (x + y) := Nat.mul_le_mul (by omega) (by omega)
    have h2 : (x + y) * (x + y) ≤ (a.hi + b.hi) * (a.hi + b.hi) := Nat.mul_le_mul (by omega) (by omega)
    omega

/-! ### Terms -/
/-- Between which numbers a term is known to lie. -/
structure Bnd where
  t : Tm
  lo : Nat
  hi : Nat
def Bnd.ok (σ : Nat → Nat) (b : Bnd) : Prop := b.lo ≤ b.t.ev σ ∧ b.t.ev σ ≤ b.hi
theorem Bnd.mk_ok {σ} {e : Tm} {lo hi : Nat} (h : lo ≤ e.ev σ ∧ e.ev σ ≤ hi) : (⟨e, lo, hi⟩ : Bnd).ok σ := h
def In (x : Nat) (b : B2) : Prop := b.lo ≤ x ∧ x ≤ b.hi

noncomputable def withB {α : Type} (b : B2) (k : B2 → α) : α := B2.rec (fun l h => forceN l fun l => forceN h fun h => k ⟨l, h⟩) b
theorem withB_eq {α : Type} (b : B2) (k : B2 → α) : withB b k = k b := by
  cases b with
  | mk l h => show forceN l (fun l => forceN h fun h => k ⟨l, h⟩) = k ⟨l, h⟩; rw [forceN_eq, forceN_eq]

/-- With what is known of the term itself. -/
noncomputable def meetB (l : List Bnd) (t : Tm) (b : B2) : B2 :=
  List.rec b (fun x _ ih => bc (Tm.same x.t t) ⟨maxN x.lo ih.lo, minN x.hi ih.hi⟩ ih) l
theorem meetB_ok {σ} {l : List Bnd} (h : ∀ b ∈ l, b.ok σ) {t : Tm} {b : B2} (hb : In (t.ev σ) b) : In (t.ev σ) (meetB l t b) := by
  induction l with
  | nil => exact hb
  | cons x l ih =>
    have ih' := ih fun y hy => h y (List.mem_cons_of_mem _ hy)
    have hx := h x List.mem_cons_self
    show In _ (bc (Tm.same x.t t) ⟨maxN x.lo (meetB l t b).lo, minN x.hi (meetB l t b).hi⟩ (meetB l t b))
    cases hs : Tm.same x.t t
    · exact ih'
    · have e := Tm.same_eq hs
      unfold Bnd.ok at hx
      rw [e] at hx
      unfold In at ih' ⊢
      show maxN _ _ ≤ _ ∧ _ ≤ minN _ _
      rw [maxN_eq, minN_eq]
      omega

noncomputable def iteB (c a b : B2) : B2 := bc (Nat.blt 0 c.lo) a (bc (Nat.beq c.hi 0) b ⟨minN a.lo b.lo, maxN a.hi b.hi⟩)
noncomputable def rng (l : List Bnd) (t : Tm) : B2 :=
  Tm.rec (fun n => ⟨n, n⟩) (fun i w => meetB l (.var i w) (top w)) (fun o w a ra => withB ra fun ra => meetB l (.un o w a) (rng1 o w ra))
    (fun o w a b ra rb => withB ra fun ra => withB rb fun rb => meetB l (.bin o w a b) (rng2 o w ra rb))
    (fun c a b rc ra rb => withB rc fun rc => withB ra fun ra => withB rb fun rb => meetB l (.ite c a b) (iteB rc ra rb)) (fun f w a _ => meetB l (.app f w a) (top w)) t
theorem rng_ok {σ} {l : List Bnd} (h : ∀ b ∈ l, b.ok σ) (t : Tm) : In (t.ev σ) (rng l t) := by
  induction t with
  | lit n => exact ⟨Nat.le_refl _, Nat.le_refl _⟩
  | var i w =>
    refine meetB_ok h ?_
    show 0 ≤ σ i % 2 ^ w ∧ σ i % 2 ^ w ≤ 2 ^ w - 1
    have := Nat.mod_lt (σ i) (Nat.two_pow_pos w)
    omega
  | un o w a ih =>
    show In _ (withB (rng l a) fun ra => meetB l (.un o w a) (rng1 o w ra))
    rw [withB_eq]
    exact meetB_ok h (rng1_ok ih)
  | bin o w a b iha ihb =>
    show In _ (withB (rng l a) fun ra => withB (rng l b) fun rb => meetB l (.bin o w a b) (rng2 o w ra rb))
    rw [withB_eq, withB_eq]
    exact meetB_ok h (rng2_ok iha ihb)
  | ite c a b ihc iha ihb =>
    show In _ (withB (rng l c) fun rc => withB (rng l a) fun ra => withB (rng l b) fun rb => meetB l (.ite c a b) (iteB rc ra rb))
    rw [withB_eq, withB_eq, withB_eq]
    refine meetB_ok h ?_
    rw [ev_ite]
    unfold In at *
    unfold iteB
    by_cases e : 0 < (rng l c).lo
    · rw [nblt_t e, if_neg (by omega)]; exact iha
    · rw [nblt_f e]
      by_cases e2 : (rng l c).hi = 0
      · rw [nbeq_t e2, if_pos (by omega)]; exact ihb
      · rw [nbeq_f e2]
        show minN _ _ ≤ _ ∧ _ ≤ maxN _ _
        rw [minN_eq, maxN_eq]
        split <;> omega
  | app f w a ih =>
    refine meetB_ok h ?_
    show 0 ≤ σ (appAt f (a.ev σ)) % 2 ^ w ∧ σ (appAt f (a.ev σ)) % 2 ^ w ≤ 2 ^ w - 1
    have := Nat.mod_lt (σ (appAt f (a.ev σ))) (Nat.two_pow_pos w)
    omega

/-! ### What a fact says of a term -/
/-- a o b holds (or, where neg, does not); one of the two is a number. -/
noncomputable def bndEq (neg : Bool) (l : List Bnd) (e : Tm) (n : Nat) : Option Bnd :=
  bc neg (withB (rng l e) fun r => bc (Nat.beq r.lo n) (some ⟨e, Nat.succ n, r.hi⟩) (bc (Nat.beq r.hi n) (some ⟨e, r.lo, Nat.pred n⟩) none)) (some ⟨e, n, n⟩)
/-- e < n -/
noncomputable def bndLt (neg : Bool) (l : List Bnd) (e : Tm) (n : Nat) : Option Bnd :=
  bc neg (withB (rng l e) fun r => some ⟨e, n, r.hi⟩) (some ⟨e, 0, Nat.pred n⟩)
/-- n < e -/
noncomputable def bndGt (neg : Bool) (l : List Bnd) (e : Tm) (n : Nat) : Option Bnd :=
  bc neg (some ⟨e, 0, n⟩) (withB (rng l e) fun r => some ⟨e, Nat.succ n, r.hi⟩)
/-- e < n, of numbers with a sign -/
noncomputable def bndLtS (w : Nat) (neg : Bool) (l : List Bnd) (e : Tm) (n : Nat) : Option Bnd :=
  bc (Nat.blt n (p2 (Nat.sub w 1))) (withB (rng l e) fun r => bc (Nat.blt r.hi (p2 (Nat.sub w 1))) (bndLt neg l e n)
    (bc (Nat.blt r.hi (p2 w)) (bc neg (some ⟨e, n, Nat.pred (p2 (Nat.sub w 1))⟩) (bc (Nat.beq n 0) (some ⟨e, p2 (Nat.sub w 1), r.hi⟩) none)) none)) none
/-- n < e, of numbers with a sign -/
noncomputable def bndGtS (w : Nat) (neg : Bool) (l : List Bnd) (e : Tm) (n : Nat) : Option Bnd :=
  bc (Nat.blt n (p2 (Nat.sub w 1))) (withB (rng l e) fun r => bc (Nat.blt r.hi (p2 (Nat.sub w 1))) (bndGt neg l e n)
    (bc (Nat.blt r.hi (p2 w)) (bc neg none (some ⟨e, Nat.succ n, Nat.pred (p2 (Nat.sub w 1))⟩)) none)) none

theorem bndEq_ok {σ} {l : List Bnd} (h : ∀ b ∈ l, b.ok σ) {neg : Bool} {e : Tm} {n : Nat} {b : Bnd} (hb : bndEq neg l e n = some b) (hf : neg = false ↔ e.ev σ = n) : b.ok σ := by
  unfold bndEq at hb
  have hr := rng_ok h e
  cases neg with
  | false =>
    change some _ = some b at hb
    cases hb
    have := hf.1 rfl
    exact ⟨Nat.le_of_eq this.symm, Nat.le_of_eq this⟩
  | true =>
    change withB (rng l e) _ = some b at hb
    rw [withB_eq] at hb
    have hne : ¬ e.ev σ = n := fun x => by have := hf.2 x; cases this
    unfold In at hr
    cases h1 : Nat.beq (rng l e).lo n
    · rw [h1] at hb
      change bc (Nat.beq (rng l e).hi n) _ none = some b at hb
      cases h2 : Nat.beq (rng l e).hi n
      · rw [h2] at hb; cases hb
      · rw [h2] at hb; cases hb
        have := of_nbeq h2
        refine Bnd.mk_ok ?_
        rw [Nat.pred_eq_sub_one]; omega
    · rw [h1] at hb; cases hb
      have := of_nbeq h1
      refine Bnd.mk_ok ?_
      omega
theorem bndLt_ok {σ} {l : List Bnd} (h : ∀ b ∈ l, b.ok σ) {neg : Bool} {e : Tm} {n : Nat} {b : Bnd} (hb : bndLt neg l e n = some b) (hf : neg = false ↔ e.ev σ < n) : b.ok σ := by
  unfold bndLt at hb
  have hr := rng_ok h e
  cases neg with
  | false =>
    change some _ = some b at hb
    cases hb
    have := hf.1 rfl
    refine Bnd.mk_ok ?_
    rw [Nat.pred_eq_sub_one]; omega
  | true =>
    change withB (rng l e) _ = some b at hb
    rw [withB_eq] at hb
    cases hb
    have hne : ¬ e.ev σ < n := fun x => by have := hf.2 x; cases this
    unfold In at hr
    refine Bnd.mk_ok ?_
    omega
theorem bndGt_ok {σ} {l : List Bnd} (h : ∀ b ∈ l, b.ok σ) {neg : Bool} {e : Tm} {n : Nat} {b : Bnd} (hb : bndGt neg l e n = some b) (hf : neg = false ↔ n < e.ev σ) : b.ok σ := by
  unfold bndGt at hb
  have hr := rng_ok h e
  cases neg with
  | true =>
    change some _ = some b at hb
    cases hb
    have hne : ¬ n < e.ev σ := fun x => by have := hf.2 x; cases this
    refine Bnd.mk_ok ?_
    omega
  | false =>
    change withB (rng l e) _ = some b at hb
    rw [withB_eq] at hb
    cases hb
    have := hf.1 rfl
    unfold In at hr
    refine Bnd.mk_ok ?_
    omega

theorem slt_iff {w x y : Nat} (hw : 0 < w) (hx : x < 2 ^ w) (hy : y < 2 ^ (w - 1)) : Nat.blt ((x + 2 ^ (w - 1)) % 2 ^ w) ((y + 2 ^ (w - 1)) % 2 ^ w) = true ↔ (x < y ∨ 2 ^ (w - 1) ≤ x) := by
  have hh : 2 ^ w = 2 * 2 ^ (w - 1) := by
    conv => lhs; rw [show w = (w - 1) + 1 by omega, Nat.pow_succ]
    omega
  rw [hh] at hx ⊢
  generalize 2 ^ (w - 1) = H at *
  rw [Nat.mod_eq_of_lt (show y + H < 2 * H by omega)]
  by_cases e : x < H
  · rw [Nat.mod_eq_of_lt (show x + H < 2 * H by omega)]
    constructor
    · intro h; have := of_nblt h; omega
    · intro h; exact nblt_t (by omega)
  · rw [show x + H = (x - H) + 2 * H by omega, Nat.add_mod_right, Nat.mod_eq_of_lt (by omega)]
    constructor
    · intro h; omega
    · intro h; exact nblt_t (by omega)
theorem sgt_iff {w x y : Nat} (hw : 0 < w) (hx : x < 2 ^ w) (hy : y < 2 ^ (w - 1)) : Nat.blt ((y + 2 ^ (w - 1)) % 2 ^ w) ((x + 2 ^ (w - 1)) % 2 ^ w) = true ↔ (y < x ∧ x < 2 ^ (w - 1)) := by
  have hh : 2 ^ w = 2 * 2 ^ (w - 1) := by
    conv => lhs; rw [show w = (w - 1) + 1 by omega, Nat.pow_succ]
    omega
  rw [hh] at hx ⊢
  generalize 2 ^ (w - 1) = H at *
  rw [Nat.mod_eq_of_lt (show y + H < 2 * H by omega)]
  by_cases e : x < H
  · rw [Nat.mod_eq_of_lt (show x + H < 2 * H by omega)]
    constructor
    · intro h; have := of_nblt h; omega
    · intro h; exact nblt_t (by omega)
  · rw [show x + H = (x - H) + 2 * H by omega, Nat.add_mod_right, Nat.mod_eq_of_lt (by omega)]
    constructor
    · intro h; have := of_nblt h; omega
    · intro h; exact nblt_t (by omega)

theorem bndLtS_ok {σ} {l : List Bnd} (h : ∀ b ∈ l, b.ok σ) {w : Nat} (hw : 0 < w) {neg : Bool} {e : Tm} {n : Nat} {b : Bnd} (hb : bndLtS w neg l e n = some b)
    (hf : neg = false ↔ Nat.blt ((e.ev σ + 2 ^ (w - 1)) % 2 ^ w) ((n + 2 ^ (w - 1)) % 2 ^ w) = true) : b.ok σ := by
  unfold bndLtS at hb
  have hr := rng_ok h e
  unfold In at hr
  by_cases e1 : n < 2 ^ (w - 1)
  · rw [show Nat.blt n (p2 (Nat.sub w 1)) = true from nblt_t e1] at hb
    change withB (rng l e) _ = some b at hb
    rw [withB_eq] at hb
    have hh : 2 ^ (w - 1) < 2 ^ w := Nat.pow_lt_pow_right (by omega) (by omega)
    by_cases e2 : (rng l e).hi < 2 ^ (w - 1)
    · rw [show Nat.blt (rng l e).hi (p2 (Nat.sub w 1)) = true from nblt_t e2] at hb
      refine bndLt_ok h hb ?_
      rw [hf, slt_iff hw (by omega) e1]; omega
    · rw [show Nat.blt (rng l e).hi (p2 (Nat.sub w 1)) = false from nblt_f e2] at hb
      by_cases e3 : (rng l e).hi < 2 ^ w
      · rw [show Nat.blt (rng l e).hi (p2 w) = true from nblt_t e3] at hb
        rw [slt_iff hw (by omega) e1] at hf
        cases neg with
        | true =>
          cases hb
          have : ¬ (e.ev σ < n ∨ 2 ^ (w - 1) ≤ e.ev σ) := fun x => by have := hf.2 x; cases this
          refine Bnd.mk_ok ?_
          rw [Nat.pred_eq_sub_one]
          show n ≤ e.ev σ ∧ e.ev σ ≤ 2 ^ (w - 1) - 1
          omega
        | false =>
          change bc (Nat.beq n 0) _ none = some b at hb
          cases e4 : Nat.beq n 0
          · rw [e4] at hb; cases hb
          · rw [e4] at hb; cases hb
            have := of_nbeq e4
            have := hf.1 rfl
            refine Bnd.mk_ok ?_
            show 2 ^ (w - 1) ≤ e.ev σ ∧ e.ev σ ≤ (rng l e).hi
            omega
      · rw [show Nat.blt (rng l e).hi (p2 w) = false from nblt_f e3] at hb; cases hb
  · rw [show Nat.blt n (p2 (Nat.sub w 1)) = false from nblt_f e1] at hb; cases hb
theorem bndGtS_ok {σ} {l : List Bnd} (h : ∀ b ∈ l, b.ok σ) {w : Nat} (hw : 0 < w) {neg : Bool} {e : Tm} {n : Nat} {b : Bnd} (hb : bndGtS w neg l e n = some b)
    (hf : neg = false ↔ Nat.blt ((n + 2 ^ (w - 1)) % 2 ^ w) ((e.ev σ + 2 ^ (w - 1)) % 2 ^ w) = true) : b.ok σ := by
  unfold bndGtS at hb
  have hr := rng_ok h e
  unfold In at hr
  by_cases e1 : n < 2 ^ (w - 1)
  · rw [show Nat.blt n (p2 (Nat.sub w 1)) = true from nblt_t e1] at hb
    change withB (rng l e) _ = some b at hb
    rw [withB_eq] at hb
    have hh : 2 ^ (w - 1) < 2 ^ w := Nat.pow_lt_pow_right (by omega) (by omega)
    by_cases e2 : (rng l e).hi < 2 ^ (w - 1)
    · rw [show Nat.blt (rng l e).hi (p2 (Nat.sub w 1)) = true from nblt_t e2] at hb
      refine bndGt_ok h hb ?_
      rw [hf, sgt_iff hw (by omega) e1]; omega
    · rw [show Nat.blt (rng l e).hi (p2 (Nat.sub w 1)) = false from nblt_f e2] at hb
      by_cases e3 : (rng l e).hi < 2 ^ w
      · rw [show Nat.blt (rng l e).hi (p2 w) = true from nblt_t e3] at hb
        rw [sgt_iff hw (by omega) e1] at hf
        cases neg with
        | true => cases hb
        | false =>
          cases hb
          have := hf.1 rfl
          refine Bnd.mk_ok ?_
          rw [Nat.pred_eq_sub_one]
          show n + 1 ≤ e.ev σ ∧ e.ev σ ≤ 2 ^ (w - 1) - 1
          omega
      · rw [show Nat.blt (rng l e).hi (p2 w) = false from nblt_f e3] at hb; cases hb
  · rw [show Nat.blt n (p2 (Nat.sub w 1)) = false from nblt_f e1] at hb; cases hb

noncomputable def oneOf (a b : Tm) (ka : Tm → Nat → Option Bnd) (kb : Tm → Nat → Option Bnd) : Option Bnd :=
  Option.rec (Option.rec none (fun n => kb b n) (isLit a)) (fun n => ka a n) (isLit b)
/-- a < b, neither written: a is less than b's bound; or, where it is not so, b is no more than a's. -/
noncomputable def ltN (neg : Bool) (l : List Bnd) (a b : Tm) : Option Bnd :=
  bc neg (withB (rng l a) fun r => some ⟨b, 0, r.hi⟩) (withB (rng l b) fun r => some ⟨a, 0, Nat.pred r.hi⟩)
noncomputable def ltNS (w : Nat) (neg : Bool) (l : List Bnd) (a b : Tm) : Option Bnd :=
  withB (rng l a) fun r => bc (Nat.blt r.hi (p2 (Nat.sub w 1))) (withB (rng l b) fun r' => bc (Nat.blt r'.hi (p2 (Nat.sub w 1))) (ltN neg l a b) none) none
theorem ltN_ok {σ} {l : List Bnd} (h : ∀ b ∈ l, b.ok σ) {neg : Bool} {a b : Tm} {r : Bnd} (hr : ltN neg l a b = some r) (hf : neg = false ↔ a.ev σ < b.ev σ) : r.ok σ := by
  have ha := rng_ok h a
  have hb := rng_ok h b
  unfold In at ha hb
  unfold ltN at hr
  cases neg with
  | true =>
    change withB (rng l a) _ = some r at hr
    rw [withB_eq] at hr
    cases hr
    have : ¬ a.ev σ < b.ev σ := fun x => by have := hf.2 x; cases this
    exact ⟨Nat.zero_le _, by show b.ev σ ≤ (rng l a).hi; omega⟩
  | false =>
    change withB (rng l b) _ = some r at hr
    rw [withB_eq] at hr
    cases hr
    have := hf.1 rfl
    exact ⟨Nat.zero_le _, by show a.ev σ ≤ (rng l b).hi - 1; omega⟩
theorem ltNS_ok {σ} {l : List Bnd} (h : ∀ b ∈ l, b.ok σ) {w : Nat} (hw : 0 < w) {neg : Bool} {a b : Tm} {r : Bnd} (hr : ltNS w neg l a b = some r)
    (hf : neg = false ↔ Nat.blt ((a.ev σ + 2 ^ (w - 1)) % 2 ^ w) ((b.ev σ + 2 ^ (w - 1)) % 2 ^ w) = true) : r.ok σ := by
  have ha := (rng_ok h a).2
  have hb := (rng_ok h b).2
  unfold ltNS at hr
  rw [withB_eq] at hr
  cases h1 : Nat.blt (rng l a).hi (p2 (Nat.sub w 1))
  · rw [h1] at hr; cases hr
  · rw [h1] at hr
    change withB (rng l b) _ = some r at hr
    rw [withB_eq] at hr
    cases h2 : Nat.blt (rng l b).hi (p2 (Nat.sub w 1))
    · rw [h2] at hr; cases hr
    · rw [h2] at hr
      have h1 : (rng l a).hi < 2 ^ (w - 1) := of_nblt h1
      have h2 : (rng l b).hi < 2 ^ (w - 1) := of_nblt h2
      have hp : 2 ^ w = 2 ^ (w - 1) + 2 ^ (w - 1) := by
        conv => lhs; rw [show w = (w - 1) + 1 by omega, Nat.pow_succ]
        omega
      refine ltN_ok h hr ?_
      rw [hf, Nat.mod_eq_of_lt (show a.ev σ + 2 ^ (w - 1) < 2 ^ w by omega), Nat.mod_eq_of_lt (show b.ev σ + 2 ^ (w - 1) < 2 ^ w by omega)]
      exact ⟨fun x => by have := of_nblt x; omega, fun x => nblt_t (by omega)⟩
noncomputable def orB (x y : Option Bnd) : Option Bnd := Option.rec y (fun r => some r) x
theorem orB_ok {P : Bnd → Prop} {x y : Option Bnd} {r : Bnd} (h : orB x y = some r) (hx : x = some r → P r) (hy : y = some r → P r) : P r := by
  cases x with
  | none => exact hy h
  | some q => exact hx h
noncomputable def bnd2 (neg : Bool) (l : List Bnd) (o : O2) (w : Nat) (a b : Tm) : Option Bnd :=
  O2.rec none none none none none none none none none (oneOf a b (bndEq neg l) (bndEq neg l)) (orB (oneOf a b (bndLt neg l) (bndGt neg l)) (ltN neg l a b))
    (bc (Nat.blt 0 w) (orB (oneOf a b (bndLtS w neg l) (bndGtS w neg l)) (ltNS w neg l a b)) none) none none none none none o
theorem oneOf_ok {P : Bnd → Prop} {a b : Tm} {ka kb : Tm → Nat → Option Bnd} {r : Bnd} (h : oneOf a b ka kb = some r) (ha : ∀ n, b = .lit n → ka a n = some r → P r) (hb : ∀ n, a = .lit n → kb b n = some r → P r) : P r := by
  unfold oneOf at h
  cases h1 : isLit b with
  | some n => rw [h1] at h; exact ha n (isLit_some h1) h
  | none =>
    rw [h1] at h
    cases h2 : isLit a with
    | some n => rw [h2] at h; exact hb n (isLit_some h2) h
    | none => rw [h2] at h; cases h
theorem b2n_nz {b : Bool} : b2n b ≠ 0 ↔ b = true := by cases b <;> simp [b2n]
theorem bnd2_ok {σ} {l : List Bnd} (h : ∀ b ∈ l, b.ok σ) {neg : Bool} {o : O2} {w : Nat} {a b : Tm} {r : Bnd} (hr : bnd2 neg l o w a b = some r) (hf : neg = false ↔ o.ev w (a.ev σ) (b.ev σ) ≠ 0) : r.ok σ := by
  cases o with
  | eq =>
    have hf : neg = false ↔ a.ev σ = b.ev σ := by
      rw [hf]; show b2n (Nat.beq _ _) ≠ 0 ↔ _; rw [b2n_nz]; exact ⟨of_nbeq, nbeq_t⟩
    refine oneOf_ok (P := fun r => r.ok σ) hr (fun n hb hr => bndEq_ok h hr ?_) (fun n ha hr => bndEq_ok h hr ?_)
    · rw [hf, hb, ev_lit]
    · rw [hf, ha, ev_lit]; exact eq_comm
  | ult =>
    have hf : neg = false ↔ a.ev σ < b.ev σ := by
      rw [hf]; show b2n (Nat.blt _ _) ≠ 0 ↔ _; rw [b2n_nz]; exact ⟨of_nblt, nblt_t⟩
    refine orB_ok (P := fun r => r.ok σ) hr (fun hr => oneOf_ok (P := fun r => r.ok σ) hr (fun n hb hr => bndLt_ok h hr ?_) (fun n ha hr => bndGt_ok h hr ?_)) (fun hr => ltN_ok h hr hf)
    · rw [hf, hb, ev_lit]
    · rw [hf, ha, ev_lit]
  | slt =>
    have hf : neg = false ↔ Nat.blt ((a.ev σ + 2 ^ (w - 1)) % 2 ^ w) ((b.ev σ + 2 ^ (w - 1)) % 2 ^ w) = true := by
      rw [hf]; show b2n (Nat.blt _ _) ≠ 0 ↔ _; rw [b2n_nz]; exact Iff.rfl
    change bc (Nat.blt 0 w) _ none = some r at hr
    by_cases hw : 0 < w
    · rw [nblt_t hw] at hr
      refine orB_ok (P := fun r => r.ok σ) hr (fun hr => oneOf_ok (P := fun r => r.ok σ) hr (fun n hb hr => bndLtS_ok h hw hr ?_) (fun n ha hr => bndGtS_ok h hw hr ?_)) (fun hr => ltNS_ok h hw hr hf)
      · rw [hf, hb, ev_lit]
      · rw [hf, ha, ev_lit]
    · rw [nblt_f hw] at hr; cases hr
  | _ => cases hr

/-- What a fact says: the term is not 0. -/
noncomputable def asBnd (l : List Bnd) (t : Tm) : Option Bnd :=
  Tm.rec (fun _ => none) (fun _ _ => none)
    (fun o _ a _ => O1.rec none (fun _ => none) (Tm.rec (fun _ => some ⟨a, 0, 0⟩) (fun _ _ => some ⟨a, 0, 0⟩) (fun _ _ _ _ => some ⟨a, 0, 0⟩) (fun o w a b _ _ => bnd2 true l o w a b) (fun _ _ _ _ _ _ => some ⟨a, 0, 0⟩) (fun _ _ _ _ => some ⟨a, 0, 0⟩) a) o)
    (fun o w a b _ _ => bnd2 false l o w a b) (fun _ _ _ _ _ _ => none) (fun _ _ _ _ => none) t
theorem asBnd_ok {σ} {l : List Bnd} (h : ∀ b ∈ l, b.ok σ) {t : Tm} {r : Bnd} (hr : asBnd l t = some r) (ht : t.ev σ ≠ 0) : r.ok σ := by
  cases t with
  | un o w a =>
    cases o with
    | bnot =>
      have h0 : a.ev σ = 0 := by
        rw [ev_un] at ht
        change bc (Nat.beq (a.ev σ) 0) 1 0 ≠ 0 at ht
        by_cases e : a.ev σ = 0
        · exact e
        · rw [nbeq_f e] at ht; exact absurd rfl ht
      cases a with
      | bin o w a b => exact bnd2_ok h (neg := true) hr ⟨(fun x => by cases x), fun x => absurd h0 x⟩
      | _ => cases hr; exact ⟨Nat.zero_le _, Nat.le_of_eq h0⟩
    | _ => cases hr
  | bin o w a b => exact bnd2_ok h (neg := false) hr ⟨fun _ => ht, fun _ => rfl⟩
  | _ => cases hr

/-! ### Backwards: what a term's bounds say of its parts -/
noncomputable def consB (t : Tm) (lo hi : Nat) (l : List Bnd) : List Bnd := forceN lo fun lo => forceN hi fun hi => ⟨t, lo, hi⟩ :: l
theorem consB_eq (t : Tm) (lo hi : Nat) (l : List Bnd) : consB t lo hi l = ⟨t, lo, hi⟩ :: l := by unfold consB; rw [forceN_eq, forceN_eq]
noncomputable def backB (bl : List Bnd) (t : Tm) : Nat → Nat → List Bnd :=
  Tm.rec (motive := fun _ => Nat → Nat → List Bnd) (fun _ _ _ => []) (fun i w lo hi => consB (.var i w) lo hi [])
    (fun o w a ih lo hi => consB (.un o w a) lo hi (withB (rng bl a) fun r => O1.rec (bc (Nat.blt r.hi (p2 w)) (ih lo hi) []) (fun ws => bc (Nat.blt r.hi (p2 (Nat.sub ws 1))) (ih lo hi) []) [] o))
    (fun o w a b iha ihb lo hi => consB (.bin o w a b) lo hi (O2.rec
      (Option.rec (Option.rec [] (fun c => withB (rng bl b) fun r => bc (Nat.blt (Nat.add c r.hi) (p2 w)) (ihb (Nat.sub lo c) (Nat.sub hi c)) []) (isLit a)) (fun c => withB (rng bl a) fun r => bc (Nat.blt (Nat.add r.hi c) (p2 w)) (iha (Nat.sub lo c) (Nat.sub hi c)) []) (isLit b))
      (Option.rec [] (fun c => withB (rng bl a) fun r => bc (Nat.ble c r.lo) (bc (Nat.blt r.hi (p2 w)) (iha (Nat.add lo c) (Nat.add hi c)) []) []) (isLit b))
      [] [] [] [] [] [] [] [] [] [] [] [] [] [] [] o))
    (fun c a b _ _ _ lo hi => consB (.ite c a b) lo hi []) (fun f w a _ lo hi => consB (.app f w a) lo hi []) t
theorem backB_ok {σ} {bl : List Bnd} (h : ∀ b ∈ bl, b.ok σ) (t : Tm) : ∀ {lo hi : Nat}, lo ≤ t.ev σ ∧ t.ev σ ≤ hi → ∀ b ∈ backB bl t lo hi, b.ok σ := by
  have cons : ∀ {t : Tm} {lo hi : Nat} {l : List Bnd}, lo ≤ t.ev σ ∧ t.ev σ ≤ hi → (∀ b ∈ l, b.ok σ) → ∀ b ∈ consB t lo hi l, b.ok σ := by
    intro t lo hi l ht hl b hb
    rw [consB_eq] at hb
    rcases List.mem_cons.1 hb with rfl | hb
    · exact ht
    · exact hl b hb
  have nil : ∀ b ∈ ([] : List Bnd), b.ok σ := fun b hb => by cases hb
  induction t with
  | lit n => intro lo hi _; exact nil
  | var i w => intro lo hi ht; exact cons ht nil
  | un o w a ih =>
    intro lo hi ht
    refine cons ht ?_
    rw [withB_eq]
    have hr := rng_ok h a
    unfold In at hr
    rw [ev_un] at ht
    cases o with
    | tr =>
      show ∀ b ∈ bc (Nat.blt (rng bl a).hi (p2 w)) (backB bl a lo hi) [], b.ok σ
      by_cases e : (rng bl a).hi < 2 ^ w
      · rw [show Nat.blt (rng bl a).hi (p2 w) = true from nblt_t e]
        refine ih ?_
        change lo ≤ a.ev σ % 2 ^ w ∧ a.ev σ % 2 ^ w ≤ hi at ht
        rw [Nat.mod_eq_of_lt (by omega)] at ht; exact ht
      · rw [show Nat.blt (rng bl a).hi (p2 w) = false from nblt_f e]; exact nil
    | sx ws =>
      show ∀ b ∈ bc (Nat.blt (rng bl a).hi (p2 (Nat.sub ws 1))) (backB bl a lo hi) [], b.ok σ
      by_cases e : (rng bl a).hi < 2 ^ (ws - 1)
      · rw [show Nat.blt (rng bl a).hi (p2 (Nat.sub ws 1)) = true from nblt_t e]
        refine ih ?_
        change lo ≤ bc (Nat.blt (a.ev σ) (2 ^ (ws - 1))) (a.ev σ) _ ∧ bc (Nat.blt (a.ev σ) (2 ^ (ws - 1))) (a.ev σ) _ ≤ hi at ht
        rw [nblt_t (by omega)] at ht; exact ht
      · rw [show Nat.blt (rng bl a).hi (p2 (Nat.sub ws 1)) = false from nblt_f e]; exact nil
    | bnot => exact nil
  | bin o w a b iha ihb =>
    intro lo hi ht
    refine cons ht ?_
    rw [ev_bin] at ht
    cases o with
    | add =>
      change lo ≤ (a.ev σ + b.ev σ) % 2 ^ w ∧ (a.ev σ + b.ev σ) % 2 ^ w ≤ hi at ht
      cases hb : isLit b with
      | some c =>
        show ∀ b ∈ withB (rng bl a) (fun r => bc (Nat.blt (Nat.add r.hi c) (p2 w)) (backB bl a (Nat.sub lo c) (Nat.sub hi c)) []), b.ok σ
        rw [withB_eq]
        have hr := rng_ok h a
        unfold In at hr
        rw [isLit_some hb, ev_lit] at ht
        by_cases e : (rng bl a).hi + c < 2 ^ w
        · rw [show Nat.blt (Nat.add (rng bl a).hi c) (p2 w) = true from nblt_t e]
          refine iha ?_
          rw [Nat.mod_eq_of_lt (by omega)] at ht
          show lo - c ≤ _ ∧ _ ≤ hi - c
          omega
        · rw [show Nat.blt (Nat.add (rng bl a).hi c) (p2 w) = false from nblt_f e]; exact nil
      | none =>
        cases ha : isLit a with
        | some c =>
          show ∀ x ∈ withB (rng bl b) (fun r => bc (Nat.blt (Nat.add c r.hi) (p2 w)) (backB bl b (Nat.sub lo c) (Nat.sub hi c)) []), x.ok σ
          rw [withB_eq]
          have hr := rng_ok h b
          unfold In at hr
          rw [isLit_some ha, ev_lit] at ht
          by_cases e : c + (rng bl b).hi < 2 ^ w
          · rw [show Nat.blt (Nat.add c (rng bl b).hi) (p2 w) = true from nblt_t e]
            refine ihb ?_
            rw [Nat.mod_eq_of_lt (by omega)] at ht
            show lo - c ≤ _ ∧ _ ≤ hi - c
            omega
          · rw [show Nat.blt (Nat.add c (rng bl b).hi) (p2 w) = false from nblt_f e]; exact nil
        | none => exact nil
    | sub =>
      change lo ≤ (a.ev σ + (2 ^ w - b.ev σ % 2 ^ w)) % 2 ^ w ∧ (a.ev σ + (2 ^ w - b.ev σ % 2 ^ w)) % 2 ^ w ≤ hi at ht
      cases hb : isLit b with
      | some c =>
        show ∀ b ∈ withB (rng bl a) (fun r => bc (Nat.ble c r.lo) (bc (Nat.blt r.hi (p2 w)) (backB bl a (Nat.add lo c) (Nat.add hi c)) []) []), b.ok σ
        rw [withB_eq]
        have hr := rng_ok h a
        unfold In at hr
        rw [isLit_some hb, ev_lit] at ht
        by_cases e : c ≤ (rng bl a).lo
        · rw [nble_t e]
          by_cases e2 : (rng bl a).hi < 2 ^ w
          · rw [show Nat.blt (rng bl a).hi (p2 w) = true from nblt_t e2]
            refine iha ?_
            rw [Nat.mod_eq_of_lt (show c < 2 ^ w by omega), show a.ev σ + (2 ^ w - c) = (a.ev σ - c) + 2 ^ w by omega, Nat.add_mod_right, Nat.mod_eq_of_lt (by omega)] at ht
            show lo + c ≤ _ ∧ _ ≤ hi + c
            omega
          · rw [show Nat.blt (rng bl a).hi (p2 w) = false from nblt_f e2]; exact nil
        · rw [nble_f e]; exact nil
      | none => exact nil
    | _ => exact nil
  | ite c a b _ _ _ => intro lo hi ht; exact cons ht nil
  | app f w a ih => intro lo hi ht; exact cons ht nil

end Go.Sy
end
