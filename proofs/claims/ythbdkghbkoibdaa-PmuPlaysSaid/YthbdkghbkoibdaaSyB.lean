/- A symbolic run of the program: bits, what is known on a way, values, answers, objects, frames. -/
import Derived.Test.YthbdkghbkoibdaaSyA
import Derived.Control
import Derived.Below
import Derived.Laws.Cells
import Derived.Laws.CopyRow

section
/- The bits of a term, each a number: 0, 1, 2 where nobody knows, from 4 on the bit of a variable, or, odd, its opposite. -/
namespace Go.Sy

/-- Bit k of variable i. -/
noncomputable def bitLit (i k : Nat) : Nat := Nat.add 4 (Nat.mul 4 (Nat.add (Nat.mul i 64) k))
noncomputable def triN (s : Nat) : Nat := Nat.div (Nat.mul s (Nat.succ s)) 2
noncomputable def pairN (a b : Nat) : Nat := Nat.add (triN (Nat.add a b)) b
/-- Both of two bits. -/
noncomputable def bitAnd (a b : Nat) : Nat := Nat.add 6 (Nat.mul 4 (pairN a b))
theorem triN_succ (s : Nat) : triN (s + 1) = triN s + (s + 1) := by
  show (s + 1) * (s + 1 + 1) / 2 = s * (s + 1) / 2 + (s + 1)
  rw [show (s + 1) * (s + 1 + 1) = s * (s + 1) + (s + 1) * 2 by rw [Nat.mul_comm (s + 1) (s + 1 + 1), show s + 1 + 1 = s + 2 from rfl, Nat.add_mul, Nat.mul_comm 2 (s + 1)]]
  rw [Nat.add_mul_div_right _ _ (by omega)]
theorem triN_ge (s : Nat) : s ≤ triN s := by
  induction s with
  | zero => exact Nat.zero_le _
  | succ s ih => rw [triN_succ]; omega
theorem triN_lt {s t : Nat} (h : s < t) : triN s + s < triN t := by
  induction t with
  | zero => omega
  | succ t ih =>
    rw [triN_succ]
    by_cases e : s = t
    · subst e; omega
    · have := ih (by omega); omega
theorem pairN_inj {a b c d : Nat} (h : pairN a b = pairN c d) : a = c ∧ b = d := by
  have h : triN (a + b) + b = triN (c + d) + d := h
  rcases Nat.lt_trichotomy (a + b) (c + d) with hl | he | hl
  · have := triN_lt hl; omega
  · rw [he] at h; omega
  · have := triN_lt hl; omega
noncomputable def unp (m : Nat) : Nat × Nat := by
  classical exact if h : ∃ p : Nat × Nat, pairN p.1 p.2 = m then Classical.choose h else (0, 0)
theorem unp_pair (a b : Nat) : unp (pairN a b) = (a, b) := by
  unfold unp
  have h : ∃ p : Nat × Nat, pairN p.1 p.2 = pairN a b := ⟨(a, b), rfl⟩
  rw [dif_pos h]
  obtain ⟨h1, h2⟩ := pairN_inj (Classical.choose_spec h)
  exact Prod.ext h1 h2
theorem unp_le (m : Nat) : (unp m).1 ≤ m ∧ (unp m).2 ≤ m := by
  unfold unp
  by_cases h : ∃ p : Nat × Nat, pairN p.1 p.2 = m
  · rw [dif_pos h]
    have hs : triN ((Classical.choose h).1 + (Classical.choose h).2) + (Classical.choose h).2 = m := Classical.choose_spec h
    have := triN_ge ((Classical.choose h).1 + (Classical.choose h).2)
    omega
  · rw [dif_neg h]; exact ⟨Nat.zero_le _, Nat.zero_le _⟩
noncomputable def bden (σ : Nat → Nat) (n : Nat) : Bool :=
  if _h : n < 4 then n == 1 else
  (if (n - 4) / 2 % 2 = 0 then (σ ((n - 4) / 4 / 64)).testBit ((n - 4) / 4 % 64) else bden σ (unp ((n - 4) / 4)).1 && bden σ (unp ((n - 4) / 4)).2) != (n % 2 == 1)
termination_by n
decreasing_by
  · have := (unp_le ((n - 4) / 4)).1; omega
  · have := (unp_le ((n - 4) / 4)).2; omega
def Bok (σ : Nat → Nat) (n : Nat) (b : Bool) : Prop := (n = 0 → b = false) ∧ (n = 1 → b = true) ∧ n ≠ 3 ∧ (4 ≤ n → b = bden σ n)

theorem Bok.zero {σ} : Bok σ 0 false := ⟨fun _ => rfl, (fun h => by cases h), by decide, fun h => by omega⟩
theorem Bok.one {σ} : Bok σ 1 true := ⟨(fun h => by cases h), fun _ => rfl, by decide, fun h => by omega⟩
theorem Bok.top {σ b} : Bok σ 2 b := ⟨(fun h => by cases h), (fun h => by cases h), by decide, fun h => by omega⟩
theorem Bok.of0 {σ b} (h : Bok σ 0 b) : b = false := h.1 rfl
theorem Bok.of1 {σ b} (h : Bok σ 1 b) : b = true := h.2.1 rfl
theorem Bok.lit {σ} {i k : Nat} (hk : k < 64) : Bok σ (bitLit i k) ((σ i).testBit k) := by
  unfold bitLit
  show Bok σ (4 + 4 * (i * 64 + k)) _
  refine ⟨fun h => by omega, fun h => by omega, by omega, fun _ => ?_⟩
  rw [bden, dif_neg (by omega), if_pos (by omega)]
  rw [show (4 + 4 * (i * 64 + k) - 4) / 4 / 64 = i by omega, show (4 + 4 * (i * 64 + k) - 4) / 4 % 64 = k by omega, show (4 + 4 * (i * 64 + k)) % 2 = 0 by omega]
  simp
theorem bden_eq {σ : Nat → Nat} {n : Nat} (h : 4 ≤ n) : bden σ n = ((if (n - 4) / 2 % 2 = 0 then (σ ((n - 4) / 4 / 64)).testBit ((n - 4) / 4 % 64) else bden σ (unp ((n - 4) / 4)).1 && bden σ (unp ((n - 4) / 4)).2) != (n % 2 == 1)) := by
  rw [bden, dif_neg (by omega)]
theorem bden_and {σ} (a b : Nat) : bden σ (bitAnd a b) = (bden σ a && bden σ b) := by
  show bden σ (6 + 4 * pairN a b) = _
  rw [bden, dif_neg (by omega), if_neg (by omega), show (6 + 4 * pairN a b - 4) / 4 = pairN a b by omega, unp_pair, show (6 + 4 * pairN a b) % 2 = 0 by omega]
  simp
/-- Two that are the same number, and known, are the same bit. -/
theorem Bok.same {σ n a b} (h : n ≠ 2) (ha : Bok σ n a) (hb : Bok σ n b) : a = b := by
  by_cases h0 : n = 0
  · rw [ha.1 h0, hb.1 h0]
  · by_cases h1 : n = 1
    · rw [ha.2.1 h1, hb.2.1 h1]
    · have h3 := ha.2.2.1
      rw [ha.2.2.2 (by omega), hb.2.2.2 (by omega)]

noncomputable def bNeg (a : Nat) : Nat := bc (Nat.beq a 2) 2 (Nat.xor a 1)
theorem xor1 (a : Nat) : a ^^^ 1 = if a % 2 = 0 then a + 1 else a - 1 := by
  split
  · rename_i h
    apply Nat.eq_of_testBit_eq
    intro i
    rw [Nat.testBit_xor]
    obtain ⟨m, rfl⟩ : ∃ m, a = 2 * m := ⟨a / 2, by omega⟩
    cases i with
    | zero => simp
    | succ i =>
      rw [Nat.testBit_succ, Nat.testBit_succ, Nat.testBit_succ]
      rw [show (2 * m + 1) / 2 = m by omega, show 2 * m / 2 = m by omega]; simp
  · rename_i h
    apply Nat.eq_of_testBit_eq
    intro i
    rw [Nat.testBit_xor]
    obtain ⟨m, rfl⟩ : ∃ m, a = 2 * m + 1 := ⟨a / 2, by omega⟩
    cases i with
    | zero => simp
    | succ i =>
      rw [Nat.testBit_succ, Nat.testBit_succ, Nat.testBit_succ]
      rw [show (2 * m + 1) / 2 = m by omega, show (2 * m + 1 - 1) / 2 = m by omega]; simp
theorem bden_xor1 {σ} {n : Nat} (h : 4 ≤ n) : bden σ (n ^^^ 1) = !bden σ n := by
  have hx := xor1 n
  by_cases h2 : n % 2 = 0
  · rw [if_pos h2] at hx
    rw [hx, bden_eq (n := n + 1) (by omega), bden_eq (n := n) h, show (n + 1 - 4) / 2 = (n - 4) / 2 by omega, show (n + 1 - 4) / 4 = (n - 4) / 4 by omega, show (n + 1) % 2 = 1 by omega, h2]
    generalize (if (n - 4) / 2 % 2 = 0 then (σ ((n - 4) / 4 / 64)).testBit ((n - 4) / 4 % 64) else bden σ (unp ((n - 4) / 4)).1 && bden σ (unp ((n - 4) / 4)).2) = x
    cases x <;> rfl
  · rw [if_neg h2] at hx
    rw [hx, bden_eq (n := n - 1) (by omega), bden_eq (n := n) h, show (n - 1 - 4) / 2 = (n - 4) / 2 by omega, show (n - 1 - 4) / 4 = (n - 4) / 4 by omega, show (n - 1) % 2 = 0 by omega, show n % 2 = 1 by omega]
    generalize (if (n - 4) / 2 % 2 = 0 then (σ ((n - 4) / 4 / 64)).testBit ((n - 4) / 4 % 64) else bden σ (unp ((n - 4) / 4)).1 && bden σ (unp ((n - 4) / 4)).2) = x
    cases x <;> rfl
theorem bNeg_ok {σ n b} (h : Bok σ n b) : Bok σ (bNeg n) (!b) := by
  unfold bNeg
  by_cases h2 : n = 2
  · rw [nbeq_t h2]; exact Bok.top
  · rw [nbeq_f h2]
    show Bok σ (n ^^^ 1) (!b)
    by_cases h0 : n = 0
    · subst h0; rw [h.of0]; exact Bok.one
    · by_cases h1 : n = 1
      · subst h1; rw [h.of1]; exact Bok.zero
      · have h3 := h.2.2.1
        have h4 : 4 ≤ n := by omega
        have hx := xor1 n
        refine ⟨fun e => ?_, fun e => ?_, ?_, fun _ => ?_⟩
        · rw [e] at hx; split at hx <;> omega
        · rw [e] at hx; split at hx <;> omega
        · intro e; rw [e] at hx; split at hx <;> omega
        · rw [bden_xor1 h4, h.2.2.2 h4]

/-- Two numbers known to be opposite bits. -/
noncomputable def bOpp (a b : Nat) : Bool := bc (Nat.beq a 2) false (bc (Nat.beq b 2) false (Nat.beq (Nat.xor a 1) b))
theorem bOpp_ok {σ m n a b} (ha : Bok σ m a) (hb : Bok σ n b) (h : bOpp m n = true) : b = !a := by
  unfold bOpp at h
  by_cases h1 : m = 2
  · rw [nbeq_t h1] at h; cases h
  · rw [nbeq_f h1] at h
    by_cases h2 : n = 2
    · rw [nbeq_t h2] at h; cases h
    · rw [nbeq_f h2] at h
      have h3 := of_nbeq h
      have := bNeg_ok ha
      unfold bNeg at this
      rw [nbeq_f h1] at this
      change Bok σ (Nat.xor m 1) _ at this
      rw [h3] at this
      exact Bok.same h2 hb this
/-- Both, if they are small enough to be named. -/
noncomputable def bCmp (a b : Nat) : Nat := bc (band (band (Nat.ble 4 a) (Nat.ble 4 b)) (band (Nat.ble a 1267650600228229401496703205376) (Nat.ble b 1267650600228229401496703205376))) (bc (Nat.ble a b) (bitAnd a b) (bitAnd b a)) 2
theorem bCmp_ok {σ m n a b} (ha : Bok σ m a) (hb : Bok σ n b) : Bok σ (bCmp m n) (a && b) := by
  unfold bCmp
  cases hc : band (band (Nat.ble 4 m) (Nat.ble 4 n)) (band (Nat.ble m 1267650600228229401496703205376) (Nat.ble n 1267650600228229401496703205376))
  · exact Bok.top
  · obtain ⟨h1, _⟩ := band_eq hc
    obtain ⟨h1, h2⟩ := band_eq h1
    have e1 := ha.2.2.2 (of_nble h1)
    have e2 := hb.2.2.2 (of_nble h2)
    have key : ∀ x y, Bok σ (bitAnd x y) (bden σ x && bden σ y) := fun x y => by
      have hd := bden_and (σ := σ) x y
      have hsh : bitAnd x y = 6 + 4 * pairN x y := rfl
      exact ⟨fun h => by omega, fun h => by omega, by omega, fun _ => hd.symm⟩
    show Bok σ (bc (Nat.ble m n) (bitAnd m n) (bitAnd n m)) (a && b)
    rw [e1, e2]
    cases Nat.ble m n
    · rw [Bool.and_comm]; exact key n m
    · exact key m n
noncomputable def bAnd0 (a b : Nat) : Nat := bc (Nat.beq a 0) 0 (bc (Nat.beq b 0) 0 (bc (Nat.beq a 1) b (bc (Nat.beq b 1) a (bc (Nat.beq a b) a (bc (bOpp a b) 0 (bCmp a b))))))
theorem bAnd0_ok {σ m n a b} (ha : Bok σ m a) (hb : Bok σ n b) : Bok σ (bAnd0 m n) (a && b) := by
  unfold bAnd0
  by_cases h1 : m = 0
  · rw [nbeq_t h1]; subst h1; rw [ha.of0]; exact Bok.zero
  · rw [nbeq_f h1]
    by_cases h2 : n = 0
    · rw [nbeq_t h2]; subst h2; rw [hb.of0, Bool.and_false]; exact Bok.zero
    · rw [nbeq_f h2]
      by_cases h3 : m = 1
      · rw [nbeq_t h3]; subst h3; rw [ha.of1, Bool.true_and]; exact hb
      · rw [nbeq_f h3]
        by_cases h4 : n = 1
        · rw [nbeq_t h4]; subst h4; rw [hb.of1, Bool.and_true]; exact ha
        · rw [nbeq_f h4]
          by_cases h5 : m = n
          · rw [nbeq_t h5]; subst h5
            by_cases h6 : m = 2
            · subst h6; exact Bok.top
            · rw [Bok.same h6 ha hb, Bool.and_self]; exact hb
          · rw [nbeq_f h5]
            cases h6 : bOpp m n
            · exact bCmp_ok ha hb
            · rw [bOpp_ok ha hb h6]; cases a <;> exact Bok.zero
/-- The root, rounded down, or so. -/
noncomputable def rootN (n : Nat) : Nat := Nat.rec (motive := fun _ => Nat → Nat) (fun x => x) (fun _ ih x => forceN (Nat.div (Nat.add x (Nat.div n x)) 2) ih) 9 (Nat.pow 2 (Nat.succ (Nat.div (Nat.log2 n) 2)))
/-- What may be the two that a number is of. -/
noncomputable def unB (n : Nat) (k : Nat → Nat → Nat) : Nat :=
  forceN (Nat.div (Nat.sub n 6) 4) fun m => forceN (Nat.div (Nat.sub (rootN (Nat.succ (Nat.mul 8 m))) 1) 2) fun s => forceN (Nat.sub m (triN s)) fun q => forceN (Nat.sub s q) fun p => k p q
theorem unB_eq (n : Nat) (k : Nat → Nat → Nat) : ∃ p q, unB n k = k p q := by
  unfold unB
  rw [forceN_eq, forceN_eq, forceN_eq, forceN_eq]
  exact ⟨_, _, rfl⟩
noncomputable def bor (a b : Bool) : Bool := bc a true b
theorem bor_eq {a b : Bool} (h : bor a b = true) : a = true ∨ b = true := by cases a <;> cases b <;> first | (cases h; done) | exact .inl rfl | exact .inr rfl
noncomputable def absorb (a b els : Nat) : Nat := unB (Nat.sub b (Nat.mod b 2)) fun p q =>
  bc (band (Nat.beq (bitAnd p q) (Nat.sub b (Nat.mod b 2))) (band (Nat.ble 4 p) (Nat.ble 4 q)))
    (bc (Nat.beq (Nat.mod b 2) 0) (bc (bor (Nat.beq a p) (Nat.beq a q)) b (bc (bor (bOpp a p) (bOpp a q)) 0 els))
      (bc (bor (bOpp a p) (bOpp a q)) a (bc (Nat.beq a p) (bAnd0 a (bNeg q)) (bc (Nat.beq a q) (bAnd0 a (bNeg p)) els)))) els
theorem Bok.self {σ n} (h : 4 ≤ n) : Bok σ n (bden σ n) := ⟨fun e => by omega, fun e => by omega, by omega, fun _ => rfl⟩
theorem absorb_ok {σ a b els x y} (ha : Bok σ a x) (hb : Bok σ b y) (he : Bok σ els (x && y)) : Bok σ (absorb a b els) (x && y) := by
  unfold absorb
  obtain ⟨p, q, e⟩ := unB_eq (Nat.sub b (Nat.mod b 2)) fun p q =>
    bc (band (Nat.beq (bitAnd p q) (Nat.sub b (Nat.mod b 2))) (band (Nat.ble 4 p) (Nat.ble 4 q)))
    (bc (Nat.beq (Nat.mod b 2) 0) (bc (bor (Nat.beq a p) (Nat.beq a q)) b (bc (bor (bOpp a p) (bOpp a q)) 0 els))
      (bc (bor (bOpp a p) (bOpp a q)) a (bc (Nat.beq a p) (bAnd0 a (bNeg q)) (bc (Nat.beq a q) (bAnd0 a (bNeg p)) els)))) els
  rw [e]
  cases hc : band (Nat.beq (bitAnd p q) (Nat.sub b (Nat.mod b 2))) (band (Nat.ble 4 p) (Nat.ble 4 q))
  · exact he
  · obtain ⟨h1, h2⟩ := band_eq hc
    obtain ⟨h2, h3⟩ := band_eq h2
    have h1 : bitAnd p q = b - b % 2 := of_nbeq h1
    have h2 := of_nble h2
    have h3 := of_nble h3
    have hp := Bok.self (σ := σ) h2
    have hq := Bok.self (σ := σ) h3
    have hbase := bden_and (σ := σ) p q
    have hge : 6 ≤ bitAnd p q := by show 6 ≤ 6 + 4 * pairN p q; omega
    have hb4 : 4 ≤ b := by omega
    have hy := hb.2.2.2 hb4
    rw [bc_true]
    have ne2 : ∀ {n m : Nat}, 4 ≤ m → n = m → n ≠ 2 := fun h e => by omega
    cases hm : Nat.beq (Nat.mod b 2) 0
    · -- not both
      rw [bc_false]
      have hm1 : b % 2 = 1 := by
        have : b % 2 ≠ 0 := fun e => by rw [nbeq_t (show Nat.mod b 2 = 0 from e)] at hm; cases hm
        omega
      have hyv : y = !(bden σ p && bden σ q) := by
        rw [hy, ← hbase, h1]
        have hx := bden_xor1 (σ := σ) (n := b) hb4
        rw [xor1, if_neg (by omega)] at hx
        rw [hm1, hx]; simp
      cases ho : bor (bOpp a p) (bOpp a q)
      · rw [bc_false]
        cases hap : Nat.beq a p
        · rw [bc_false]
          cases haq : Nat.beq a q
          · exact he
          · rw [bc_true]
            have e1 := of_nbeq haq
            have hx : x = bden σ q := Bok.same (ne2 h3 e1) ha (e1 ▸ hq)
            have := bAnd0_ok ha (bNeg_ok hp)
            rw [hyv, hx] at *
            have e2 : (bden σ q && !(bden σ p && bden σ q)) = (bden σ q && !bden σ p) := by cases bden σ q <;> cases bden σ p <;> rfl
            rw [e2]; exact this
        · rw [bc_true]
          have e1 := of_nbeq hap
          have hx : x = bden σ p := Bok.same (ne2 h2 e1) ha (e1 ▸ hp)
          have := bAnd0_ok ha (bNeg_ok hq)
          rw [hyv, hx] at *
          have e2 : (bden σ p && !(bden σ p && bden σ q)) = (bden σ p && !bden σ q) := by cases bden σ q <;> cases bden σ p <;> rfl
          rw [e2]; exact this
      · rw [bc_true]
        rcases bor_eq ho with h | h
        · have := bOpp_ok ha hp h
          rw [hyv, this]
          have e2 : (x && !(!x && bden σ q)) = x := by cases x <;> rfl
          rw [e2]; exact ha
        · have := bOpp_ok ha hq h
          rw [hyv, this]
          have e2 : (x && !(bden σ p && !x)) = x := by cases x <;> cases bden σ p <;> rfl
          rw [e2]; exact ha
    · rw [bc_true]
      have hm0 : b % 2 = 0 := of_nbeq hm
      have hyv : y = (bden σ p && bden σ q) := by rw [hy, ← hbase, h1, hm0]; rfl
      cases hs : bor (Nat.beq a p) (Nat.beq a q)
      · rw [bc_false]
        cases ho : bor (bOpp a p) (bOpp a q)
        · exact he
        · rw [bc_true]
          rcases bor_eq ho with h | h
          · have := bOpp_ok ha hp h
            rw [hyv, this]
            have e2 : (x && (!x && bden σ q)) = false := by cases x <;> rfl
            rw [e2]; exact Bok.zero
          · have := bOpp_ok ha hq h
            rw [hyv, this]
            have e2 : (x && (bden σ p && !x)) = false := by cases x <;> cases bden σ p <;> rfl
            rw [e2]; exact Bok.zero
      · rw [bc_true]
        rcases bor_eq hs with h | h
        · have e1 := of_nbeq h
          have hx : x = bden σ p := Bok.same (ne2 h2 e1) ha (e1 ▸ hp)
          have e2 : (x && y) = y := by rw [hyv, hx]; cases bden σ p <;> rfl
          rw [e2]; exact hb
        · have e1 := of_nbeq h
          have hx : x = bden σ q := Bok.same (ne2 h3 e1) ha (e1 ▸ hq)
          have e2 : (x && y) = y := by rw [hyv, hx]; cases bden σ p <;> cases bden σ q <;> rfl
          rw [e2]; exact hb
/-- Both; also where one is both of two, or not both, of which the other is one. -/
noncomputable def bAnd (a b : Nat) : Nat := forceN (bAnd0 a b) fun r => bc (bor (bor (Nat.ble r 3) (bor (Nat.ble a 3) (Nat.ble b 3))) (bor (Nat.beq r a) (Nat.beq r b))) r (forceN (absorb b a r) fun r => absorb a b r)
theorem bAnd_ok {σ m n a b} (ha : Bok σ m a) (hb : Bok σ n b) : Bok σ (bAnd m n) (a && b) := by
  have h0 := bAnd0_ok ha hb
  unfold bAnd
  rw [forceN_eq]
  cases bor (bor (Nat.ble (bAnd0 m n) 3) (bor (Nat.ble m 3) (Nat.ble n 3))) (bor (Nat.beq (bAnd0 m n) m) (Nat.beq (bAnd0 m n) n))
  · rw [bc_false, forceN_eq]
    exact absorb_ok ha hb (by
      have := absorb_ok hb ha (els := bAnd0 m n) (by rw [Bool.and_comm]; exact h0)
      rwa [Bool.and_comm] at this)
  · exact h0
noncomputable def bOr (a b : Nat) : Nat := bc (Nat.beq a 1) 1 (bc (Nat.beq b 1) 1 (bc (Nat.beq a 0) b (bc (Nat.beq b 0) a (bc (Nat.beq a b) a (bc (bOpp a b) 1 (bNeg (bAnd (bNeg a) (bNeg b))))))))
theorem bOr_ok {σ m n a b} (ha : Bok σ m a) (hb : Bok σ n b) : Bok σ (bOr m n) (a || b) := by
  unfold bOr
  by_cases h1 : m = 1
  · rw [nbeq_t h1]; subst h1; rw [ha.of1]; exact Bok.one
  · rw [nbeq_f h1]
    by_cases h2 : n = 1
    · rw [nbeq_t h2]; subst h2; rw [hb.of1, Bool.or_true]; exact Bok.one
    · rw [nbeq_f h2]
      by_cases h3 : m = 0
      · rw [nbeq_t h3]; subst h3; rw [ha.of0, Bool.false_or]; exact hb
      · rw [nbeq_f h3]
        by_cases h4 : n = 0
        · rw [nbeq_t h4]; subst h4; rw [hb.of0, Bool.or_false]; exact ha
        · rw [nbeq_f h4]
          by_cases h5 : m = n
          · rw [nbeq_t h5]; subst h5
            by_cases h6 : m = 2
            · subst h6; exact Bok.top
            · rw [Bok.same h6 ha hb, Bool.or_self]; exact hb
          · rw [nbeq_f h5]
            cases h6 : bOpp m n
            · have := bNeg_ok (bAnd_ok (bNeg_ok ha) (bNeg_ok hb))
              rw [Bool.not_and, Bool.not_not, Bool.not_not] at this
              exact this
            · rw [bOpp_ok ha hb h6]; cases a <;> exact Bok.one
noncomputable def bXor (a b : Nat) : Nat := bc (Nat.beq a 0) b (bc (Nat.beq b 0) a (bc (Nat.beq a 1) (bNeg b) (bc (Nat.beq b 1) (bNeg a) (bc (Nat.beq a b) (bc (Nat.beq a 2) 2 0) (bc (bOpp a b) 1 2)))))
theorem bXor_ok {σ m n a b} (ha : Bok σ m a) (hb : Bok σ n b) : Bok σ (bXor m n) (a ^^ b) := by
  unfold bXor
  by_cases h1 : m = 0
  · rw [nbeq_t h1]; subst h1; rw [ha.of0, Bool.false_xor]; exact hb
  · rw [nbeq_f h1]
    by_cases h2 : n = 0
    · rw [nbeq_t h2]; subst h2; rw [hb.of0, Bool.xor_false]; exact ha
    · rw [nbeq_f h2]
      by_cases h3 : m = 1
      · rw [nbeq_t h3]; subst h3; rw [ha.of1, Bool.true_xor]; exact bNeg_ok hb
      · rw [nbeq_f h3]
        by_cases h4 : n = 1
        · rw [nbeq_t h4]; subst h4; rw [hb.of1, Bool.xor_true]; exact bNeg_ok ha
        · rw [nbeq_f h4]
          by_cases h5 : m = n
          · rw [nbeq_t h5]; subst h5
            by_cases h6 : m = 2
            · rw [nbeq_t h6]; exact Bok.top
            · rw [nbeq_f h6, Bok.same h6 ha hb, Bool.xor_self]; exact Bok.zero
          · rw [nbeq_f h5]
            cases h6 : bOpp m n
            · exact Bok.top
            · rw [bOpp_ok ha hb h6]; cases a <;> exact Bok.one
/-- The carry. -/
noncomputable def bMaj (a b c : Nat) : Nat := bOr (bAnd a b) (bAnd c (bOr a b))
theorem bMaj_ok {σ m n p a b c} (ha : Bok σ m a) (hb : Bok σ n b) (hc : Bok σ p c) : Bok σ (bMaj m n p) ((a && b) || (c && (a || b))) := bOr_ok (bAnd_ok ha hb) (bAnd_ok hc (bOr_ok ha hb))
noncomputable def bMrg (a b : Nat) : Nat := bc (Nat.beq a b) a 2

/-! ### Lists of bits, the lowest first; what is not there is 0 -/
noncomputable def getB (l : List Nat) (k : Nat) : Nat := l.getD k 0
def Lok (σ : Nat → Nat) (l : List Nat) (x : Nat) : Prop := ∀ k, Bok σ (l.getD k 0) (x.testBit k)
theorem Lok.nil {σ} : Lok σ [] 0 := fun k => by simp; exact Bok.zero
theorem Lok.head {σ n l x} (h : Lok σ (n :: l) x) : Bok σ n (x.testBit 0) := h 0
theorem Lok.tail {σ n l x} (h : Lok σ (n :: l) x) : Lok σ l (x / 2) := fun k => by
  have := h (k + 1); rw [Nat.testBit_succ] at this; exact this
theorem Lok.cons {σ n l x} (h : Bok σ n (x.testBit 0)) (t : Lok σ l (x / 2)) : Lok σ (n :: l) x := fun k => by
  cases k with
  | zero => exact h
  | succ k => rw [Nat.testBit_succ]; exact t k
theorem Lok.nil0 {σ x} (h : Lok σ [] x) : x = 0 := Nat.eq_of_testBit_eq fun i => by
  rw [(h i : Bok σ 0 _).of0, Nat.zero_testBit]
theorem Lok.ext {σ l x y} (h : Lok σ l x) (e : x = y) : Lok σ l y := e ▸ h

noncomputable def mapB (f : Nat → Nat) (l : List Nat) : List Nat := List.rec [] (fun a _ ih => forceN (f a) fun x => x :: ih) l
noncomputable def zipB (f : Nat → Nat → Nat) (l : List Nat) : List Nat → List Nat :=
  List.rec (motive := fun _ => List Nat → List Nat) (fun m => mapB (f 0) m) (fun a _ ih m => List.rec (forceN (f a 0) fun x => x :: ih []) (fun b m' _ => forceN (f a b) fun x => x :: ih m') m) l
theorem mapB_get {f : Nat → Nat} (hf : f 0 = 0) : ∀ (l : List Nat) (k : Nat), (mapB f l).getD k 0 = f (l.getD k 0)
  | [], k => by show ([] : List Nat).getD k 0 = _; simp [hf]
  | a :: l, k => by
    show (forceN (f a) fun x => x :: mapB f l).getD k 0 = _
    rw [forceN_eq]
    cases k with
    | zero => rfl
    | succ k => exact mapB_get hf l k
theorem zipB_get {f : Nat → Nat → Nat} (hf : f 0 0 = 0) : ∀ (l m : List Nat) (k : Nat), (zipB f l m).getD k 0 = f (l.getD k 0) (m.getD k 0)
  | [], m, k => mapB_get (f := f 0) hf m k
  | a :: l, [], k => by
    show (forceN (f a 0) fun x => x :: zipB f l []).getD k 0 = _
    rw [forceN_eq]
    cases k with
    | zero => rfl
    | succ k => exact zipB_get hf l [] k
  | a :: l, b :: m, k => by
    show (forceN (f a b) fun x => x :: zipB f l m).getD k 0 = _
    rw [forceN_eq]
    cases k with
    | zero => rfl
    | succ k => exact zipB_get hf l m k
theorem and_ok {σ l m x y} (hx : Lok σ l x) (hy : Lok σ m y) : Lok σ (zipB bAnd l m) (x &&& y) := fun k => by
  rw [zipB_get (by rfl), Nat.testBit_and]; exact bAnd_ok (hx k) (hy k)
theorem or_ok {σ l m x y} (hx : Lok σ l x) (hy : Lok σ m y) : Lok σ (zipB bOr l m) (x ||| y) := fun k => by
  rw [zipB_get (by rfl), Nat.testBit_or]; exact bOr_ok (hx k) (hy k)
theorem xor_ok {σ l m x y} (hx : Lok σ l x) (hy : Lok σ m y) : Lok σ (zipB bXor l m) (x ^^^ y) := fun k => by
  rw [zipB_get (by rfl), Nat.testBit_xor]; exact bXor_ok (hx k) (hy k)
theorem mrg_ok {σ l m x} (h : Lok σ l x ∨ Lok σ m x) : Lok σ (zipB bMrg l m) x := fun k => by
  rw [zipB_get (by rfl)]
  unfold bMrg
  by_cases e : l.getD k 0 = m.getD k 0
  · rw [nbeq_t e]
    rcases h with h | h
    · exact h k
    · have := h k; rw [← e] at this; exact this
  · rw [nbeq_f e]; exact Bok.top

/-! ### Shifts -/
noncomputable def takeB (n : Nat) (l : List Nat) : List Nat := Nat.rec (motive := fun _ => List Nat → List Nat) (fun _ => []) (fun _ ih l => List.rec [] (fun a l' _ => a :: ih l') l) n l
noncomputable def dropB (n : Nat) (l : List Nat) : List Nat := Nat.rec (motive := fun _ => List Nat → List Nat) (fun l => l) (fun _ ih l => List.rec [] (fun _ l' _ => ih l') l) n l
noncomputable def zerosB (n : Nat) (l : List Nat) : List Nat := Nat.rec l (fun _ ih => 0 :: ih) n
noncomputable def topsB (n : Nat) : List Nat := Nat.rec [] (fun _ ih => 2 :: ih) n
theorem takeB_ok {σ} : ∀ {n : Nat} {l : List Nat} {x : Nat}, Lok σ l x → Lok σ (takeB n l) (x % 2 ^ n)
  | 0, l, x, _ => by rw [Nat.pow_zero, Nat.mod_one]; exact Lok.nil
  | n + 1, [], x, h => by rw [h.nil0, Nat.zero_mod]; exact Lok.nil
  | n + 1, a :: l, x, h => by
    show Lok σ (a :: takeB n l) _
    refine Lok.cons ?_ ?_
    · rw [Nat.testBit_mod_two_pow]
      have := h.head
      simp only [Nat.zero_lt_succ, decide_true, Bool.true_and]; exact this
    · have := takeB_ok (n := n) h.tail
      refine this.ext ?_
      rw [Nat.pow_succ, Nat.mul_comm, Nat.mod_mul_right_div_self]
theorem dropB_ok {σ} : ∀ {n : Nat} {l : List Nat} {x : Nat}, Lok σ l x → Lok σ (dropB n l) (x / 2 ^ n)
  | 0, l, x, h => by rw [Nat.pow_zero, Nat.div_one]; exact h
  | n + 1, [], x, h => by rw [h.nil0, Nat.zero_div]; exact Lok.nil
  | n + 1, a :: l, x, h => by
    show Lok σ (dropB n l) _
    refine (dropB_ok (n := n) h.tail).ext ?_
    rw [Nat.div_div_eq_div_mul, Nat.pow_succ, Nat.mul_comm]
theorem zerosB_ok {σ} : ∀ {n : Nat} {l : List Nat} {x : Nat}, Lok σ l x → Lok σ (zerosB n l) (x * 2 ^ n)
  | 0, l, x, h => by rw [Nat.pow_zero, Nat.mul_one]; exact h
  | n + 1, l, x, h => by
    show Lok σ (0 :: zerosB n l) _
    have e : x * 2 ^ (n + 1) = 2 * (x * 2 ^ n) := by rw [Nat.pow_succ, ← Nat.mul_assoc]; omega
    refine Lok.cons ?_ ?_
    · rw [e]
      have : (2 * (x * 2 ^ n)).testBit 0 = false := by simp [Nat.testBit_zero]
      rw [this]; exact Bok.zero
    · refine (zerosB_ok (n := n) h).ext ?_
      rw [e]; omega
theorem topsB_get (n k : Nat) : (topsB n).getD k 0 = if k < n then 2 else 0 := by
  induction n generalizing k with
  | zero => rfl
  | succ n ih =>
    show (2 :: topsB n).getD k 0 = _
    cases k with
    | zero => rfl
    | succ k =>
      rw [List.getD_cons_succ, ih]
      by_cases e : k < n
      · rw [if_pos e, if_pos (by omega)]
      · rw [if_neg e, if_neg (by omega)]
theorem tops_ok {σ} {n x : Nat} (h : x < 2 ^ n) : Lok σ (topsB n) x := fun k => by
  rw [topsB_get]
  split
  · exact Bok.top
  · rename_i hk
    rw [Nat.testBit_lt_two_pow (Nat.lt_of_lt_of_le h (pow_le (by omega)))]; exact Bok.zero
/-- The bits of a number, where it has at most so many. -/
noncomputable def litB (n : Nat) (fuel : Nat) : List Nat := Nat.rec (motive := fun _ => Nat → List Nat) (fun _ => []) (fun _ ih n => bc (Nat.beq n 0) [] (forceN (Nat.mod n 2) fun b => b :: ih (Nat.div n 2))) fuel n
theorem litB_ok {σ} : ∀ {fuel n : Nat}, n < 2 ^ fuel → Lok σ (litB n fuel) n
  | 0, n, h => by rw [show n = 0 by simpa using h]; exact Lok.nil
  | fuel + 1, n, h => by
    show Lok σ (bc (Nat.beq n 0) [] (forceN (Nat.mod n 2) fun b => b :: litB (Nat.div n 2) fuel)) n
    by_cases e : n = 0
    · rw [nbeq_t e]; subst e; exact Lok.nil
    · rw [nbeq_f e]
      show Lok σ (forceN (Nat.mod n 2) fun b => b :: litB (Nat.div n 2) fuel) n
      rw [forceN_eq]
      refine Lok.cons ?_ (litB_ok (fuel := fuel) (n := n / 2) ?_)
      · rw [Nat.testBit_zero]
        have : n % 2 = 0 ∨ n % 2 = 1 := by omega
        rcases this with h | h
        · rw [show Nat.mod n 2 = 0 from h, h]; exact Bok.zero
        · rw [show Nat.mod n 2 = 1 from h, h]; exact Bok.one
      · rw [Nat.pow_succ] at h; omega
/-- Bits of a variable, as far as they are known. -/
structure KV where
  i : Nat
  ones : Nat
  zeros : Nat
def KV.ok (σ : Nat → Nat) (v : KV) : Prop := ∀ k, (v.ones.testBit k = true → (σ v.i).testBit k = true) ∧ (v.zeros.testBit k = true → (σ v.i).testBit k = false)
noncomputable def tb (n k : Nat) : Bool := Nat.beq (Nat.mod (Nat.div n (p2 k)) 2) 1
theorem tb_eq (n k : Nat) : tb n k = n.testBit k := by
  show Nat.beq (n / 2 ^ k % 2) 1 = _
  rw [Nat.testBit_eq_decide_div_mod_eq]
  by_cases h : n / 2 ^ k % 2 = 1
  · rw [nbeq_t h, h]; rfl
  · rw [nbeq_f h]; exact (decide_eq_false h).symm
noncomputable def kvAt (l : List KV) (i k : Nat) : Nat := List.rec (bitLit i k) (fun v _ ih => bc (Nat.beq v.i i) (bc (tb v.ones k) 1 (bc (tb v.zeros k) 0 ih)) ih) l
theorem kvAt_ok {σ} {l : List KV} (h : ∀ v ∈ l, v.ok σ) {i k : Nat} (hk : k < 64) : Bok σ (kvAt l i k) ((σ i).testBit k) := by
  induction l with
  | nil => exact Bok.lit hk
  | cons v l ih =>
    have ih := ih fun x hx => h x (List.mem_cons_of_mem _ hx)
    have hv := h v List.mem_cons_self
    show Bok σ (bc (Nat.beq v.i i) (bc (tb v.ones k) 1 (bc (tb v.zeros k) 0 (kvAt l i k))) (kvAt l i k)) _
    cases h1 : Nat.beq v.i i
    · exact ih
    · have e := of_nbeq h1
      unfold KV.ok at hv
      rw [e] at hv
      rw [tb_eq, tb_eq]
      cases h2 : v.ones.testBit k
      · cases h3 : v.zeros.testBit k
        · exact ih
        · rw [(hv k).2 h3]; exact Bok.zero
      · rw [(hv k).1 h2]; exact Bok.one
noncomputable def varB (l : List KV) (i : Nat) (k n : Nat) : List Nat := Nat.rec (motive := fun _ => Nat → List Nat) (fun _ => []) (fun _ ih k => forceN (kvAt l i k) fun b => b :: ih (Nat.succ k)) n k
theorem varB_get {l : List KV} {i : Nat} : ∀ {n k j : Nat}, (varB l i k n).getD j 0 = if j < n then kvAt l i (k + j) else 0
  | 0, k, j => rfl
  | n + 1, k, j => by
    show (forceN (kvAt l i k) fun b => b :: varB l i (Nat.succ k) n).getD j 0 = _
    rw [forceN_eq]
    cases j with
    | zero => rfl
    | succ j =>
      rw [List.getD_cons_succ, varB_get (n := n)]
      by_cases e : j < n
      · rw [if_pos e, if_pos (by omega), show k.succ + j = k + (j + 1) by omega]
      · rw [if_neg e, if_neg (by omega)]
theorem varB_ok {σ} {l : List KV} (h : ∀ v ∈ l, v.ok σ) {i w : Nat} (hw : w ≤ 64) : Lok σ (varB l i 0 w) (σ i % 2 ^ w) := fun k => by
  rw [varB_get, Nat.testBit_mod_two_pow]
  by_cases e : k < w
  · rw [if_pos e, Nat.zero_add, decide_eq_true e, Bool.true_and]; exact kvAt_ok h (by omega)
  · rw [if_neg e, decide_eq_false e, Bool.false_and]; exact Bok.zero

/-! ### Sums -/
noncomputable def getH (l : List Nat) : Nat := List.rec 0 (fun a _ _ => a) l
noncomputable def addB (n : Nat) : List Nat → List Nat → Nat → List Nat :=
  Nat.rec (motive := fun _ => List Nat → List Nat → Nat → List Nat) (fun _ _ _ => [])
    (fun _ ih l m c => forceN (getH l) fun a => forceN (getH m) fun b => forceN (bXor (bXor a b) c) fun s => forceN (bMaj a b c) fun c' => s :: ih (dropB 1 l) (dropB 1 m) c') n
theorem getH_ok {σ} {l : List Nat} {x : Nat} (h : Lok σ l x) : Bok σ (getH l) (x.testBit 0) := by
  cases l with
  | nil => exact h 0
  | cons a l => exact h.head
theorem b2n_eq (b : Bool) : b2n b = b.toNat := by cases b <;> rfl
theorem addB_ok {σ} : ∀ {n : Nat} {l m : List Nat} {c x y : Nat} {b : Bool}, Lok σ l x → Lok σ m y → Bok σ c b → Lok σ (addB n l m c) ((x + y + b.toNat) % 2 ^ n)
  | 0, l, m, c, x, y, b, _, _, _ => by rw [Nat.pow_zero, Nat.mod_one]; exact Lok.nil
  | n + 1, l, m, c, x, y, b, hx, hy, hc => by
    show Lok σ (forceN (getH l) fun a => forceN (getH m) fun b => forceN (bXor (bXor a b) c) fun s => forceN (bMaj a b c) fun c' => s :: addB n (dropB 1 l) (dropB 1 m) c') _
    rw [forceN_eq, forceN_eq, forceN_eq, forceN_eq]
    have h1 := getH_ok hx
    have h2 := getH_ok hy
    refine Lok.cons ?_ ?_
    · have : ((x + y + b.toNat) % 2 ^ (n + 1)).testBit 0 = ((x.testBit 0 ^^ y.testBit 0) ^^ b) := by
        rw [Nat.testBit_mod_two_pow, Nat.testBit_zero, Nat.testBit_zero, Nat.testBit_zero]
        simp only [Nat.zero_lt_succ, decide_true, Bool.true_and]
        have hx2 : x % 2 = 0 ∨ x % 2 = 1 := by omega
        have hy2 : y % 2 = 0 ∨ y % 2 = 1 := by omega
        cases b <;> rcases hx2 with hx2 | hx2 <;> rcases hy2 with hy2 | hy2 <;> simp [Nat.add_mod, hx2, hy2]
      rw [this]; exact bXor_ok (bXor_ok h1 h2) hc
    · have h3 := addB_ok (n := n) (dropB_ok (n := 1) hx) (dropB_ok (n := 1) hy) (bMaj_ok h1 h2 hc)
      refine h3.ext ?_
      rw [show (x + y + b.toNat) % 2 ^ (n + 1) / 2 = (x + y + b.toNat) / 2 % 2 ^ n by rw [Nat.pow_succ, Nat.mul_comm, Nat.mod_mul_right_div_self]]
      congr 1
      rw [Nat.pow_one, Nat.testBit_zero, Nat.testBit_zero]
      have hx2 : x % 2 = 0 ∨ x % 2 = 1 := by omega
      have hy2 : y % 2 = 0 ∨ y % 2 = 1 := by omega
      cases b <;> rcases hx2 with hx2 | hx2 <;> rcases hy2 with hy2 | hy2 <;> simp [hx2, hy2] <;> omega
noncomputable def negB (w : Nat) (l : List Nat) : List Nat := Nat.rec (motive := fun _ => List Nat → List Nat) (fun _ => []) (fun _ ih l => forceN (bNeg (getH l)) fun b => b :: ih (dropB 1 l)) w l
theorem negB_ok {σ} : ∀ {n : Nat} {l : List Nat} {x : Nat}, Lok σ l x → Lok σ (negB n l) (2 ^ n - 1 - x % 2 ^ n)
  | 0, l, x, _ => by rw [show 2 ^ 0 - 1 - x % 2 ^ 0 = 0 by simp]; exact Lok.nil
  | n + 1, l, x, h => by
    show Lok σ (forceN (bNeg (getH l)) fun b => b :: negB n (dropB 1 l)) _
    rw [forceN_eq]
    have hp := Nat.two_pow_pos n
    have e1 : x % 2 ^ (n + 1) = 2 * (x / 2 % 2 ^ n) + x % 2 := by
      rw [Nat.pow_succ, Nat.mul_comm, Nat.mod_mul, Nat.add_comm]
    have hlt : x / 2 % 2 ^ n < 2 ^ n := Nat.mod_lt _ hp
    have e2 : 2 ^ (n + 1) = 2 * 2 ^ n := by rw [Nat.pow_succ]; omega
    refine Lok.cons ?_ ?_
    · have := bNeg_ok (getH_ok h)
      have e3 : (2 ^ (n + 1) - 1 - x % 2 ^ (n + 1)).testBit 0 = !x.testBit 0 := by
        rw [e1, e2, Nat.testBit_zero, Nat.testBit_zero]
        have hx2 : x % 2 = 0 ∨ x % 2 = 1 := by omega
        rcases hx2 with hx2 | hx2
        · rw [show (2 * 2 ^ n - 1 - (2 * (x / 2 % 2 ^ n) + x % 2)) % 2 = 1 by omega, hx2]; rfl
        · rw [show (2 * 2 ^ n - 1 - (2 * (x / 2 % 2 ^ n) + x % 2)) % 2 = 0 by omega, hx2]; rfl
      rw [e3]; exact this
    · refine (negB_ok (n := n) (dropB_ok (n := 1) h)).ext ?_
      rw [e1, e2, Nat.pow_one]; omega

/-! ### Comparisons -/
noncomputable def truthB (l : List Nat) : Nat := List.rec 0 (fun a _ ih => bOr a ih) l
theorem truthB_ok {σ} : ∀ {l : List Nat} {x : Nat}, Lok σ l x → Bok σ (truthB l) (decide (x ≠ 0))
  | [], x, h => by rw [h.nil0]; exact Bok.zero
  | a :: l, x, h => by
    show Bok σ (bOr a (truthB l)) _
    have := bOr_ok h.head (truthB_ok h.tail)
    have e : (x.testBit 0 || decide (x / 2 ≠ 0)) = decide (x ≠ 0) := by
      rw [Nat.testBit_zero]
      by_cases h1 : x % 2 = 1
      · rw [decide_eq_true h1, Bool.true_or, decide_eq_true (show x ≠ 0 by omega)]
      · rw [decide_eq_false h1, Bool.false_or]
        by_cases h2 : x = 0
        · subst h2; rfl
        · rw [decide_eq_true h2, decide_eq_true (show x / 2 ≠ 0 by omega)]
    rw [← e]; exact this
noncomputable def eqBits (l m : List Nat) : Nat := bNeg (truthB (zipB bXor l m))
theorem eqBits_ok {σ l m x y} (hx : Lok σ l x) (hy : Lok σ m y) : Bok σ (eqBits l m) (decide (x = y)) := by
  have := bNeg_ok (truthB_ok (xor_ok hx hy))
  have e : (!decide (x ^^^ y ≠ 0)) = decide (x = y) := by
    by_cases h : x = y
    · subst h; simp
    · have : x ^^^ y ≠ 0 := fun h' => h (Nat.eq_of_testBit_eq fun i => by
        have : (x ^^^ y).testBit i = false := by rw [h', Nat.zero_testBit]
        rw [Nat.testBit_xor] at this
        cases hx : x.testBit i <;> cases hy : y.testBit i <;> simp_all)
      simp [h, this]
  rw [← e]; exact this
/-- Less: the highest bit in which they differ says it. -/
noncomputable def ltBits (n : Nat) : List Nat → List Nat → Nat → Nat :=
  Nat.rec (motive := fun _ => List Nat → List Nat → Nat → Nat) (fun _ _ c => c)
    (fun _ ih l m c => forceN (bMaj (bNeg (getH l)) (getH m) c) fun c => ih (dropB 1 l) (dropB 1 m) c) n
theorem ltBits_ok {σ} : ∀ {n : Nat} {l m : List Nat} {c x y : Nat} {b : Bool}, Lok σ l x → Lok σ m y → Bok σ c b → Bok σ (ltBits n l m c) (decide (x % 2 ^ n < y % 2 ^ n + b.toNat))
  | 0, l, m, c, x, y, b, _, _, hc => by
    rw [Nat.pow_zero, Nat.mod_one, Nat.mod_one]
    have : decide (0 < 0 + b.toNat) = b := by cases b <;> rfl
    rw [this]; exact hc
  | n + 1, l, m, c, x, y, b, hx, hy, hc => by
    show Bok σ (forceN (bMaj (bNeg (getH l)) (getH m) c) fun c => ltBits n (dropB 1 l) (dropB 1 m) c) _
    rw [forceN_eq]
    have h := ltBits_ok (n := n) (dropB_ok (n := 1) hx) (dropB_ok (n := 1) hy) (bMaj_ok (bNeg_ok (getH_ok hx)) (getH_ok hy) hc)
    have e1 : ∀ z : Nat, z % 2 ^ (n + 1) = 2 * (z / 2 % 2 ^ n) + z % 2 := fun z => by rw [Nat.pow_succ, Nat.mul_comm, Nat.mod_mul, Nat.add_comm]
    rw [e1, e1]
    rw [Nat.pow_one, Nat.testBit_zero, Nat.testBit_zero] at h
    have hx2 : x % 2 = 0 ∨ x % 2 = 1 := by omega
    have hy2 : y % 2 = 0 ∨ y % 2 = 1 := by omega
    generalize x / 2 % 2 ^ n = X at *
    generalize y / 2 % 2 ^ n = Y at *
    have e : decide (2 * X + x % 2 < 2 * Y + y % 2 + b.toNat) = decide (X < Y + ((!decide (x % 2 = 1) && decide (y % 2 = 1)) || (b && (!decide (x % 2 = 1) || decide (y % 2 = 1)))).toNat) := by
      cases b <;> rcases hx2 with hx2 | hx2 <;> rcases hy2 with hy2 | hy2 <;> rw [hx2, hy2] <;> apply decide_eq_decide.2 <;> simp <;> omega
    rw [e]; exact h

/-! ### Terms -/
theorem Lok.lt {σ} : ∀ {l : List Nat} {x : Nat}, Lok σ l x → x < 2 ^ lenR l
  | [], x, h => by rw [h.nil0]; exact Nat.one_pos
  | a :: l, x, h => by
    have := Lok.lt h.tail
    show x < 2 ^ (Nat.succ (lenR l))
    rw [Nat.succ_eq_add_one, Nat.pow_succ]; omega
theorem Lok.bit {σ b} {n : Nat} (h : Bok σ n b) : Lok σ [n] (b2n b) := by
  refine Lok.cons ?_ ?_
  · cases b
    · exact h
    · exact h
  · have : b2n b / 2 = 0 := by cases b <;> rfl
    rw [this]; exact Lok.nil

/-- The sign, as often as it takes. -/
noncomputable def padS (n : Nat) (s : Nat) (m : Nat) : List Nat → List Nat :=
  Nat.rec (motive := fun _ => List Nat → List Nat) (fun _ => Nat.rec [] (fun _ ih => s :: ih) m) (fun _ ih l => getH l :: ih (dropB 1 l)) n
theorem reps_get (s m k : Nat) : (Nat.rec [] (fun _ ih => s :: ih) m : List Nat).getD k 0 = if k < m then s else 0 := by
  induction m generalizing k with
  | zero => rfl
  | succ n ih =>
    show (s :: (Nat.rec [] (fun _ ih => s :: ih) n : List Nat)).getD k 0 = _
    cases k with
    | zero => rfl
    | succ k =>
      rw [List.getD_cons_succ, ih]
      by_cases e : k < n
      · rw [if_pos e, if_pos (by omega)]
      · rw [if_neg e, if_neg (by omega)]
theorem getH_eq (l : List Nat) : getH l = l.getD 0 0 := by cases l <;> rfl
theorem drop1_get (l : List Nat) (k : Nat) : (dropB 1 l).getD k 0 = l.getD (k + 1) 0 := by cases l <;> rfl
theorem padS_get (s m : Nat) : ∀ (n : Nat) (l : List Nat) (k : Nat), (padS n s m l).getD k 0 = if k < n then l.getD k 0 else if k < n + m then s else 0
  | 0, l, k => by
    show (Nat.rec [] (fun _ ih => s :: ih) m : List Nat).getD k 0 = _
    rw [reps_get]; simp
  | n + 1, l, k => by
    show (getH l :: padS n s m (dropB 1 l)).getD k 0 = _
    cases k with
    | zero => rw [getH_eq]; rfl
    | succ k =>
      rw [List.getD_cons_succ, padS_get s m n, drop1_get]
      by_cases e : k < n
      · rw [if_pos e, if_pos (by omega)]
      · rw [if_neg e, if_neg (show ¬ k + 1 < n + 1 by omega)]
        by_cases e : k < n + m
        · rw [if_pos e, if_pos (by omega)]
        · rw [if_neg e, if_neg (by omega)]
theorem top_bit {ws x : Nat} (h : 0 < ws) (hx : x < 2 ^ ws) : x.testBit (ws - 1) = decide (2 ^ (ws - 1) ≤ x) := by
  have e : 2 ^ ws = 2 * 2 ^ (ws - 1) := by
    conv => lhs; rw [show ws = (ws - 1) + 1 by omega, Nat.pow_succ]
    omega
  have hp := Nat.two_pow_pos (ws - 1)
  rw [Nat.testBit_eq_decide_div_mod_eq]
  apply decide_eq_decide.2
  have hq : x / 2 ^ (ws - 1) < 2 := by rw [Nat.div_lt_iff_lt_mul hp]; omega
  constructor
  · intro h
    have : x / 2 ^ (ws - 1) ≠ 0 := by omega
    exact Nat.le_of_not_lt fun h' => this (Nat.div_eq_of_lt h')
  · intro h
    have : 0 < x / 2 ^ (ws - 1) := Nat.div_pos h hp
    omega
theorem sx_ok {σ} {ws w : Nat} {l : List Nat} {x : Nat} (h : Lok σ l x) (h0 : 0 < ws) (hw : ws ≤ w) (hx : x < 2 ^ ws) : Lok σ (padS ws (l.getD (ws - 1) 0) (w - ws) l) ((O1.sx ws).ev w x) := fun k => by
  rw [padS_get]
  show Bok σ _ ((bc (Nat.blt x (2 ^ (ws - 1))) x (x + (2 ^ w - 2 ^ ws))).testBit k)
  have ht := top_bit h0 hx
  have hs := h (ws - 1)
  rw [ht] at hs
  by_cases e : x < 2 ^ (ws - 1)
  · rw [nblt_t e]
    rw [decide_eq_false (by omega)] at hs
    by_cases e1 : k < ws
    · rw [if_pos e1]; exact h k
    · rw [if_neg e1]
      have hk : x.testBit k = false := Nat.testBit_lt_two_pow (Nat.lt_of_lt_of_le hx (pow_le (by omega)))
      by_cases e2 : k < ws + (w - ws)
      · rw [if_pos e2, hk]; exact hs
      · rw [if_neg e2, hk]; exact Bok.zero
  · rw [nblt_f e]
    rw [decide_eq_true (by omega)] at hs
    have e3 : x + (2 ^ w - 2 ^ ws) = 2 ^ ws * (2 ^ (w - ws) - 1) + x := by
      rw [Nat.mul_sub, ← Nat.pow_add, Nat.mul_one, show ws + (w - ws) = w by omega, Nat.add_comm]
    show Bok σ _ ((x + (2 ^ w - 2 ^ ws)).testBit k)
    rw [e3, Nat.testBit_two_pow_mul_add _ hx]
    by_cases e1 : k < ws
    · rw [if_pos e1, if_pos e1]; exact h k
    · rw [if_neg e1, if_neg e1, Nat.testBit_two_pow_sub_one]
      by_cases e2 : k < ws + (w - ws)
      · rw [if_pos e2, decide_eq_true (by omega)]; exact hs
      · rw [if_neg e2, decide_eq_false (by omega)]; exact Bok.zero
theorem sar_ok {σ} {w : Nat} {l : List Nat} {x y : Nat} (h : Lok σ l x) (h0 : 0 < w) (hx : x < 2 ^ w) (hy : y < w) : Lok σ (padS (w - y) (l.getD (w - 1) 0) y (dropB y l)) (O2.sar.ev w x y) := fun k => by
  rw [padS_get]
  have ht := top_bit h0 hx
  have hs := h (w - 1)
  rw [ht] at hs
  have hd := dropB_ok (n := y) h
  show Bok σ _ ((bc (Nat.ble (2 ^ (w - 1)) x) (2 ^ w - 1 - (2 ^ w - 1 - x) / 2 ^ bc (Nat.ble w y) w y) (x / 2 ^ bc (Nat.ble w y) w y)).testBit k)
  rw [nble_f (show ¬ w ≤ y by omega)]
  by_cases e : 2 ^ (w - 1) ≤ x
  · rw [nble_t e]
    rw [decide_eq_true e] at hs
    show Bok σ _ ((2 ^ w - 1 - (2 ^ w - 1 - x) / 2 ^ y).testBit k)
    have hlt : (2 ^ w - 1 - x) / 2 ^ y < 2 ^ w := by
      have := Nat.div_le_self (2 ^ w - 1 - x) (2 ^ y)
      have := Nat.two_pow_pos w
      omega
    rw [show 2 ^ w - 1 - (2 ^ w - 1 - x) / 2 ^ y = 2 ^ w - ((2 ^ w - 1 - x) / 2 ^ y + 1) by omega, Nat.testBit_two_pow_sub_succ hlt, Nat.testBit_div_two_pow, show 2 ^ w - 1 - x = 2 ^ w - (x + 1) by omega, Nat.testBit_two_pow_sub_succ hx]
    by_cases e1 : k < w - y
    · rw [if_pos e1, decide_eq_true (by omega), decide_eq_true (by omega)]
      have := hd k
      rw [Nat.testBit_div_two_pow] at this
      simpa using this
    · rw [if_neg e1]
      by_cases e2 : k < w - y + y
      · rw [if_pos e2, decide_eq_true (by omega), decide_eq_false (by omega)]
        simpa using hs
      · rw [if_neg e2, decide_eq_false (by omega)]
        simpa using Bok.zero
  · rw [nble_f e]
    rw [decide_eq_false e] at hs
    show Bok σ _ ((x / 2 ^ y).testBit k)
    by_cases e1 : k < w - y
    · rw [if_pos e1]; exact hd k
    · rw [if_neg e1, Nat.testBit_div_two_pow]
      have hk : x.testBit (k + y) = false := Nat.testBit_lt_two_pow (Nat.lt_of_lt_of_le hx (pow_le (by omega)))
      rw [hk]
      by_cases e2 : k < w - y + y
      · rw [if_pos e2]; exact hs
      · rw [if_neg e2]; exact Bok.zero

noncomputable def isP2 (n : Nat) : Bool := Nat.beq n (p2 (Nat.log2 n))
/-- Only how many bits it may have. -/
noncomputable def wide (bl : List Bnd) (t : Tm) : List Nat := withB (rng bl t) fun r => topsB (Nat.succ (Nat.log2 r.hi))
theorem wide_ok {σ} {bl : List Bnd} (h : ∀ b ∈ bl, b.ok σ) (t : Tm) : Lok σ (wide bl t) (t.ev σ) := by
  unfold wide
  rw [withB_eq]
  have := (rng_ok h t).2
  exact tops_ok (Nat.lt_of_le_of_lt this Nat.lt_log2_self)

noncomputable def bits1 (o : O1) (w : Nat) (l : List Nat) (f : List Nat) : List Nat :=
  O1.rec (takeB w l) (fun ws => bc (band (Nat.blt 0 ws) (band (Nat.ble ws w) (Nat.ble (lenR l) ws))) (padS ws (l.getD (Nat.sub ws 1) 0) (Nat.sub w ws) l) f) [bNeg (truthB l)] o
theorem bits1_ok {σ} {o : O1} {w : Nat} {l f : List Nat} {x : Nat} (h : Lok σ l x) (hf : Lok σ f (o.ev w x)) : Lok σ (bits1 o w l f) (o.ev w x) := by
  cases o with
  | tr => exact takeB_ok h
  | sx ws =>
    show Lok σ (bc (band (Nat.blt 0 ws) (band (Nat.ble ws w) (Nat.ble (lenR l) ws))) (padS ws (l.getD (ws - 1) 0) (w - ws) l) f) _
    cases hc : band (Nat.blt 0 ws) (band (Nat.ble ws w) (Nat.ble (lenR l) ws))
    · exact hf
    · obtain ⟨h1, h2⟩ := band_eq hc
      obtain ⟨h2, h3⟩ := band_eq h2
      exact sx_ok h (of_nblt h1) (of_nble h2) (Nat.lt_of_lt_of_le h.lt (pow_le (of_nble h3)))
  | bnot =>
    have := Lok.bit (bNeg_ok (truthB_ok h))
    refine this.ext ?_
    show _ = bc (Nat.beq x 0) 1 0
    by_cases e : x = 0
    · subst e; rfl
    · rw [nbeq_f e, decide_eq_true e]; rfl

/-- The number, where all bits are known. -/
noncomputable def constB (l : List Nat) : Option Nat := List.rec (some 0) (fun a _ ih => Option.rec none (fun v => bc (Nat.beq a 0) (some (Nat.mul 2 v)) (bc (Nat.beq a 1) (some (Nat.succ (Nat.mul 2 v))) none)) ih) l
theorem constB_ok {σ} : ∀ {l : List Nat} {x n : Nat}, Lok σ l x → constB l = some n → x = n
  | [], x, n, h, hc => by cases hc; exact h.nil0
  | a :: l, x, n, h, hc => by
    change Option.rec none (fun v => bc (Nat.beq a 0) (some (Nat.mul 2 v)) (bc (Nat.beq a 1) (some (Nat.succ (Nat.mul 2 v))) none)) (constB l) = some n at hc
    cases hv : constB l with
    | none => rw [hv] at hc; cases hc
    | some v =>
      rw [hv] at hc
      have ih := constB_ok h.tail hv
      have h0 := h.head
      rw [Nat.testBit_zero] at h0
      change bc (Nat.beq a 0) (some (2 * v)) (bc (Nat.beq a 1) (some (Nat.succ (2 * v))) none) = some n at hc
      by_cases e : a = 0
      · rw [nbeq_t e] at hc; cases hc
        rw [e] at h0
        have := of_decide_eq_false h0.of0
        omega
      · rw [nbeq_f e] at hc
        by_cases e1 : a = 1
        · rw [nbeq_t e1] at hc; cases hc
          rw [e1] at h0
          have := of_decide_eq_true h0.of1
          omega
        · rw [nbeq_f e1] at hc; cases hc
noncomputable def amt (b : Tm) (m : List Nat) (k : Nat → List Nat) (f : List Nat) : List Nat := Option.rec (Option.rec f k (constB m)) k (isLit b)
theorem amt_ok {σ} {P : List Nat → Prop} {b : Tm} {m : List Nat} {k : Nat → List Nat} {f : List Nat} (hm : Lok σ m (b.ev σ)) (hf : P f) (hk : ∀ n, b.ev σ = n → P (k n)) : P (amt b m k f) := by
  unfold amt
  cases h : isLit b with
  | some n => exact hk n (by rw [isLit_some h]; rfl)
  | none =>
    show P (Option.rec f k (constB m))
    cases hc : constB m with
    | none => exact hf
    | some n => exact hk n (constB_ok hm hc)
noncomputable def shB (b : Tm) (k : Nat → List Nat) (f : List Nat) : List Nat := Option.rec f k (isLit b)
/-- Times one bit. -/
noncomputable def mulB1 (w : Nat) (l m f : List Nat) : List Nat := List.rec f (fun b t _ => Option.rec f (fun n => bc (Nat.beq n 0) (takeB w (mapB (fun x => bAnd x b) l)) f) (constB t)) m
theorem mulB1_ok {σ} {w : Nat} {l m f : List Nat} {x y : Nat} (hl : Lok σ l x) (hm : Lok σ m y) (hf : Lok σ f (x * y % 2 ^ w)) : Lok σ (mulB1 w l m f) (x * y % 2 ^ w) := by
  cases m with
  | nil => exact hf
  | cons b t =>
    show Lok σ (Option.rec f (fun n => bc (Nat.beq n 0) (takeB w (mapB (fun x => bAnd x b) l)) f) (constB t)) _
    cases hc : constB t with
    | none => exact hf
    | some n =>
      show Lok σ (bc (Nat.beq n 0) (takeB w (mapB (fun x => bAnd x b) l)) f) _
      cases hn : Nat.beq n 0
      · exact hf
      · have h0 := constB_ok hm.tail hc
        rw [of_nbeq hn] at h0
        have hb := hm.head
        show Lok σ (takeB w (mapB (fun x => bAnd x b) l)) _
        refine takeB_ok fun k => ?_
        rw [mapB_get (f := fun x => bAnd x b) (by rfl)]
        have h1 := bAnd_ok (hl k) hb
        have : y = 0 ∨ y = 1 := by omega
        rcases this with rfl | rfl
        · rw [Nat.mul_zero, Nat.zero_testBit]
          rw [Nat.zero_testBit, Bool.and_false] at h1; exact h1
        · rw [Nat.mul_one]
          have e : Nat.testBit 1 0 = true := rfl
          rw [e, Bool.and_true] at h1; exact h1
noncomputable def mulBx (w : Nat) (l m f : List Nat) : List Nat := mulB1 w l m (mulB1 w m l f)
theorem mulBx_ok {σ} {w : Nat} {l m f : List Nat} {x y : Nat} (hl : Lok σ l x) (hm : Lok σ m y) (hf : Lok σ f (x * y % 2 ^ w)) : Lok σ (mulBx w l m f) (x * y % 2 ^ w) := by
  refine mulB1_ok hl hm ?_
  rw [Nat.mul_comm] at hf ⊢
  exact mulB1_ok hm hl hf
noncomputable def bits2 (o : O2) (w : Nat) (a b : Tm) (l m f : List Nat) : List Nat :=
  O2.rec (addB w l m 0) (addB w l (negB w m) 1)
    (shB b (fun n => bc (isP2 n) (takeB w (zerosB (Nat.log2 n) l)) f) (shB a (fun n => bc (isP2 n) (takeB w (zerosB (Nat.log2 n) m)) f) (mulBx w l m f)))
    (zipB bAnd l m) (zipB bOr l m) (zipB bXor l m)
    (amt b m (fun y => bc (Nat.ble w y) [] (takeB w (zerosB y l))) f) (amt b m (fun y => bc (Nat.ble w y) [] (dropB y l)) f)
    (amt b m (fun y => bc (band (Nat.blt y w) (Nat.ble (lenR l) w)) (padS (Nat.sub w y) (l.getD (Nat.sub w 1) 0) y (dropB y l)) f) f)
    [eqBits l m] [ltBits (maxN (lenR l) (lenR m)) l m 0]
    (bc (Nat.ble w 64) (bc (Nat.blt 0 w) [ltBits w (addB w l (litB (p2 (Nat.sub w 1)) 64) 0) (addB w m (litB (p2 (Nat.sub w 1)) 64) 0) 0] f) f)
    (shB b (fun n => bc (isP2 n) (dropB (Nat.log2 n) l) f) f) (shB b (fun n => bc (isP2 n) (takeB (Nat.log2 n) l) f) f) f
    (shB b (fun n => bc (band (isP2 n) (band (Nat.blt n (p2 (Nat.sub w 1))) (Nat.beq (truthB (takeB (Nat.log2 n) l)) 0))) [] f) f) f o
theorem shB_ok {P : List Nat → Prop} {b : Tm} {k : Nat → List Nat} {f : List Nat} (hf : P f) (hk : ∀ n, b = .lit n → P (k n)) : P (shB b k f) := by
  unfold shB
  cases h : isLit b with
  | none => exact hf
  | some n => exact hk n (isLit_some h)
theorem bits2_ok {σ} {o : O2} {w : Nat} {a b : Tm} {l m f : List Nat} (hl : Lok σ l (a.ev σ)) (hm : Lok σ m (b.ev σ)) (hf : Lok σ f (o.ev w (a.ev σ) (b.ev σ))) : Lok σ (bits2 o w a b l m f) (o.ev w (a.ev σ) (b.ev σ)) := by
  cases o with
  | add =>
    have := addB_ok (n := w) hl hm (Bok.zero (σ := σ))
    exact this
  | sub =>
    have := addB_ok (n := w) hl (negB_ok (n := w) hm) (Bok.one (σ := σ))
    refine this.ext ?_
    show (a.ev σ + (2 ^ w - 1 - b.ev σ % 2 ^ w) + 1) % 2 ^ w = (a.ev σ + (2 ^ w - b.ev σ % 2 ^ w)) % 2 ^ w
    have := Nat.mod_lt (b.ev σ) (Nat.two_pow_pos w)
    congr 1; omega
  | mul =>
    refine shB_ok (P := fun r => Lok σ r _) (shB_ok (P := fun r => Lok σ r _) (mulBx_ok hl hm hf) fun n hn => ?_) fun n hn => ?_
    · cases hp : isP2 n
      · exact hf
      · refine (takeB_ok (zerosB_ok (n := Nat.log2 n) hm)).ext ?_
        have := of_nbeq hp
        rw [hn, ev_lit]
        show b.ev σ * p2 (Nat.log2 n) % 2 ^ w = n * b.ev σ % 2 ^ w
        rw [← this, Nat.mul_comm]
    · cases hp : isP2 n
      · exact hf
      · refine (takeB_ok (zerosB_ok (n := Nat.log2 n) hl)).ext ?_
        have := of_nbeq hp
        rw [hn, ev_lit]
        show a.ev σ * p2 (Nat.log2 n) % 2 ^ w = a.ev σ * n % 2 ^ w
        rw [← this]
  | and => exact and_ok hl hm
  | or => exact or_ok hl hm
  | xor => exact xor_ok hl hm
  | shl =>
    refine amt_ok (P := fun r => Lok σ r _) hm hf fun n hn => ?_
    rw [hn]
    show Lok σ (bc (Nat.ble w n) [] (takeB w (zerosB n l))) (bc (Nat.ble w n) 0 (a.ev σ * 2 ^ n % 2 ^ w))
    cases Nat.ble w n
    · exact takeB_ok (zerosB_ok hl)
    · exact Lok.nil
  | shr =>
    refine amt_ok (P := fun r => Lok σ r _) hm hf fun n hn => ?_
    rw [hn]
    show Lok σ (bc (Nat.ble w n) [] (dropB n l)) (bc (Nat.ble w n) 0 (a.ev σ / 2 ^ n))
    cases Nat.ble w n
    · exact dropB_ok hl
    · exact Lok.nil
  | sar =>
    refine amt_ok (P := fun r => Lok σ r _) hm hf fun n hn => ?_
    cases hc : band (Nat.blt n w) (Nat.ble (lenR l) w)
    · exact hf
    · obtain ⟨h1, h2⟩ := band_eq hc
      rw [hn]
      have h1 := of_nblt h1
      exact sar_ok hl (by omega) (Nat.lt_of_lt_of_le hl.lt (pow_le (of_nble h2))) h1
  | eq =>
    have := Lok.bit (eqBits_ok hl hm)
    refine this.ext ?_
    show _ = b2n (Nat.beq _ _)
    by_cases e : a.ev σ = b.ev σ
    · rw [nbeq_t e, decide_eq_true e]
    · rw [nbeq_f e, decide_eq_false e]
  | ult =>
    have h := ltBits_ok (n := maxN (lenR l) (lenR m)) hl hm (Bok.zero (σ := σ))
    have := Lok.bit h
    refine this.ext ?_
    rw [maxN_eq, Nat.mod_eq_of_lt (Nat.lt_of_lt_of_le hl.lt (pow_le (Nat.le_max_left _ _))), Nat.mod_eq_of_lt (Nat.lt_of_lt_of_le hm.lt (pow_le (Nat.le_max_right _ _)))]
    show b2n (decide (a.ev σ < b.ev σ)) = b2n (Nat.blt _ _)
    by_cases e : a.ev σ < b.ev σ
    · rw [nblt_t e, decide_eq_true e]
    · rw [nblt_f e, decide_eq_false e]
  | slt =>
    show Lok σ (bc (Nat.ble w 64) (bc (Nat.blt 0 w) [ltBits w (addB w l (litB (p2 (Nat.sub w 1)) 64) 0) (addB w m (litB (p2 (Nat.sub w 1)) 64) 0) 0] f) f) _
    by_cases h1 : w ≤ 64
    · rw [nble_t h1]
      by_cases h2 : 0 < w
      · rw [nblt_t h2]
        have hh : Lok σ (litB (p2 (Nat.sub w 1)) 64) (2 ^ (w - 1)) := litB_ok (Nat.pow_lt_pow_right (by omega) (show w - 1 < 64 by omega))
        have ha := addB_ok (n := w) hl hh (Bok.zero (σ := σ))
        have hb := addB_ok (n := w) hm hh (Bok.zero (σ := σ))
        have := Lok.bit (ltBits_ok (n := w) ha hb (Bok.zero (σ := σ)))
        refine this.ext ?_
        show b2n (decide ((a.ev σ + 2 ^ (w - 1)) % 2 ^ w % 2 ^ w < (b.ev σ + 2 ^ (w - 1)) % 2 ^ w % 2 ^ w)) = b2n (Nat.blt ((a.ev σ + 2 ^ (w - 1)) % 2 ^ w) ((b.ev σ + 2 ^ (w - 1)) % 2 ^ w))
        rw [Nat.mod_mod, Nat.mod_mod]
        by_cases e : (a.ev σ + 2 ^ (w - 1)) % 2 ^ w < (b.ev σ + 2 ^ (w - 1)) % 2 ^ w
        · rw [nblt_t e, decide_eq_true e]
        · rw [nblt_f e, decide_eq_false e]
      · rw [nblt_f h2]; exact hf
    · rw [nble_f h1]; exact hf
  | udiv =>
    refine shB_ok (P := fun r => Lok σ r _) hf fun n hn => ?_
    cases hp : isP2 n
    · exact hf
    · refine (dropB_ok (n := Nat.log2 n) hl).ext ?_
      have := of_nbeq hp
      rw [hn, ev_lit]
      show a.ev σ / p2 (Nat.log2 n) = a.ev σ / n
      rw [← this]
  | urem =>
    refine shB_ok (P := fun r => Lok σ r _) hf fun n hn => ?_
    cases hp : isP2 n
    · exact hf
    · refine (takeB_ok (n := Nat.log2 n) hl).ext ?_
      have := of_nbeq hp
      rw [hn, ev_lit]
      show a.ev σ % p2 (Nat.log2 n) = a.ev σ % n
      rw [← this]
  | sdiv => exact hf
  | srem =>
    refine shB_ok (P := fun r => Lok σ r _) hf fun n hn => ?_
    cases hc : band (isP2 n) (band (Nat.blt n (p2 (Nat.sub w 1))) (Nat.beq (truthB (takeB (Nat.log2 n) l)) 0))
    · exact hf
    · obtain ⟨h1, h2⟩ := band_eq hc
      obtain ⟨h2, h3⟩ := band_eq h2
      have ht := truthB_ok (takeB_ok (n := Nat.log2 n) hl)
      rw [of_nbeq h3] at ht
      have h0 : a.ev σ % 2 ^ (Nat.log2 n) = 0 := Classical.not_not.1 (of_decide_eq_false ht.of0)
      have hp := of_nbeq h1
      change n = 2 ^ Nat.log2 n at hp
      have hlt : n < 2 ^ (w - 1) := of_nblt h2
      have hle : Nat.log2 n ≤ w := by
        refine Nat.le_of_not_lt fun h => ?_
        have h5 : 2 ^ w ≤ 2 ^ Nat.log2 n := pow_le (Nat.le_of_lt h)
        have h6 : 2 ^ (w - 1) ≤ 2 ^ w := pow_le (Nat.sub_le _ _)
        omega
      have hd1 : n ∣ a.ev σ := by rw [hp]; exact Nat.dvd_of_mod_eq_zero h0
      have hd2 : n ∣ 2 ^ w := by rw [hp]; exact Nat.pow_dvd_pow 2 hle
      have hd3 : n ∣ mag w (a.ev σ) := by
        unfold mag
        cases isNeg w (a.ev σ)
        · exact hd1
        · exact Nat.dvd_sub hd2 hd1
      rw [hn, ev_lit]
      have e : O2.srem.ev w (a.ev σ) n = 0 := by
        show sgn (isNeg w (a.ev σ)) w (mag w (a.ev σ) % mag w n) = 0
        rw [mag_of hlt, Nat.mod_eq_zero_of_dvd hd3]
        cases isNeg w (a.ev σ)
        · show 0 % 2 ^ w = 0; exact Nat.zero_mod _
        · show (2 ^ w - 0 % 2 ^ w) % 2 ^ w = 0; rw [Nat.zero_mod, Nat.sub_zero, Nat.mod_self]
      rw [e]; exact Lok.nil
  | pair => exact hf

noncomputable def iteBits (c a b : List Nat) : List Nat := forceN (truthB c) fun r => bc (Nat.beq r 0) b (bc (Nat.beq r 1) a (zipB bMrg a b))
noncomputable def bitsOf (kv : List KV) (bl : List Bnd) (t : Tm) : List Nat :=
  Tm.rec (fun n => bc (Nat.blt n (p2 64)) (litB n 64) (topsB (Nat.succ (Nat.log2 n)))) (fun i w => withB (rng bl (.var i w)) fun r => takeB (bc (Nat.beq r.hi 0) 0 (Nat.succ (Nat.log2 r.hi))) (bc (Nat.ble w 64) (varB kv i 0 w) (topsB w)))
    (fun o w a la => bits1 o w la (wide bl (.un o w a))) (fun o w a b la lb => bits2 o w a b la lb (wide bl (.bin o w a b))) (fun _ _ _ lc la lb => iteBits lc la lb) (fun f w a _ => wide bl (.app f w a)) t
theorem bitsOf_ok {σ} {kv : List KV} {bl : List Bnd} (hk : ∀ v ∈ kv, v.ok σ) (hb : ∀ b ∈ bl, b.ok σ) (t : Tm) : Lok σ (bitsOf kv bl t) (t.ev σ) := by
  induction t with
  | lit n =>
    show Lok σ (bc (Nat.blt n (p2 64)) (litB n 64) (topsB (Nat.succ (Nat.log2 n)))) n
    cases h : Nat.blt n (p2 64)
    · exact tops_ok Nat.lt_log2_self
    · exact litB_ok (of_nblt h)
  | var i w =>
    show Lok σ (withB (rng bl (.var i w)) fun r => takeB (bc (Nat.beq r.hi 0) 0 (Nat.succ (Nat.log2 r.hi))) (bc (Nat.ble w 64) (varB kv i 0 w) (topsB w))) (σ i % 2 ^ w)
    rw [withB_eq]
    have hr := (rng_ok hb (.var i w)).2
    change σ i % 2 ^ w ≤ (rng bl (.var i w)).hi at hr
    have hv : Lok σ (bc (Nat.ble w 64) (varB kv i 0 w) (topsB w)) (σ i % 2 ^ w) := by
      cases h : Nat.ble w 64
      · exact tops_ok (Nat.mod_lt _ (Nat.two_pow_pos w))
      · exact varB_ok hk (of_nble h)
    refine (takeB_ok (n := bc (Nat.beq (rng bl (.var i w)).hi 0) 0 (Nat.succ (Nat.log2 (rng bl (.var i w)).hi))) hv).ext ?_
    refine Nat.mod_eq_of_lt ?_
    by_cases e : (rng bl (.var i w)).hi = 0
    · rw [nbeq_t e]; show _ < 2 ^ 0; omega
    · rw [nbeq_f e]
      exact Nat.lt_of_le_of_lt hr Nat.lt_log2_self
  | un o w a ih => exact bits1_ok ih (wide_ok hb (.un o w a))
  | bin o w a b iha ihb => exact bits2_ok iha ihb (wide_ok hb (.bin o w a b))
  | ite c a b ihc iha ihb =>
    show Lok σ (forceN (truthB (bitsOf kv bl c)) fun r => bc (Nat.beq r 0) (bitsOf kv bl b) (bc (Nat.beq r 1) (bitsOf kv bl a) (zipB bMrg (bitsOf kv bl a) (bitsOf kv bl b)))) _
    rw [forceN_eq, ev_ite]
    have ht := truthB_ok ihc
    cases h0 : Nat.beq (truthB (bitsOf kv bl c)) 0
    · cases h1 : Nat.beq (truthB (bitsOf kv bl c)) 1
      · show Lok σ (zipB bMrg (bitsOf kv bl a) (bitsOf kv bl b)) _
        refine mrg_ok ?_
        split
        · exact .inr ihb
        · exact .inl iha
      · rw [of_nbeq h1] at ht
        have := of_decide_eq_true ht.of1
        rw [if_neg this]; exact iha
    · rw [of_nbeq h0] at ht
      have := of_decide_eq_false ht.of0
      rw [if_pos (Classical.not_not.1 this)]; exact ihb
  | app f w a ih => exact wide_ok hb (.app f w a)

end Go.Sy
end

section
/- One form for terms that are made of bits of variables. -/
namespace Go.Sy

/-- Bits of a variable, from one on, so many. -/
noncomputable def pieceT (w i off len : Nat) : Tm :=
  bc (Nat.beq off 0) (bc (Nat.beq len w) (.var i w) (.bin .and w (.var i w) (.lit (Nat.sub (p2 len) 1)))) (.bin .and w (.bin .shr w (.var i w) (.lit off)) (.lit (Nat.sub (p2 len) 1)))
noncomputable def runV (σ : Nat → Nat) (i off len : Nat) : Nat := σ i / 2 ^ off % 2 ^ len
theorem pieceT_ev {σ : Nat → Nat} {w i off len : Nat} (h : off + len ≤ w) (hw : off < w) : (pieceT w i off len).ev σ = runV σ i off len := by
  have key : σ i % 2 ^ w / 2 ^ off % 2 ^ len = runV σ i off len := by
    unfold runV
    apply Nat.eq_of_testBit_eq
    intro j
    rw [Nat.testBit_mod_two_pow, Nat.testBit_mod_two_pow, Nat.testBit_div_two_pow, Nat.testBit_div_two_pow, Nat.testBit_mod_two_pow]
    by_cases e : j < len
    · rw [decide_eq_true e, decide_eq_true (show j + off < w by omega), Bool.true_and, Bool.true_and]
    · rw [decide_eq_false e, Bool.false_and, Bool.false_and]
  unfold pieceT
  by_cases h0 : off = 0
  · subst h0
    rw [nbeq_t rfl]
    rw [Nat.pow_zero, Nat.div_one] at key
    by_cases h1 : len = w
    · subst h1
      rw [nbeq_t rfl, ← key]
      show σ i % 2 ^ len = σ i % 2 ^ len % 2 ^ len
      rw [Nat.mod_mod]
    · rw [nbeq_f h1, ← key]
      show (σ i % 2 ^ w) &&& (2 ^ len - 1) = _
      rw [Nat.and_two_pow_sub_one_eq_mod]
  · rw [nbeq_f h0, ← key]
    show bc (Nat.ble w off) 0 (σ i % 2 ^ w / 2 ^ off) &&& (2 ^ len - 1) = _
    rw [nble_f (by omega), bc_false, Nat.and_two_pow_sub_one_eq_mod]

noncomputable def shlT (t : Tm) (at_ : Nat) : Tm := bc (Nat.beq at_ 0) t (.bin .shl 64 t (.lit at_))
theorem shlT_ev {σ : Nat → Nat} {t : Tm} {p v : Nat} (h : t.ev σ = v) (hp : p < 64) (hv : v * 2 ^ p < 2 ^ 64) : (shlT t p).ev σ = v * 2 ^ p := by
  unfold shlT
  by_cases e : p = 0
  · subst e; rw [nbeq_t rfl]; show t.ev σ = _; rw [h, Nat.pow_zero, Nat.mul_one]
  · rw [nbeq_f e]
    show bc (Nat.ble 64 p) 0 (t.ev σ * 2 ^ p % 2 ^ 64) = _
    rw [nble_f (by omega), h, bc_false, Nat.mod_eq_of_lt hv]
noncomputable def orT (a b : Tm) : Tm := Option.rec (.bin .or 64 a b) (fun n => bc (Nat.beq n 0) b (.bin .or 64 a b)) (isLit a)
theorem or_add {a m p : Nat} (h : a < 2 ^ p) : a ||| m * 2 ^ p = a + m * 2 ^ p := by
  have := Nat.shiftLeft_add_eq_or_of_lt h m
  rw [Nat.shiftLeft_eq] at this
  rw [Nat.or_comm, ← this, Nat.add_comm]
theorem orT_ev {σ : Nat → Nat} {a b : Tm} {m p : Nat} (h : a.ev σ < 2 ^ p) (hb : b.ev σ = m * 2 ^ p) : (orT a b).ev σ = a.ev σ + m * 2 ^ p := by
  have key : (Tm.bin .or 64 a b).ev σ = a.ev σ + m * 2 ^ p := by
    show a.ev σ ||| b.ev σ = _
    rw [hb]; exact or_add h
  unfold orT
  cases hl : isLit a with
  | none => exact key
  | some n =>
    show (bc (Nat.beq n 0) b (.bin .or 64 a b)).ev σ = _
    by_cases e : n = 0
    · rw [nbeq_t e]
      show b.ev σ = _
      rw [isLit_some hl, e, hb, ev_lit, Nat.zero_add]
    · rw [nbeq_f e]; exact key

/-- What is being gathered: nothing, a number, bits of a variable. -/
inductive Run
  | no
  | num (at_ v : Nat)
  | bits (at_ w i off len : Nat)
noncomputable def Run.flush (r : Run) (acc : Tm) : Tm := Run.rec acc (fun p v => orT acc (.lit (Nat.mul v (p2 p)))) (fun p w i off len => orT acc (shlT (pieceT w i off len) p)) r
noncomputable def Run.val (σ : Nat → Nat) : Run → Nat
  | .no => 0
  | .num p v => v * 2 ^ p
  | .bits p _ i off len => runV σ i off len * 2 ^ p
/-- What has been gathered so far, of p bits. -/
def Run.ok (σ : Nat → Nat) (acc : Tm) (p : Nat) : Run → Prop
  | .no => acc.ev σ < 2 ^ p
  | .num q v => acc.ev σ < 2 ^ q ∧ q < p ∧ v < 2 ^ (p - q)
  | .bits q w _ off len => acc.ev σ < 2 ^ q ∧ q + len = p ∧ 0 < len ∧ off + len ≤ w
theorem runV_lt (σ : Nat → Nat) (i off len : Nat) : runV σ i off len < 2 ^ len := Nat.mod_lt _ (Nat.two_pow_pos _)
theorem Run.flush_ev {σ : Nat → Nat} {acc : Tm} {p : Nat} {r : Run} (h : r.ok σ acc p) (hp : p ≤ 64) : (r.flush acc).ev σ = acc.ev σ + r.val σ ∧ acc.ev σ + r.val σ < 2 ^ p := by
  cases r with
  | no => exact ⟨rfl, h⟩
  | num q v =>
    obtain ⟨h1, h2, h3⟩ := h
    refine ⟨orT_ev h1 rfl, ?_⟩
    show acc.ev σ + v * 2 ^ q < 2 ^ p
    have : 2 ^ p = 2 ^ (p - q) * 2 ^ q := by rw [← Nat.pow_add]; congr 1; omega
    rw [this]
    have h4 : (v + 1) * 2 ^ q ≤ 2 ^ (p - q) * 2 ^ q := Nat.mul_le_mul_right _ h3
    rw [Nat.add_mul, Nat.one_mul] at h4
    omega
  | bits q w i off len =>
    obtain ⟨h1, h2, h3, h4⟩ := h
    have hv := runV_lt σ i off len
    have hq : 2 ^ p = 2 ^ len * 2 ^ q := by rw [← Nat.pow_add]; congr 1; omega
    have h5 : (runV σ i off len + 1) * 2 ^ q ≤ 2 ^ len * 2 ^ q := Nat.mul_le_mul_right _ hv
    rw [Nat.add_mul, Nat.one_mul] at h5
    have h6 : 2 ^ p ≤ 2 ^ 64 := Nat.pow_le_pow_right (by decide) hp
    have hpos := Nat.two_pow_pos q
    have h7 : (shlT (pieceT w i off len) q).ev σ = runV σ i off len * 2 ^ q := shlT_ev (pieceT_ev h4 (by omega)) (by omega) (by omega)
    refine ⟨orT_ev h1 h7, ?_⟩
    show acc.ev σ + runV σ i off len * 2 ^ q < 2 ^ p
    omega

/-- How many bits a variable has, as it stands in a term; 0: it does not. -/
noncomputable def wOf (i : Nat) (t : Tm) : Nat :=
  Tm.rec (fun _ => 0) (fun j w => bc (Nat.beq i j) w 0) (fun _ _ _ x => x) (fun _ _ _ _ x y => bc (Nat.beq x 0) y x) (fun _ _ _ x y z => bc (Nat.beq x 0) (bc (Nat.beq y 0) z y) x) (fun _ _ _ x => x) t
noncomputable def force3 {α : Type} (a b c : Nat) (k : Nat → Nat → Nat → α) : α := forceN a fun a => forceN b fun b => forceN c fun c => k a b c
theorem force3_eq {α : Type} (a b c : Nat) (k : Nat → Nat → Nat → α) : force3 a b c k = k a b c := by unfold force3; rw [forceN_eq, forceN_eq, forceN_eq]
/-- Begin bits of a variable. -/
noncomputable def newR (t : Tm) (p i k : Nat) (f : Run → Option Tm) : Option Tm := forceN (wOf i t) fun w => bc (Nat.blt k w) (f (.bits p w i k 1)) none
/-- The next bit is one of a variable. -/
noncomputable def stepV (t : Tm) (r : Run) (p i k : Nat) (acc : Tm) (go : Run → Tm → Option Tm) : Option Tm :=
  Run.rec (newR t p i k fun r => go r acc) (fun q v => newR t p i k fun r => forceT ((Run.num q v).flush acc) fun acc => go r acc)
    (fun q w j off len => bc (band (Nat.beq i j) (band (Nat.beq k (Nat.add off len)) (Nat.blt k w))) (forceN (Nat.succ len) fun len => go (.bits q w j off len) acc)
      (newR t p i k fun r => forceT ((Run.bits q w j off len).flush acc) fun acc => go r acc)) r
noncomputable def stepO (r : Run) (p : Nat) (acc : Tm) (go : Run → Tm → Option Tm) : Option Tm :=
  Run.rec (go (.num p 1) acc) (fun q v => forceN (Nat.add v (p2 (Nat.sub p q))) fun v => go (.num q v) acc) (fun q w j off len => forceT ((Run.bits q w j off len).flush acc) fun acc => go (.num p 1) acc) r
noncomputable def stepZ (r : Run) (acc : Tm) (go : Run → Tm → Option Tm) : Option Tm :=
  Run.rec (go .no acc) (fun q v => go (.num q v) acc) (fun q w j off len => forceT ((Run.bits q w j off len).flush acc) fun acc => go .no acc) r
noncomputable def canB (t : Tm) (l : List Nat) : Nat → Run → Tm → Option Tm :=
  List.rec (motive := fun _ => Nat → Run → Tm → Option Tm) (fun _ r acc => some (r.flush acc))
    (fun c _ ih p r acc => bc (Nat.blt p 64) (forceN c fun c => bc (Nat.beq c 0) (stepZ r acc fun r acc => ih (Nat.succ p) r acc) (bc (Nat.beq c 1) (stepO r p acc fun r acc => ih (Nat.succ p) r acc)
      (bc (Nat.ble 4 c) (bc (Nat.beq (Nat.mod c 4) 0) (forceN (Nat.div (Nat.sub c 4) 4) fun m => force3 (Nat.div m 64) (Nat.mod m 64) p fun i k p => stepV t r p i k acc fun r acc => ih (Nat.succ p) r acc) none) none))) none) l

theorem Run.ok_zero {σ acc p} {r : Run} (h : r.ok σ acc p) (hr : r = .no ∨ ∃ q v, r = .num q v) : r.ok σ acc (p + 1) := by
  rcases hr with rfl | ⟨q, v, rfl⟩
  · exact Nat.lt_of_lt_of_le h (Nat.pow_le_pow_right (by decide) (by omega))
  · obtain ⟨h1, h2, h3⟩ := h
    exact ⟨h1, by omega, Nat.lt_of_lt_of_le h3 (Nat.pow_le_pow_right (by decide) (by omega))⟩
theorem bit_half (x : Nat) : x = b2n (x.testBit 0) + 2 * (x / 2) := by
  rw [Nat.testBit_zero]
  have := Nat.mod_two_eq_zero_or_one x
  rcases this with h | h
  · rw [h]; show x = 0 + 2 * (x / 2); omega
  · rw [h]; show x = 1 + 2 * (x / 2); omega
theorem runV_succ (σ : Nat → Nat) (i off len : Nat) : runV σ i off (len + 1) = runV σ i off len + b2n ((σ i).testBit (off + len)) * 2 ^ len := by
  unfold runV
  have h : σ i / 2 ^ off % 2 ^ (len + 1) = σ i / 2 ^ off % 2 ^ len + 2 ^ len * (σ i / 2 ^ off / 2 ^ len % 2) := Nat.mod_pow_succ
  rw [h, Nat.div_div_eq_div_mul, ← Nat.pow_add, Nat.testBit_eq_decide_div_mod_eq, Nat.mul_comm (2 ^ len)]
  rcases Nat.mod_two_eq_zero_or_one (σ i / 2 ^ (off + len)) with e | e
  · rw [e]; rfl
  · rw [e]; rfl

/-- The bits that are gathered are those of the number. -/
theorem canB_ok {σ : Nat → Nat} {t0 : Tm} {X : Nat} : ∀ {l : List Nat} {x p : Nat} {r : Run} {acc t : Tm}, Lok σ l x → r.ok σ acc p → p ≤ 64 → acc.ev σ + r.val σ + 2 ^ p * x = X →
    canB t0 l p r acc = some t → t.ev σ = X := by
  intro l
  induction l with
  | nil =>
    intro x p r acc t hl hr hp hX h
    change some (r.flush acc) = some t at h
    cases h
    rw [hl.nil0, Nat.mul_zero, Nat.add_zero] at hX
    rw [(Run.flush_ev hr hp).1, hX]
  | cons c l ih =>
    intro x p r acc t hl hr hp hX h
    change (bc (Nat.blt p 64) (forceN c fun c => bc (Nat.beq c 0) (stepZ r acc fun r acc => canB t0 l (Nat.succ p) r acc) (bc (Nat.beq c 1) (stepO r p acc fun r acc => canB t0 l (Nat.succ p) r acc)
      (bc (Nat.ble 4 c) (bc (Nat.beq (Nat.mod c 4) 0) (forceN (Nat.div (Nat.sub c 4) 4) fun m => force3 (Nat.div m 64) (Nat.mod m 64) p fun i k p => stepV t0 r p i k acc fun r acc => canB t0 l (Nat.succ p) r acc) none) none))) none) = some t at h
    rw [forceN_eq] at h
    cases hlt : Nat.blt p 64
    · rw [hlt] at h; cases h
    rw [hlt] at h
    have hlt := of_nblt hlt
    have hlt' : p + 1 ≤ 64 := hlt
    have hs : 2 ^ (Nat.succ p) * (x / 2) = 2 ^ (p + 1) * (x / 2) := rfl
    have hx := bit_half x
    have htail := hl.tail
    have hhead := hl.head
    have hpow : 2 ^ (p + 1) * (x / 2) = 2 ^ p * (2 * (x / 2)) := by rw [Nat.pow_succ, Nat.mul_assoc]
    have hX' : acc.ev σ + r.val σ + b2n (x.testBit 0) * 2 ^ p + 2 ^ (p + 1) * (x / 2) = X := by
      rw [hpow, ← hX]
      have : 2 ^ p * x = 2 ^ p * (b2n (x.testBit 0)) + 2 ^ p * (2 * (x / 2)) := by rw [← Nat.mul_add, ← hx]
      rw [this, Nat.mul_comm (2 ^ p) (b2n _)]; omega
    have hf := Run.flush_ev hr hp
    cases h0 : Nat.beq c 0
    · rw [h0] at h
      cases h1 : Nat.beq c 1
      · rw [h1] at h
        change bc (Nat.ble 4 c) (bc (Nat.beq (Nat.mod c 4) 0) (forceN (Nat.div (Nat.sub c 4) 4) fun m => force3 (Nat.div m 64) (Nat.mod m 64) p fun i k p => stepV t0 r p i k acc fun r acc => canB t0 l (Nat.succ p) r acc) none) none = some t at h
        cases h4 : Nat.ble 4 c
        · rw [h4] at h; cases h
        rw [h4] at h
        cases hm : Nat.beq (Nat.mod c 4) 0
        · rw [hm] at h; cases h
        rw [hm] at h
        change (forceN (Nat.div (Nat.sub c 4) 4) fun m => force3 (Nat.div m 64) (Nat.mod m 64) p fun i k p => stepV t0 r p i k acc fun r acc => canB t0 l (Nat.succ p) r acc) = some t at h
        rw [forceN_eq, force3_eq] at h
        have h4 := of_nble h4
        have hm : c % 4 = 0 := of_nbeq hm
        have hb : x.testBit 0 = (σ ((c - 4) / 4 / 64)).testBit ((c - 4) / 4 % 64) := by
          have := hhead.2.2.2 h4
          rw [bden_eq h4, if_pos (by omega)] at this
          rw [this, show c % 2 = 0 by omega]; simp
        generalize hi : Nat.div (Nat.div (Nat.sub c 4) 4) 64 = i at h
        generalize hk : Nat.mod (Nat.div (Nat.sub c 4) 4) 64 = k at h
        have hb : x.testBit 0 = (σ i).testBit k := by rw [hb, ← hi, ← hk]; rfl
        have new : ∀ {a : Tm} {g : Run → Option Tm}, a.ev σ < 2 ^ p → a.ev σ + b2n ((σ i).testBit k) * 2 ^ p + 2 ^ (p + 1) * (x / 2) = X →
            newR t0 p i k g = some t → (∀ r, g r = some t → canB t0 l (Nat.succ p) r a = some t) → t.ev σ = X := by
          intro a g ha hXa hn hg
          unfold newR at hn
          rw [forceN_eq] at hn
          cases hkw : Nat.blt k (wOf i t0)
          · rw [hkw] at hn; cases hn
          · rw [hkw] at hn
            have hkw := of_nblt hkw
            refine ih (r := .bits p (wOf i t0) i k 1) htail ⟨ha, rfl, Nat.one_pos, hkw⟩ hlt ?_ (hg _ hn)
            rw [← hXa]
            show a.ev σ + runV σ i k 1 * 2 ^ p + 2 ^ (p + 1) * (x / 2) = _
            have := runV_succ σ i k 0
            rw [show runV σ i k 0 = 0 by unfold runV; rw [Nat.pow_zero, Nat.mod_one], Nat.pow_zero, Nat.mul_one, Nat.zero_add, Nat.add_zero] at this
            rw [Nat.zero_add] at this
            rw [this]
        rw [hb] at hX'
        cases r with
        | no =>
          change newR t0 p i k (fun r => canB t0 l (Nat.succ p) r acc) = some t at h
          exact new (a := acc) (by exact hr) (by exact hX') h (fun r hr => hr)
        | num q v =>
          change newR t0 p i k (fun r => forceT ((Run.num q v).flush acc) fun acc => canB t0 l (Nat.succ p) r acc) = some t at h
          exact new (a := (Run.num q v).flush acc) (by rw [hf.1]; exact hf.2) (by rw [hf.1]; exact hX') h (fun r hr => by rw [forceT_eq] at hr; exact hr)
        | bits q w j off len =>
          change bc (band (Nat.beq i j) (band (Nat.beq k (Nat.add off len)) (Nat.blt k w))) (forceN (Nat.succ len) fun len => canB t0 l (Nat.succ p) (.bits q w j off len) acc)
            (newR t0 p i k fun r => forceT ((Run.bits q w j off len).flush acc) fun acc => canB t0 l (Nat.succ p) r acc) = some t at h
          cases hc : band (Nat.beq i j) (band (Nat.beq k (Nat.add off len)) (Nat.blt k w))
          · rw [hc] at h
            exact new (a := (Run.bits q w j off len).flush acc) (by rw [hf.1]; exact hf.2) (by rw [hf.1]; exact hX') h (fun r hr => by rw [forceT_eq] at hr; exact hr)
          · rw [hc] at h
            obtain ⟨c1, c2⟩ := band_eq hc
            obtain ⟨c2, c3⟩ := band_eq c2
            have c1 := of_nbeq c1
            have c2 : k = off + len := of_nbeq c2
            have c3 := of_nblt c3
            subst c1
            obtain ⟨g1, g2, g3, g4⟩ := hr
            rw [bc_true, forceN_eq] at h
            refine ih (r := .bits q w i off (len + 1)) htail ⟨g1, by omega, by omega, by omega⟩ hlt ?_ h
            rw [← hX']
            show acc.ev σ + runV σ i off (len + 1) * 2 ^ q + 2 ^ (p + 1) * (x / 2) = acc.ev σ + runV σ i off len * 2 ^ q + b2n ((σ i).testBit k) * 2 ^ p + _
            rw [runV_succ, Nat.add_mul, Nat.mul_assoc, ← Nat.pow_add, show len + q = p by omega, c2]
            omega
      · rw [h1] at h
        have h1 := of_nbeq h1
        subst h1
        rw [hhead.of1] at hX'
        change stepO r p acc (fun r acc => canB t0 l (Nat.succ p) r acc) = some t at h
        have hX' : acc.ev σ + r.val σ + 2 ^ p + 2 ^ (p + 1) * (x / 2) = X := by rw [← hX']; simp [b2n]
        cases r with
        | no =>
          refine ih (r := .num p 1) htail ⟨hr, by omega, by rw [show p + 1 - p = 1 by omega]; decide⟩ hlt ?_ h
          rw [← hX']; show acc.ev σ + 1 * 2 ^ p + _ = acc.ev σ + 0 + 2 ^ p + _; omega
        | num q v =>
          obtain ⟨g1, g2, g3⟩ := hr
          change (forceN (Nat.add v (p2 (Nat.sub p q))) fun v => canB t0 l (Nat.succ p) (.num q v) acc) = some t at h
          rw [forceN_eq] at h
          have e : 2 ^ (Nat.succ p - q) = 2 ^ (p - q) + 2 ^ (p - q) := by rw [show Nat.succ p - q = (p - q) + 1 by omega, Nat.pow_succ]; omega
          refine ih (r := .num q (v + 2 ^ (p - q))) htail ⟨g1, by omega, by omega⟩ hlt ?_ h
          rw [← hX']
          show acc.ev σ + (v + 2 ^ (p - q)) * 2 ^ q + _ = acc.ev σ + v * 2 ^ q + 2 ^ p + _
          rw [Nat.add_mul, ← Nat.pow_add, show p - q + q = p by omega]; omega
        | bits q w j off len =>
          change (forceT ((Run.bits q w j off len).flush acc) fun acc => canB t0 l (Nat.succ p) (.num p 1) acc) = some t at h
          rw [forceT_eq] at h
          refine ih (r := .num p 1) htail ⟨by rw [hf.1]; exact hf.2, by omega, by rw [show p + 1 - p = 1 by omega]; decide⟩ hlt ?_ h
          rw [← hX', hf.1]; show _ + 1 * 2 ^ p + _ = _; omega
    · rw [h0] at h
      have h0 := of_nbeq h0
      subst h0
      rw [hhead.of0] at hX'
      change stepZ r acc (fun r acc => canB t0 l (Nat.succ p) r acc) = some t at h
      have hX' : acc.ev σ + r.val σ + 2 ^ (p + 1) * (x / 2) = X := by rw [← hX']; simp [b2n]
      cases r with
      | no => exact ih (r := .no) htail (Run.ok_zero hr (.inl rfl)) hlt hX' h
      | num q v => exact ih (r := .num q v) htail (Run.ok_zero hr (.inr ⟨q, v, rfl⟩)) hlt hX' h
      | bits q w j off len =>
        change (forceT ((Run.bits q w j off len).flush acc) fun acc => canB t0 l (Nat.succ p) .no acc) = some t at h
        rw [forceT_eq] at h
        refine ih (r := .no) htail ?_ hlt ?_ h
        · show ((Run.bits q w j off len).flush acc).ev σ < 2 ^ (p + 1)
          rw [hf.1]
          exact Nat.lt_of_lt_of_le hf.2 (Nat.pow_le_pow_right (by decide) (by omega))
        · rw [← hX', hf.1]; show _ + 0 + _ = _; omega

/-- The one form, where there is one. -/
noncomputable def canT (t : Tm) : Tm := Option.rec t (fun t => t) (canB t (bitsOf [] [] t) 0 .no (.lit 0))
theorem canT_ev (σ : Nat → Nat) (t : Tm) : (canT t).ev σ = t.ev σ := by
  unfold canT
  cases h : canB t (bitsOf [] [] t) 0 .no (.lit 0) with
  | none => rfl
  | some t' =>
    refine canB_ok (x := t.ev σ) (r := .no) (bitsOf_ok (σ := σ) (by intro v hv; cases hv) (by intro b hb; cases hb) t) (by show (0 : Nat) < 2 ^ 0; decide) (by decide) ?_ h
    show 0 + 0 + 2 ^ 0 * t.ev σ = _
    rw [Nat.pow_zero, Nat.one_mul]; omega
/-- A sum, or both of two numbers, in its one form. -/
noncomputable def mkCan (o : O2) (w : Nat) (a b : Tm) : Tm := Option.rec (canT (.bin o w a b)) (fun x => Option.rec (canT (.bin o w a b)) (fun y => .lit (o.ev w x y)) (isLit b)) (isLit a)
theorem mkCan_ev (σ : Nat → Nat) (o w a b) : (mkCan o w a b).ev σ = o.ev w (a.ev σ) (b.ev σ) := by
  unfold mkCan
  cases ha : isLit a with
  | none => exact (canT_ev _ _).trans (ev_bin _ _ _ _ _)
  | some n =>
    show (Option.rec (canT (.bin o w a b)) (fun y => .lit (o.ev w n y)) (isLit b) : Tm).ev σ = _
    cases hb : isLit b with
    | none => exact (canT_ev _ _).trans (ev_bin _ _ _ _ _)
    | some m => rw [isLit_some ha, isLit_some hb]; rfl
/-- A term with a sum, or both of two numbers, within. -/
noncomputable def hasOr (t : Tm) : Bool :=
  Tm.rec (fun _ => false) (fun _ _ => false) (fun o _ _ x => bc (Nat.beq o.code 1) true x) (fun o _ _ _ x y => bc (Nat.beq o.code 5) true (bc (Nat.beq o.code 4) true (bc x true y))) (fun _ _ _ _ _ _ => false) (fun _ _ _ _ => false) t
/-- The low bits of a number that lies above them, and another one. -/
noncomputable def andAdd (w : Nat) (a b : Tm) : Option Tm :=
  Option.rec none (fun m => Tm.rec (fun _ => none) (fun _ _ => none) (fun _ _ _ _ => none) (fun o w' x y _ _ => bc (band (Nat.beq o.code 1) (Nat.beq w' w)) (Option.rec none (fun c =>
    bc (band (Nat.beq (ones m) m) (band (Nat.beq (Nat.mod c (Nat.succ m)) 0) (band (Nat.blt (rng [] y).hi (Nat.succ m)) (Nat.blt (Nat.add c (rng [] y).hi) (p2 w))))) (some y) none) (isLit x)) none) (fun _ _ _ _ _ _ => none) (fun _ _ _ _ => none) a) (isLit b)
theorem andAdd_ok {σ : Nat → Nat} {w : Nat} {a b y : Tm} (h : andAdd w a b = some y) : y.ev σ = O2.and.ev w (a.ev σ) (b.ev σ) := by
  unfold andAdd at h
  cases hb : isLit b with
  | none => rw [hb] at h; cases h
  | some m =>
    rw [hb] at h
    cases a with
    | bin o w' x z =>
      change bc (band (Nat.beq o.code 1) (Nat.beq w' w)) (Option.rec none (fun c =>
        bc (band (Nat.beq (ones m) m) (band (Nat.beq (Nat.mod c (Nat.succ m)) 0) (band (Nat.blt (rng [] z).hi (Nat.succ m)) (Nat.blt (Nat.add c (rng [] z).hi) (p2 w))))) (some z) none) (isLit x)) none = some y at h
      cases h1 : band (Nat.beq o.code 1) (Nat.beq w' w)
      · rw [h1] at h; cases h
      · rw [h1, bc_true] at h
        obtain ⟨g1, g2⟩ := band_eq h1
        have g1 := O2.code_inj (b := .add) (of_nbeq g1)
        have g2 := of_nbeq g2
        subst g1; subst g2
        cases hx : isLit x with
        | none => rw [hx] at h; cases h
        | some c =>
          rw [hx] at h
          change bc (band (Nat.beq (ones m) m) (band (Nat.beq (Nat.mod c (Nat.succ m)) 0) (band (Nat.blt (rng [] z).hi (Nat.succ m)) (Nat.blt (Nat.add c (rng [] z).hi) (p2 w'))))) (some z) none = some y at h
          cases h2 : band (Nat.beq (ones m) m) (band (Nat.beq (Nat.mod c (Nat.succ m)) 0) (band (Nat.blt (rng [] z).hi (Nat.succ m)) (Nat.blt (Nat.add c (rng [] z).hi) (p2 w'))))
          · rw [h2] at h; cases h
          · rw [h2, bc_true] at h
            cases h
            obtain ⟨q1, q⟩ := band_eq h2
            obtain ⟨q2, q⟩ := band_eq q
            obtain ⟨q3, q4⟩ := band_eq q
            have q1 : 2 ^ (Nat.log2 m + 1) - 1 = m := of_nbeq q1
            have q2 : c % (m + 1) = 0 := of_nbeq q2
            have q3 : (rng [] y).hi < m + 1 := of_nblt q3
            have q4 : c + (rng [] y).hi < 2 ^ w' := of_nblt q4
            have hr := (rng_ok (σ := σ) (l := []) (by intro b hb; cases hb) y).2
            rw [isLit_some hx, isLit_some hb]
            show y.ev σ = (c + y.ev σ) % 2 ^ w' &&& m
            rw [Nat.mod_eq_of_lt (by omega)]
            have hp := Nat.two_pow_pos (Nat.log2 m + 1)
            have hm : m + 1 = 2 ^ (Nat.log2 m + 1) := by omega
            rw [← q1, Nat.and_two_pow_sub_one_eq_mod, ← hm, Nat.add_mod, q2, Nat.zero_add, Nat.mod_mod, Nat.mod_eq_of_lt (by omega)]
    | _ => cases h
noncomputable def mkAndC (w : Nat) (a b : Tm) : Tm := Option.rec (bc (hasOr a) (mkCan .and w a b) (mkBin .and w a b)) (fun y => y) (andAdd w a b)
theorem mkAndC_ev (σ : Nat → Nat) (w a b) : (mkAndC w a b).ev σ = O2.and.ev w (a.ev σ) (b.ev σ) := by
  unfold mkAndC
  cases hy : andAdd w a b with
  | some y => exact andAdd_ok hy
  | none =>
    show (bc (hasOr a) (mkCan .and w a b) (mkBin .and w a b)).ev σ = _
    cases hasOr a
    · exact mkBin_ev _ _ _ _ _
    · exact mkCan_ev _ _ _ _ _

end Go.Sy
end

section
/- What is known on a way: facts, bounds, bits, laws beside. -/
namespace Go.Sy

/-! ### Facts -/
structure Sub where
  i : Nat
  w : Nat
  n : Nat
/-- A law of terms, proved beside: with these facts that is none of 0. -/
structure Vc where
  facts : List Tm
  goal : Tm
def Vc.ok (σ : Nat → Nat) (v : Vc) : Prop := (∀ t ∈ v.facts, t.ev σ ≠ 0) → v.goal.ev σ ≠ 0
/-- Where a way is not known: on which term it is to be parted first, as far as 'on' is known. -/
structure Hint where
  on : Tm
  by_ : Tm
structure PC where
  facts : List Tm
  subs : List Sub
  bnds : List Bnd
  kv : List KV
  lems : List Vc
  cz : Nat
  hints : List Hint
  nv : Nat

def PC.ok (σ : Nat → Nat) (pc : PC) : Prop := (∀ t ∈ pc.facts, t.ev σ ≠ 0) ∧ (∀ s ∈ pc.subs, σ s.i % 2 ^ s.w = s.n) ∧ (∀ b ∈ pc.bnds, b.ok σ) ∧ (∀ v ∈ pc.kv, v.ok σ) ∧ ∀ v ∈ pc.lems, v.ok σ

noncomputable def subAt (l : List Sub) (i w : Nat) : Tm :=
  List.rec (.var i w) (fun s _ ih => bc (band (Nat.beq s.i i) (Nat.beq s.w w)) (.lit s.n) ih) l
theorem subAt_ev {σ} {l : List Sub} (h : ∀ s ∈ l, σ s.i % 2 ^ s.w = s.n) (i w : Nat) : (subAt l i w).ev σ = σ i % 2 ^ w := by
  induction l with
  | nil => rfl
  | cons s l ih =>
    show Tm.ev σ (bc (band (Nat.beq s.i i) (Nat.beq s.w w)) (.lit s.n) (subAt l i w)) = _
    cases hb : band (Nat.beq s.i i) (Nat.beq s.w w)
    · exact ih fun x hx => h x (List.mem_cons_of_mem _ hx)
    · obtain ⟨h1, h2⟩ := band_eq hb
      show s.n = _
      rw [← h s List.mem_cons_self, of_nbeq h1, of_nbeq h2]

noncomputable def redT (l : List Sub) (t : Tm) : Tm :=
  Tm.rec (fun n => .lit n) (fun i w => subAt l i w) (fun o w _ a => mkUn o w a) (fun o w _ _ a b => mkBin o w a b) (fun _ _ _ c a b => mkIte c a b) (fun f w _ a => .app f w a) t
theorem redT_ev {σ} {l : List Sub} (h : ∀ s ∈ l, σ s.i % 2 ^ s.w = s.n) (t : Tm) : (redT l t).ev σ = t.ev σ := by
  induction t with
  | lit n => rfl
  | var i w => exact subAt_ev h i w
  | un o w a ih => show (mkUn o w (redT l a)).ev σ = _; rw [mkUn_ev, ih, ev_un]
  | bin o w a b iha ihb => show (mkBin o w (redT l a) (redT l b)).ev σ = _; rw [mkBin_ev, iha, ihb, ev_bin]
  | ite c a b ihc iha ihb => show (mkIte (redT l c) (redT l a) (redT l b)).ev σ = _; rw [mkIte_ev, ihc, iha, ihb, ev_ite]
  | app f w a ih => show (Tm.app f w (redT l a)).ev σ = _; rw [ev_app, ev_app, ih]

noncomputable def mkNot (t : Tm) : Tm := mkUn .bnot 1 t
theorem mkNot_ev (σ) (t : Tm) : (mkNot t).ev σ = if t.ev σ = 0 then 1 else 0 := by
  unfold mkNot; rw [mkUn_ev]
  show bc (Nat.beq (t.ev σ) 0) 1 0 = _
  by_cases h : t.ev σ = 0
  · rw [nbeq_t h, if_pos h]
  · rw [nbeq_f h, if_neg h]

noncomputable def inFacts (l : List Tm) (t : Tm) : Bool := List.rec false (fun x _ ih => bc (Tm.same x t) true ih) l
theorem inFacts_mem {l : List Tm} {t : Tm} (h : inFacts l t = true) : t ∈ l := by
  induction l with
  | nil => cases h
  | cons x l ih =>
    change bc (Tm.same x t) true (inFacts l t) = true at h
    cases hb : Tm.same x t
    · rw [hb] at h; exact List.mem_cons_of_mem _ (ih h)
    · rw [← Tm.same_eq hb]; exact List.mem_cons_self

noncomputable def allIn (l : List Tm) (fs : List Tm) : Bool := List.rec true (fun f _ ih => bc (inFacts l f) ih false) fs
theorem allIn_mem {l : List Tm} {fs : List Tm} (h : allIn l fs = true) : ∀ t ∈ fs, t ∈ l := by
  induction fs with
  | nil => intro t ht; cases ht
  | cons f fs ih =>
    change bc (inFacts l f) (allIn l fs) false = true at h
    cases hb : inFacts l f
    · rw [hb] at h; cases h
    · rw [hb] at h
      intro t ht
      rcases List.mem_cons.1 ht with rfl | ht
      · exact inFacts_mem hb
      · exact ih h t ht
/-- Whether a law proved beside says it. -/
noncomputable def byLem (l : List Tm) (vs : List Vc) (t : Tm) : Bool := List.rec false (fun v _ ih => bc (Tm.same v.goal t) (bc (allIn l v.facts) true ih) ih) vs
theorem byLem_ok {σ} {l : List Tm} {vs : List Vc} {t : Tm} (hl : ∀ t ∈ l, t.ev σ ≠ 0) (hv : ∀ v ∈ vs, v.ok σ) (h : byLem l vs t = true) : t.ev σ ≠ 0 := by
  induction vs with
  | nil => cases h
  | cons v vs ih =>
    have ih := ih fun x hx => hv x (List.mem_cons_of_mem _ hx)
    change bc (Tm.same v.goal t) (bc (allIn l v.facts) true (byLem l vs t)) (byLem l vs t) = true at h
    cases h1 : Tm.same v.goal t
    · rw [h1] at h; exact ih h
    · rw [h1] at h
      cases h2 : allIn l v.facts
      · rw [h2] at h; exact ih h
      · rw [← Tm.same_eq h1]
        exact hv v List.mem_cons_self fun t ht => hl t (allIn_mem h2 t ht)

theorem ne_of_not {σ} {t : Tm} (h : (mkNot t).ev σ ≠ 0) : t.ev σ = 0 := by
  rw [mkNot_ev] at h
  by_cases e : t.ev σ = 0
  · exact e
  · rw [if_neg e] at h; exact absurd rfl h
/-- A verdict: 1 it is, 0 it is not, 2 nobody knows. -/
def Vok (σ : Nat → Nat) (t : Tm) (d : Nat) : Prop := (d = 1 → t.ev σ ≠ 0) ∧ (d = 0 → t.ev σ = 0)
theorem Vok.two {σ t} : Vok σ t 2 := ⟨(fun h => by cases h), (fun h => by cases h)⟩
theorem Vok.one {σ t} (h : t.ev σ ≠ 0) : Vok σ t 1 := ⟨fun _ => h, (fun h => by cases h)⟩
theorem Vok.zero {σ t} (h : t.ev σ = 0) : Vok σ t 0 := ⟨(fun h => by cases h), fun _ => h⟩

/-- Whether a fact is known as such. -/
noncomputable def decF (pc : PC) (t : Tm) (els : Nat) : Nat :=
  Option.rec (bc (inFacts pc.facts t) 1 (bc (inFacts pc.facts (mkNot t)) 0 (bc (byLem pc.facts pc.lems t) 1 (bc (byLem pc.facts pc.lems (mkNot t)) 0 els)))) (fun n => bc (Nat.beq n 0) 0 1) (isLit t)
theorem decF_ok {σ} {pc : PC} (h : pc.ok σ) {t : Tm} {els : Nat} (he : Vok σ t els) : Vok σ t (decF pc t els) := by
  unfold decF
  cases hl : isLit t with
  | some n =>
    rw [isLit_some hl]
    by_cases hn : n = 0
    · subst hn; exact Vok.zero rfl
    · show Vok σ _ (bc (Nat.beq n 0) 0 1)
      rw [nbeq_f hn]; exact Vok.one hn
  | none =>
    show Vok σ t (bc (inFacts pc.facts t) 1 (bc (inFacts pc.facts (mkNot t)) 0 (bc (byLem pc.facts pc.lems t) 1 (bc (byLem pc.facts pc.lems (mkNot t)) 0 els))))
    cases h1 : inFacts pc.facts t
    · cases h2 : inFacts pc.facts (mkNot t)
      · cases h5 : byLem pc.facts pc.lems t
        · cases h6 : byLem pc.facts pc.lems (mkNot t)
          · exact he
          · exact Vok.zero (ne_of_not (byLem_ok h.1 h.2.2.2.2 h6))
        · exact Vok.one (byLem_ok h.1 h.2.2.2.2 h5)
      · exact Vok.zero (ne_of_not (h.1 _ (inFacts_mem h2)))
    · exact Vok.one (h.1 _ (inFacts_mem h1))

noncomputable def appTm (l m : List Tm) : List Tm := List.rec m (fun x _ ih => x :: ih) l
/-! ### Sums of 64 bits, laid side by side -/
structure LF where
  l : List Tm
  c : Nat
noncomputable def sumE (σ : Nat → Nat) (l : List Tm) : Nat := List.rec 0 (fun t _ ih => Nat.add (t.ev σ) ih) l
theorem sumE_app (σ : Nat → Nat) : ∀ l m : List Tm, sumE σ (appTm l m) = sumE σ l + sumE σ m
  | [], m => (Nat.zero_add _).symm
  | x :: l, m => by
    show x.ev σ + sumE σ (appTm l m) = x.ev σ + sumE σ l + sumE σ m
    rw [sumE_app σ l m]; omega
noncomputable def LF.den (σ : Nat → Nat) (x : LF) : Nat := Nat.add (sumE σ x.l) x.c
noncomputable def flatG (v : Nat → Nat → LF) (t : Tm) : LF :=
  Tm.rec (fun n => ⟨[], n⟩) (fun i w => v i w) (fun o w a ih => O1.rec (bc (Nat.beq w 64) ih ⟨[.un o w a], 0⟩) (fun _ => ⟨[.un o w a], 0⟩) ⟨[.un o w a], 0⟩ o)
    (fun o w a b iha ihb => bc (band (Nat.beq o.code 1) (Nat.beq w 64)) ⟨appTm iha.l ihb.l, Nat.add iha.c ihb.c⟩ ⟨[.bin o w a b], 0⟩) (fun c a b _ _ _ => ⟨[.ite c a b], 0⟩) (fun f w a _ => ⟨[.app f w a], 0⟩) t
theorem one_den (σ : Nat → Nat) (t : Tm) : (LF.mk [t] 0).den σ = t.ev σ := by show t.ev σ + 0 + 0 = _; omega
theorem flatG_ok {σ : Nat → Nat} {v : Nat → Nat → LF} (hv : ∀ i w, (v i w).den σ % 2 ^ 64 = (Tm.var i w).ev σ % 2 ^ 64) : ∀ t : Tm, (flatG v t).den σ % 2 ^ 64 = t.ev σ % 2 ^ 64 := by
  intro t
  induction t with
  | lit n => show (0 + n) % 2 ^ 64 = n % 2 ^ 64; rw [Nat.zero_add]
  | var i w => exact hv i w
  | un o w a ih =>
    have base : (LF.mk [.un o w a] 0).den σ % 2 ^ 64 = (Tm.un o w a).ev σ % 2 ^ 64 := by rw [one_den]
    cases o with
    | tr =>
      show (bc (Nat.beq w 64) (flatG v a) ⟨[.un .tr w a], 0⟩ : LF).den σ % 2 ^ 64 = _
      by_cases e : w = 64
      · subst e
        rw [nbeq_t rfl, bc_true, ih]
        show _ = a.ev σ % 2 ^ 64 % 2 ^ 64
        rw [Nat.mod_mod]
      · rw [nbeq_f e]; exact base
    | sx ws => exact base
    | bnot => exact base
  | bin o w a b iha ihb =>
    show (bc (band (Nat.beq o.code 1) (Nat.beq w 64)) ⟨appTm (flatG v a).l (flatG v b).l, Nat.add (flatG v a).c (flatG v b).c⟩ ⟨[.bin o w a b], 0⟩ : LF).den σ % 2 ^ 64 = _
    cases hb : band (Nat.beq o.code 1) (Nat.beq w 64)
    · rw [bc_false, one_den]
    · obtain ⟨h1, h2⟩ := band_eq hb
      have h1 := O2.code_inj (b := .add) (of_nbeq h1)
      have h2 := of_nbeq h2
      subst h1; subst h2
      rw [bc_true]
      show (sumE σ (appTm (flatG v a).l (flatG v b).l) + ((flatG v a).c + (flatG v b).c)) % 2 ^ 64 = (a.ev σ + b.ev σ) % 2 ^ 64 % 2 ^ 64
      rw [sumE_app, Nat.mod_mod, Nat.add_mod (a.ev σ), ← iha, ← ihb, ← Nat.add_mod]
      show _ = (sumE σ (flatG v a).l + (flatG v a).c + (sumE σ (flatG v b).l + (flatG v b).c)) % 2 ^ 64
      congr 1; omega
  | ite c a b _ _ _ => show (LF.mk [.ite c a b] 0).den σ % 2 ^ 64 = _; rw [one_den]
  | app f w a _ => show (LF.mk [.app f w a] 0).den σ % 2 ^ 64 = _; rw [one_den]
/-- What a variable is the same as. -/
noncomputable def asVar (i : Nat) (t : Tm) : Option Tm :=
  Tm.rec (fun _ => none) (fun _ _ => none) (fun _ _ _ _ => none) (fun o w a b _ _ => bc (band (Nat.beq o.code 10) (Nat.beq w 64))
    (Tm.rec (fun _ => none) (fun j w' => bc (band (Nat.beq j i) (Nat.beq w' 64)) (some b) none) (fun _ _ _ _ => none) (fun _ _ _ _ _ _ => none) (fun _ _ _ _ _ _ => none) (fun _ _ _ _ => none) a) none) (fun _ _ _ _ _ _ => none) (fun _ _ _ _ => none) t
theorem asVar_ok {σ : Nat → Nat} {i : Nat} {t r : Tm} (h : asVar i t = some r) (ht : t.ev σ ≠ 0) : (Tm.var i 64).ev σ = r.ev σ := by
  cases t with
  | bin o w a b =>
    change bc (band (Nat.beq o.code 10) (Nat.beq w 64)) (Tm.rec (fun _ => none) (fun j w' => bc (band (Nat.beq j i) (Nat.beq w' 64)) (some b) none) (fun _ _ _ _ => none) (fun _ _ _ _ _ _ => none) (fun _ _ _ _ _ _ => none) (fun _ _ _ _ => none) a) none = some r at h
    cases hb : band (Nat.beq o.code 10) (Nat.beq w 64)
    · rw [hb] at h; cases h
    · rw [hb, bc_true] at h
      obtain ⟨h1, h2⟩ := band_eq hb
      have h1 := O2.code_inj (b := .eq) (of_nbeq h1)
      subst h1
      cases a with
      | var j w' =>
        change bc (band (Nat.beq j i) (Nat.beq w' 64)) (some b) none = some r at h
        cases hb' : band (Nat.beq j i) (Nat.beq w' 64)
        · rw [hb'] at h; cases h
        · rw [hb', bc_true] at h
          cases h
          obtain ⟨g1, g2⟩ := band_eq hb'
          rw [← of_nbeq g1, ← of_nbeq g2]
          rw [ev_bin] at ht
          have : O2.eq.ev w ((Tm.var j w').ev σ) (r.ev σ) = b2n (Nat.beq ((Tm.var j w').ev σ) (r.ev σ)) := rfl
          rw [this] at ht
          by_cases e : (Tm.var j w').ev σ = r.ev σ
          · exact e
          · rw [nbeq_f e] at ht; exact absurd rfl ht
      | _ => cases h
  | _ => cases h
noncomputable def eqVar (l : List Tm) (i : Nat) : Option Tm := List.rec none (fun t _ ih => Option.rec ih (fun r => some r) (asVar i t)) l
theorem eqVar_ok {σ : Nat → Nat} {i : Nat} {r : Tm} : ∀ {l : List Tm}, (∀ t ∈ l, t.ev σ ≠ 0) → eqVar l i = some r → (Tm.var i 64).ev σ = r.ev σ
  | [], _, h => by cases h
  | t :: l, hl, h => by
    change Option.rec (eqVar l i) (fun r => some r) (asVar i t) = some r at h
    cases ha : asVar i t with
    | none => rw [ha] at h; exact eqVar_ok (fun x hx => hl x (List.mem_cons_of_mem _ hx)) h
    | some r' => rw [ha] at h; cases h; exact asVar_ok ha (hl t List.mem_cons_self)
noncomputable def flat0 (t : Tm) : LF := flatG (fun i w => ⟨[.var i w], 0⟩) t
noncomputable def flat1 (l : List Tm) (t : Tm) : LF := flatG (fun i w => bc (Nat.beq w 64) (Option.rec ⟨[.var i w], 0⟩ (fun r => flat0 r) (eqVar l i)) ⟨[.var i w], 0⟩) t
theorem flat1_ok {σ : Nat → Nat} {l : List Tm} (hl : ∀ t ∈ l, t.ev σ ≠ 0) (t : Tm) : (flat1 l t).den σ % 2 ^ 64 = t.ev σ % 2 ^ 64 := by
  refine flatG_ok (fun i w => ?_) t
  by_cases e : w = 64
  · subst e
    rw [nbeq_t rfl, bc_true]
    cases hv : eqVar l i with
    | none => show (LF.mk [.var i 64] 0).den σ % 2 ^ 64 = _; rw [one_den]
    | some r =>
      show (flat0 r).den σ % 2 ^ 64 = _
      rw [eqVar_ok hl hv]
      exact flatG_ok (fun i w => by rw [one_den]) r
  · rw [nbeq_f e, bc_false, one_den]
/-- Take one away. -/
noncomputable def rmT (x : Tm) (m : List Tm) : Option (List Tm) := List.rec none (fun y t ih => bc (Tm.same x y) (some t) (Option.rec none (fun r => some (y :: r)) ih)) m
theorem rmT_ok {σ : Nat → Nat} {x : Tm} : ∀ {m r : List Tm}, rmT x m = some r → sumE σ m = x.ev σ + sumE σ r
  | [], _, h => by cases h
  | y :: m, r, h => by
    change bc (Tm.same x y) (some m) (Option.rec none (fun r => some (y :: r)) (rmT x m)) = some r at h
    cases hs : Tm.same x y
    · rw [hs, bc_false] at h
      cases hr : rmT x m with
      | none => rw [hr] at h; cases h
      | some r' =>
        rw [hr] at h
        cases h
        show y.ev σ + sumE σ m = x.ev σ + (y.ev σ + sumE σ r')
        rw [rmT_ok hr]; omega
    · rw [hs, bc_true] at h
      cases h
      rw [Tm.same_eq hs]; rfl
structure L2 where
  a : List Tm
  b : List Tm
noncomputable def cancelT (l : List Tm) : List Tm → L2 := List.rec (motive := fun _ => List Tm → L2) (fun m => ⟨[], m⟩) (fun x _ ih m => Option.rec ⟨x :: (ih m).a, (ih m).b⟩ (fun m' => ih m') (rmT x m)) l
theorem cancelT_ok {σ : Nat → Nat} : ∀ (l m : List Tm), sumE σ l + sumE σ (cancelT l m).b = sumE σ m + sumE σ (cancelT l m).a
  | [], m => by show 0 + sumE σ m = sumE σ m + 0; omega
  | x :: l, m => by
    show x.ev σ + sumE σ l + sumE σ (Option.rec (motive := fun _ => L2) ⟨x :: (cancelT l m).a, (cancelT l m).b⟩ (fun m' => cancelT l m') (rmT x m)).b = sumE σ m + sumE σ (Option.rec (motive := fun _ => L2) ⟨x :: (cancelT l m).a, (cancelT l m).b⟩ (fun m' => cancelT l m') (rmT x m)).a
    cases hr : rmT x m with
    | none =>
      have := cancelT_ok (σ := σ) l m
      show x.ev σ + sumE σ l + sumE σ (cancelT l m).b = sumE σ m + (x.ev σ + sumE σ (cancelT l m).a)
      omega
    | some m' =>
      have := cancelT_ok (σ := σ) l m'
      have h2 := rmT_ok (σ := σ) hr
      show x.ev σ + sumE σ l + sumE σ (cancelT l m').b = sumE σ m + sumE σ (cancelT l m').a
      omega
/-- One is no less than the other, as far as the facts say. -/
noncomputable def geB (pc : PC) (x y : Tm) : Bool :=
  bc (Nat.beq (decF pc (.bin .ult 64 x y) 2) 0) true (bc (Nat.beq (decF pc (.bin .slt 64 x y) 2) 0) (withB (rng pc.bnds x) fun r => bc (Nat.blt r.hi 9223372036854775808) (withB (rng pc.bnds y) fun r => Nat.blt r.hi 9223372036854775808) false) false)
theorem slt_nonneg {w x y : Nat} (hw : 0 < w) (hx : x < 2 ^ (w - 1)) (hy : y < 2 ^ (w - 1)) : O2.slt.ev w x y = b2n (Nat.blt x y) := by
  have hp : 2 ^ w = 2 ^ (w - 1) + 2 ^ (w - 1) := by
    conv => lhs; rw [show w = (w - 1) + 1 by omega, Nat.pow_succ]
    omega
  show b2n (Nat.blt ((x + 2 ^ (w - 1)) % 2 ^ w) ((y + 2 ^ (w - 1)) % 2 ^ w)) = _
  rw [Nat.mod_eq_of_lt (show x + 2 ^ (w - 1) < 2 ^ w by omega), Nat.mod_eq_of_lt (show y + 2 ^ (w - 1) < 2 ^ w by omega)]
  by_cases e : x < y
  · rw [nblt_t e, nblt_t (by omega)]
  · rw [nblt_f e, nblt_f (by omega)]
theorem geB_ok {σ} {pc : PC} (h : pc.ok σ) {x y : Tm} (hg : geB pc x y = true) : y.ev σ ≤ x.ev σ := by
  unfold geB at hg
  cases h1 : Nat.beq (decF pc (.bin .ult 64 x y) 2) 0
  · rw [h1, bc_false] at hg
    obtain ⟨h2, hg⟩ := band_eq (a := Nat.beq (decF pc (.bin .slt 64 x y) 2) 0) (show band _ _ = true from hg)
    rw [withB_eq] at hg
    obtain ⟨h3, hg⟩ := band_eq (show band _ _ = true from hg)
    rw [withB_eq] at hg
    have hx := (rng_ok h.2.2.1 x).2
    have hy := (rng_ok h.2.2.1 y).2
    have h3 := of_nblt h3
    have h4 := of_nblt hg
    have := (decF_ok h (t := .bin .slt 64 x y) Vok.two).2 (of_nbeq h2)
    have e63 : (9223372036854775808 : Nat) = 2 ^ (64 - 1) := by decide
    rw [e63] at h3 h4
    rw [ev_bin, slt_nonneg (by decide) (Nat.lt_of_le_of_lt hx h3) (Nat.lt_of_le_of_lt hy h4)] at this
    rcases Nat.lt_or_ge (x.ev σ) (y.ev σ) with hh | hh
    · rw [nblt_t hh] at this; cases this
    · exact hh
  · have := (decF_ok h (t := .bin .ult 64 x y) Vok.two).2 (of_nbeq h1)
    change b2n (Nat.blt (x.ev σ) (y.ev σ)) = 0 at this
    rcases Nat.lt_or_ge (x.ev σ) (y.ev σ) with hh | hh
    · rw [nblt_t hh] at this; cases this
    · exact hh
noncomputable def restB (pc : PC) (x : L2) : Bool :=
  List.rec (List.rec true (fun _ _ _ => false) x.b) (fun p t _ => List.rec (List.rec false (fun q t' _ => List.rec (band (geB pc p q) (geB pc q p)) (fun _ _ _ => false) t') x.b) (fun _ _ _ => false) t) x.a
theorem restB_ok {σ} {pc : PC} (h : pc.ok σ) {x : L2} (hr : restB pc x = true) : sumE σ x.a = sumE σ x.b := by
  obtain ⟨a, b⟩ := x
  cases a with
  | nil => cases b with
    | nil => rfl
    | cons _ _ => cases hr
  | cons p t => cases t with
    | cons _ _ => cases hr
    | nil => cases b with
      | nil => cases hr
      | cons q t' => cases t' with
        | cons _ _ => cases hr
        | nil =>
          obtain ⟨h1, h2⟩ := band_eq (show band (geB pc p q) (geB pc q p) = true from hr)
          have h1 := geB_ok h h1
          have h2 := geB_ok h h2
          show p.ev σ + 0 = q.ev σ + 0
          omega
/-- Two sums that are the same. -/
noncomputable def linEq (pc : PC) (a b : Tm) : Bool :=
  withB (rng pc.bnds a) fun r => bc (Nat.blt r.hi 18446744073709551616) (withB (rng pc.bnds b) fun r => bc (Nat.blt r.hi 18446744073709551616)
    (band (Nat.beq (Nat.mod (flat1 pc.facts a).c 18446744073709551616) (Nat.mod (flat1 pc.facts b).c 18446744073709551616)) (restB pc (cancelT (flat1 pc.facts a).l (flat1 pc.facts b).l))) false) false
theorem linEq_ok {σ} {pc : PC} (h : pc.ok σ) {a b : Tm} (hl : linEq pc a b = true) : a.ev σ = b.ev σ := by
  unfold linEq at hl
  rw [withB_eq] at hl
  obtain ⟨h1, hl⟩ := band_eq (show band _ _ = true from hl)
  rw [withB_eq] at hl
  obtain ⟨h2, hl⟩ := band_eq (show band _ _ = true from hl)
  obtain ⟨h3, h4⟩ := band_eq hl
  have ha := (rng_ok h.2.2.1 a).2
  have hb := (rng_ok h.2.2.1 b).2
  have h1 := of_nblt h1
  have h2 := of_nblt h2
  have h3 : (flat1 pc.facts a).c % 18446744073709551616 = (flat1 pc.facts b).c % 18446744073709551616 := of_nbeq h3
  have h5 := restB_ok h h4
  have h6 := cancelT_ok (σ := σ) (flat1 pc.facts a).l (flat1 pc.facts b).l
  have fa := flat1_ok h.1 a
  have fb := flat1_ok h.1 b
  change (sumE σ (flat1 pc.facts a).l + (flat1 pc.facts a).c) % 18446744073709551616 = a.ev σ % 18446744073709551616 at fa
  change (sumE σ (flat1 pc.facts b).l + (flat1 pc.facts b).c) % 18446744073709551616 = b.ev σ % 18446744073709551616 at fb
  rw [Nat.mod_eq_of_lt (show a.ev σ < 18446744073709551616 by omega)] at fa
  rw [Nat.mod_eq_of_lt (show b.ev σ < 18446744073709551616 by omega)] at fb
  omega
/-- One that is less: known by a fact. -/
noncomputable def ltF (pc : PC) (x y : Tm) : Bool :=
  bc (Nat.beq (decF pc (.bin .ult 64 x y) 2) 1) true (bc (Nat.beq (decF pc (.bin .slt 64 x y) 2) 1) (withB (rng pc.bnds x) fun r => bc (Nat.blt r.hi 9223372036854775808) (withB (rng pc.bnds y) fun r => Nat.blt r.hi 9223372036854775808) false) false)
theorem ltF_ok {σ} {pc : PC} (h : pc.ok σ) {x y : Tm} (hg : ltF pc x y = true) : x.ev σ < y.ev σ := by
  unfold ltF at hg
  cases h1 : Nat.beq (decF pc (.bin .ult 64 x y) 2) 1
  · rw [h1, bc_false] at hg
    obtain ⟨h2, hg⟩ := band_eq (a := Nat.beq (decF pc (.bin .slt 64 x y) 2) 1) (show band _ _ = true from hg)
    rw [withB_eq] at hg
    obtain ⟨h3, hg⟩ := band_eq (show band _ _ = true from hg)
    rw [withB_eq] at hg
    have hx := (rng_ok h.2.2.1 x).2
    have hy := (rng_ok h.2.2.1 y).2
    have h3 := of_nblt h3
    have h4 := of_nblt hg
    have := (decF_ok h (t := .bin .slt 64 x y) Vok.two).1 (of_nbeq h2)
    have e63 : (9223372036854775808 : Nat) = 2 ^ (64 - 1) := by decide
    rw [e63] at h3 h4
    rw [ev_bin, slt_nonneg (by decide) (Nat.lt_of_le_of_lt hx h3) (Nat.lt_of_le_of_lt hy h4)] at this
    rcases Nat.lt_or_ge (x.ev σ) (y.ev σ) with hh | hh
    · exact hh
    · rw [nblt_f (Nat.not_lt.2 hh)] at this; exact absurd rfl this
  · have := (decF_ok h (t := .bin .ult 64 x y) Vok.two).1 (of_nbeq h1)
    change b2n (Nat.blt (x.ev σ) (y.ev σ)) ≠ 0 at this
    rcases Nat.lt_or_ge (x.ev σ) (y.ev σ) with hh | hh
    · exact hh
    · rw [nblt_f (Nat.not_lt.2 hh)] at this; exact absurd rfl this
/-- A term that is another one and 1. -/
noncomputable def sucOf (t : Tm) : Option Tm :=
  Tm.rec (fun _ => none) (fun _ _ => none) (fun o w _ ih => O1.rec (bc (Nat.beq w 64) ih none) (fun _ => none) none o)
    (fun o w a b _ _ => bc (band (Nat.beq o.code 1) (Nat.beq w 64)) (Option.rec none (fun n => bc (Nat.beq n 1) (some a) none) (isLit b)) none) (fun _ _ _ _ _ _ => none) (fun _ _ _ _ => none) t
theorem sucOf_ok {σ : Nat → Nat} : ∀ {t x : Tm}, sucOf t = some x → t.ev σ ≤ x.ev σ + 1 := by
  intro t
  induction t with
  | un o w a ih =>
    intro x h
    cases o with
    | tr =>
      change bc (Nat.beq w 64) (sucOf a) none = some x at h
      cases hw : Nat.beq w 64
      · rw [hw] at h; cases h
      · rw [hw, bc_true] at h
        have := ih h
        show a.ev σ % 2 ^ w ≤ _
        exact Nat.le_trans (Nat.mod_le _ _) this
    | sx _ => cases h
    | bnot => cases h
  | bin o w a b _ _ =>
    intro x h
    change bc (band (Nat.beq o.code 1) (Nat.beq w 64)) (Option.rec none (fun n => bc (Nat.beq n 1) (some a) none) (isLit b)) none = some x at h
    cases hb : band (Nat.beq o.code 1) (Nat.beq w 64)
    · rw [hb] at h; cases h
    · rw [hb, bc_true] at h
      obtain ⟨h1, h2⟩ := band_eq hb
      have h1 := O2.code_inj (b := .add) (of_nbeq h1)
      subst h1
      cases hl : isLit b with
      | none => rw [hl] at h; cases h
      | some n =>
        rw [hl] at h
        change bc (Nat.beq n 1) (some a) none = some x at h
        cases hn : Nat.beq n 1
        · rw [hn] at h; cases h
        · rw [hn, bc_true] at h
          cases h
          rw [isLit_some hl, of_nbeq hn]
          show (a.ev σ + 1) % 2 ^ w ≤ _
          exact Nat.mod_le _ _
  | _ => intro x h; cases h
/-- Which of two is less: as far as facts say. -/
noncomputable def cmpF (pc : PC) (a b : Tm) : Nat := bc (ltF pc a b) 1 (bc (geB pc a b) 0 (bc (ltF pc b a) 0 2))
theorem cmpF_ok {σ} {pc : PC} (h : pc.ok σ) {a b : Tm} : (cmpF pc a b = 1 → a.ev σ < b.ev σ) ∧ (cmpF pc a b = 0 → b.ev σ ≤ a.ev σ) := by
  unfold cmpF
  cases h1 : ltF pc a b
  · cases h2 : geB pc a b
    · cases h3 : ltF pc b a
      · exact ⟨(fun h => by cases h), (fun h => by cases h)⟩
      · exact ⟨(fun h => by cases h), fun _ => Nat.le_of_lt (ltF_ok h h3)⟩
    · exact ⟨(fun h => by cases h), fun _ => geB_ok h h2⟩
  · exact ⟨fun _ => ltF_ok h h1, (fun h => by cases h)⟩
/-- Numbers that are not below 0, signed: as unsigned. -/
noncomputable def nn64 (pc : PC) (a b : Tm) : Bool := withB (rng pc.bnds a) fun r => bc (Nat.blt r.hi 9223372036854775808) (withB (rng pc.bnds b) fun r => Nat.blt r.hi 9223372036854775808) false
theorem nn64_ok {σ} {pc : PC} (h : pc.ok σ) {a b : Tm} (hn : nn64 pc a b = true) : a.ev σ < 2 ^ 63 ∧ b.ev σ < 2 ^ 63 := by
  unfold nn64 at hn
  rw [withB_eq] at hn
  obtain ⟨h3, hg⟩ := band_eq (show band _ _ = true from hn)
  rw [withB_eq] at hg
  have hx := (rng_ok h.2.2.1 a).2
  have hy := (rng_ok h.2.2.1 b).2
  have h3 := of_nblt h3
  have h4 := of_nblt hg
  exact ⟨Nat.lt_of_le_of_lt hx h3, Nat.lt_of_le_of_lt hy h4⟩
noncomputable def isN (n : Nat) (t : Tm) : Bool := Option.rec false (fun m => Nat.beq m n) (isLit t)
theorem isN_ok {n : Nat} {t : Tm} (h : isN n t = true) : t = .lit n := by
  unfold isN at h
  cases hl : isLit t with
  | none => rw [hl] at h; cases h
  | some m => rw [hl] at h; rw [isLit_some hl, of_nbeq h]
/-- The parts of a shift to the right. -/
noncomputable def shrOf (t : Tm) : Option (Tm × Tm) := Tm.rec (fun _ => none) (fun _ _ => none) (fun _ _ _ _ => none) (fun o w a b _ _ => bc (band (Nat.beq o.code 8) (Nat.beq w 64)) (some (a, b)) none) (fun _ _ _ _ _ _ => none) (fun _ _ _ _ => none) t
theorem shrOf_ok {t : Tm} {p : Tm × Tm} (h : shrOf t = some p) : t = .bin .shr 64 p.1 p.2 := by
  cases t with
  | bin o w a b =>
    change bc (band (Nat.beq o.code 8) (Nat.beq w 64)) (some (a, b)) none = some p at h
    cases hb : band (Nat.beq o.code 8) (Nat.beq w 64)
    · rw [hb] at h; cases h
    · rw [hb] at h; cases h
      obtain ⟨h1, h2⟩ := band_eq hb
      have h1 := O2.code_inj (b := .shr) (of_nbeq h1)
      have h2 := of_nbeq h2
      subst h1; subst h2; rfl
  | _ => cases h
/-- One that is a number less by 1. -/
noncomputable def predT (t : Tm) : Option Tm :=
  Tm.rec (fun n => bc (Nat.beq n 0) none (some (.lit (Nat.pred n)))) (fun _ _ => none) (fun _ _ _ _ => none) (fun o w a b _ _ => bc (band (Nat.beq o.code 1) (Nat.beq w 64)) (Option.rec none (fun n => bc (Nat.beq n 1) (some a) none) (isLit b)) none) (fun _ _ _ _ _ _ => none) (fun _ _ _ _ => none) t
theorem predT_ok {σ : Nat → Nat} {t p : Tm} (h : predT t = some p) : t.ev σ = p.ev σ + 1 ∨ (t.ev σ = (p.ev σ + 1) % 2 ^ 64) := by
  cases t with
  | lit n =>
    change bc (Nat.beq n 0) none (some (.lit (Nat.pred n))) = some p at h
    by_cases e : n = 0
    · rw [nbeq_t e] at h; cases h
    · rw [nbeq_f e] at h; cases h
      left
      show n = Nat.pred n + 1
      cases n with
      | zero => exact absurd rfl e
      | succ n => rfl
  | bin o w a b =>
    change bc (band (Nat.beq o.code 1) (Nat.beq w 64)) (Option.rec none (fun n => bc (Nat.beq n 1) (some a) none) (isLit b)) none = some p at h
    cases hb : band (Nat.beq o.code 1) (Nat.beq w 64)
    · rw [hb] at h; cases h
    · rw [hb, bc_true] at h
      obtain ⟨h1, h2⟩ := band_eq hb
      have h1 := O2.code_inj (b := .add) (of_nbeq h1)
      have h2 := of_nbeq h2
      subst h1; subst h2
      cases hl : isLit b with
      | none => rw [hl] at h; cases h
      | some n =>
        rw [hl] at h
        change bc (Nat.beq n 1) (some a) none = some p at h
        cases hn : Nat.beq n 1
        · rw [hn] at h; cases h
        · rw [hn, bc_true] at h
          cases h
          right
          rw [isLit_some hl, of_nbeq hn]; rfl
  | _ => cases h
/-- The lowest bit is none. -/
noncomputable def low0 (pc : PC) (y : Tm) : Bool := bc (Nat.beq (decF pc (.bin .eq 64 (.bin .and 64 y (.lit 1)) (.lit 0)) 2) 1) true (Option.rec false (fun b => Nat.beq b 0) (nthL (bitsOf pc.kv pc.bnds y)))
where nthL (l : List Nat) : Option Nat := List.rec none (fun x _ _ => some x) l
theorem low0_ok {σ} {pc : PC} (h : pc.ok σ) {y : Tm} (hl : low0 pc y = true) : y.ev σ % 2 = 0 := by
  unfold low0 at hl
  cases h1 : Nat.beq (decF pc (.bin .eq 64 (.bin .and 64 y (.lit 1)) (.lit 0)) 2) 1
  · rw [h1] at hl
    have hb := bitsOf_ok h.2.2.2.1 h.2.2.1 y
    cases hbits : bitsOf pc.kv pc.bnds y with
    | nil => rw [hbits] at hl; cases hl
    | cons x l =>
      rw [hbits] at hl hb
      have hx : x = 0 := of_nbeq (show Nat.beq x 0 = true from hl)
      subst hx
      have := hb.head.of0
      have := this
      rw [Nat.testBit_zero] at this
      simp at this; exact this
  · have := (decF_ok h (t := .bin .eq 64 (.bin .and 64 y (.lit 1)) (.lit 0)) Vok.two).1 (of_nbeq h1)
    change b2n (Nat.beq (y.ev σ &&& 1) 0) ≠ 0 at this
    by_cases e : y.ev σ &&& 1 = 0
    · rw [Nat.and_one_is_mod] at e; exact e
    · rw [nbeq_f e] at this; exact absurd rfl this
/-- A shift by one more is not 0, if that by one less is not, and has no lowest bit. -/
noncomputable def shrNz (pc : PC) (a : Tm) : Nat :=
  Option.rec 2 (fun p => withB (rng pc.bnds p.1) fun r => bc (Nat.blt r.hi 18446744073709551616) (Option.rec 2 (fun c => forceT (Option.rec (Tm.bin .shr 64 p.1 c) (fun n => bc (Nat.beq n 0) p.1 (.bin .shr 64 p.1 c)) (isLit c)) fun y =>
    bc (Nat.beq (decF pc (.bin .eq 64 y (.lit 0)) 2) 0) (bc (low0 pc y) 0 2) 2) (predT p.2)) 2) (shrOf a)
theorem shrNz_ok {σ} {pc : PC} (h : pc.ok σ) {a : Tm} (hs : shrNz pc a = 0) : a.ev σ ≠ 0 := by
  unfold shrNz at hs
  cases hp : shrOf a with
  | none => rw [hp] at hs; cases hs
  | some p =>
    rw [hp] at hs
    change (withB (rng pc.bnds p.1) fun r => bc (Nat.blt r.hi 18446744073709551616) (Option.rec 2 (fun c => forceT (Option.rec (Tm.bin .shr 64 p.1 c) (fun n => bc (Nat.beq n 0) p.1 (.bin .shr 64 p.1 c)) (isLit c)) fun y =>
      bc (Nat.beq (decF pc (.bin .eq 64 y (.lit 0)) 2) 0) (bc (low0 pc y) 0 2) 2) (predT p.2)) 2) = 0 at hs
    rw [withB_eq] at hs
    cases hr : Nat.blt (rng pc.bnds p.1).hi 18446744073709551616
    · rw [hr] at hs; cases hs
    · rw [hr] at hs
      have hx : p.1.ev σ < 18446744073709551616 := Nat.lt_of_le_of_lt (rng_ok h.2.2.1 p.1).2 (of_nblt hr)
      cases hc : predT p.2 with
      | none => rw [hc] at hs; cases hs
      | some c =>
        rw [hc] at hs
        change (forceT (Option.rec (Tm.bin .shr 64 p.1 c) (fun n => bc (Nat.beq n 0) p.1 (.bin .shr 64 p.1 c)) (isLit c)) fun y => bc (Nat.beq (decF pc (.bin .eq 64 y (.lit 0)) 2) 0) (bc (low0 pc y) 0 2) 2) = 0 at hs
        rw [forceT_eq] at hs
        generalize hy : (Option.rec (Tm.bin .shr 64 p.1 c) (fun n => bc (Nat.beq n 0) p.1 (.bin .shr 64 p.1 c)) (isLit c) : Tm) = y at hs
        have hyv : y.ev σ = if 64 ≤ c.ev σ then 0 else p.1.ev σ / 2 ^ c.ev σ := by
          have gen : (Tm.bin .shr 64 p.1 c).ev σ = if 64 ≤ c.ev σ then 0 else p.1.ev σ / 2 ^ c.ev σ := by
            show bc (Nat.ble 64 (c.ev σ)) 0 (Nat.div (p.1.ev σ) (p2 (c.ev σ))) = _
            by_cases e : 64 ≤ c.ev σ
            · rw [nble_t e, if_pos e]
            · rw [nble_f e, if_neg e]; rfl
          cases hl : isLit c with
          | none => rw [hl] at hy; rw [← hy]; exact gen
          | some n =>
            rw [hl] at hy
            change bc (Nat.beq n 0) p.1 (.bin .shr 64 p.1 c) = y at hy
            by_cases e : n = 0
            · rw [nbeq_t e] at hy
              have hc0 : c.ev σ = 0 := by rw [isLit_some hl, e]; rfl
              rw [hc0, if_neg (by decide), Nat.pow_zero, Nat.div_one]
              exact congrArg (Tm.ev σ) hy.symm
            · rw [nbeq_f e] at hy; rw [← hy]; exact gen
        cases hd : Nat.beq (decF pc (.bin .eq 64 y (.lit 0)) 2) 0
        · rw [hd] at hs; cases hs
        · rw [hd] at hs
          have hnz : y.ev σ ≠ 0 := by
            have := (decF_ok h (t := .bin .eq 64 y (.lit 0)) Vok.two).2 (of_nbeq hd)
            change b2n (Nat.beq (y.ev σ) 0) = 0 at this
            intro e; rw [nbeq_t e] at this; cases this
          cases hl0 : low0 pc y
          · rw [hl0] at hs; cases hs
          · have he := low0_ok h hl0
            rw [hyv] at hnz he
            have hc64 : ¬ 64 ≤ c.ev σ := fun e => by rw [if_pos e] at hnz; exact hnz rfl
            rw [if_neg hc64] at hnz he
            have e2 : p.2.ev σ = c.ev σ + 1 := by
              rcases predT_ok (σ := σ) hc with e | e
              · exact e
              · rw [e]; exact Nat.mod_eq_of_lt (by omega)
            rw [shrOf_ok hp]
            show bc (Nat.ble 64 (p.2.ev σ)) 0 (Nat.div (p.1.ev σ) (p2 (p.2.ev σ))) ≠ 0
            have hq : p.1.ev σ / 2 ^ (c.ev σ + 1) ≠ 0 := by
              rw [Nat.pow_succ, ← Nat.div_div_eq_div_mul]
              omega
            rw [e2]
            have : ¬ 64 ≤ c.ev σ + 1 := by
              intro hge
              have : c.ev σ = 63 := by omega
              rw [this] at hq
              exact hq (Nat.div_eq_of_lt (by simpa using hx))
            rw [nble_f this]
            exact hq
theorem bc_02 {c : Bool} {x y : Nat} (hx : x = 0 ∨ x = 2) (hy : y = 0 ∨ y = 2) : bc c x y = 0 ∨ bc c x y = 2 := by cases c; exact hy; exact hx
theorem shrNz_02 (pc : PC) (a : Tm) : shrNz pc a = 0 ∨ shrNz pc a = 2 := by
  unfold shrNz
  cases shrOf a with
  | none => exact .inr rfl
  | some p =>
    show (withB (rng pc.bnds p.1) fun r => bc (Nat.blt r.hi 18446744073709551616) (Option.rec 2 (fun c => forceT (Option.rec (Tm.bin .shr 64 p.1 c) (fun n => bc (Nat.beq n 0) p.1 (.bin .shr 64 p.1 c)) (isLit c)) fun y =>
      bc (Nat.beq (decF pc (.bin .eq 64 y (.lit 0)) 2) 0) (bc (low0 pc y) 0 2) 2) (predT p.2)) 2) = 0 ∨ (withB (rng pc.bnds p.1) fun r => bc (Nat.blt r.hi 18446744073709551616) (Option.rec 2 (fun c => forceT (Option.rec (Tm.bin .shr 64 p.1 c) (fun n => bc (Nat.beq n 0) p.1 (.bin .shr 64 p.1 c)) (isLit c)) fun y =>
      bc (Nat.beq (decF pc (.bin .eq 64 y (.lit 0)) 2) 0) (bc (low0 pc y) 0 2) 2) (predT p.2)) 2) = 2
    rw [withB_eq]
    refine bc_02 ?_ (.inr rfl)
    cases predT p.2 with
    | none => exact .inr rfl
    | some c =>
      show (forceT _ _ : Nat) = 0 ∨ (forceT _ _ : Nat) = 2
      rw [forceT_eq]
      exact bc_02 (bc_02 (.inl rfl) (.inr rfl)) (.inr rfl)
/-- A shift to the right is less than what is shifted, if that is not 0. -/
noncomputable def shrLt (pc : PC) (a b : Tm) : Bool :=
  Option.rec false (fun p => bc (Tm.same p.1 b) (bc (Nat.beq (decF pc (.bin .eq 64 b (.lit 0)) 2) 0) (Option.rec false (fun n => Nat.blt 0 n) (isLit p.2)) false) false) (shrOf a)
theorem shrLt_ok {σ} {pc : PC} (h : pc.ok σ) {a b : Tm} (hs : shrLt pc a b = true) : a.ev σ < b.ev σ := by
  unfold shrLt at hs
  cases hp : shrOf a with
  | none => rw [hp] at hs; cases hs
  | some p =>
    rw [hp] at hs
    obtain ⟨h1, hs⟩ := band_eq (show band (Tm.same p.1 b) (bc (Nat.beq (decF pc (.bin .eq 64 b (.lit 0)) 2) 0) (Option.rec false (fun n => Nat.blt 0 n) (isLit p.2)) false) = true from hs)
    obtain ⟨h2, h3⟩ := band_eq (show band _ _ = true from hs)
    have hnz : b.ev σ ≠ 0 := by
      have := (decF_ok h (t := .bin .eq 64 b (.lit 0)) Vok.two).2 (of_nbeq h2)
      change b2n (Nat.beq (b.ev σ) 0) = 0 at this
      intro e; rw [nbeq_t e] at this; cases this
    cases hl : isLit p.2 with
    | none => rw [hl] at h3; cases h3
    | some n =>
      rw [hl] at h3
      have hn : 0 < n := of_nblt h3
      rw [shrOf_ok hp, Tm.same_eq h1, isLit_some hl]
      show bc (Nat.ble 64 n) 0 (Nat.div (b.ev σ) (p2 n)) < b.ev σ
      by_cases e : 64 ≤ n
      · rw [nble_t e]; show 0 < b.ev σ; omega
      · rw [nble_f e]
        show b.ev σ / 2 ^ n < b.ev σ
        have h2n : 2 ≤ 2 ^ n := by
          have := Nat.pow_le_pow_right (show 0 < 2 by decide) hn
          simpa using this
        exact Nat.div_lt_self (by omega) (by omega)
/-- A shift of a shift by 1 is a shift by one more. -/
noncomputable def shrEq (pc : PC) (a b : Tm) : Bool :=
  Option.rec false (fun p => bc (isN 1 p.2) (Option.rec false (fun q => Option.rec false (fun r => bc (Tm.same q.1 r.1) (Option.rec false (fun c => bc (Tm.same c q.2) (withB (rng pc.bnds q.2) fun z => bc (Nat.blt z.hi 9223372036854775808) (withB (rng pc.bnds q.1) fun y => Nat.blt y.hi 18446744073709551616) false) false) (predT r.2)) false) (shrOf b)) (shrOf p.1)) false) (shrOf a)
theorem shrEq_ok {σ} {pc : PC} (h : pc.ok σ) {a b : Tm} (hs : shrEq pc a b = true) : a.ev σ = b.ev σ := by
  unfold shrEq at hs
  cases hp : shrOf a with
  | none => rw [hp] at hs; cases hs
  | some p =>
    rw [hp] at hs
    obtain ⟨h1, hs⟩ := band_eq (show band (isN 1 p.2) (Option.rec false (fun q => Option.rec false (fun r => bc (Tm.same q.1 r.1) (Option.rec false (fun c => bc (Tm.same c q.2) (withB (rng pc.bnds q.2) fun z => bc (Nat.blt z.hi 9223372036854775808) (withB (rng pc.bnds q.1) fun y => Nat.blt y.hi 18446744073709551616) false) false) (predT r.2)) false) (shrOf b)) (shrOf p.1)) = true from hs)
    cases hq : shrOf p.1 with
    | none => rw [hq] at hs; cases hs
    | some q =>
      rw [hq] at hs
      cases hr : shrOf b with
      | none => rw [hr] at hs; cases hs
      | some r =>
        rw [hr] at hs
        obtain ⟨h2, hs⟩ := band_eq (show band (Tm.same q.1 r.1) (Option.rec false (fun c => bc (Tm.same c q.2) (withB (rng pc.bnds q.2) fun z => bc (Nat.blt z.hi 9223372036854775808) (withB (rng pc.bnds q.1) fun y => Nat.blt y.hi 18446744073709551616) false) false) (predT r.2)) = true from hs)
        cases hc : predT r.2 with
        | none => rw [hc] at hs; cases hs
        | some c =>
          rw [hc] at hs
          obtain ⟨h3, h4⟩ := band_eq (show band (Tm.same c q.2) (withB (rng pc.bnds q.2) fun z => bc (Nat.blt z.hi 9223372036854775808) (withB (rng pc.bnds q.1) fun y => Nat.blt y.hi 18446744073709551616) false) = true from hs)
          rw [withB_eq] at h4
          obtain ⟨h4, h5⟩ := band_eq (show band _ _ = true from h4)
          rw [withB_eq] at h5
          have hxl : q.1.ev σ < 18446744073709551616 := Nat.lt_of_le_of_lt (rng_ok h.2.2.1 q.1).2 (of_nblt h5)
          have hlt : q.2.ev σ < 9223372036854775808 := Nat.lt_of_le_of_lt (rng_ok h.2.2.1 q.2).2 (of_nblt h4)
          have hcv : c.ev σ = q.2.ev σ := by rw [Tm.same_eq h3]
          have e2 : r.2.ev σ = q.2.ev σ + 1 := by
            rcases predT_ok (σ := σ) hc with e | e
            · rw [e, hcv]
            · rw [e, hcv]; exact Nat.mod_eq_of_lt (by omega)
          have gen : ∀ x c : Tm, (Tm.bin .shr 64 x c).ev σ = if 64 ≤ c.ev σ then 0 else x.ev σ / 2 ^ c.ev σ := fun x c => by
            show bc (Nat.ble 64 (c.ev σ)) 0 (Nat.div (x.ev σ) (p2 (c.ev σ))) = _
            by_cases e : 64 ≤ c.ev σ
            · rw [nble_t e, if_pos e]
            · rw [nble_f e, if_neg e]; rfl
          rw [shrOf_ok hp, shrOf_ok hr, gen, gen, shrOf_ok hq, gen, isN_ok h1, e2, ← Tm.same_eq h2]
          have e1 : (Tm.lit 1).ev σ = 1 := rfl
          rw [e1]
          rw [if_neg (by decide)]
          by_cases g : 64 ≤ q.2.ev σ
          · rw [if_pos g, if_pos (by omega)]
          · rw [if_neg g]
            by_cases g2 : 64 ≤ q.2.ev σ + 1
            · rw [if_pos g2, Nat.div_div_eq_div_mul, ← Nat.pow_add]
              have : q.2.ev σ = 63 := by omega
              rw [this]
              exact Nat.div_eq_of_lt (by simpa using hxl)
            · rw [if_neg g2, Nat.div_div_eq_div_mul, ← Nat.pow_add]
/-- Products in another order. -/
noncomputable def mulOf (t : Tm) : Option (Tm × Tm) := Tm.rec (fun _ => none) (fun _ _ => none) (fun _ _ _ _ => none) (fun o w a b _ _ => bc (band (Nat.beq o.code 3) (Nat.beq w 64)) (some (a, b)) none) (fun _ _ _ _ _ _ => none) (fun _ _ _ _ => none) t
theorem mulOf_ok {t : Tm} {p : Tm × Tm} (h : mulOf t = some p) : t = .bin .mul 64 p.1 p.2 := by
  cases t with
  | bin o w a b =>
    change bc (band (Nat.beq o.code 3) (Nat.beq w 64)) (some (a, b)) none = some p at h
    cases hb : band (Nat.beq o.code 3) (Nat.beq w 64)
    · rw [hb] at h; cases h
    · rw [hb] at h; cases h
      obtain ⟨h1, h2⟩ := band_eq hb
      have h1 := O2.code_inj (b := .mul) (of_nbeq h1)
      have h2 := of_nbeq h2
      subst h1; subst h2; rfl
  | _ => cases h
/-- The same by bits. -/
noncomputable def eqBt (pc : PC) (a b : Tm) : Bool := Nat.beq (truthB (bitsOf pc.kv pc.bnds (.bin .eq 64 a b))) 1
theorem eqBt_ok {σ} {pc : PC} (h : pc.ok σ) {a b : Tm} (he : eqBt pc a b = true) : a.ev σ = b.ev σ := by
  have hb := truthB_ok (bitsOf_ok h.2.2.2.1 h.2.2.1 (.bin .eq 64 a b))
  rw [of_nbeq he] at hb
  have := of_decide_eq_true hb.of1
  change b2n (Nat.beq (a.ev σ) (b.ev σ)) ≠ 0 at this
  by_cases e : a.ev σ = b.ev σ
  · exact e
  · rw [nbeq_f e] at this; exact absurd rfl this
noncomputable def mulEq (pc : PC) (a b : Tm) : Bool :=
  Option.rec false (fun p => Option.rec false (fun q => bc (bc (eqBt pc p.1 q.2) (eqBt pc p.2 q.1) false) true (bc (eqBt pc p.1 q.1) (eqBt pc p.2 q.2) false)) (mulOf b)) (mulOf a)
theorem mulEq_ok {σ} {pc : PC} (h : pc.ok σ) {a b : Tm} (hm : mulEq pc a b = true) : a.ev σ = b.ev σ := by
  unfold mulEq at hm
  cases hp : mulOf a with
  | none => rw [hp] at hm; cases hm
  | some p =>
    rw [hp] at hm
    cases hq : mulOf b with
    | none => rw [hq] at hm; cases hm
    | some q =>
      rw [hq] at hm
      change bc (bc (eqBt pc p.1 q.2) (eqBt pc p.2 q.1) false) true (bc (eqBt pc p.1 q.1) (eqBt pc p.2 q.2) false) = true at hm
      rw [mulOf_ok hp, mulOf_ok hq]
      show (p.1.ev σ * p.2.ev σ) % 2 ^ 64 = (q.1.ev σ * q.2.ev σ) % 2 ^ 64
      cases h1 : bc (eqBt pc p.1 q.2) (eqBt pc p.2 q.1) false
      · rw [h1] at hm
        obtain ⟨g1, g2⟩ := band_eq (show band _ _ = true from hm)
        rw [eqBt_ok h g1, eqBt_ok h g2]
      · obtain ⟨g1, g2⟩ := band_eq (show band _ _ = true from h1)
        rw [eqBt_ok h g1, eqBt_ok h g2, Nat.mul_comm]
noncomputable def lastC (pc : PC) (o : O2) (w : Nat) (a b : Tm) : Nat :=
  bc (Nat.beq o.code 11) (bc (shrLt pc a b) 1 (cmpF pc a b)) (bc (band (Nat.beq o.code 12) (Nat.beq w 64)) (bc (nn64 pc a b) (cmpF pc a b) 2) 2)
theorem lastC_ok {σ} {pc : PC} (h : pc.ok σ) {o : O2} {w : Nat} {a b : Tm} : Vok σ (.bin o w a b) (lastC pc o w a b) := by
  unfold lastC
  cases h1 : Nat.beq o.code 11
  · cases h2 : band (Nat.beq o.code 12) (Nat.beq w 64)
    · exact Vok.two
    · cases h3 : nn64 pc a b
      · exact Vok.two
      · obtain ⟨g1, g2⟩ := band_eq h2
        have g1 := O2.code_inj (b := .slt) (of_nbeq g1)
        have g2 := of_nbeq g2
        subst g1; subst g2
        obtain ⟨n1, n2⟩ := nn64_ok h h3
        have hev : (Tm.bin .slt 64 a b).ev σ = b2n (Nat.blt (a.ev σ) (b.ev σ)) := by rw [ev_bin]; exact slt_nonneg (by decide) n1 n2
        have hc := cmpF_ok h (a := a) (b := b)
        show Vok σ _ (cmpF pc a b)
        refine ⟨fun e => ?_, fun e => ?_⟩
        · rw [hev, nblt_t (hc.1 e)]; exact Nat.one_ne_zero
        · rw [hev, nblt_f (Nat.not_lt.2 (hc.2 e))]; rfl
  · have g1 := O2.code_inj (b := .ult) (of_nbeq h1)
    subst g1
    have hc := cmpF_ok h (a := a) (b := b)
    show Vok σ _ (bc (shrLt pc a b) 1 (cmpF pc a b))
    cases hsl : shrLt pc a b
    · show Vok σ _ (cmpF pc a b)
      refine ⟨fun e => ?_, fun e => ?_⟩
      · rw [ev_bin]; show b2n (Nat.blt (a.ev σ) (b.ev σ)) ≠ 0; rw [nblt_t (hc.1 e)]; exact Nat.one_ne_zero
      · rw [ev_bin]; show b2n (Nat.blt (a.ev σ) (b.ev σ)) = 0; rw [nblt_f (Nat.not_lt.2 (hc.2 e))]; rfl
    refine ⟨fun e => ?_, fun e => by cases e⟩
    · rw [ev_bin]; show b2n (Nat.blt (a.ev σ) (b.ev σ)) ≠ 0; rw [nblt_t (shrLt_ok h hsl)]; exact Nat.one_ne_zero

/-- What is left: two sums. -/
noncomputable def lastD0 (pc : PC) (t : Tm) : Nat :=
  Tm.rec (fun _ => 2) (fun _ _ => 2) (fun _ _ _ _ => 2) (fun o w a b _ _ => bc (band (Nat.beq o.code 10) (Nat.beq w 64)) (Option.rec (Option.rec (bc (bc (linEq pc a b) true (bc (shrEq pc a b) true (bc (shrEq pc b a) true (mulEq pc a b)))) 1 2) (fun n => bc (Nat.beq n 0) (shrNz pc a) 2) (isLit b)) (fun _ => 2) (isLit a))
    (bc (Nat.beq o.code 11) (Option.rec (lastC pc o w a b) (fun x => bc (ltF pc x a) 0 (lastC pc o w a b)) (sucOf b)) (lastC pc o w a b))) (fun _ _ _ _ _ _ => 2) (fun _ _ _ _ => 2) t
theorem lastD0_ok {σ} {pc : PC} (h : pc.ok σ) {t : Tm} : Vok σ t (lastD0 pc t) := by
  cases t with
  | bin o w a b =>
    show Vok σ _ (bc (band (Nat.beq o.code 10) (Nat.beq w 64)) (Option.rec (Option.rec (bc (bc (linEq pc a b) true (bc (shrEq pc a b) true (bc (shrEq pc b a) true (mulEq pc a b)))) 1 2) (fun n => bc (Nat.beq n 0) (shrNz pc a) 2) (isLit b)) (fun _ => 2) (isLit a)) (bc (Nat.beq o.code 11) (Option.rec (lastC pc o w a b) (fun x => bc (ltF pc x a) 0 (lastC pc o w a b)) (sucOf b)) (lastC pc o w a b)))
    cases hb : band (Nat.beq o.code 10) (Nat.beq w 64)
    · rw [bc_false]
      cases ho : Nat.beq o.code 11
      · exact lastC_ok h
      · rw [bc_true]
        cases hx : sucOf b with
        | none => exact lastC_ok h
        | some x =>
          show Vok σ _ (bc (ltF pc x a) 0 (lastC pc o w a b))
          cases hl : ltF pc x a
          · exact lastC_ok h
          · refine Vok.zero ?_
            have h1 := O2.code_inj (b := .ult) (of_nbeq ho)
            subst h1
            have h2 := ltF_ok h hl
            have h3 := sucOf_ok (σ := σ) hx
            rw [ev_bin]
            show b2n (Nat.blt (a.ev σ) (b.ev σ)) = 0
            rw [nblt_f (by omega)]; rfl
    · rw [bc_true]
      cases isLit a with
      | some _ => exact Vok.two
      | none => cases hlb : isLit b with
        | some n =>
          show Vok σ _ (bc (Nat.beq n 0) (shrNz pc a) 2)
          by_cases e0 : n = 0
          · rw [nbeq_t e0, bc_true]
            obtain ⟨h1, _⟩ := band_eq hb
            have h1 := O2.code_inj (b := .eq) (of_nbeq h1)
            subst h1
            have hz : ∀ m, shrNz pc a = m → Vok σ (Tm.bin .eq w a b) m := fun m hm => by
              by_cases em : m = 0
              · rw [em] at hm ⊢
                refine Vok.zero ?_
                rw [isLit_some hlb, e0, ev_bin]
                show b2n (Nat.beq (a.ev σ) 0) = 0
                rw [nbeq_f (shrNz_ok h hm)]; rfl
              · by_cases e2 : m = 2
                · rw [e2]; exact Vok.two
                · exact absurd (shrNz_02 pc a) (by rw [hm]; simp [em, e2])
            exact hz _ rfl
          · rw [nbeq_f e0]; exact Vok.two
        | none =>
          show Vok σ _ (bc (bc (linEq pc a b) true (bc (shrEq pc a b) true (bc (shrEq pc b a) true (mulEq pc a b)))) 1 2)
          cases hl : bc (linEq pc a b) true (bc (shrEq pc a b) true (bc (shrEq pc b a) true (mulEq pc a b)))
          · exact Vok.two
          · refine Vok.one ?_
            have hE : a.ev σ = b.ev σ := by
              cases l1 : linEq pc a b
              · rw [l1] at hl
                cases l2 : shrEq pc a b
                · rw [l2] at hl
                  cases l3 : shrEq pc b a
                  · rw [l3] at hl; exact mulEq_ok h hl
                  · exact (shrEq_ok h l3).symm
                · exact shrEq_ok h l2
              · exact linEq_ok h l1
            obtain ⟨h1, _⟩ := band_eq hb
            have h1 := O2.code_inj (b := .eq) (of_nbeq h1)
            subst h1
            rw [ev_bin]
            show b2n (Nat.beq (a.ev σ) (b.ev σ)) ≠ 0
            rw [nbeq_t hE]; exact Nat.one_ne_zero
  | _ => exact Vok.two

/-- An equation of the same with the same. -/
noncomputable def selfEq (t : Tm) : Bool := Tm.rec (fun _ => false) (fun _ _ => false) (fun _ _ _ _ => false) (fun o _ a b _ _ => bc (Nat.beq o.code 10) (Tm.same a b) false) (fun _ _ _ _ _ _ => false) (fun _ _ _ _ => false) t
/-- A shift by one more is 0, if that by one less is. -/
noncomputable def shrZ0 (pc : PC) (a : Tm) : Bool :=
  Option.rec false (fun p => Option.rec false (fun c => withB (rng pc.bnds c) fun z => bc (Nat.blt z.hi 9223372036854775808) (Nat.beq (decF pc (.bin .eq 64 (.bin .shr 64 p.1 c) (.lit 0)) 2) 1) false) (predT p.2)) (shrOf a)
theorem shrZ0_ok {σ} {pc : PC} (h : pc.ok σ) {a : Tm} (hs : shrZ0 pc a = true) : a.ev σ = 0 := by
  unfold shrZ0 at hs
  cases hp : shrOf a with
  | none => rw [hp] at hs; cases hs
  | some p =>
    rw [hp] at hs
    cases hc : predT p.2 with
    | none => simp only [hc] at hs; cases hs
    | some c =>
      simp only [hc] at hs
      rw [withB_eq] at hs
      obtain ⟨h1, h2⟩ := band_eq (show band _ _ = true from hs)
      have hcl : c.ev σ < 9223372036854775808 := Nat.lt_of_le_of_lt (rng_ok h.2.2.1 c).2 (of_nblt h1)
      have hz := (decF_ok h (t := .bin .eq 64 (.bin .shr 64 p.1 c) (.lit 0)) Vok.two).1 (of_nbeq h2)
      have gen : ∀ x : Tm, (Tm.bin .shr 64 p.1 x).ev σ = if 64 ≤ x.ev σ then 0 else p.1.ev σ / 2 ^ x.ev σ := fun x => by
        show bc (Nat.ble 64 (x.ev σ)) 0 (Nat.div (p.1.ev σ) (p2 (x.ev σ))) = _
        by_cases e : 64 ≤ x.ev σ
        · rw [nble_t e, if_pos e]
        · rw [nble_f e, if_neg e]; rfl
      have hz2 : (Tm.bin .shr 64 p.1 c).ev σ = 0 := by
        change b2n (Nat.beq ((Tm.bin .shr 64 p.1 c).ev σ) 0) ≠ 0 at hz
        by_cases e : (Tm.bin .shr 64 p.1 c).ev σ = 0
        · exact e
        · rw [nbeq_f e] at hz; exact absurd rfl hz
      have e2 : p.2.ev σ = c.ev σ + 1 := by
        rcases predT_ok (σ := σ) hc with e | e
        · exact e
        · rw [e]; exact Nat.mod_eq_of_lt (by omega)
      rw [shrOf_ok hp, gen, e2]
      rw [gen] at hz2
      by_cases e : 64 ≤ c.ev σ + 1
      · rw [if_pos e]
      · rw [if_neg e]
        rw [if_neg (by omega)] at hz2
        rw [Nat.pow_succ, ← Nat.div_div_eq_div_mul, hz2]
noncomputable def shrZ (pc : PC) (t : Tm) : Bool := Tm.rec (fun _ => false) (fun _ _ => false) (fun _ _ _ _ => false) (fun o w a b _ _ => bc (band (Nat.beq o.code 10) (Nat.beq w 64)) (bc (isN 0 b) (shrZ0 pc a) false) false) (fun _ _ _ _ _ _ => false) (fun _ _ _ _ => false) t
noncomputable def lastD (pc : PC) (t : Tm) : Nat := bc (selfEq t) 1 (bc (shrZ pc t) 1 (lastD0 pc t))
theorem lastD_ok {σ} {pc : PC} (h : pc.ok σ) {t : Tm} : Vok σ t (lastD pc t) := by
  unfold lastD
  cases hs : selfEq t
  · rw [bc_false]
    cases hz : shrZ pc t
    · exact lastD0_ok h
    · refine Vok.one ?_
      cases t with
      | bin o w a b =>
        obtain ⟨h1, h2⟩ := band_eq (show band (band (Nat.beq o.code 10) (Nat.beq w 64)) (bc (isN 0 b) (shrZ0 pc a) false) = true from hz)
        obtain ⟨h1, _⟩ := band_eq h1
        obtain ⟨h3, h4⟩ := band_eq (show band _ _ = true from h2)
        have h1 := O2.code_inj (b := .eq) (of_nbeq h1)
        subst h1
        rw [isN_ok h3]
        show b2n (Nat.beq (a.ev σ) 0) ≠ 0
        rw [nbeq_t (shrZ0_ok h h4)]; exact Nat.one_ne_zero
      | _ => cases hz
  · refine Vok.one ?_
    cases t with
    | bin o w a b =>
      obtain ⟨h1, h2⟩ := band_eq (show band (Nat.beq o.code 10) (Tm.same a b) = true from hs)
      have h1 := O2.code_inj (b := .eq) (of_nbeq h1)
      subst h1
      rw [Tm.same_eq h2]
      show b2n (Nat.beq (b.ev σ) (b.ev σ)) ≠ 0
      rw [nbeq_t rfl]; exact Nat.one_ne_zero
    | _ => cases hs

theorem bc_of {α : Type} {P : α → Prop} {c : Bool} {x y : α} (hx : P x) (hy : P y) : P (bc c x y) := by cases c; exact hy; exact hx
/-- A term of no variable of which bits are known. -/
noncomputable def inKv (i : Nat) (l : List KV) : Bool := List.rec false (fun v _ ih => bc (Nat.beq v.i i) true ih) l
noncomputable def noKv (kv : List KV) (t : Tm) : Bool :=
  Tm.rec (fun _ => true) (fun i _ => Bool.not (inKv i kv)) (fun _ _ _ x => x) (fun _ _ _ _ x y => bc x y false) (fun _ _ _ c x y => bc c (bc x y false) false) (fun _ _ _ x => x) t
/-- Who is less than a number, of what no bit is known: its bits say no more than its bounds. -/
noncomputable def skipB (kv : List KV) (t : Tm) : Bool :=
  Tm.rec (fun _ => false) (fun _ _ => false) (fun _ _ _ _ => false)
    (fun o _ a b _ _ => bc (bc (Nat.beq o.code 11) true (Nat.beq o.code 12)) (Option.rec (Option.rec false (fun _ => noKv kv b) (isLit a)) (fun n => bc (Nat.beq n 0) false (noKv kv a)) (isLit b)) false)
    (fun _ _ _ _ _ _ => false) (fun _ _ _ _ => false) t
/-- Whether a fact is known, also by its bounds and its bits. -/
noncomputable def decT (pc : PC) (t : Tm) : Nat :=
  decF pc t (withB (rng pc.bnds t) fun b => bc (Nat.blt 0 b.lo) 1 (bc (Nat.beq b.hi 0) 0 (bc (skipB pc.kv t) 2 (forceN (truthB (bitsOf pc.kv pc.bnds t)) fun r => bc (Nat.beq r 1) 1 (bc (Nat.beq r 0) 0 (lastD pc t))))))
theorem decT_ok {σ} {pc : PC} (h : pc.ok σ) {t : Tm} : Vok σ t (decT pc t) := by
  refine decF_ok h ?_
  rw [withB_eq]
  have hr := rng_ok h.2.2.1 t
  unfold In at hr
  cases h3 : Nat.blt 0 (rng pc.bnds t).lo
  · cases h4 : Nat.beq (rng pc.bnds t).hi 0
    · show Vok σ t (bc (skipB pc.kv t) 2 (forceN (truthB (bitsOf pc.kv pc.bnds t)) fun r => bc (Nat.beq r 1) 1 (bc (Nat.beq r 0) 0 (lastD pc t))))
      refine bc_of (P := Vok σ t) Vok.two ?_
      show Vok σ t (forceN (truthB (bitsOf pc.kv pc.bnds t)) fun r => bc (Nat.beq r 1) 1 (bc (Nat.beq r 0) 0 (lastD pc t)))
      rw [forceN_eq]
      have hb := truthB_ok (bitsOf_ok h.2.2.2.1 h.2.2.1 t)
      cases h5 : Nat.beq (truthB (bitsOf pc.kv pc.bnds t)) 1
      · cases h6 : Nat.beq (truthB (bitsOf pc.kv pc.bnds t)) 0
        · exact lastD_ok h
        · rw [of_nbeq h6] at hb
          exact Vok.zero (Classical.not_not.1 (of_decide_eq_false hb.of0))
      · rw [of_nbeq h5] at hb
        exact Vok.one (of_decide_eq_true hb.of1)
    · have := of_nbeq h4
      exact Vok.zero (by omega)
  · have := of_nblt h3
    exact Vok.one (by omega)

/-- A condition, as far as it is known. -/
noncomputable def isCmp (o : O2) : Bool := bc (Nat.ble 10 o.code) (Nat.ble o.code 12) false
/-- A term that is 0 or 1. -/
noncomputable def isBoolT (t : Tm) : Bool :=
  Tm.rec (fun n => Nat.ble n 1) (fun _ w => Nat.beq w 1) (fun o _ _ _ => O1.rec false (fun _ => false) true o) (fun o _ _ _ _ _ => isCmp o) (fun _ _ _ _ _ _ => false) (fun _ w _ _ => Nat.beq w 1) t
theorem cmp_01 {o : O2} {w x y : Nat} (h : isCmp o = true) : o.ev w x y = 0 ∨ o.ev w x y = 1 := by
  cases o <;> first | (cases h; done) | skip
  · show b2n _ = 0 ∨ b2n _ = 1
    cases Nat.beq x y <;> simp [b2n]
  · show b2n _ = 0 ∨ b2n _ = 1
    cases Nat.blt x y <;> simp [b2n]
  · show b2n _ = 0 ∨ b2n _ = 1
    cases Nat.blt (Nat.mod (Nat.add x (p2 (Nat.sub w 1))) (p2 w)) (Nat.mod (Nat.add y (p2 (Nat.sub w 1))) (p2 w)) <;> simp [b2n]
theorem isBoolT_ok {σ} {t : Tm} (h : isBoolT t = true) : t.ev σ = 0 ∨ t.ev σ = 1 := by
  cases t with
  | lit n => have : n ≤ 1 := of_nble h; show n = 0 ∨ n = 1; omega
  | var i w =>
    have := of_nbeq h
    subst this
    show σ i % 2 ^ 1 = 0 ∨ σ i % 2 ^ 1 = 1; omega
  | un o w a =>
    cases o with
    | bnot =>
      show bc (Nat.beq (a.ev σ) 0) 1 0 = 0 ∨ bc (Nat.beq (a.ev σ) 0) 1 0 = 1
      cases Nat.beq (a.ev σ) 0
      · exact .inl rfl
      · exact .inr rfl
    | _ => cases h
  | bin o w a b => exact cmp_01 h
  | ite c a b => cases h
  | app f w a =>
    have := of_nbeq h
    subst this
    show σ _ % 2 ^ 1 = 0 ∨ σ _ % 2 ^ 1 = 1; omega
/-- A truth that is a number. -/
noncomputable def eqB1 (x : Nat) (t els : Tm) : Tm := bc (isBoolT t) (bc (Nat.beq x 1) t (bc (Nat.beq x 0) (mkNot t) (.lit 0))) els
theorem eqB1_ev {σ} {x : Nat} {t els : Tm} (he : els.ev σ = b2n (Nat.beq x (t.ev σ))) : (eqB1 x t els).ev σ = b2n (Nat.beq x (t.ev σ)) := by
  unfold eqB1
  cases hb : isBoolT t
  · exact he
  · show (bc (Nat.beq x 1) t (bc (Nat.beq x 0) (mkNot t) (.lit 0))).ev σ = _
    have h01 := isBoolT_ok (σ := σ) hb
    by_cases h1 : x = 1
    · subst h1; rw [nbeq_t rfl]
      show t.ev σ = _
      rcases h01 with h | h <;> rw [h] <;> rfl
    · rw [nbeq_f h1]
      by_cases h0 : x = 0
      · subst h0; rw [nbeq_t rfl]
        show (mkNot t).ev σ = _
        rw [mkNot_ev]
        rcases h01 with h | h <;> rw [h] <;> rfl
      · rw [nbeq_f h0]
        show 0 = _
        rw [nbeq_f (show ¬ x = t.ev σ by omega)]; rfl
/-- Whether two truths are the same. -/
noncomputable def simpE (a b els : Tm) : Tm :=
  Option.rec (Option.rec els (fun y => eqB1 y a els) (isLit b)) (fun x => eqB1 x b els) (isLit a)
theorem simpE_ev {σ} {a b els : Tm} (he : els.ev σ = b2n (Nat.beq (a.ev σ) (b.ev σ))) : (simpE a b els).ev σ = b2n (Nat.beq (a.ev σ) (b.ev σ)) := by
  unfold simpE
  have comm : ∀ m n : Nat, Nat.beq m n = Nat.beq n m := fun m n => by
    by_cases e : m = n
    · rw [e]
    · rw [nbeq_f e, nbeq_f fun h => e h.symm]
  cases ha : isLit a with
  | some x => rw [isLit_some ha] at he ⊢; exact eqB1_ev he
  | none =>
    cases hb : isLit b with
    | some y =>
      rw [isLit_some hb] at he ⊢
      rw [comm] at he ⊢
      exact eqB1_ev he
    | none => exact he
/-- A choice of 1 and 0 is the condition. -/
noncomputable def iteS (c a b : Tm) : Tm := bc (isBoolT c) (bc (bc (isN 1 a) (isN 0 b) false) c (bc (bc (isN 0 a) (isN 1 b) false) (mkNot c) (mkIte c a b))) (mkIte c a b)
theorem iteS_ev (σ : Nat → Nat) (c a b : Tm) : (iteS c a b).ev σ = if c.ev σ = 0 then b.ev σ else a.ev σ := by
  unfold iteS
  cases h1 : isBoolT c
  · exact mkIte_ev σ c a b
  · cases h2 : bc (isN 1 a) (isN 0 b) false
    · cases h3 : bc (isN 0 a) (isN 1 b) false
      · exact mkIte_ev σ c a b
      · obtain ⟨g1, g2⟩ := band_eq (show band _ _ = true from h3)
        rw [isN_ok g1, isN_ok g2]
        show (mkNot c).ev σ = if c.ev σ = 0 then 1 else 0
        rw [mkNot_ev]
    · obtain ⟨g1, g2⟩ := band_eq (show band _ _ = true from h2)
      rw [isN_ok g1, isN_ok g2]
      show c.ev σ = if c.ev σ = 0 then 0 else 1
      rcases isBoolT_ok h1 (σ := σ) with e | e <;> rw [e] <;> rfl
noncomputable def simpT (pc : PC) (t : Tm) : Tm :=
  Tm.rec (fun n => .lit n) (fun i w => forceN (decT pc (Tm.var i w)) fun d => bc (Nat.beq d 0) (Tm.lit 0) (bc (Nat.beq d 1) (bc (Nat.beq w 1) (Tm.lit 1) (Tm.var i w)) (Tm.var i w)))
    (fun o w a ih => O1.rec (.un o w a) (fun _ => .un o w a) (mkNot ih) o)
    (fun o w a b iha ihb => bc (isCmp o) (forceN (decT pc (Tm.bin o w a b)) fun d => bc (Nat.beq d 0) (Tm.lit 0) (bc (Nat.beq d 1) (Tm.lit 1) (bc (band (Nat.beq o.code 10) (Nat.beq w 1)) (forceT iha fun a' => forceT ihb fun b' => simpE a' b' (Tm.bin o w a b)) (Tm.bin o w a b)))) (Tm.bin o w a b))
    (fun _ _ _ c a b => iteS c a b) (fun f w a _ => forceN (decT pc (Tm.app f w a)) fun d => bc (Nat.beq d 0) (Tm.lit 0) (bc (Nat.beq d 1) (bc (Nat.beq w 1) (Tm.lit 1) (Tm.app f w a)) (Tm.app f w a))) t
theorem simpT_ev {σ} {pc : PC} (h : pc.ok σ) (t : Tm) : (simpT pc t).ev σ = t.ev σ := by
  induction t with
  | lit n => rfl
  | var i w =>
    show (forceN (decT pc (Tm.var i w)) fun d => bc (Nat.beq d 0) (Tm.lit 0) (bc (Nat.beq d 1) (bc (Nat.beq w 1) (Tm.lit 1) (Tm.var i w)) (Tm.var i w))).ev σ = _
    rw [forceN_eq]
    have hd := decT_ok h (t := .var i w)
    cases h0 : Nat.beq (decT pc (Tm.var i w)) 0
    · cases h1 : Nat.beq (decT pc (Tm.var i w)) 1
      · rfl
      · cases h2 : Nat.beq w 1
        · rfl
        · have h2 := of_nbeq h2
          subst h2
          have := hd.1 (of_nbeq h1)
          change σ i % 2 ^ 1 ≠ 0 at this
          show 1 = σ i % 2 ^ 1
          omega
    · exact (hd.2 (of_nbeq h0)).symm
  | un o w a ih =>
    cases o with
    | bnot =>
      show (mkNot (simpT pc a)).ev σ = O1.bnot.ev w (a.ev σ)
      rw [mkNot_ev, ih]
      show _ = bc (Nat.beq (a.ev σ) 0) 1 0
      by_cases e : a.ev σ = 0
      · rw [if_pos e, nbeq_t e]
      · rw [if_neg e, nbeq_f e]
    | _ => rfl
  | bin o w a b iha ihb =>
    have hE : (bc (band (Nat.beq o.code 10) (Nat.beq w 1)) (forceT (simpT pc a) fun a' => forceT (simpT pc b) fun b' => simpE a' b' (Tm.bin o w a b)) (Tm.bin o w a b) : Tm).ev σ = (Tm.bin o w a b).ev σ := by
      cases hc : band (Nat.beq o.code 10) (Nat.beq w 1)
      · rfl
      · obtain ⟨h1, h2⟩ := band_eq hc
        have h1 := O2.code_inj (b := .eq) (of_nbeq h1)
        subst h1
        rw [bc_true, forceT_eq, forceT_eq]
        have e : ∀ x y : Tm, (Tm.bin .eq w x y).ev σ = b2n (Nat.beq (x.ev σ) (y.ev σ)) := fun _ _ => rfl
        rw [e, ← iha, ← ihb]
        exact simpE_ev (by rw [e, iha, ihb])
    show (bc (isCmp o) (forceN (decT pc (Tm.bin o w a b)) fun d => bc (Nat.beq d 0) (Tm.lit 0) (bc (Nat.beq d 1) (Tm.lit 1) (bc (band (Nat.beq o.code 10) (Nat.beq w 1)) (forceT (simpT pc a) fun a' => forceT (simpT pc b) fun b' => simpE a' b' (Tm.bin o w a b)) (Tm.bin o w a b)))) (Tm.bin o w a b)).ev σ = _
    cases hc : isCmp o
    · rfl
    · rw [bc_true, forceN_eq]
      have hd := decT_ok h (t := .bin o w a b)
      cases h0 : Nat.beq (decT pc (Tm.bin o w a b)) 0
      · cases h1 : Nat.beq (decT pc (Tm.bin o w a b)) 1
        · exact hE
        · have := hd.1 (of_nbeq h1)
          rw [ev_bin] at this ⊢
          rcases cmp_01 (w := w) (x := a.ev σ) (y := b.ev σ) hc with e | e
          · exact absurd e this
          · exact e.symm
      · exact (hd.2 (of_nbeq h0)).symm
  | ite c a b ihc iha ihb =>
    show (iteS (simpT pc c) (simpT pc a) (simpT pc b)).ev σ = _
    rw [iteS_ev, ev_ite, ihc, iha, ihb]
  | app f w a ih =>
    show (forceN (decT pc (Tm.app f w a)) fun d => bc (Nat.beq d 0) (Tm.lit 0) (bc (Nat.beq d 1) (bc (Nat.beq w 1) (Tm.lit 1) (Tm.app f w a)) (Tm.app f w a))).ev σ = _
    rw [forceN_eq]
    have hd := decT_ok h (t := .app f w a)
    cases h0 : Nat.beq (decT pc (Tm.app f w a)) 0
    · cases h1 : Nat.beq (decT pc (Tm.app f w a)) 1
      · rfl
      · cases h2 : Nat.beq w 1
        · rfl
        · have h2 := of_nbeq h2
          subst h2
          have := hd.1 (of_nbeq h1)
          change σ (appAt f (a.ev σ)) % 2 ^ 1 ≠ 0 at this
          show 1 = σ (appAt f (a.ev σ)) % 2 ^ 1
          omega
    · exact (hd.2 (of_nbeq h0)).symm

theorem eq_ev_ne {w x y : Nat} (h : O2.eq.ev w x y ≠ 0) : x = y := by
  by_cases e : x = y
  · exact e
  · have : O2.eq.ev w x y = b2n (Nat.beq x y) := rfl
    rw [this, nbeq_f e] at h; exact absurd rfl h
/-! ### Bits that are learnt -/
noncomputable def kvSet (v : KV) (k : Nat) (neg : Bool) : KV := bc neg ⟨v.i, v.ones, Nat.lor v.zeros (p2 k)⟩ ⟨v.i, Nat.lor v.ones (p2 k), v.zeros⟩
noncomputable def forceKv {α : Type} (v : KV) (k : KV → α) : α := KV.rec (fun i o z => forceN i fun i => forceN o fun o => forceN z fun z => k ⟨i, o, z⟩) v
theorem forceKv_eq {α : Type} (v : KV) (k : KV → α) : forceKv v k = k v := by
  cases v with
  | mk i o z => show forceN i (fun i => forceN o fun o => forceN z fun z => k ⟨i, o, z⟩) = _; rw [forceN_eq, forceN_eq, forceN_eq]
noncomputable def kvAdd (i k : Nat) (neg : Bool) (l : List KV) : List KV :=
  List.rec (forceKv (kvSet ⟨i, 0, 0⟩ k neg) fun v => [v]) (fun v l' ih => bc (Nat.beq v.i i) (forceKv (kvSet v k neg) fun v => v :: l') (v :: ih)) l
theorem kvSet_ok {σ} {v : KV} {k : Nat} {neg : Bool} (hv : v.ok σ) (h : (σ v.i).testBit k = !neg) : (kvSet v k neg).ok σ := fun j => by
  have hj := hv j
  cases neg with
  | true =>
    refine ⟨hj.1, fun hz => ?_⟩
    change (v.zeros ||| 2 ^ k).testBit j = true at hz
    rw [Nat.testBit_or, Nat.testBit_two_pow, Bool.or_eq_true] at hz
    rcases hz with hz | hz
    · exact hj.2 hz
    · have := of_decide_eq_true hz; subst this; exact h
  | false =>
    refine ⟨fun hz => ?_, hj.2⟩
    change (v.ones ||| 2 ^ k).testBit j = true at hz
    rw [Nat.testBit_or, Nat.testBit_two_pow, Bool.or_eq_true] at hz
    rcases hz with hz | hz
    · exact hj.1 hz
    · have := of_decide_eq_true hz; subst this; exact h
theorem kvAdd_ok {σ} {l : List KV} (hl : ∀ v ∈ l, v.ok σ) {i k : Nat} {neg : Bool} (h : (σ i).testBit k = !neg) : ∀ v ∈ kvAdd i k neg l, v.ok σ := by
  induction l with
  | nil =>
    intro v hv
    change v ∈ forceKv (kvSet ⟨i, 0, 0⟩ k neg) (fun v => [v]) at hv
    rw [forceKv_eq] at hv
    rw [List.mem_singleton.1 hv]
    exact kvSet_ok (v := ⟨i, 0, 0⟩) (fun j => by
      refine ⟨fun h => ?_, fun h => ?_⟩
      · change (0 : Nat).testBit j = true at h; rw [Nat.zero_testBit] at h; cases h
      · change (0 : Nat).testBit j = true at h; rw [Nat.zero_testBit] at h; cases h) h
  | cons x l ih =>
    have ih := ih fun y hy => hl y (List.mem_cons_of_mem _ hy)
    intro v hv
    change v ∈ bc (Nat.beq x.i i) (forceKv (kvSet x k neg) fun v => v :: l) (x :: kvAdd i k neg l) at hv
    cases he : Nat.beq x.i i
    · rw [he] at hv
      rcases List.mem_cons.1 hv with rfl | hv
      · exact hl _ List.mem_cons_self
      · exact ih v hv
    · rw [he] at hv
      change v ∈ forceKv (kvSet x k neg) (fun v => v :: l) at hv
      rw [forceKv_eq] at hv
      rcases List.mem_cons.1 hv with rfl | hv
      · exact kvSet_ok (hl _ List.mem_cons_self) (by rw [of_nbeq he]; exact h)
      · exact hl v (List.mem_cons_of_mem _ hv)
/-- A bit that is true. -/
noncomputable def learn1 (n : Nat) (l : List KV) : List KV := bc (Nat.ble 4 n) (bc (Nat.beq (Nat.mod (Nat.div (Nat.sub n 4) 2) 2) 0) (kvAdd (Nat.div (Nat.div (Nat.sub n 4) 4) 64) (Nat.mod (Nat.div (Nat.sub n 4) 4) 64) (Nat.beq (Nat.mod n 2) 1) l) l) l
theorem learn1_ok {σ} {l : List KV} (hl : ∀ v ∈ l, v.ok σ) {n : Nat} (h : Bok σ n true) : ∀ v ∈ learn1 n l, v.ok σ := by
  unfold learn1
  cases hn : Nat.ble 4 n
  · exact hl
  · cases hq : Nat.beq (Nat.mod (Nat.div (Nat.sub n 4) 2) 2) 0
    · exact hl
    · refine kvAdd_ok hl ?_
      have h4 := of_nble hn
      have hq : (n - 4) / 2 % 2 = 0 := of_nbeq hq
      have := h.2.2.2 h4
      rw [bden_eq h4, if_pos hq] at this
      show (σ ((n - 4) / 4 / 64)).testBit ((n - 4) / 4 % 64) = !Nat.beq (n % 2) 1
      have e : (n % 2 == 1) = Nat.beq (n % 2) 1 := by
        by_cases e : n % 2 = 1
        · rw [nbeq_t e, e]; rfl
        · rw [nbeq_f e]; exact beq_eq_false_iff_ne.2 e
      rw [e] at this
      cases hx : (σ ((n - 4) / 4 / 64)).testBit ((n - 4) / 4 % 64) <;> cases hy : Nat.beq (n % 2) 1 <;> rw [hx, hy] at this <;> first | rfl | cases this
/-- Two bits that are the same. -/
noncomputable def learn2 (a b : Nat) (l : List KV) : List KV :=
  bc (Nat.beq a 0) (learn1 (bNeg b) l) (bc (Nat.beq a 1) (learn1 b l) (bc (Nat.beq b 0) (learn1 (bNeg a) l) (bc (Nat.beq b 1) (learn1 a l) l)))
theorem learn2_ok {σ} {l : List KV} (hl : ∀ v ∈ l, v.ok σ) {m n : Nat} {b : Bool} (ha : Bok σ m b) (hb : Bok σ n b) : ∀ v ∈ learn2 m n l, v.ok σ := by
  unfold learn2
  cases h1 : Nat.beq m 0
  · cases h2 : Nat.beq m 1
    · cases h3 : Nat.beq n 0
      · cases h4 : Nat.beq n 1
        · exact hl
        · rw [of_nbeq h4] at hb; exact learn1_ok hl (by rw [← hb.of1]; exact ha)
      · rw [of_nbeq h3] at hb; exact learn1_ok hl (by have := bNeg_ok ha; rw [hb.of0] at this; exact this)
    · rw [of_nbeq h2] at ha; exact learn1_ok hl (by rw [← ha.of1]; exact hb)
  · rw [of_nbeq h1] at ha; exact learn1_ok hl (by have := bNeg_ok hb; rw [ha.of0] at this; exact this)
noncomputable def learnL (l : List Nat) : List Nat → List KV → List KV :=
  List.rec (motive := fun _ => List Nat → List KV → List KV) (fun m kv => List.rec (motive := fun _ => List KV → List KV) (fun kv => kv) (fun b _ ih kv => ih (learn2 0 b kv)) m kv)
    (fun a _ ih m kv => List.rec (motive := fun _ => List KV → List KV) (fun kv => ih [] (learn2 a 0 kv)) (fun b m' _ kv => ih m' (learn2 a b kv)) m kv) l
theorem learnL_ok {σ} : ∀ {l m : List Nat} {x : Nat} {kv : List KV}, (∀ v ∈ kv, v.ok σ) → Lok σ l x → Lok σ m x → ∀ v ∈ learnL l m kv, v.ok σ
  | [], [], _, kv, hk, _, _ => hk
  | [], b :: m, x, kv, hk, hl, hm => learnL_ok (l := []) (m := m) (kv := learn2 0 b kv) (learn2_ok hk (hl 0) hm.head) (by have := hl.nil0; subst this; exact Lok.nil) hm.tail
  | a :: l, [], x, kv, hk, hl, hm => learnL_ok (l := l) (m := []) (kv := learn2 a 0 kv) (learn2_ok hk hl.head (hm 0)) hl.tail (by have := hm.nil0; subst this; exact Lok.nil)
  | a :: l, b :: m, x, kv, hk, hl, hm => learnL_ok (l := l) (m := m) (kv := learn2 a b kv) (learn2_ok hk hl.head hm.head) hl.tail hm.tail
noncomputable def learnT (bl : List Bnd) (kv : List KV) (t : Tm) : List KV :=
  Tm.rec (fun _ => kv) (fun i w => learn1 (truthB (bitsOf kv bl (.var i w))) kv) (fun o w a _ => forceN (truthB (bitsOf kv bl (.un o w a))) fun r => learn1 r kv)
    (fun o w a b _ _ => bc (Nat.beq o.code 10) (learnL (bitsOf kv bl a) (bitsOf kv bl b) kv) (bc (skipB kv (.bin o w a b)) kv (forceN (truthB (bitsOf kv bl (.bin o w a b))) fun r => learn1 r kv))) (fun _ _ _ _ _ _ => kv) (fun _ _ _ _ => kv) t
theorem learnT_ok {σ} {bl : List Bnd} {kv : List KV} (hb : ∀ b ∈ bl, b.ok σ) (hk : ∀ v ∈ kv, v.ok σ) {t : Tm} (ht : t.ev σ ≠ 0) : ∀ v ∈ learnT bl kv t, v.ok σ := by
  have key : ∀ {t : Tm}, t.ev σ ≠ 0 → Bok σ (truthB (bitsOf kv bl t)) true := fun {t} ht => by
    have := truthB_ok (bitsOf_ok hk hb t)
    rw [decide_eq_true ht] at this; exact this
  cases t with
  | lit n => exact hk
  | var i w => exact learn1_ok hk (key ht)
  | un o w a =>
    show ∀ v ∈ (forceN (truthB (bitsOf kv bl (.un o w a))) fun r => learn1 r kv), v.ok σ
    rw [forceN_eq]; exact learn1_ok hk (key ht)
  | bin o w a b =>
    show ∀ v ∈ bc (Nat.beq o.code 10) (learnL (bitsOf kv bl a) (bitsOf kv bl b) kv) (bc (skipB kv (.bin o w a b)) kv (forceN (truthB (bitsOf kv bl (.bin o w a b))) fun r => learn1 r kv)), v.ok σ
    cases ho : Nat.beq o.code 10
    · show ∀ v ∈ bc (skipB kv (.bin o w a b)) kv (forceN (truthB (bitsOf kv bl (.bin o w a b))) fun r => learn1 r kv), v.ok σ
      refine bc_of (P := fun l : List KV => ∀ v ∈ l, v.ok σ) hk ?_
      show ∀ v ∈ (forceN (truthB (bitsOf kv bl (.bin o w a b))) fun r => learn1 r kv), v.ok σ
      rw [forceN_eq]; exact learn1_ok hk (key ht)
    · have := O2.code_inj (b := .eq) (of_nbeq ho)
      subst this
      rw [ev_bin] at ht
      have he := eq_ev_ne ht
      exact learnL_ok hk (bitsOf_ok hk hb a) (by rw [he]; exact bitsOf_ok hk hb b)
  | ite c a b => exact hk
  | app f w a => exact hk

/-! ### One fact more -/
noncomputable def forceKV {α : Type} (l : List KV) (k : List KV → α) : α := List.rec (k []) (fun v l' _ => k (v :: l')) l
theorem forceKV_eq {α : Type} (l : List KV) (k : List KV → α) : forceKV l k = k l := by cases l <;> rfl
/-- The variables among bounds that are one number. -/
noncomputable def subsOf (l : List Bnd) (s : List Sub) : List Sub :=
  List.rec s (fun b _ ih => Tm.rec (fun _ => ih) (fun i w => bc (Nat.beq b.lo b.hi) (⟨i, w, b.lo⟩ :: ih) ih) (fun _ _ _ _ => ih) (fun _ _ _ _ _ _ => ih) (fun _ _ _ _ _ _ => ih) (fun _ _ _ _ => ih) b.t) l
theorem subsOf_ok {σ} {l : List Bnd} {s : List Sub} (hl : ∀ b ∈ l, b.ok σ) (hs : ∀ x ∈ s, σ x.i % 2 ^ x.w = x.n) : ∀ x ∈ subsOf l s, σ x.i % 2 ^ x.w = x.n := by
  induction l with
  | nil => exact hs
  | cons b l ih =>
    have ih := ih fun y hy => hl y (List.mem_cons_of_mem _ hy)
    have hb := hl b List.mem_cons_self
    obtain ⟨t, lo, hi⟩ := b
    cases t with
    | var i w =>
      show ∀ x ∈ bc (Nat.beq lo hi) (⟨i, w, lo⟩ :: subsOf l s) (subsOf l s), σ x.i % 2 ^ x.w = x.n
      cases he : Nat.beq lo hi
      · exact ih
      · intro x hx
        rcases List.mem_cons.1 hx with rfl | hx
        · have e := of_nbeq he
          unfold Bnd.ok at hb
          change lo ≤ σ i % 2 ^ w ∧ σ i % 2 ^ w ≤ hi at hb
          show σ i % 2 ^ w = lo
          omega
        · exact ih x hx
    | _ => exact ih
/-- What is said not to be 0. -/
noncomputable def nzOf (t : Tm) : Option Tm :=
  Tm.rec (fun _ => none) (fun _ _ => none) (fun o _ a _ => O1.rec none (fun _ => none) (Tm.rec (fun _ => none) (fun _ _ => none) (fun _ _ _ _ => none) (fun o _ x y _ _ => bc (Nat.beq o.code 10) (bc (isN 0 y) (some x) none) none) (fun _ _ _ _ _ _ => none) (fun _ _ _ _ => none) a) o)
    (fun _ _ _ _ _ _ => none) (fun _ _ _ _ _ _ => none) (fun _ _ _ _ => none) t
theorem nzOf_ok {σ : Nat → Nat} {t x : Tm} (h : nzOf t = some x) (ht : t.ev σ ≠ 0) : x.ev σ ≠ 0 := by
  cases t with
  | un o w a =>
    cases o with
    | bnot =>
      cases a with
      | bin o w' x' y =>
        change bc (Nat.beq o.code 10) (bc (isN 0 y) (some x') none) none = some x at h
        cases h1 : Nat.beq o.code 10
        · rw [h1] at h; cases h
        · rw [h1] at h
          cases h2 : isN 0 y
          · rw [h2] at h; cases h
          · rw [h2] at h; cases h
            have h1 := O2.code_inj (b := .eq) (of_nbeq h1)
            subst h1
            rw [isN_ok h2] at ht
            intro e
            apply ht
            show bc (Nat.beq (b2n (Nat.beq (x.ev σ) 0)) 0) 1 0 = 0
            rw [nbeq_t e]; rfl
      | _ => cases h
    | _ => cases h
  | _ => cases h
/-- A shift that is not 0 is by less than 64. -/
noncomputable def shrB (bl : List Bnd) (t : Tm) : List Bnd := Option.rec [] (fun x => Option.rec [] (fun p => withB (rng bl p.2) fun r => backB bl p.2 r.lo (bc (Nat.ble r.hi 63) r.hi 63)) (shrOf x)) (nzOf t)
theorem shrB_ok {σ} {bl : List Bnd} (h : ∀ b ∈ bl, b.ok σ) {t : Tm} (ht : t.ev σ ≠ 0) : ∀ b ∈ shrB bl t, b.ok σ := by
  unfold shrB
  cases hn : nzOf t with
  | none => intro b hb; cases hb
  | some x =>
    have hx := nzOf_ok hn ht
    show ∀ b ∈ (Option.rec [] (fun p => withB (rng bl p.2) fun r => backB bl p.2 r.lo (bc (Nat.ble r.hi 63) r.hi 63)) (shrOf x) : List Bnd), b.ok σ
    cases hp : shrOf x with
    | none => intro b hb; cases hb
    | some p =>
      show ∀ b ∈ (withB (rng bl p.2) fun r => backB bl p.2 r.lo (bc (Nat.ble r.hi 63) r.hi 63)), b.ok σ
      rw [withB_eq]
      have hr := rng_ok h p.2
      unfold In at hr
      rw [shrOf_ok hp] at hx
      change bc (Nat.ble 64 (p.2.ev σ)) 0 _ ≠ 0 at hx
      have hlt : p.2.ev σ ≤ 63 := by
        by_cases e : 64 ≤ p.2.ev σ
        · rw [nble_t e] at hx; exact absurd rfl hx
        · omega
      refine backB_ok h p.2 ⟨hr.1, ?_⟩
      cases Nat.ble (rng bl p.2).hi 63
      · exact hlt
      · exact hr.2
noncomputable def appB0 (l m : List Bnd) : List Bnd := List.rec m (fun x _ ih => x :: ih) l
theorem appB0_ok {σ} {l m : List Bnd} (hl : ∀ b ∈ l, b.ok σ) (hm : ∀ b ∈ m, b.ok σ) : ∀ b ∈ appB0 l m, b.ok σ := by
  induction l with
  | nil => exact hm
  | cons x l ih =>
    intro b hb
    change b ∈ x :: appB0 l m at hb
    rcases List.mem_cons.1 hb with rfl | hb
    · exact hl _ List.mem_cons_self
    · exact ih (fun y hy => hl y (List.mem_cons_of_mem _ hy)) b hb
noncomputable def newB (bl : List Bnd) (t : Tm) : List Bnd := appB0 (shrB bl t) (Option.rec [] (fun b => backB bl b.t b.lo b.hi) (asBnd bl t))
theorem newB_ok {σ} {bl : List Bnd} (h : ∀ b ∈ bl, b.ok σ) {t : Tm} (ht : t.ev σ ≠ 0) : ∀ b ∈ newB bl t, b.ok σ := by
  unfold newB
  refine appB0_ok (shrB_ok h ht) ?_
  cases ha : asBnd bl t with
  | none => intro b hb; cases hb
  | some b => exact backB_ok h b.t (asBnd_ok h ha ht)
noncomputable def appB (l m : List Bnd) : List Bnd := List.rec m (fun x _ ih => x :: ih) l
theorem appB_ok {σ} {l m : List Bnd} (hl : ∀ b ∈ l, b.ok σ) (hm : ∀ b ∈ m, b.ok σ) : ∀ b ∈ appB l m, b.ok σ := by
  induction l with
  | nil => exact hm
  | cons x l ih =>
    intro b hb
    change b ∈ x :: appB l m at hb
    rcases List.mem_cons.1 hb with rfl | hb
    · exact hl _ List.mem_cons_self
    · exact ih (fun y hy => hl y (List.mem_cons_of_mem _ hy)) b hb
noncomputable def forceBs {α : Type} (l : List Bnd) (k : List Bnd → α) : α := List.rec (k []) (fun v l' _ => k (v :: l')) l
theorem forceBs_eq {α : Type} (l : List Bnd) (k : List Bnd → α) : forceBs l k = k l := by cases l <;> rfl
/-- A fact on some bits alone. -/
noncomputable def isBitE (t : Tm) : Bool := Tm.rec (fun _ => false) (fun _ _ => false) (fun _ _ _ _ => false) (fun o _ x y _ _ => bc (Nat.beq o.code 10) (Option.rec false (fun _ => Tm.rec (fun _ => false) (fun _ _ => false) (fun _ _ _ _ => false) (fun o _ _ _ _ _ => bc (Nat.beq o.code 4) true (Nat.beq o.code 8)) (fun _ _ _ _ _ _ => false) (fun _ _ _ _ => false) x) (isLit y)) false) (fun _ _ _ _ _ _ => false) (fun _ _ _ _ => false) t
noncomputable def isBitF (t : Tm) : Bool := Tm.rec (fun _ => false) (fun _ _ => false) (fun o _ a _ => O1.rec false (fun _ => false) (isBitE a) o) (fun o w x y _ _ => isBitE (.bin o w x y)) (fun _ _ _ _ _ _ => false) (fun _ _ _ _ => false) t
/-- What the bits tell need not be kept. -/
noncomputable def consFact (kv : List KV) (bl : List Bnd) (t : Tm) (l : List Tm) : List Tm := bc (isBitF t) (forceN (truthB (bitsOf kv bl t)) fun r => bc (Nat.beq r 1) l (t :: l)) (t :: l)
theorem consFact_mem {kv : List KV} {bl : List Bnd} {t x : Tm} {l : List Tm} (h : x ∈ consFact kv bl t l) : x = t ∨ x ∈ l := by
  unfold consFact at h
  cases h1 : isBitF t
  · rw [h1] at h; exact List.mem_cons.1 h
  · rw [h1] at h
    change x ∈ (forceN (truthB (bitsOf kv bl t)) fun r => bc (Nat.beq r 1) l (t :: l)) at h
    rw [forceN_eq] at h
    cases h2 : Nat.beq (truthB (bitsOf kv bl t)) 1
    · rw [h2] at h; exact List.mem_cons.1 h
    · rw [h2] at h; exact .inr h
noncomputable def forceTs {α : Type} (l : List Tm) (k : List Tm → α) : α := List.rec (k []) (fun v l' _ => k (v :: l')) l
theorem forceTs_eq {α : Type} (l : List Tm) (k : List Tm → α) : forceTs l k = k l := by cases l <;> rfl
noncomputable def PC.add1 (pc : PC) (t : Tm) : PC :=
  forceBs (newB pc.bnds t) fun nb => forceKV (learnT pc.bnds pc.kv t) fun kv => forceTs (consFact kv pc.bnds t pc.facts) fun fs => ⟨fs, subsOf nb pc.subs, appB nb pc.bnds, kv, pc.lems, pc.cz, pc.hints, pc.nv⟩
theorem PC.add1_ok {σ} {pc : PC} (h : pc.ok σ) {t : Tm} (ht : t.ev σ ≠ 0) : (pc.add1 t).ok σ := by
  unfold PC.add1
  rw [forceBs_eq, forceKV_eq, forceTs_eq]
  have hn := newB_ok h.2.2.1 ht
  refine ⟨fun x hx => ?_, subsOf_ok hn h.2.1, appB_ok hn h.2.2.1, learnT_ok h.2.2.1 h.2.2.2.1 ht, h.2.2.2.2⟩
  rcases consFact_mem hx with rfl | hx
  · exact ht
  · exact h.1 x hx
noncomputable def litIs (z : Bool) (t : Tm) : Bool := Option.rec false (fun n => bc z (Nat.beq n 0) (Nat.blt 0 n)) (isLit t)
theorem litIs_t {σ} {t : Tm} (h : litIs true t = true) : t.ev σ = 0 := by
  unfold litIs at h
  cases hl : isLit t with
  | none => rw [hl] at h; cases h
  | some n => rw [hl] at h; rw [isLit_some hl]; exact of_nbeq h
theorem litIs_f {σ} {t : Tm} (h : litIs false t = true) : t.ev σ ≠ 0 := by
  unfold litIs at h
  cases hl : isLit t with
  | none => rw [hl] at h; cases h
  | some n => rw [hl] at h; rw [isLit_some hl]; have := of_nblt h; exact Nat.ne_of_gt this
/-- The parts of a fact: t, or, where neg, that it is none. -/
noncomputable def addD (t : Tm) : Bool → PC → PC :=
  Tm.rec (motive := fun _ => Bool → PC → PC) (fun _ _ pc => pc) (fun i w neg pc => pc.add1 (bc neg (mkNot (.var i w)) (.var i w)))
    (fun o w a ih neg pc => O1.rec (pc.add1 (bc neg (mkNot (.un o w a)) (.un o w a))) (fun _ => pc.add1 (bc neg (mkNot (.un o w a)) (.un o w a))) (ih (Bool.not neg) pc) o)
    (fun o w a b _ _ neg pc => pc.add1 (bc neg (mkNot (.bin o w a b)) (.bin o w a b)))
    (fun c a b ihc iha ihb neg pc => bc (litIs (Bool.not neg) b) (iha neg (ihc false pc)) (bc (litIs (Bool.not neg) a) (ihb neg (ihc true pc)) (pc.add1 (bc neg (mkNot (.ite c a b)) (.ite c a b)))))
    (fun f w a _ neg pc => pc.add1 (bc neg (mkNot (.app f w a)) (.app f w a))) t
def Sok (σ : Nat → Nat) (neg : Bool) (t : Tm) : Prop := (neg = false → t.ev σ ≠ 0) ∧ (neg = true → t.ev σ = 0)
theorem addD1 {σ} {pc : PC} (h : pc.ok σ) {t : Tm} {neg : Bool} (ht : Sok σ neg t) : (pc.add1 (bc neg (mkNot t) t)).ok σ := by
  cases neg with
  | false => exact PC.add1_ok h (ht.1 rfl)
  | true => exact PC.add1_ok h (by show (mkNot t).ev σ ≠ 0; rw [mkNot_ev, if_pos (ht.2 rfl)]; exact Nat.one_ne_zero)
theorem addD_ok {σ} {t : Tm} : ∀ {neg : Bool} {pc : PC}, pc.ok σ → Sok σ neg t → (addD t neg pc).ok σ := by
  induction t with
  | lit n => intro neg pc h _; exact h
  | var i w => intro neg pc h ht; exact addD1 h ht
  | un o w a ih =>
    intro neg pc h ht
    cases o with
    | bnot =>
      refine ih h ?_
      have e : (Tm.un .bnot w a).ev σ = if a.ev σ = 0 then 1 else 0 := mkNot_ev σ a ▸ by
        unfold mkNot; rw [mkUn_ev]; rfl
      unfold Sok at ht
      rw [e] at ht
      cases neg with
      | false =>
        refine ⟨(fun h => by cases h), fun _ => ?_⟩
        have := ht.1 rfl
        by_cases e : a.ev σ = 0
        · exact e
        · rw [if_neg e] at this; exact absurd rfl this
      | true =>
        refine ⟨fun _ => ?_, (fun h => by cases h)⟩
        have := ht.2 rfl
        intro e; rw [if_pos e] at this; cases this
    | _ => exact addD1 h ht
  | bin o w a b _ _ => intro neg pc h ht; exact addD1 h ht
  | ite c a b ihc iha ihb =>
    intro neg pc h ht
    show (bc (litIs (Bool.not neg) b) (addD a neg (addD c false pc)) (bc (litIs (Bool.not neg) a) (addD b neg (addD c true pc)) (pc.add1 (bc neg (mkNot (.ite c a b)) (.ite c a b))))).ok σ
    have ht' := ht
    unfold Sok at ht'
    rw [ev_ite] at ht'
    cases h1 : litIs (Bool.not neg) b
    · cases h2 : litIs (Bool.not neg) a
      · exact addD1 h ht
      · show (addD b neg (addD c true pc)).ok σ
        by_cases e : c.ev σ = 0
        · rw [if_pos e] at ht'
          exact ihb (ihc h ⟨(fun h => by cases h), fun _ => e⟩) ht'
        · exfalso
          rw [if_neg e] at ht'
          cases neg with
          | false => exact ht'.1 rfl (litIs_t h2)
          | true => exact litIs_f h2 (ht'.2 rfl)
    · show (addD a neg (addD c false pc)).ok σ
      by_cases e : c.ev σ = 0
      · exfalso
        rw [if_pos e] at ht'
        cases neg with
        | false => exact ht'.1 rfl (litIs_t h1)
        | true => exact litIs_f h1 (ht'.2 rfl)
      · rw [if_neg e] at ht'
        exact iha (ihc h ⟨fun _ => e, (fun h => by cases h)⟩) ht'
  | app f w a _ => intro neg pc h ht; exact addD1 h ht
noncomputable def forcePC {α : Type} (pc : PC) (k : PC → α) : α := PC.rec (fun a b c d e f g h => k ⟨a, b, c, d, e, f, g, h⟩) pc
theorem forcePC_eq {α : Type} (pc : PC) (k : PC → α) : forcePC pc k = k pc := by cases pc; rfl
noncomputable def PC.add (pc : PC) (t : Tm) (neg : Bool) : PC := addD t neg pc
theorem PC.add_ok {σ} {pc : PC} (h : pc.ok σ) {t : Tm} {neg : Bool} (ht : Sok σ neg t) : (pc.add t neg).ok σ := addD_ok h ht

end Go.Sy
end

section
/- Symbolic values, and what they denote. -/
namespace Go.Sy

/-- A symbolic value: its kind is its first number. -/
inductive SV
  | mk (tag : Nat) (k : IntKind) (a b : Nat) (t u c : Tm) (l : List SV)

@[reducible] def SV.int (k : IntKind) (t : Tm) : SV := .mk 0 k 0 0 t (.lit 0) (.lit 0) []
@[reducible] def SV.bool (t : Tm) : SV := .mk 1 .u8 0 0 t (.lit 0) (.lit 0) []
@[reducible] def SV.pnil : SV := .mk 2 .u8 0 0 (.lit 0) (.lit 0) (.lit 0) []
@[reducible] def SV.ptr (o off : Nat) : SV := .mk 3 .u8 o off (.lit 0) (.lit 0) (.lit 0) []
@[reducible] def SV.snil : SV := .mk 4 .u8 0 0 (.lit 0) (.lit 0) (.lit 0) []
/-- A slice whose length and place are numbers; u: its capacity. -/
@[reducible] def SV.slice (o off len cap : Nat) : SV := .mk 5 .u8 o off (.lit len) (.lit cap) (.lit 0) []
/-- One from place 0 on whose capacity is not known. -/
@[reducible] def SV.sliceU (o len : Nat) : SV := .mk 6 .u8 o len (.lit 0) (.lit 0) (.lit 0) []
@[reducible] def SV.mnil : SV := .mk 7 .u8 0 0 (.lit 0) (.lit 0) (.lit 0) []
@[reducible] def SV.map (o : Nat) : SV := .mk 8 .u8 o 0 (.lit 0) (.lit 0) (.lit 0) []
@[reducible] def SV.func (f : Nat) (cap : List SV) : SV := .mk 9 .u8 f 0 (.lit 0) (.lit 0) (.lit 0) cap
/-- A method of a value. -/
@[reducible] def SV.bfn (f : Nat) (first : List SV) : SV := .mk 20 .u8 f 0 (.lit 0) (.lit 0) (.lit 0) first
@[reducible] def SV.fnil : SV := .mk 10 .u8 0 0 (.lit 0) (.lit 0) (.lit 0) []
/-- A string of so many bytes. -/
@[reducible] def SV.str (bs : List SV) : SV := .mk 11 .u8 0 0 (.lit 0) (.lit 0) (.lit 0) bs
@[reducible] def SV.inil : SV := .mk 12 .u8 0 0 (.lit 0) (.lit 0) (.lit 0) []
@[reducible] def SV.agg (cs : List SV) : SV := .mk 13 .u8 0 0 (.lit 0) (.lit 0) (.lit 0) cs
@[reducible] def SV.tuple (cs : List SV) : SV := .mk 14 .u8 0 0 (.lit 0) (.lit 0) (.lit 0) cs
@[reducible] def SV.iface (t : Nat) (x : SV) : SV := .mk 15 .u8 t 0 (.lit 0) (.lit 0) (.lit 0) [x]
/-- A pointer to place f of element i, of elements of z cells; a slice of such, from element i on: its length, its capacity. -/
@[reducible] def SV.ptrT (o f : Nat) (i : Tm) (z : Nat) (d : Tm) (l : List SV := []) : SV := .mk 16 .u8 o f i (.lit z) d l
@[reducible] def SV.sliceT (o z : Nat) (i len cap : Tm) (l : List SV := []) : SV := .mk 17 .u8 o z i len cap l
/-- A string of bytes of a variable, of a length that is a term. -/
@[reducible] def SV.strT (f : Nat) (len : Tm) : SV := .mk 18 .u8 f 0 len (.lit 0) (.lit 0) []
/-- Nothing is known. -/
@[reducible] def SV.unk : SV := .mk 19 .u8 0 0 (.lit 0) (.lit 0) (.lit 0) []

def byteVals (bs : ByteArray) : List Value := bs.data.toList.map fun b => Value.int .u8 b.toNat

/-- Where a named array begins, if that is told with the name. -/
def offB (l : List SV) (n : Nat) : Nat := match l with | [] => 0 | _ :: _ => n
mutual
/-- What a symbolic value denotes: σ the variables, β the names of blocks. -/
inductive Den (σ : Nat → Nat) (β : Nat → Option (Nat × Nat)) : SV → Value → Prop
  | int {k a b t u c l} (h : t.ev σ < 2 ^ k.bits) : Den σ β (.mk 0 k a b t u c l) (.int k (ofB k (t.ev σ)))
  | bool {k a b t u c l} (h : t.ev σ ≤ 1) : Den σ β (.mk 1 k a b t u c l) (.bool (t.ev σ != 0))
  | pnil {k a b t u c l} : Den σ β (.mk 2 k a b t u c l) (.pointer none)
  | ptr {k o off t u c l b n} (h : β o = some (b, n)) : Den σ β (.mk 3 k o off t u c l) (.pointer (some ⟨b, off, none⟩))
  | snil {k a b t u c l} : Den σ β (.mk 4 k a b t u c l) (.slice none 0 0)
  | slice {k o off len cap c l b n} (h : β o = some (b, n)) : Den σ β (.mk 5 k o off (.lit len) (.lit cap) c l) (.slice (some ⟨b, off, none⟩) len cap)
  | sliceU {k o len c l b n off sh} (h : β o = some (b, n)) (hl : len + sh ≤ n) (hz : off = 0 → sh = 0) : Den σ β (.mk 6 k o len (.lit off) (.lit sh) c l) (.slice (some ⟨b, off, none⟩) len (n - sh))
  | mnil {k a b t u c l} : Den σ β (.mk 7 k a b t u c l) (.map none)
  | map {k o a t u c l b n} (h : β o = some (b, n)) : Den σ β (.mk 8 k o a t u c l) (.map (some b))
  | func {k f a t u c cap vs} (h : DenL σ β cap vs) : Den σ β (.mk 9 k f a t u c cap) (.func (.func f) #[] vs.toArray)
  | fnil {k a b t u c l} : Den σ β (.mk 10 k a b t u c l) .nilFunc
  | str {k a b t u c l bs} (h : DenL σ β l (byteVals bs)) : Den σ β (.mk 11 k a b t u c l) (.string bs)
  | inil {k a b t u c l} : Den σ β (.mk 12 k a b t u c l) .nilIface
  | agg {k a b t u c cs vs} (h : DenL σ β cs vs) : Den σ β (.mk 13 k a b t u c cs) (.agg vs.toArray)
  | tuple {k a b t u c cs vs} (h : DenL σ β cs vs) : Den σ β (.mk 14 k a b t u c cs) (.tuple vs.toArray)
  | iface {k ty a t u c x v} (h : Den σ β x v) : Den σ β (.mk 15 k ty a t u c [x]) (.iface ty v)
  | ptrT {k o f i z c l b n} (h : β o = some (b, n)) : Den σ β (.mk 16 k o f i (.lit z) c l) (.pointer (some ⟨b, offB l n + (c.ev σ + i.ev σ * z + f), none⟩))
  | sliceT {k o z t u c l b n} (h : β o = some (b, n)) (hl : u.ev σ ≤ c.ev σ) (hc : c.ev σ < 2 ^ 63) : Den σ β (.mk 17 k o z t u c l) (.slice (some ⟨b, offB l n + t.ev σ, none⟩) (u.ev σ) (c.ev σ))
  | strT {k f a t u c l} {bs : ByteArray} (hl : bs.size = t.ev σ) (h : ∀ i v, (byteVals bs)[i]? = some v → v = Value.int .u8 (ofB .u8 (σ (appAt f i) % 2 ^ 8))) : Den σ β (.mk 18 k f a t u c l) (.string bs)
  | bfn {k f a t u c cap vs} (h : DenL σ β cap vs) : Den σ β (.mk 20 k f a t u c cap) (.func (.func f) vs.toArray #[])
inductive DenL (σ : Nat → Nat) (β : Nat → Option (Nat × Nat)) : List SV → List Value → Prop
  | nil : DenL σ β [] []
  | cons {c : SV} {v : Value} {cs : List SV} {vs : List Value} (h : Den σ β c v) (t : DenL σ β cs vs) : DenL σ β (c :: cs) (v :: vs)
end

theorem Den.bool' {σ β} {t : Tm} (h : t.ev σ ≤ 1) : Den σ β (SV.bool t) (.bool (t.ev σ != 0)) := .bool h
theorem Den.int' {σ β} {k : IntKind} {t : Tm} (h : t.ev σ < 2 ^ k.bits) : Den σ β (SV.int k t) (.int k (ofB k (t.ev σ))) := .int h

theorem Den.int_inv {σ β} {k : IntKind} {t : Tm} {v : Value} (h : Den σ β (SV.int k t) v) : v = .int k (ofB k (t.ev σ)) ∧ t.ev σ < 2 ^ k.bits := by cases h with | int h => exact ⟨rfl, h⟩

def Ext (β β' : Nat → Option (Nat × Nat)) : Prop := ∀ o b, β o = some b → β' o = some b
theorem Ext.refl (β : Nat → Option (Nat × Nat)) : Ext β β := fun _ _ h => h
theorem Ext.trans {a b c : Nat → Option (Nat × Nat)} (h : Ext a b) (k : Ext b c) : Ext a c := fun o x hx => k o x (h o x hx)

mutual
theorem Den.mono {σ : Nat → Nat} {β β' : Nat → Option (Nat × Nat)} (e : Ext β β') : ∀ {s : SV} {v : Value}, Den σ β s v → Den σ β' s v
  | _, _, .int h => .int h
  | _, _, .bool h => .bool h
  | _, _, .pnil => .pnil
  | _, _, .ptr h => .ptr (e _ _ h)
  | _, _, .snil => .snil
  | _, _, .slice h => .slice (e _ _ h)
  | _, _, .sliceU h hl hz => .sliceU (e _ _ h) hl hz
  | _, _, .mnil => .mnil
  | _, _, .map h => .map (e _ _ h)
  | _, _, .func h => .func (DenL.mono e h)
  | _, _, .fnil => .fnil
  | _, _, .str h => .str (DenL.mono e h)
  | _, _, .inil => .inil
  | _, _, .agg h => .agg (DenL.mono e h)
  | _, _, .tuple h => .tuple (DenL.mono e h)
  | _, _, .iface h => .iface (Den.mono e h)
  | _, _, .ptrT h => .ptrT (e _ _ h)
  | _, _, .sliceT h hl hc => .sliceT (e _ _ h) hl hc
  | _, _, .strT hl h => .strT hl h
  | _, _, .bfn h => .bfn (DenL.mono e h)
theorem DenL.mono {σ : Nat → Nat} {β β' : Nat → Option (Nat × Nat)} (e : Ext β β') : ∀ {s : List SV} {v : List Value}, DenL σ β s v → DenL σ β' s v
  | _, _, .nil => .nil
  | _, _, .cons h t => .cons (Den.mono e h) (DenL.mono e t)
end

theorem DenL.length {σ β} : ∀ {cs : List SV} {vs : List Value}, DenL σ β cs vs → cs.length = vs.length
  | _, _, .nil => rfl
  | _, _, .cons _ t => by simp [DenL.length t]
theorem DenL.get {σ β} : ∀ {cs : List SV} {vs : List Value}, DenL σ β cs vs → ∀ {i : Nat} {c : SV}, cs[i]? = some c → ∃ v, vs[i]? = some v ∧ Den σ β c v
  | _, _, .nil, i, c, h => by simp at h
  | _, _, .cons (c := c0) (v := v0) h t, i, c, hi => by
    cases i with
    | zero => simp at hi; subst hi; exact ⟨v0, by simp, h⟩
    | succ i => simp at hi; obtain ⟨v, h1, h2⟩ := DenL.get t hi; exact ⟨v, by simpa using h1, h2⟩
theorem DenL.append {σ β} : ∀ {a b : List SV} {va vb : List Value}, DenL σ β a va → DenL σ β b vb → DenL σ β (a ++ b) (va ++ vb)
  | _, _, _, _, .nil, h => h
  | _, _, _, _, .cons h t, k => .cons h (DenL.append t k)
theorem DenL.take {σ β} : ∀ {a : List SV} {va : List Value}, DenL σ β a va → ∀ n, DenL σ β (a.take n) (va.take n)
  | _, _, .nil, n => by simpa using DenL.nil
  | _, _, .cons h t, n => by cases n with
    | zero => simpa using DenL.nil
    | succ n => simpa using DenL.cons h (DenL.take t n)
theorem DenL.drop {σ β} : ∀ {a : List SV} {va : List Value}, DenL σ β a va → ∀ n, DenL σ β (a.drop n) (va.drop n)
  | _, _, .nil, n => by simpa using DenL.nil
  | _, _, .cons h t, n => by cases n with
    | zero => simpa using DenL.cons h t
    | succ n => simpa using DenL.drop t n

/-! ### What a value is -/
section
variable {σ : Nat → Nat} {β : Nat → Option (Nat × Nat)} {s : SV} {v : Value}
theorem tag_of {n : Nat} (h : Nat.beq s.1 n = true) : ∃ k a b t u c l, s = .mk n k a b t u c l := by
  obtain ⟨tag, k, a, b, t, u, c, l⟩ := s
  exact ⟨k, a, b, t, u, c, l, by rw [← of_nbeq h]⟩

noncomputable def svInt (s : SV) : Option (IntKind × Tm) := bc (Nat.beq s.1 0) (some (s.2, s.5)) none
theorem svInt_some {x : IntKind × Tm} (h : svInt s = some x) (hd : Den σ β s v) : Den σ β (.int x.1 x.2) v := by
  unfold svInt at h
  cases hb : Nat.beq s.1 0
  · rw [hb] at h; cases h
  · rw [hb] at h; cases h
    obtain ⟨k, a, b, t, u, c, l, rfl⟩ := tag_of hb
    cases hd with | int h => exact .int h
noncomputable def svBool (s : SV) : Option Tm := bc (Nat.beq s.1 1) (some s.5) none
theorem svBool_some {x : Tm} (h : svBool s = some x) (hd : Den σ β s v) : Den σ β (.bool x) v := by
  unfold svBool at h
  cases hb : Nat.beq s.1 1
  · rw [hb] at h; cases h
  · rw [hb] at h; cases h
    obtain ⟨k, a, b, t, u, c, l, rfl⟩ := tag_of hb
    cases hd with | bool h => exact .bool h
noncomputable def svPtr (s : SV) : Option (Nat × Nat) := bc (Nat.beq s.1 3) (some (s.3, s.4)) none
theorem svPtr_some {x : Nat × Nat} (h : svPtr s = some x) (hd : Den σ β s v) : Den σ β (.ptr x.1 x.2) v := by
  unfold svPtr at h
  cases hb : Nat.beq s.1 3
  · rw [hb] at h; cases h
  · rw [hb] at h; cases h
    obtain ⟨k, a, b, t, u, c, l, rfl⟩ := tag_of hb
    cases hd with | ptr h => exact .ptr h
noncomputable def svAgg (s : SV) : Option (List SV) := bc (Nat.beq s.1 13) (some s.8) none
theorem svAgg_some {x : List SV} (h : svAgg s = some x) (hd : Den σ β s v) : Den σ β (.agg x) v := by
  unfold svAgg at h
  cases hb : Nat.beq s.1 13
  · rw [hb] at h; cases h
  · rw [hb] at h; cases h
    obtain ⟨k, a, b, t, u, c, l, rfl⟩ := tag_of hb
    cases hd with | agg h => exact .agg h
noncomputable def svTup (s : SV) : Option (List SV) := bc (Nat.beq s.1 14) (some s.8) none
theorem svTup_some {x : List SV} (h : svTup s = some x) (hd : Den σ β s v) : Den σ β (.tuple x) v := by
  unfold svTup at h
  cases hb : Nat.beq s.1 14
  · rw [hb] at h; cases h
  · rw [hb] at h; cases h
    obtain ⟨k, a, b, t, u, c, l, rfl⟩ := tag_of hb
    cases hd with | tuple h => exact .tuple h
noncomputable def svMap (s : SV) : Option Nat := bc (Nat.beq s.1 8) (some s.3) none
theorem svMap_some {x : Nat} (h : svMap s = some x) (hd : Den σ β s v) : Den σ β (.map x) v := by
  unfold svMap at h
  cases hb : Nat.beq s.1 8
  · rw [hb] at h; cases h
  · rw [hb] at h; cases h
    obtain ⟨k, a, b, t, u, c, l, rfl⟩ := tag_of hb
    cases hd with | map h => exact .map h
noncomputable def svBfn (s : SV) : Option (Nat × List SV) := bc (Nat.beq s.1 20) (some (s.3, s.8)) none
theorem svBfn_some {x : Nat × List SV} (h : svBfn s = some x) (hd : Den σ β s v) : Den σ β (.bfn x.1 x.2) v := by
  unfold svBfn at h
  cases hb : Nat.beq s.1 20
  · rw [hb] at h; cases h
  · rw [hb] at h; cases h
    obtain ⟨k, a, b, t, u, c, l, rfl⟩ := tag_of hb
    cases hd with | bfn h => exact .bfn h
noncomputable def svFunc (s : SV) : Option (Nat × List SV) := bc (Nat.beq s.1 9) (some (s.3, s.8)) none
theorem svFunc_some {x : Nat × List SV} (h : svFunc s = some x) (hd : Den σ β s v) : Den σ β (.func x.1 x.2) v := by
  unfold svFunc at h
  cases hb : Nat.beq s.1 9
  · rw [hb] at h; cases h
  · rw [hb] at h; cases h
    obtain ⟨k, a, b, t, u, c, l, rfl⟩ := tag_of hb
    cases hd with | func h => exact .func h
noncomputable def svStr (s : SV) : Option (List SV) := bc (Nat.beq s.1 11) (some s.8) none
theorem svStr_some {x : List SV} (h : svStr s = some x) (hd : Den σ β s v) : Den σ β (.str x) v := by
  unfold svStr at h
  cases hb : Nat.beq s.1 11
  · rw [hb] at h; cases h
  · rw [hb] at h; cases h
    obtain ⟨k, a, b, t, u, c, l, rfl⟩ := tag_of hb
    cases hd with | str h => exact .str h
end

/-- A slice: where it lies, its length, its capacity if it is known. -/
structure SlV where
  at_ : Option (Nat × Nat)
  len : Nat
  cap : Option Nat
noncomputable def litOr (t : Tm) : Nat := Option.rec 0 (fun n => n) (isLit t)
noncomputable def svSl (s : SV) : Option SlV :=
  bc (Nat.beq s.1 5) (Option.rec none (fun n => Option.rec none (fun c => some ⟨some (s.3, s.4), n, some c⟩) (isLit s.6)) (isLit s.5))
    (bc (Nat.beq s.1 6) (Option.rec none (fun off => some ⟨some (s.3, off), s.4, none⟩) (isLit s.5)) (bc (Nat.beq s.1 4) (some ⟨none, 0, some 0⟩) none))
theorem svSl_den {σ β} {s : SV} {q : SlV} (h : svSl s = some q) {v : Value} (hd : Den σ β s v) :
    (q.at_ = none ∧ q.len = 0 ∧ q.cap = some 0 ∧ v = .slice none 0 0) ∨
    (∃ o off b c cap, q.at_ = some (o, off) ∧ β o = some (b, c) ∧ v = .slice (some ⟨b, off, none⟩) q.len cap ∧ (∀ k, q.cap = some k → cap = k) ∧ (q.cap = none → ∃ sh, s.1 = 6 ∧ s.6 = .lit sh ∧ cap = c - sh ∧ q.len + sh ≤ c ∧ (off = 0 → sh = 0))) := by
  unfold svSl at h
  cases h5 : Nat.beq s.1 5
  · cases h6 : Nat.beq s.1 6
    · cases h4 : Nat.beq s.1 4
      · rw [h5, h6, h4] at h; cases h
      · rw [h5, h6, h4] at h; cases h
        obtain ⟨k, a, b, t, u, c, l, rfl⟩ := tag_of h4
        cases hd
        exact .inl ⟨rfl, rfl, rfl, rfl⟩
    · rw [h5, h6] at h
      obtain ⟨k, a, b, t, u, c, l, rfl⟩ := tag_of h6
      cases hd with
      | sliceU hb hl hz => cases h; exact .inr ⟨_, _, _, _, _, rfl, hb, rfl, (fun k hk => by cases hk), fun _ => ⟨_, rfl, rfl, rfl, hl, hz⟩⟩
  · rw [h5] at h
    obtain ⟨k, a, b, t, u, c, l, rfl⟩ := tag_of h5
    cases hd with
    | slice hb =>
      cases h
      exact .inr ⟨_, _, _, _, _, rfl, hb, rfl, (fun k hk => by cases hk; rfl), (fun hk => by cases hk)⟩

theorem byteVals_inj : ∀ {a b : ByteArray}, byteVals a = byteVals b → a = b := by
  intro a b h
  unfold byteVals at h
  have key : ∀ {x y : List UInt8}, (x.map fun b => Value.int .u8 b.toNat) = (y.map fun b => Value.int .u8 b.toNat) → x = y := by
    intro x
    induction x with
    | nil => intro y h; cases y with
      | nil => rfl
      | cons _ _ => cases h
    | cons c x ih => intro y h; cases y with
      | nil => cases h
      | cons d y =>
        simp only [List.map_cons, List.cons.injEq, Value.int.injEq, true_and] at h
        obtain ⟨h1, h2⟩ := h
        have h1' : c.toNat = d.toNat := by exact_mod_cast h1
        rw [UInt8.toNat_inj.1 h1', ih h2]
  cases a; cases b
  rename_i a b
  have := key h
  rw [Array.toList_inj] at this
  have this : a = b := this
  rw [this]
theorem byteVals_length (bs : ByteArray) : (byteVals bs).length = bs.size := by
  unfold byteVals; rw [List.length_map, Array.length_toList]; rfl

mutual
theorem Den.det {σ β} : ∀ {s : SV} {v v' : Value}, Den σ β s v → Den σ β s v' → v = v'
  | _, _, _, .int _, .int _ => rfl
  | _, _, _, .bool _, .bool _ => rfl
  | _, _, _, .pnil, .pnil => rfl
  | _, _, _, .ptr h, .ptr h' => by rw [h] at h'; simp at h'; rw [h'.1]
  | _, _, _, .snil, .snil => rfl
  | _, _, _, .slice h, .slice h' => by rw [h] at h'; simp at h'; rw [h'.1]
  | _, _, _, .sliceU h _ _, .sliceU h' _ _ => by rw [h] at h'; simp at h'; rw [h'.1, h'.2]
  | _, _, _, .mnil, .mnil => rfl
  | _, _, _, .map h, .map h' => by rw [h] at h'; simp at h'; rw [h'.1]
  | _, _, _, .func h, .func h' => by rw [DenL.det h h']
  | _, _, _, .fnil, .fnil => rfl
  | _, _, _, .bfn h, .bfn h' => by rw [DenL.det h h']
  | _, _, _, .str h, .str h' => by rw [byteVals_inj (DenL.det h h')]
  | _, _, _, .inil, .inil => rfl
  | _, _, _, .agg h, .agg h' => by rw [DenL.det h h']
  | _, _, _, .tuple h, .tuple h' => by rw [DenL.det h h']
  | _, _, _, .iface h, .iface h' => by rw [Den.det h h']
  | _, _, _, .ptrT h, .ptrT h' => by rw [h] at h'; simp at h'; rw [h'.1, h'.2]
  | _, _, _, .sliceT h _ _, .sliceT h' _ _ => by rw [h] at h'; simp at h'; rw [h'.1, h'.2]
  | _, _, _, .strT hl h, .strT hl' h' => by
    congr 1
    apply byteVals_inj
    apply List.ext_getElem?
    intro i
    rename_i bs bs'
    have e1 := byteVals_length bs
    have e2 := byteVals_length bs'
    by_cases hi : i < (byteVals bs).length
    · have hi' : i < (byteVals bs').length := by rw [e2, hl', ← hl, ← e1]; exact hi
      rw [List.getElem?_eq_getElem hi, List.getElem?_eq_getElem hi']
      rw [h i _ (List.getElem?_eq_getElem hi), h' i _ (List.getElem?_eq_getElem hi')]
    · have hi' : ¬ i < (byteVals bs').length := by rw [e2, hl', ← hl, ← e1]; exact hi
      rw [List.getElem?_eq_none (Nat.le_of_not_lt hi), List.getElem?_eq_none (Nat.le_of_not_lt hi')]
theorem DenL.det {σ β} : ∀ {s : List SV} {v v' : List Value}, DenL σ β s v → DenL σ β s v' → v = v'
  | _, _, _, .nil, .nil => rfl
  | _, _, _, .cons h t, .cons h' t' => by rw [Den.det h h', DenL.det t t']
end

end Go.Sy
end

section
/- What a symbolic run answers; parting the ways. -/
namespace Go.Sy

inductive Ans
  | ok
  | bad (n : Nat)
  | fork (t : Tm) (a b : Ans)
  | both (a b : Ans)
  | leaf (s : SV)
  | note (n : Nat) (a : Ans)
  | hav (nv : Nat) (a : Ans)

/-- Two assignments that agree on the variables below nv, and on all that is fixed. -/
def Ag (nv : Nat) (σ σ' : Nat → Nat) : Prop := (∀ i, i < nv → σ' i = σ i) ∧ (∀ f x, (f < nv ∨ 4294967296 ≤ f) → σ' (appAt f x) = σ (appAt f x))
theorem Ag.refl (nv : Nat) (σ : Nat → Nat) : Ag nv σ σ := ⟨fun _ _ => rfl, fun _ _ _ => rfl⟩
theorem Ag.trans {nv : Nat} {a b c : Nat → Nat} (h : Ag nv a b) (k : Ag nv b c) : Ag nv a c :=
  ⟨fun i hi => (k.1 i hi).trans (h.1 i hi), fun f x hf => (k.2 f x hf).trans (h.2 f x hf)⟩
theorem Ag.mono {n m : Nat} {a b : Nat → Nat} (h : Ag m a b) (hle : n ≤ m) : Ag n a b :=
  ⟨fun i hi => h.1 i (Nat.lt_of_lt_of_le hi hle), fun f x hf => h.2 f x (hf.imp (fun h => Nat.lt_of_lt_of_le h hle) id)⟩
theorem Ag.symm {nv : Nat} {a b : Nat → Nat} (h : Ag nv a b) : Ag nv b a := ⟨fun i hi => (h.1 i hi).symm, fun f x hf => (h.2 f x hf).symm⟩

/-- An answer that stands under an assignment. -/
def Ans.sat (L : (Nat → Nat) → SV → Prop) : Ans → (Nat → Nat) → Prop
  | .ok, _ => True
  | .bad _, _ => False
  | .fork t a b, σ => (t.ev σ ≠ 0 → a.sat L σ) ∧ (t.ev σ = 0 → b.sat L σ)
  | .both a b, σ => a.sat L σ ∧ b.sat L σ
  | .leaf s, σ => L σ s
  | .note _ a, σ => a.sat L σ
  | .hav nv a, σ => ∀ σ', Ag nv σ σ' → a.sat L σ'

/-- Nothing is left to be shown. -/
noncomputable def Ans.good (a : Ans) : Bool := Ans.rec true (fun _ => false) (fun _ _ _ x y => bc x y false) (fun _ _ x y => bc x y false) (fun _ => false) (fun _ _ x => x) (fun _ _ x => x) a
theorem Ans.good_sat {a : Ans} (h : a.good = true) (L : (Nat → Nat) → SV → Prop) : ∀ σ, a.sat L σ := by
  induction a with
  | ok => intro σ; trivial
  | bad n => cases h
  | fork t a b iha ihb =>
    intro σ
    change bc a.good b.good false = true at h
    cases ha : a.good
    · rw [ha] at h; cases h
    · rw [ha] at h
      exact ⟨fun _ => iha ha σ, fun _ => ihb h σ⟩
  | both a b iha ihb =>
    intro σ
    change bc a.good b.good false = true at h
    cases ha : a.good
    · rw [ha] at h; cases h
    · rw [ha] at h
      exact ⟨iha ha σ, ihb h σ⟩
  | leaf s => cases h
  | note n a ih => intro σ; exact ih h σ
  | hav nv a ih => intro σ σ' _; exact ih h σ'

/-! ### A part of an answer -/
/-- Which ways are looked at. -/
inductive PT
  | all
  | skip
  | node (a b : PT)
noncomputable def PT.isSkip (p : PT) : Bool := PT.rec false true (fun _ _ _ _ => false) p
noncomputable def Ans.goodT (a : Ans) : PT → Bool :=
  Ans.rec (motive := fun _ => PT → Bool) (fun _ => true) (fun _ p => p.isSkip)
    (fun _ _ _ x y p => PT.rec (bc (x .all) (y .all) false) true (fun l r _ _ => bc (bc l.isSkip true (x l)) (bc r.isSkip true (y r)) false) p)
    (fun _ _ x y p => PT.rec (bc (x .all) (y .all) false) true (fun l r _ _ => bc (bc l.isSkip true (x l)) (bc r.isSkip true (y r)) false) p)
    (fun _ p => p.isSkip) (fun _ _ x p => bc p.isSkip true (x p)) (fun _ _ x p => bc p.isSkip true (x p)) a
theorem goodT_skip (a : Ans) : a.goodT .skip = true := by cases a <;> rfl
theorem goodT_all (a : Ans) : a.goodT .all = a.good := by
  induction a with
  | ok => rfl
  | bad n => rfl
  | fork t a b iha ihb => show bc (a.goodT .all) (b.goodT .all) false = bc a.good b.good false; rw [iha, ihb]
  | both a b iha ihb => show bc (a.goodT .all) (b.goodT .all) false = bc a.good b.good false; rw [iha, ihb]
  | leaf s => rfl
  | note n a ih => exact ih
  | hav n a ih => exact ih
noncomputable def mkNode (a b : PT) : PT := PT.rec (PT.rec .all (.node .all .skip) (fun x y _ _ => .node .all (.node x y)) b) (PT.rec (.node .skip .all) .skip (fun x y _ _ => .node .skip (.node x y)) b) (fun x y _ _ => .node (.node x y) b) a
/-- Ways of the one, and of the other. -/
noncomputable def PT.or (p : PT) : PT → PT :=
  PT.rec (motive := fun _ => PT → PT) (fun _ => .all) (fun q => q) (fun a b iha ihb q => PT.rec .all (.node a b) (fun c d _ _ => mkNode (iha c) (ihb d)) q) p
theorem sk_or {l : PT} {x : PT → Bool} (h : x .skip = true) : bc l.isSkip true (x l) = x l := by
  cases l
  · rfl
  · exact h.symm
  · rfl
theorem goodT_node (a b : PT) (p : Ans) (h : p.goodT (.node a b) = true) : p.goodT (mkNode a b) = true := by
  induction p with
  | ok => rfl
  | bad n => cases h
  | leaf s => cases h
  | fork t x y _ _ => cases a <;> cases b <;> first | exact h | exact goodT_skip _
  | both x y _ _ => cases a <;> cases b <;> first | exact h | exact goodT_skip _
  | note n x ih => cases a <;> cases b <;> first | exact ih h | exact goodT_skip _
  | hav n x ih => cases a <;> cases b <;> first | exact ih h | exact goodT_skip _
theorem goodT_or : ∀ (p q : PT) (a : Ans), a.goodT p = true → a.goodT q = true → a.goodT (p.or q) = true := by
  intro p
  induction p with
  | all => intro q a h _; exact h
  | skip => intro q a _ h; exact h
  | node l r ihl ihr =>
    intro q a h1 h2
    cases q with
    | all => exact h2
    | skip => exact h1
    | node c d =>
      show a.goodT (mkNode (l.or c) (r.or d)) = true
      refine goodT_node _ _ _ ?_
      induction a with
      | ok => rfl
      | bad n => cases h1
      | leaf s => cases h1
      | fork t x y _ _ =>
        obtain ⟨a1, a2⟩ := band_eq (show band (bc l.isSkip true (x.goodT l)) (bc r.isSkip true (y.goodT r)) = true from h1)
        obtain ⟨b1, b2⟩ := band_eq (show band (bc c.isSkip true (x.goodT c)) (bc d.isSkip true (y.goodT d)) = true from h2)
        rw [sk_or (x := x.goodT) (goodT_skip x)] at a1 b1
        rw [sk_or (x := y.goodT) (goodT_skip y)] at a2 b2
        show bc (bc (l.or c).isSkip true (x.goodT (l.or c))) (bc (r.or d).isSkip true (y.goodT (r.or d))) false = true
        rw [sk_or (x := x.goodT) (goodT_skip x), sk_or (x := y.goodT) (goodT_skip y), ihl c x a1 b1, ihr d y a2 b2]
      | both x y _ _ =>
        obtain ⟨a1, a2⟩ := band_eq (show band (bc l.isSkip true (x.goodT l)) (bc r.isSkip true (y.goodT r)) = true from h1)
        obtain ⟨b1, b2⟩ := band_eq (show band (bc c.isSkip true (x.goodT c)) (bc d.isSkip true (y.goodT d)) = true from h2)
        rw [sk_or (x := x.goodT) (goodT_skip x)] at a1 b1
        rw [sk_or (x := y.goodT) (goodT_skip y)] at a2 b2
        show bc (bc (l.or c).isSkip true (x.goodT (l.or c))) (bc (r.or d).isSkip true (y.goodT (r.or d))) false = true
        rw [sk_or (x := x.goodT) (goodT_skip x), sk_or (x := y.goodT) (goodT_skip y), ihl c x a1 b1, ihr d y a2 b2]
      | note n x ih => exact ih h1 h2
      | hav n x ih => exact ih h1 h2
/-- A term is worth something, or nothing, under all assignments that agree. -/
def TS (nv : Nat) (σ : Nat → Nat) (t : Tm) : Prop := ∀ σ', Ag nv σ σ' → (t.ev σ' = 0 ↔ t.ev σ = 0)
theorem TS.not {nv σ t} (h : TS nv σ t) : TS nv σ (mkNot t) := fun σ' ha => by
  rw [mkNot_ev, mkNot_ev]
  have := h σ' ha
  by_cases e : t.ev σ = 0
  · rw [if_pos e, if_pos (this.2 e)]
  · rw [if_neg e, if_neg fun e' => e (this.1 e')]

/-- What is known holds under all that agree. -/
def PC.okC (σ : Nat → Nat) (pc : PC) : Prop := ∀ σ', Ag pc.nv σ σ' → pc.ok σ'
theorem PC.okC.ok {σ} {pc : PC} (h : pc.okC σ) : pc.ok σ := h σ (Ag.refl _ _)

theorem add1_nv (pc : PC) (t : Tm) : (pc.add1 t).nv = pc.nv := by unfold PC.add1; rw [forceBs_eq, forceKV_eq, forceTs_eq]
theorem addD_nv (t : Tm) : ∀ (neg : Bool) (pc : PC), (addD t neg pc).nv = pc.nv := by
  induction t with
  | lit n => intro neg pc; rfl
  | var i w => intro neg pc; exact add1_nv _ _
  | un o w a ih =>
    intro neg pc
    cases o with
    | bnot => exact ih _ _
    | _ => exact add1_nv _ _
  | bin o w a b _ _ => intro neg pc; exact add1_nv _ _
  | ite c a b ihc iha ihb =>
    intro neg pc
    show (bc (litIs (Bool.not neg) b) (addD a neg (addD c false pc)) (bc (litIs (Bool.not neg) a) (addD b neg (addD c true pc)) (pc.add1 (bc neg (mkNot (.ite c a b)) (.ite c a b))))).nv = _
    cases litIs (Bool.not neg) b
    · cases litIs (Bool.not neg) a
      · exact add1_nv _ _
      · exact (ihb _ _).trans (ihc _ _)
    · exact (iha _ _).trans (ihc _ _)
  | app f w a _ => intro neg pc; exact add1_nv _ _
theorem PC.add_nv (pc : PC) (t : Tm) (neg : Bool) : (pc.add t neg).nv = pc.nv := addD_nv t neg pc
theorem PC.add_okC {σ} {pc : PC} (h : pc.okC σ) {t : Tm} {neg : Bool} (ht : Sok σ neg t) (hs : TS pc.nv σ t) : (pc.add t neg).okC σ := by
  intro σ' ha
  rw [PC.add_nv] at ha
  refine PC.add_ok (h σ' ha) ⟨fun e => ?_, fun e => ?_⟩
  · intro h0; exact ht.1 e ((hs σ' ha).1 h0)
  · exact (hs σ' ha).2 (ht.2 e)

/-- A term that may be few numbers: one way for each. -/
noncomputable def forkN (w : Nat) (t : Tm) (pc : PC) (k : Nat → PC → Ans) (n : Nat) : Nat → Ans :=
  Nat.rec (motive := fun _ => Nat → Ans) (fun _ => .ok) (fun _ ih lo => forceN lo fun lo => forceN (decT pc (.bin .eq w t (.lit lo))) fun v =>
    bc (Nat.beq v 0) (ih (Nat.succ lo)) (bc (Nat.beq v 1) (k lo pc) (.fork (.bin .eq w t (.lit lo)) (forcePC (pc.add (.bin .eq w t (.lit lo)) false) fun pc => k lo pc) (ih (Nat.succ lo))))) n
/-- A term that is worth the same under all that agree. -/
def VS (nv : Nat) (σ : Nat → Nat) (t : Tm) : Prop := ∀ σ', Ag nv σ σ' → t.ev σ' = t.ev σ

theorem forkN_ok {L : (Nat → Nat) → SV → Prop} {σ} {pc : PC} (h : pc.okC σ) {w : Nat} {t : Tm} (hs : VS pc.nv σ t) {k : Nat → PC → Ans} :
    ∀ {n lo : Nat}, (forkN w t pc k n lo).sat L σ → lo ≤ t.ev σ → t.ev σ < lo + n → ∃ pc', pc'.okC σ ∧ pc'.nv = pc.nv ∧ (k (t.ev σ) pc').sat L σ
  | 0, lo, _, h1, h2 => by omega
  | n + 1, lo, hk, h1, h2 => by
    change Ans.sat L (forceN lo fun lo => forceN (decT pc (.bin .eq w t (.lit lo))) fun v =>
      bc (Nat.beq v 0) (forkN w t pc k n (Nat.succ lo)) (bc (Nat.beq v 1) (k lo pc) (.fork (.bin .eq w t (.lit lo)) (forcePC (pc.add (.bin .eq w t (.lit lo)) false) fun pc => k lo pc) (forkN w t pc k n (Nat.succ lo))))) σ at hk
    rw [forceN_eq, forceN_eq, forcePC_eq] at hk
    have he : ∀ σ', (Tm.bin .eq w t (.lit lo)).ev σ' = b2n (Nat.beq (t.ev σ') lo) := fun _ => rfl
    have hts : TS pc.nv σ (Tm.bin .eq w t (.lit lo)) := fun σ' ha => by rw [he, he, hs σ' ha]
    by_cases e : t.ev σ = lo
    · have hne : (Tm.bin .eq w t (.lit lo)).ev σ ≠ 0 := by rw [he, nbeq_t e]; exact Nat.one_ne_zero
      have hdec := decT_ok h.ok (t := .bin .eq w t (.lit lo))
      have h0 : Nat.beq (decT pc (.bin .eq w t (.lit lo))) 0 = false := nbeq_f fun h0 => hne (hdec.2 h0)
      rw [h0] at hk
      cases h1 : Nat.beq (decT pc (.bin .eq w t (.lit lo))) 1
      · rw [h1] at hk
        refine ⟨_, PC.add_okC h (t := .bin .eq w t (.lit lo)) (neg := false) ⟨fun _ => hne, (fun h => by cases h)⟩ hts, PC.add_nv _ _ _, ?_⟩
        rw [e]; exact hk.1 hne
      · rw [h1] at hk
        exact ⟨pc, h, rfl, e ▸ hk⟩
    · have h0' : (Tm.bin .eq w t (.lit lo)).ev σ = 0 := by rw [he, nbeq_f e]; rfl
      have hk' : (forkN w t pc k n (Nat.succ lo)).sat L σ := by
        cases h0 : Nat.beq (decT pc (.bin .eq w t (.lit lo))) 0
        · rw [h0] at hk
          cases h1 : Nat.beq (decT pc (.bin .eq w t (.lit lo))) 1
          · rw [h1] at hk; exact hk.2 h0'
          · exact absurd h0' ((decT_ok h.ok (t := .bin .eq w t (.lit lo))).1 (of_nbeq h1))
        · rw [h0] at hk; exact hk
      exact forkN_ok h hs hk' (by rw [Nat.succ_eq_add_one]; omega) (by rw [Nat.succ_eq_add_one]; omega)

/-- The variable that a fact bounds. -/
noncomputable def varAt (t : Tm) : Option (Nat × Nat) := Tm.rec (fun _ => none) (fun i w => some (i, w)) (fun _ _ _ _ => none) (fun _ _ _ _ _ _ => none) (fun _ _ _ _ _ _ => none) (fun _ _ _ _ => none) t
noncomputable def varOf (t : Tm) : Option (Nat × Nat) :=
  Tm.rec (fun _ => none) (fun _ _ => none) (fun _ _ _ ih => ih) (fun _ _ a b _ _ => Option.rec (varAt b) (fun x => some x) (varAt a)) (fun _ _ _ _ _ _ => none) (fun _ _ _ _ => none) t
/-- A variable that may be few numbers only, of which the first or the last is barred: one way for each. -/
noncomputable def tight (pc : PC) (t : Tm) (k : PC → Ans) : Ans :=
  Option.rec (k pc) (fun x => bc (Nat.blt x.1 pc.nv) (withB (rng pc.bnds (.var x.1 x.2)) fun r => bc (Nat.ble (Nat.sub r.hi r.lo) 8)
    (bc (bc (Nat.beq (decT pc (.bin .eq x.2 (.var x.1 x.2) (.lit r.lo))) 0) true (Nat.beq (decT pc (.bin .eq x.2 (.var x.1 x.2) (.lit r.hi))) 0))
      (forkN x.2 (.var x.1 x.2) pc (fun _ pc => k pc) (Nat.succ (Nat.sub r.hi r.lo)) r.lo) (k pc)) (k pc)) (k pc)) (varOf t)
theorem tight_ok {L : (Nat → Nat) → SV → Prop} {σ} {pc : PC} (h : pc.okC σ) {t : Tm} {k : PC → Ans} (hk : (tight pc t k).sat L σ) : ∃ pc', pc'.okC σ ∧ pc'.nv = pc.nv ∧ (k pc').sat L σ := by
  unfold tight at hk
  cases hv : varOf t with
  | none => rw [hv] at hk; exact ⟨pc, h, rfl, hk⟩
  | some x =>
    rw [hv] at hk
    change (bc (Nat.blt x.1 pc.nv) (withB (rng pc.bnds (.var x.1 x.2)) fun r => bc (Nat.ble (Nat.sub r.hi r.lo) 8)
      (bc (bc (Nat.beq (decT pc (.bin .eq x.2 (.var x.1 x.2) (.lit r.lo))) 0) true (Nat.beq (decT pc (.bin .eq x.2 (.var x.1 x.2) (.lit r.hi))) 0))
        (forkN x.2 (.var x.1 x.2) pc (fun _ pc => k pc) (Nat.succ (Nat.sub r.hi r.lo)) r.lo) (k pc)) (k pc)) (k pc)).sat L σ at hk
    rw [withB_eq] at hk
    cases h1 : Nat.blt x.1 pc.nv
    · rw [h1] at hk; exact ⟨pc, h, rfl, hk⟩
    · rw [h1] at hk
      cases h2 : Nat.ble (Nat.sub (rng pc.bnds (.var x.1 x.2)).hi (rng pc.bnds (.var x.1 x.2)).lo) 8
      · rw [h2] at hk; exact ⟨pc, h, rfl, hk⟩
      · rw [h2] at hk
        have hr := rng_ok h.ok.2.2.1 (.var x.1 x.2)
        unfold In at hr
        generalize hb : bc (Nat.beq (decT pc (.bin .eq x.2 (.var x.1 x.2) (.lit (rng pc.bnds (.var x.1 x.2)).lo))) 0) true (Nat.beq (decT pc (.bin .eq x.2 (.var x.1 x.2) (.lit (rng pc.bnds (.var x.1 x.2)).hi))) 0) = b at hk
        cases b
        · exact ⟨pc, h, rfl, hk⟩
        · have hvs : VS pc.nv σ (.var x.1 x.2) := fun σ' ha => by
            show σ' x.1 % 2 ^ x.2 = σ x.1 % 2 ^ x.2
            rw [ha.1 x.1 (of_nblt h1)]
          exact forkN_ok h hvs hk hr.1 (by
            show _ < _ + ((rng pc.bnds (.var x.1 x.2)).hi - (rng pc.bnds (.var x.1 x.2)).lo + 1)
            omega)

/-- Something that is known is not so: this way is none. -/
noncomputable def deadL (kv : List KV) (bl : List Bnd) (subs : List Sub) (fs : List Tm) : Bool :=
  List.rec false (fun t _ ih => Option.rec (bc (isBitF t) (forceN (truthB (bitsOf kv bl t)) fun r => bc (Nat.beq r 0) true ih) ih) (fun n => bc (Nat.beq n 0) true ih) (isLit (redT subs t))) fs
noncomputable def isEqT (t : Tm) : Bool := Tm.rec (fun _ => false) (fun _ _ => false) (fun _ _ _ _ => false) (fun o _ _ _ _ _ => Nat.beq o.code 10) (fun _ _ _ _ _ _ => false) (fun _ _ _ _ => false) t
/-- What is not so, is an equation. -/
noncomputable def isNeT (t : Tm) : Bool := Tm.rec (fun _ => false) (fun _ _ => false) (fun o _ a _ => O1.rec false (fun _ => false) (isEqT a) o) (fun _ _ _ _ _ _ => false) (fun _ _ _ _ _ _ => false) (fun _ _ _ _ => false) t
noncomputable def deadN (pc : PC) (t : Tm) : Bool := band (isNeT t) (deadL pc.kv pc.bnds pc.subs pc.facts)
noncomputable def deadB (pc : PC) (t : Tm) : Bool := band (isEqT t) (deadL pc.kv pc.bnds pc.subs pc.facts)
theorem deadL_ok {σ : Nat → Nat} {kv : List KV} {bl : List Bnd} (hk : ∀ v ∈ kv, v.ok σ) (hb : ∀ b ∈ bl, b.ok σ) {subs : List Sub} (hs : ∀ s ∈ subs, σ s.i % 2 ^ s.w = s.n) : ∀ {fs : List Tm}, (∀ t ∈ fs, t.ev σ ≠ 0) → deadL kv bl subs fs = true → False
  | [], _, h => by cases h
  | t :: fs, hf, h => by
    have rest := deadL_ok hk hb hs (fs := fs) (fun t ht => hf t (List.mem_cons_of_mem _ ht))
    change (Option.rec (bc (isBitF t) (forceN (truthB (bitsOf kv bl t)) fun r => bc (Nat.beq r 0) true (deadL kv bl subs fs)) (deadL kv bl subs fs)) (fun n => bc (Nat.beq n 0) true (deadL kv bl subs fs)) (isLit (redT subs t)) : Bool) = true at h
    cases hl : isLit (redT subs t) with
    | none =>
      rw [hl] at h
      change bc (isBitF t) (forceN (truthB (bitsOf kv bl t)) fun r => bc (Nat.beq r 0) true (deadL kv bl subs fs)) (deadL kv bl subs fs) = true at h
      cases h1 : isBitF t
      · rw [h1] at h; exact rest h
      · rw [h1, bc_true, forceN_eq] at h
        cases h2 : Nat.beq (truthB (bitsOf kv bl t)) 0
        · rw [h2] at h; exact rest h
        · have hbt := truthB_ok (bitsOf_ok hk hb t)
          rw [of_nbeq h2] at hbt
          exact hf t List.mem_cons_self (Classical.not_not.1 (of_decide_eq_false hbt.of0))
    | some n =>
      rw [hl] at h
      change bc (Nat.beq n 0) true (deadL kv bl subs fs) = true at h
      by_cases e : n = 0
      · have h1 := redT_ev hs t
        rw [isLit_some hl, ev_lit, e] at h1
        exact hf t List.mem_cons_self h1.symm
      · rw [nbeq_f e] at h; exact rest h
theorem deadB_ok {σ} {pc : PC} (h : pc.ok σ) {t : Tm} (hd : deadB pc t = true) : False := deadL_ok h.2.2.2.1 h.2.2.1 h.2.1 h.1 (band_eq hd).2

theorem deadN_ok {σ} {pc : PC} (h : pc.ok σ) {t : Tm} (hd : deadN pc t = true) : False := deadL_ok h.2.2.2.1 h.2.2.1 h.2.1 h.1 (band_eq hd).2

/-! ### Two ways, by a fact -/
noncomputable def br0 (pc : PC) (t : Tm) (kt kf : PC → Ans) : Ans :=
  forceN (decF pc t 2) fun d =>
    bc (Nat.beq d 1) (kt pc) (bc (Nat.beq d 0) (kf pc)
      (.fork t (forcePC (pc.add t false) fun pc => bc (deadB pc t) .ok (tight pc t kt)) (forcePC (pc.add t true) fun pc => bc (deadN pc t) .ok (tight pc t kf))))
noncomputable def br1 (pc : PC) (t : Tm) (kt kf : PC → Ans) : Ans :=
  Option.rec (forceT (simpT pc (redT pc.subs t)) fun t' => br0 pc t' kt kf) (fun n => bc (Nat.beq n 0) (kf pc) (kt pc)) (isLit t)

theorem br1_ok {L : (Nat → Nat) → SV → Prop} {σ} {pc : PC} (h : pc.okC σ) {t : Tm} (hs : TS pc.nv σ t) {kt kf : PC → Ans} (hb : (br1 pc t kt kf).sat L σ) :
    (t.ev σ ≠ 0 ∧ ∃ pc', pc'.okC σ ∧ pc'.nv = pc.nv ∧ (kt pc').sat L σ) ∨ (t.ev σ = 0 ∧ ∃ pc', pc'.okC σ ∧ pc'.nv = pc.nv ∧ (kf pc').sat L σ) := by
  unfold br1 at hb
  cases hl : isLit t with
  | some n =>
    rw [hl] at hb
    rw [isLit_some hl, ev_lit]
    by_cases e : n = 0
    · subst e; exact .inr ⟨rfl, pc, h, rfl, hb⟩
    · change Ans.sat L (bc (Nat.beq n 0) (kf pc) (kt pc)) σ at hb
      rw [nbeq_f e] at hb; exact .inl ⟨e, pc, h, rfl, hb⟩
  | none =>
    rw [hl] at hb
    change Ans.sat L (forceT (simpT pc (redT pc.subs t)) fun t' => br0 pc t' kt kf) σ at hb
    rw [forceT_eq] at hb
    have hr : ∀ σ', Ag pc.nv σ σ' → (simpT pc (redT pc.subs t)).ev σ' = t.ev σ' := fun σ' ha => by
      rw [simpT_ev (h σ' ha)]; exact redT_ev (h σ' ha).2.1 t
    have hr0 := hr σ (Ag.refl _ _)
    have hs' : TS pc.nv σ (simpT pc (redT pc.subs t)) := fun σ' ha => by rw [hr σ' ha, hr0]; exact hs σ' ha
    generalize simpT pc (redT pc.subs t) = t' at *
    unfold br0 at hb
    rw [forceN_eq, forcePC_eq, forcePC_eq] at hb
    have hd := decF_ok h.ok (t := t') Vok.two
    cases h1 : Nat.beq (decF pc t' 2) 1
    · rw [h1] at hb
      cases h0 : Nat.beq (decF pc t' 2) 0
      · rw [h0] at hb
        by_cases e : t.ev σ = 0
        · right
          have hok := PC.add_okC h (t := t') (neg := true) ⟨(fun h => by cases h), fun _ => by rw [hr0]; exact e⟩ hs'
          have hb2 := hb.2 (by rw [hr0]; exact e)
          have hnd : deadN (pc.add t' true) t' = false := by
            cases hd : deadN (pc.add t' true) t'
            · rfl
            · exact (deadN_ok hok.ok hd).elim
          rw [hnd] at hb2
          obtain ⟨pc', g1, g2, g3⟩ := tight_ok hok hb2
          exact ⟨e, pc', g1, g2.trans (PC.add_nv _ _ _), g3⟩
        · left
          have hok := PC.add_okC h (t := t') (neg := false) ⟨fun _ => by rw [hr0]; exact e, (fun h => by cases h)⟩ hs'
          have hb1 := hb.1 (by rw [hr0]; exact e)
          have hnd : deadB (pc.add t' false) t' = false := by
            cases hd : deadB (pc.add t' false) t'
            · rfl
            · exact (deadB_ok hok.ok hd).elim
          rw [hnd] at hb1
          obtain ⟨pc', g1, g2, g3⟩ := tight_ok hok hb1
          exact ⟨e, pc', g1, g2.trans (PC.add_nv _ _ _), g3⟩
      · rw [h0] at hb
        right
        exact ⟨by rw [← hr0]; exact hd.2 (of_nbeq h0), pc, h, rfl, hb⟩
    · rw [h1] at hb
      left
      exact ⟨by rw [← hr0]; exact hd.1 (of_nbeq h1), pc, h, rfl, hb⟩

/-- What is not cheap to be decided again: whether two terms are the same. -/
noncomputable def nwT (t : Tm) : Bool :=
  Tm.rec (fun _ => false) (fun _ _ => false) (fun _ _ _ x => x) (fun o _ a b _ _ => bc (Nat.beq o.code 10) (Option.rec (Option.rec true (fun _ => Option.rec false (fun _ => true) (shrOf a)) (isLit b)) (fun _ => false) (isLit a)) false)
    (fun _ _ _ _ _ _ => true) (fun _ _ _ _ => false) t
noncomputable def PC.consF (pc : PC) (t : Tm) : PC := ⟨t :: pc.facts, pc.subs, pc.bnds, pc.kv, pc.lems, pc.cz, pc.hints, pc.nv⟩
theorem PC.consF_okC {σ} {pc : PC} (h : pc.okC σ) {t : Tm} (ht : t.ev σ ≠ 0) (hs : TS pc.nv σ t) : (pc.consF t).okC σ := by
  intro σ' ha
  have h' := h σ' ha
  refine ⟨fun x hx => ?_, h'.2⟩
  rcases List.mem_cons.1 hx with rfl | hx
  · exact fun h0 => ht ((hs σ' ha).1 h0)
  · exact h'.1 x hx
/-- Two ways, by a fact; what was not cheap is kept. -/
noncomputable def br (pc : PC) (t : Tm) (kt kf : PC → Ans) : Ans :=
  bc (nwT t) (bc (inFacts pc.facts t) (kt pc) (bc (inFacts pc.facts (mkNot t)) (kf pc)
    (br1 pc t (fun pc => forcePC (pc.consF t) fun pc => kt pc) (fun pc => forcePC (pc.consF (mkNot t)) fun pc => kf pc)))) (br1 pc t kt kf)
theorem br_ok {L : (Nat → Nat) → SV → Prop} {σ} {pc : PC} (h : pc.okC σ) {t : Tm} (hs : TS pc.nv σ t) {kt kf : PC → Ans} (hb : (br pc t kt kf).sat L σ) :
    (t.ev σ ≠ 0 ∧ ∃ pc', pc'.okC σ ∧ pc'.nv = pc.nv ∧ (kt pc').sat L σ) ∨ (t.ev σ = 0 ∧ ∃ pc', pc'.okC σ ∧ pc'.nv = pc.nv ∧ (kf pc').sat L σ) := by
  unfold br at hb
  cases h1 : nwT t
  · rw [h1] at hb; exact br1_ok h hs hb
  · rw [h1] at hb
    cases h2 : inFacts pc.facts t
    · rw [h2] at hb
      cases h3 : inFacts pc.facts (mkNot t)
      · rw [h3] at hb
        rcases br1_ok h hs (kt := fun pc => forcePC (pc.consF t) fun pc => kt pc) (kf := fun pc => forcePC (pc.consF (mkNot t)) fun pc => kf pc) hb with ⟨e, pc', g1, g2, g3⟩ | ⟨e, pc', g1, g2, g3⟩
        · left
          rw [forcePC_eq] at g3
          exact ⟨e, pc'.consF t, PC.consF_okC g1 e (g2 ▸ hs), g2, g3⟩
        · right
          rw [forcePC_eq] at g3
          exact ⟨e, pc'.consF (mkNot t), PC.consF_okC g1 (by rw [mkNot_ev, if_pos e]; exact Nat.one_ne_zero) (g2 ▸ hs.not), g2, g3⟩
      · rw [h3] at hb
        exact .inr ⟨ne_of_not (h.ok.1 _ (inFacts_mem h3)), pc, h, rfl, hb⟩
    · rw [h2] at hb
      exact .inl ⟨h.ok.1 _ (inFacts_mem h2), pc, h, rfl, hb⟩

noncomputable def concr (lim w : Nat) (t : Tm) (pc : PC) (k : Nat → PC → Ans) (els : Ans) : Ans :=
  Option.rec
    (forceT (redT pc.subs t) fun t => withB (rng pc.bnds t) fun r => bc (Nat.ble (Nat.sub r.hi r.lo) lim) (forkN w t pc k (Nat.succ (Nat.sub r.hi r.lo)) r.lo) els)
    (fun n => k n pc) (isLit t)

theorem concr_ok {L : (Nat → Nat) → SV → Prop} {σ} {pc : PC} (h : pc.okC σ) {lim w : Nat} {t : Tm} (hs : VS pc.nv σ t) {k : Nat → PC → Ans} {els : Ans} (hk : (concr lim w t pc k els).sat L σ) :
    (∃ pc', pc'.okC σ ∧ pc'.nv = pc.nv ∧ (k (t.ev σ) pc').sat L σ) ∨ els.sat L σ := by
  unfold concr at hk
  cases hl : isLit t with
  | some n =>
    rw [hl] at hk
    left
    rw [isLit_some hl]
    exact ⟨pc, h, rfl, hk⟩
  | none =>
    rw [hl] at hk
    change Ans.sat L (forceT (redT pc.subs t) fun t => withB (rng pc.bnds t) fun r => bc (Nat.ble (Nat.sub r.hi r.lo) lim) (forkN w t pc k (Nat.succ (Nat.sub r.hi r.lo)) r.lo) els) σ at hk
    rw [forceT_eq, withB_eq] at hk
    have hr := rng_ok h.ok.2.2.1 (redT pc.subs t)
    unfold In at hr
    have he : ∀ σ', Ag pc.nv σ σ' → (redT pc.subs t).ev σ' = t.ev σ' := fun σ' ha => redT_ev (h σ' ha).2.1 t
    have he0 := he σ (Ag.refl _ _)
    cases hb : Nat.ble (Nat.sub (rng pc.bnds (redT pc.subs t)).hi (rng pc.bnds (redT pc.subs t)).lo) lim
    · rw [hb] at hk; exact .inr hk
    · rw [hb] at hk
      left
      have := forkN_ok h (t := redT pc.subs t) (fun σ' ha => by rw [he σ' ha, he0]; exact hs σ' ha) hk hr.1 (by
        show _ < _ + ((rng pc.bnds (redT pc.subs t)).hi - (rng pc.bnds (redT pc.subs t)).lo + 1)
        omega)
      rw [he0] at this
      exact this

end Go.Sy
end

section
/- Objects, the state of a symbolic run, what it says of a world. -/
namespace Go.Sy
open Go.RowKit

/-! ### Lists, by their recursors -/
section lists
variable {α : Type}
noncomputable def dropR (n : Nat) : List α → List α :=
  Nat.rec (motive := fun _ => List α → List α) (fun l => l) (fun _ ih l => List.rec [] (fun _ t _ => ih t) l) n
theorem dropR_eq (n : Nat) : ∀ l : List α, dropR n l = l.drop n := by
  induction n with
  | zero => intro l; rfl
  | succ n ih => intro l; cases l with
    | nil => simp; rfl
    | cons x t => exact ih t
noncomputable def takeR (n : Nat) : List α → List α :=
  Nat.rec (motive := fun _ => List α → List α) (fun _ => []) (fun _ ih l => List.rec [] (fun x t _ => x :: ih t) l) n
theorem takeR_eq (n : Nat) : ∀ l : List α, takeR n l = l.take n := by
  induction n with
  | zero => intro l; simp; rfl
  | succ n ih => intro l; cases l with
    | nil => simp; rfl
    | cons x t => show x :: takeR n t = _; rw [ih]; rfl
noncomputable def appR (l m : List α) : List α := List.rec m (fun x _ ih => x :: ih) l
theorem appR_eq (l m : List α) : appR l m = l ++ m := by
  induction l with
  | nil => rfl
  | cons x t ih => show x :: appR t m = _; rw [ih]; rfl
noncomputable def nthR (l : List α) (n : Nat) : Option α := List.rec none (fun x _ _ => some x) (dropR n l)
theorem nthR_eq (l : List α) (n : Nat) : nthR l n = l[n]? := by
  unfold nthR; rw [dropR_eq]
  rw [← List.head?_drop]
  cases l.drop n <;> rfl
/-- n elements from the place off on, if they are there. -/
noncomputable def midR (l : List α) (off n : Nat) : Option (List α) :=
  let m := takeR n (dropR off l)
  bc (Nat.beq (lenR m) n) (some m) none
theorem midR_some {l m : List α} {off n : Nat} (h : midR l off n = some m) : m = (l.drop off).take n ∧ m.length = n := by
  unfold midR at h
  simp only [dropR_eq, takeR_eq, lenR_eq] at h
  cases hb : Nat.beq ((l.drop off).take n).length n
  · rw [hb] at h; cases h
  · rw [hb] at h; cases h; exact ⟨rfl, of_nbeq hb⟩
/-- Elements laid from the place off on. -/
noncomputable def layR (l m : List α) (off : Nat) : Option (List α) :=
  bc (Nat.beq (lenR (takeR (lenR m) (dropR off l))) (lenR m)) (some (appR (takeR off l) (appR m (dropR (lenR m) (dropR off l))))) none
theorem layR_some {l m r : List α} {off : Nat} (h : layR l m off = some r) : r = l.take off ++ m ++ l.drop (off + m.length) ∧ (m = [] ∨ off + m.length ≤ l.length) := by
  unfold layR at h
  simp only [dropR_eq, takeR_eq, lenR_eq, appR_eq] at h
  cases hb : Nat.beq ((l.drop off).take m.length).length m.length
  · rw [hb] at h; cases h
  · rw [hb] at h; cases h
    refine ⟨by simp [List.drop_drop], ?_⟩
    have := of_nbeq hb
    simp at this
    cases m with
    | nil => exact .inl rfl
    | cons x t => right; simp at this ⊢; omega
end lists


/-! ### Objects -/
structure ME where
  key : SV
  val : SV
inductive SObj
  | cells (cs : List SV) (e : Nat)
  | grown (cs : List SV) (e z : Nat)
  | map (es : List ME)
  | iter (m : Nat) (cs : List SV) (lst : Nat)
  | sym (d : Tm) (fs : List (Option IntKind)) (base : Nat) (len : Tm)
  | imap (es : List ME)
  | siter (cs : List SV) (pos : Nat)
  | tab (cs : List SV)
structure HE where
  ob : SObj
  ro : Bool

inductive DenK (σ : Nat → Nat) (β : Nat → Option (Nat × Nat)) : List ME → List (Value × Value) → Prop
  | nil : DenK σ β [] []
  | cons {m : ME} {x : Value × Value} {ms : List ME} {es : List (Value × Value)} (hk : ∀ τ, Den τ β m.key x.1) (hv : Den σ β m.val x.2) (t : DenK σ β ms es) : DenK σ β (m :: ms) (x :: es)
theorem DenK.mono {σ} {β β' : Nat → Option (Nat × Nat)} (e : Ext β β') : ∀ {a : List ME} {b : List (Value × Value)}, DenK σ β a b → DenK σ β' a b
  | _, _, .nil => .nil
  | _, _, .cons hk hv t => .cons (fun τ => (hk τ).mono e) (hv.mono e) (DenK.mono e t)
/-- The pairs of a map's entries. -/
def kvOf (e : MapEntry) : Value × Value := (e.key, e.val)
/-- The entries' stamps are below the clock, and no two are alike. -/
def Stamps (ms : List MapEntry) (clock : Nat) : Prop := (∀ e ∈ ms, e.born < clock) ∧ (ms.map (·.born)).Nodup

/-- A list of numbers as one. -/
def encL : List Nat → Nat
  | [] => 0
  | a :: l => 2 ^ a * (2 * encL l + 1)
theorem enc_one : ∀ {a b x y : Nat}, 2 ^ a * (2 * x + 1) = 2 ^ b * (2 * y + 1) → a = b ∧ x = y
  | 0, 0, x, y, h => ⟨rfl, by simp at h; omega⟩
  | 0, b + 1, x, y, h => by
    rw [Nat.pow_succ, Nat.mul_comm (2 ^ b) 2, Nat.mul_assoc] at h
    simp at h; omega
  | a + 1, 0, x, y, h => by
    rw [Nat.pow_succ, Nat.mul_comm (2 ^ a) 2, Nat.mul_assoc] at h
    simp at h; omega
  | a + 1, b + 1, x, y, h => by
    rw [Nat.pow_succ, Nat.mul_comm (2 ^ a) 2, Nat.mul_assoc, Nat.pow_succ, Nat.mul_comm (2 ^ b) 2, Nat.mul_assoc] at h
    have := enc_one (a := a) (b := b) (x := x) (y := y) (Nat.eq_of_mul_eq_mul_left (by omega) h)
    exact ⟨by omega, this.2⟩
theorem encL_inj : ∀ {l m : List Nat}, encL l = encL m → l = m
  | [], [], _ => rfl
  | [], b :: m, h => by
    have : 0 < 2 ^ b * (2 * encL m + 1) := Nat.mul_pos (Nat.two_pow_pos b) (by omega)
    change 0 = 2 ^ b * (2 * encL m + 1) at h; omega
  | a :: l, [], h => by
    have : 0 < 2 ^ a * (2 * encL l + 1) := Nat.mul_pos (Nat.two_pow_pos a) (by omega)
    change 2 ^ a * (2 * encL l + 1) = 0 at h; omega
  | a :: l, b :: m, h => by
    obtain ⟨h1, h2⟩ := enc_one (show 2 ^ a * (2 * encL l + 1) = 2 ^ b * (2 * encL m + 1) from h)
    rw [h1, encL_inj h2]

/-- The worth of a row's cell that is of a variable. -/
noncomputable def symCell (σ : Nat → Nat) (f : Nat) (i : Nat) : Option IntKind → Value
  | some k => .int k (ofB k (σ (appAt f i) % 2 ^ k.bits))
  | none => .bool (σ (appAt f i) % 2 ^ 1 != 0)

/-- What an object denotes; c: how many elements a grown one has. -/
inductive ObjDen (σ : Nat → Nat) (β : Nat → Option (Nat × Nat)) (c : Nat) : SObj → Obj → Prop
  | cells {cs : List SV} {vs : List Value} {e : Nat} (h : DenL σ β cs vs) : ObjDen σ β c (.cells cs e) (.cells vs.toArray e (0, 0))
  | grown {cs : List SV} {vs rest : List Value} {e z : Nat} (h : DenL σ β cs vs) (hc : (vs ++ rest).length = c * z) : ObjDen σ β c (.grown cs e z) (.cells (vs ++ rest).toArray e (0, 0))
  | map {es : List ME} {kvs : List (Value × Value)} {ms : List MapEntry} {clock : Nat} (h : DenK σ β es kvs) (hp : (ms.map kvOf).Perm kvs) (hn : (kvs.map Prod.fst).Nodup) (hs : Stamps ms clock) : ObjDen σ β c (.map es) (.map ms.toArray clock)
  | iter {m b n ck lst : Nat} {cs : List SV} {us : List Bool} {bs : List Nat} {seen : Array Nat} (h : β m = some (b, n)) (hn : n = encL (ck :: bs)) (hd : DenL σ β cs (us.map Value.bool)) (hl : us.length = bs.length)
      (hs : ∀ x : Nat, x ∈ seen.toList ↔ ∃ j : Nat, bs[j]? = some x ∧ us[j]? = some false) (ht : lst = 0 ∨ ∃ x : Nat, seen.back? = some x ∧ bs[lst - 1]? = some x) : ObjDen σ β c (.iter m cs lst) (.mapIter (some b) ck seen ck)
  | sym {e base : Nat} {d : Tm} {fs : List (Option IntKind)} {len : Tm} {cs : Array Value} {fr : Nat × Nat}
      (h : ∀ i f k, i < len.ev σ → fs[f]? = some k → cs[c + (d.ev σ + i * fs.length + f)]? = some (symCell σ (base + f) i k)) : ObjDen σ β c (.sym d fs base len) (.cells cs e fr)
  | imap {es : List ME} {l ms : List MapEntry} {ck : Nat} (h : DenK σ β es (l.map kvOf)) (hp : l.Perm ms) (hs : Stamps ms ck) (hc : c = encL (ck :: l.map (·.born))) : ObjDen σ β c (.imap es) (.map ms.toArray ck)
  | siter {cs : List SV} {s : ByteArray} {pos : Nat} (h : DenL σ β cs (s.data.toList.map fun b => Value.int .u8 b.toNat)) : ObjDen σ β c (.siter cs pos) (.stringIter s pos)
  | tab {cs : List SV} {vs : List Value} {arr : Array Value} {e : Nat} {fr : Nat × Nat} (h : DenL σ β cs vs) (hc : ∀ (j : Nat) v, vs[j]? = some v → arr[j]? = some v) : ObjDen σ β c (.tab cs) (.cells arr e fr)
theorem ObjDen.mono {σ} {β β' : Nat → Option (Nat × Nat)} (e : Ext β β') {c : Nat} {s : SObj} {o : Obj} (h : ObjDen σ β c s o) : ObjDen σ β' c s o := by
  cases h with
  | cells h => exact .cells (h.mono e)
  | grown h hc => exact .grown (h.mono e) hc
  | map h hp hn hs => exact .map (h.mono e) hp hn hs
  | iter h hn hd hl hs ht => exact .iter (e _ _ h) hn (hd.mono e) hl hs ht
  | sym h => exact .sym h
  | imap h hp hs hc => exact .imap (h.mono e) hp hs hc
  | siter h => exact .siter (h.mono e)
  | tab h hc => exact .tab (h.mono e) hc

structure St where
  hp : Tr HE
  nn : Nat
  pc : PC

/-- Of what was there at the beginning (w0), only M may have been written. -/
structure Kept (M : Nat → Prop) (w0 w : World) : Prop where
  os : w.os = w0.os
  tape : w.tape = w0.tape
  output : w.output = w0.output
  size : w0.heap.size ≤ w.heap.size
  block : ∀ k, k < w0.heap.size → ¬ M k → w.heap[k]? = w0.heap[k]?
theorem Kept.refl (M : Nat → Prop) (w : World) : Kept M w w := ⟨rfl, rfl, rfl, Nat.le_refl _, fun _ _ _ => rfl⟩
theorem Kept.below {w0 w : World} (h : Kept (fun _ => False) w0 w) : Below w0.heap.size w0 w := ⟨h.os, h.tape, h.output, h.size, fun k hk => h.block k hk id⟩

/-- What may be written, of what was there at the beginning; what is known, and stays. -/
structure Md where
  wr : Nat → Prop
  rd : Nat → Prop
/-- What a state says of a world: w0 is the world at the beginning. -/
structure Rep (M : Md) (σ : Nat → Nat) (w0 : World) (β : Nat → Option (Nat × Nat)) (st : St) (w : World) : Prop where
  kept : Kept M.wr w0 w
  rdlt : ∀ b, M.rd b → b < w0.heap.size
  fresh : ∀ o, st.nn ≤ o → β o = none
  heap : ∀ o he, st.hp.get o = some he → ∃ b c x, β o = some (b, c) ∧ w.heap[b]? = some x ∧ ObjDen σ β c he.ob x ∧ (he.ro = false → w0.heap.size ≤ b ∨ M.wr b) ∧ (he.ro = true → M.rd b)
  inj : ∀ o o' he he' b c c', st.hp.get o = some he → st.hp.get o' = some he' → (he.ro = false ∨ he'.ro = false) → β o = some (b, c) → β o' = some (b, c') → o = o'
  /-- The first names are those of the program's own variables. -/
  glob : ∀ g, g < 64 → β g = some (g, 0)
/-- The same under all that agree. -/
def RepC (M : Md) (σ : Nat → Nat) (w0 : World) (β : Nat → Option (Nat × Nat)) (st : St) (w : World) : Prop := st.pc.okC σ ∧ ∀ σ', Ag st.pc.nv σ σ' → Rep M σ' w0 β st w
def DenC (nv : Nat) (σ : Nat → Nat) (β : Nat → Option (Nat × Nat)) (s : SV) (v : Value) : Prop := ∀ σ', Ag nv σ σ' → Den σ' β s v
def DenLC (nv : Nat) (σ : Nat → Nat) (β : Nat → Option (Nat × Nat)) (s : List SV) (v : List Value) : Prop := ∀ σ', Ag nv σ σ' → DenL σ' β s v
theorem DenC.at {nv σ β s v} (h : DenC nv σ β s v) : Den σ β s v := h σ (Ag.refl _ _)
theorem DenC.mono {nv σ β β' s v} (e : Ext β β') (h : DenC nv σ β s v) : DenC nv σ β' s v := fun σ' ha => (h σ' ha).mono e
theorem DenLC.mono {nv σ β β' s v} (e : Ext β β') (h : DenLC nv σ β s v) : DenLC nv σ β' s v := fun σ' ha => (h σ' ha).mono e
theorem DenC.ag {nv nv' σ σ' β s v} (h : DenC nv σ β s v) (hle : nv ≤ nv') (ha : Ag nv σ σ') : DenC nv' σ' β s v := fun τ ht => h τ (ha.trans (ht.mono hle))
theorem DenLC.ag {nv nv' σ σ' β s v} (h : DenLC nv σ β s v) (hle : nv ≤ nv') (ha : Ag nv σ σ') : DenLC nv' σ' β s v := fun τ ht => h τ (ha.trans (ht.mono hle))
theorem DenLC.cons {nv σ β s v l m} (h : DenC nv σ β s v) (t : DenLC nv σ β l m) : DenLC nv σ β (s :: l) (v :: m) := fun σ' ha => .cons (h σ' ha) (t σ' ha)
theorem DenLC.nil {nv σ β} : DenLC nv σ β [] [] := fun _ _ => .nil
theorem DenLC.append {nv σ β a b va vb} (h : DenLC nv σ β a va) (k : DenLC nv σ β b vb) : DenLC nv σ β (a ++ b) (va ++ vb) := fun σ' ha => (h σ' ha).append (k σ' ha)

theorem Rep.assume {M σ w0 β} {st : St} {w : World} (h : Rep M σ w0 β st w) (pc : PC) : Rep M σ w0 β ⟨st.hp, st.nn, pc⟩ w := ⟨h.kept, h.rdlt, h.fresh, h.heap, h.inj, h.glob⟩
theorem RepC.assume {M σ w0 β} {st : St} {w : World} (h : RepC M σ w0 β st w) {pc : PC} (hp : pc.okC σ) (hn : pc.nv = st.pc.nv) : RepC M σ w0 β ⟨st.hp, st.nn, pc⟩ w :=
  ⟨hp, fun σ' ha => (h.2 σ' (by rw [← hn]; exact ha)).assume pc⟩

/-! ### A new object -/
def bUpd (β : Nat → Option (Nat × Nat)) (o b c : Nat) : Nat → Option (Nat × Nat) := fun i => if i = o then some (b, c) else β i
theorem bUpd_ext {β : Nat → Option (Nat × Nat)} {o b c : Nat} (h : β o = none) : Ext β (bUpd β o b c) := by
  intro i x hx
  unfold bUpd
  rw [if_neg]
  · exact hx
  · rintro rfl; rw [h] at hx; cases hx
theorem bUpd_self (β : Nat → Option (Nat × Nat)) (o b c : Nat) : bUpd β o b c o = some (b, c) := by simp [bUpd]

noncomputable def St.new (st : St) (ob : SObj) : St := ⟨st.hp.set st.nn (some ⟨ob, false⟩), Nat.succ st.nn, st.pc⟩
theorem Kept.push {M w0 w} (h : Kept M w0 w) (x : Obj) : Kept M w0 { w with heap := w.heap.push x } :=
  ⟨h.os, h.tape, h.output, by simpa using Nat.le_succ_of_le h.size, fun k hk hm => by
    have := h.size
    show (w.heap.push x)[k]? = _
    rw [Array.getElem?_push, if_neg (by omega)]; exact h.block k hk hm⟩

theorem Rep.new {M σ w0 β} {st : St} {w : World} (h : Rep M σ w0 β st w) {ob : SObj} {x : Obj} {c : Nat} (hx : ObjDen σ β c ob x) :
    Rep M σ w0 (bUpd β st.nn w.heap.size c) (st.new ob) { w with heap := w.heap.push x } := by
  have hext : Ext β (bUpd β st.nn w.heap.size c) := bUpd_ext (h.fresh _ (Nat.le_refl _))
  have hself : bUpd β st.nn w.heap.size c st.nn = some (w.heap.size, c) := by simp [bUpd]
  refine ⟨h.kept.push x, h.rdlt, ?_, ?_, ?_, fun g hg => hext _ _ (h.glob g hg)⟩
  · intro o ho
    have h1 : st.nn ≤ o := Nat.le_of_succ_le ho
    have h2 : ¬ o = st.nn := fun e => by subst e; exact absurd ho (Nat.not_succ_le_self _)
    simp [bUpd, h2, h.fresh o h1]
  · intro o he ho
    change (st.hp.set st.nn (some ⟨ob, false⟩)).get o = some he at ho
    by_cases e : o = st.nn
    · subst e
      rw [Tr.get_set_eq] at ho; cases ho
      exact ⟨_, _, x, hself, by simp, hx.mono hext, fun _ => .inl h.kept.size, fun h => by cases h⟩
    · rw [Tr.get_set_ne _ _ e] at ho
      obtain ⟨b, c', y, h1, h2, h3, h4⟩ := h.heap o he ho
      have hlt : b < w.heap.size := (Array.getElem?_eq_some_iff.1 h2).1
      exact ⟨b, c', y, hext _ _ h1, by rw [Array.getElem?_push]; rw [if_neg (by omega)]; exact h2, h3.mono hext, h4⟩
  · intro o o' he he' b c1 c2 ho ho' hro hb hb'
    change (st.hp.set st.nn (some ⟨ob, false⟩)).get o = some he at ho
    change (st.hp.set st.nn (some ⟨ob, false⟩)).get o' = some he' at ho'
    have old : ∀ o he, o ≠ st.nn → st.hp.get o = some he → ∃ b c, bUpd β st.nn w.heap.size c o = some (b, c) ∧ β o = some (b, c) ∧ b < w.heap.size := by
      intro o he e hg
      obtain ⟨b, c', y, h1, h2, _, _⟩ := h.heap o he hg
      exact ⟨b, c', by simp [bUpd, e, h1], h1, (Array.getElem?_eq_some_iff.1 h2).1⟩
    by_cases e : o = st.nn
    · by_cases e' : o' = st.nn
      · rw [e, e']
      · rw [Tr.get_set_ne _ _ e'] at ho'
        obtain ⟨b1, c3, _, h2, h3⟩ := old o' he' e' ho'
        have h4 := hext _ _ h2
        rw [hb'] at h4; subst e; rw [hself] at hb
        simp at h4 hb; omega
    · rw [Tr.get_set_ne _ _ e] at ho
      by_cases e' : o' = st.nn
      · obtain ⟨b1, c3, _, h2, h3⟩ := old o he e ho
        have h4 := hext _ _ h2
        rw [hb] at h4; subst e'; rw [hself] at hb'
        simp at h4 hb'; omega
      · rw [Tr.get_set_ne _ _ e'] at ho'
        obtain ⟨b1, c3, _, h2, _⟩ := old o he e ho
        obtain ⟨b2, c4, _, h5, _⟩ := old o' he' e' ho'
        have h4 := hext _ _ h2
        have h6 := hext _ _ h5
        rw [hb] at h4; rw [hb'] at h6
        simp at h4 h6
        exact h.inj o o' he he' b c3 c4 ho ho' hro (by rw [h2, h4.1]) (by rw [h5, h6.1])
theorem RepC.new {M σ w0 β} {st : St} {w : World} (h : RepC M σ w0 β st w) {ob : SObj} {x : Obj} {c : Nat} (hx : ∀ σ', Ag st.pc.nv σ σ' → ObjDen σ' β c ob x) :
    Ext β (bUpd β st.nn w.heap.size c) ∧ bUpd β st.nn w.heap.size c st.nn = some (w.heap.size, c) ∧ RepC M σ w0 (bUpd β st.nn w.heap.size c) (st.new ob) { w with heap := w.heap.push x } :=
  ⟨bUpd_ext ((h.2 σ (Ag.refl _ _)).fresh _ (Nat.le_refl _)), bUpd_self _ _ _ _, h.1, fun σ' ha => (h.2 σ' ha).new (hx σ' ha)⟩

/-! ### An object that is turned -/
noncomputable def St.put (st : St) (o : Nat) (ob : SObj) : St := ⟨st.hp.set o (some ⟨ob, false⟩), st.nn, st.pc⟩
theorem Rep.turn {M σ w0 β} {st : St} {w : World} (h : Rep M σ w0 β st w) {o : Nat} {ob ob' : SObj} (ho : st.hp.get o = some ⟨ob, false⟩) {b c : Nat} (hb : β o = some (b, c)) {x : Obj} (hx : ObjDen σ β c ob' x) :
    Rep M σ w0 β (st.put o ob') { w with heap := w.heap.setIfInBounds b x } := by
  obtain ⟨b1, c1, y, h1, h2, h3, h4⟩ := h.heap o _ ho
  rw [hb] at h1; simp at h1; obtain ⟨rfl, rfl⟩ := h1
  have hlt : b < w.heap.size := (Array.getElem?_eq_some_iff.1 h2).1
  have hge := h4.1 rfl
  refine ⟨⟨h.kept.os, h.kept.tape, h.kept.output, by simpa using h.kept.size, fun k hk hm => ?_⟩, h.rdlt, h.fresh, ?_, ?_, h.glob⟩
  · show (w.heap.setIfInBounds b x)[k]? = _
    have : b ≠ k := by
      rintro rfl
      rcases hge with hge | hge
      · omega
      · exact hm hge
    rw [Array.getElem?_setIfInBounds_ne this]
    exact h.kept.block k hk hm
  · intro o' he' ho'
    change (st.hp.set o (some ⟨ob', false⟩)).get o' = some he' at ho'
    by_cases e : o' = o
    · subst e
      rw [Tr.get_set_eq] at ho'; cases ho'
      exact ⟨b, c, x, hb, by simp [hlt], hx, fun _ => hge, fun h => by cases h⟩
    · rw [Tr.get_set_ne _ _ e] at ho'
      obtain ⟨b2, c2, z, k1, k2, k3, k4⟩ := h.heap o' he' ho'
      refine ⟨b2, c2, z, k1, ?_, k3, k4⟩
      show (w.heap.setIfInBounds b x)[b2]? = _
      have : b ≠ b2 := by
        intro e2; subst e2
        exact e (h.inj o' o he' _ b c2 c ho' ho (.inr rfl) k1 hb)
      rw [Array.getElem?_setIfInBounds_ne this]; exact k2
  · intro o1 o2 he1 he2 b' c1 c2 k1 k2 hro k3 k4
    change (st.hp.set o (some ⟨ob', false⟩)).get o1 = some he1 at k1
    change (st.hp.set o (some ⟨ob', false⟩)).get o2 = some he2 at k2
    have back : ∀ o1 he1, (st.hp.set o (some ⟨ob', false⟩)).get o1 = some he1 → ∃ he, st.hp.get o1 = some he ∧ he.ro = he1.ro := by
      intro o1 he1 k
      by_cases e : o1 = o
      · subst e; rw [Tr.get_set_eq] at k; cases k; exact ⟨_, ho, rfl⟩
      · rw [Tr.get_set_ne _ _ e] at k; exact ⟨_, k, rfl⟩
    obtain ⟨_, j1, r1⟩ := back o1 he1 k1
    obtain ⟨_, j2, r2⟩ := back o2 he2 k2
    exact h.inj o1 o2 _ _ b' c1 c2 j1 j2 (by rw [r1, r2]; exact hro) k3 k4
theorem RepC.turn {M σ w0 β} {st : St} {w : World} (h : RepC M σ w0 β st w) {o : Nat} {ob ob' : SObj} (ho : st.hp.get o = some ⟨ob, false⟩) {b c : Nat} (hb : β o = some (b, c)) {x : Obj} (hx : ∀ σ', Ag st.pc.nv σ σ' → ObjDen σ' β c ob' x) :
    RepC M σ w0 β (st.put o ob') { w with heap := w.heap.setIfInBounds b x } :=
  ⟨h.1, fun σ' ha => (h.2 σ' ha).turn ho hb (hx σ' ha)⟩
theorem setSame {w : World} {b : Nat} {x : Obj} (h : w.heap[b]? = some x) : w.heap.setIfInBounds b x = w.heap := by
  apply Array.ext_getElem?
  intro i
  have hlt : b < w.heap.size := (Array.getElem?_eq_some_iff.1 h).1
  rw [Array.getElem?_setIfInBounds]
  by_cases ei : b = i
  · subst ei
    have hv : w.heap[b] = x := (Array.getElem?_eq_some_iff.1 h).2
    simp [hlt, hv]
  · simp [ei]

theorem Rep.drew {M σ w0 β} {st : St} {w : World} (h : Rep M σ w0 β st w) : Rep M σ w0 β st w.drew :=
  ⟨⟨h.kept.os, h.kept.tape, h.kept.output, h.kept.size, h.kept.block⟩, h.rdlt, h.fresh, h.heap, h.inj, h.glob⟩
theorem RepC.drew {M σ w0 β} {st : St} {w : World} (h : RepC M σ w0 β st w) : RepC M σ w0 β st w.drew := ⟨h.1, fun σ' ha => (h.2 σ' ha).drew⟩

/-- An object is given up. -/
theorem Rep.kill {M σ w0 β} {st : St} {w : World} (h : Rep M σ w0 β st w) (o : Nat) : Rep M σ w0 β ⟨st.hp.set o none, st.nn, st.pc⟩ w := by
  have back : ∀ o1 he1, (st.hp.set o none).get o1 = some he1 → o1 ≠ o ∧ st.hp.get o1 = some he1 := by
    intro o1 he1 k
    by_cases e : o1 = o
    · subst e; rw [Tr.get_set_eq] at k; cases k
    · rw [Tr.get_set_ne _ _ e] at k; exact ⟨e, k⟩
  exact ⟨h.kept, h.rdlt, h.fresh, fun o1 he1 k => h.heap o1 he1 (back o1 he1 k).2, fun o1 o2 he1 he2 b c1 c2 k1 k2 => h.inj o1 o2 he1 he2 b c1 c2 (back o1 he1 k1).2 (back o2 he2 k2).2, h.glob⟩
theorem RepC.kill {M σ w0 β} {st : St} {w : World} (h : RepC M σ w0 β st w) (o : Nat) : RepC M σ w0 β ⟨st.hp.set o none, st.nn, st.pc⟩ w := ⟨h.1, fun σ' ha => (h.2 σ' ha).kill o⟩

/-- A slice's own block is given up for another name. -/
noncomputable def St.rename (st : St) (o : Nat) (ob : SObj) : St := ⟨(st.hp.set o none).set st.nn (some ⟨ob, false⟩), Nat.succ st.nn, st.pc⟩
theorem Rep.rename {M σ w0 β} {st : St} {w : World} (h : Rep M σ w0 β st w) {o : Nat} {ob ob' : SObj} (ho : st.hp.get o = some ⟨ob, false⟩) {b c : Nat} (hb : β o = some (b, c)) {x : Obj} (hx : ObjDen σ β c ob' x) :
    Rep M σ w0 (bUpd β st.nn b c) (st.rename o ob') { w with heap := w.heap.setIfInBounds b x } := by
  have hext : Ext β (bUpd β st.nn b c) := bUpd_ext (h.fresh _ (Nat.le_refl _))
  have hself : bUpd β st.nn b c st.nn = some (b, c) := by simp [bUpd]
  have ht := h.turn ho hb hx
  obtain ⟨b1, c1, y, h1, h2, h3, h4⟩ := h.heap o _ ho
  rw [hb] at h1; simp at h1; obtain ⟨rfl, rfl⟩ := h1
  have hlt : b < w.heap.size := (Array.getElem?_eq_some_iff.1 h2).1
  refine ⟨ht.kept, h.rdlt, ?_, ?_, ?_, fun g hg => hext _ _ (h.glob g hg)⟩
  · intro i hi
    have h1 : st.nn ≤ i := Nat.le_of_succ_le hi
    have h2 : ¬ i = st.nn := fun e => by subst e; exact absurd hi (Nat.not_succ_le_self _)
    simp [bUpd, h2, h.fresh i h1]
  · intro i he hi
    change ((st.hp.set o none).set st.nn (some ⟨ob', false⟩)).get i = some he at hi
    by_cases e : i = st.nn
    · subst e
      rw [Tr.get_set_eq] at hi; cases hi
      exact ⟨b, c, x, hself, by simp [hlt], hx.mono hext, fun _ => h4.1 rfl, fun h => by cases h⟩
    · rw [Tr.get_set_ne _ _ e] at hi
      by_cases e2 : i = o
      · subst e2; rw [Tr.get_set_eq] at hi; cases hi
      · rw [Tr.get_set_ne _ _ e2] at hi
        have : (st.hp.set o (some ⟨ob', false⟩)).get i = some he := by rw [Tr.get_set_ne _ _ e2]; exact hi
        obtain ⟨b2, c2, z, j1, j2, j3, j4⟩ := ht.heap i he this
        exact ⟨b2, c2, z, hext _ _ j1, j2, j3.mono hext, j4⟩
  · have back : ∀ i he, ((st.hp.set o none).set st.nn (some ⟨ob', false⟩)).get i = some he → (i = st.nn) ∨ (i ≠ st.nn ∧ i ≠ o ∧ st.hp.get i = some he) := by
      intro i he hi
      by_cases e : i = st.nn
      · exact .inl e
      · rw [Tr.get_set_ne _ _ e] at hi
        by_cases e2 : i = o
        · subst e2; rw [Tr.get_set_eq] at hi; cases hi
        · rw [Tr.get_set_ne _ _ e2] at hi; exact .inr ⟨e, e2, hi⟩
    have old : ∀ i, i ≠ st.nn → bUpd β st.nn b c i = β i := fun i e => by simp [bUpd, e]
    intro i j he he' b' c1 c2 k1 k2 hro k3 k4
    rcases back i he k1 with e | ⟨e1, e2, e3⟩
    · rcases back j he' k2 with e' | ⟨f1, f2, f3⟩
      · rw [e, e']
      · exfalso
        subst e; rw [hself] at k3; rw [old j f1] at k4
        simp at k3
        obtain ⟨rfl, rfl⟩ := k3
        exact f2 (h.inj j o he' _ b c2 c f3 ho (.inr rfl) k4 hb)
    · rcases back j he' k2 with e' | ⟨f1, f2, f3⟩
      · exfalso
        subst e'; rw [hself] at k4; rw [old i e1] at k3
        simp at k4
        obtain ⟨rfl, rfl⟩ := k4
        exact e2 (h.inj i o he _ b c1 c e3 ho (.inr rfl) k3 hb)
      · rw [old i e1] at k3; rw [old j f1] at k4
        exact h.inj i j he he' b' c1 c2 e3 f3 hro k3 k4
theorem RepC.rename {M σ w0 β} {st : St} {w : World} (h : RepC M σ w0 β st w) {o : Nat} {ob ob' : SObj} (ho : st.hp.get o = some ⟨ob, false⟩) {b c : Nat} (hb : β o = some (b, c)) {x : Obj} (hx : ∀ σ', Ag st.pc.nv σ σ' → ObjDen σ' β c ob' x) :
    Ext β (bUpd β st.nn b c) ∧ bUpd β st.nn b c st.nn = some (b, c) ∧ RepC M σ w0 (bUpd β st.nn b c) (st.rename o ob') { w with heap := w.heap.setIfInBounds b x } :=
  ⟨bUpd_ext ((h.2 σ (Ag.refl _ _)).fresh _ (Nat.le_refl _)), bUpd_self _ _ _ _, h.1, fun σ' ha => (h.2 σ' ha).rename ho hb (hx σ' ha)⟩

theorem add_off (b off j : Nat) : (⟨b, off, none⟩ : Addr).add j = ⟨b, off + j, none⟩ := by
  unfold Addr.add; split <;> simp_all

/-! ### Types -/
def isAggD : TypeDesc → Bool
  | .struct _ | .array _ _ => true
  | _ => false
noncomputable def aggOf (P : Program) (t : TypeId) : Option Bool := (P.underlying t).map isAggD
noncomputable def szOf (P : Program) (t : TypeId) : Option Nat := (P.info? t).map (·.size)
theorem run_underlying' {P : Program} {t : TypeId} {d : TypeDesc} (h : P.underlying t = some d) (w : World) : (underlying t).run P w = .ok d w := by
  simp [underlying, h]
theorem run_typeInfo' {P : Program} {t : TypeId} {i : TypeInfo} (h : P.info? t = some i) (w : World) : (typeInfo t).run P w = .ok i w := by
  simp [typeInfo, h]
theorem run_isAgg' {P : Program} {t : TypeId} {b : Bool} (h : aggOf P t = some b) (w : World) : (isAgg t).run P w = .ok b w := by
  unfold aggOf at h
  cases hu : P.underlying t with
  | none => rw [hu] at h; cases h
  | some d =>
    rw [hu] at h
    simp only [isAgg, Sem.run_bind, run_underlying' hu, Result.andThen_ok]
    cases d <;> simp [isAggD] at h <;> subst h <;> rfl
theorem run_sizeOf' {P : Program} {t : TypeId} {n : Nat} (h : szOf P t = some n) (w : World) : (sizeOf t).run P w = .ok n w := by
  unfold szOf at h
  cases hi : P.info? t with
  | none => rw [hi] at h; cases h
  | some i => rw [hi] at h; simp at h; simp [sizeOf, run_typeInfo' hi, h]

theorem setRow_eq {w : World} {g : Nat} {old cs : Array Value} {t : TypeId} {fr : Nat × Nat} (hg : w.heap[g]? = some (.cells old t fr)) :
    w.setRow g cs = { w with heap := w.heap.setIfInBounds g (.cells cs t fr) } := by
  have hlt : g < w.heap.size := (Array.getElem?_eq_some_iff.1 hg).1
  unfold World.setRow
  congr 1
  apply Array.ext_getElem?
  intro i
  rw [Array.getElem?_modify, Array.getElem?_setIfInBounds]
  by_cases e : g = i
  · subst e
    have hv : w.heap[g] = .cells old t fr := (Array.getElem?_eq_some_iff.1 hg).2
    simp [hlt, hv]
  · simp [e]


end Go.Sy
end

section
/- Frames: the temporaries of a call. -/
namespace Go.Sy

structure N8 (α : Type) where
  a : α
  b : α
  c : α
  d : α
  e : α
  f : α
  g : α
  h : α
section
variable {α : Type}
noncomputable def n8get (d : Nat) (x : N8 α) : α :=
  bc (Nat.beq d 0) x.a (bc (Nat.beq d 1) x.b (bc (Nat.beq d 2) x.c (bc (Nat.beq d 3) x.d (bc (Nat.beq d 4) x.e (bc (Nat.beq d 5) x.f (bc (Nat.beq d 6) x.g x.h))))))
noncomputable def n8set (d : Nat) (v : α) (x : N8 α) : N8 α :=
  bc (Nat.beq d 0) ⟨v, x.b, x.c, x.d, x.e, x.f, x.g, x.h⟩ (bc (Nat.beq d 1) ⟨x.a, v, x.c, x.d, x.e, x.f, x.g, x.h⟩ (bc (Nat.beq d 2) ⟨x.a, x.b, v, x.d, x.e, x.f, x.g, x.h⟩ (bc (Nat.beq d 3) ⟨x.a, x.b, x.c, v, x.e, x.f, x.g, x.h⟩
    (bc (Nat.beq d 4) ⟨x.a, x.b, x.c, x.d, v, x.f, x.g, x.h⟩ (bc (Nat.beq d 5) ⟨x.a, x.b, x.c, x.d, x.e, v, x.g, x.h⟩ (bc (Nat.beq d 6) ⟨x.a, x.b, x.c, x.d, x.e, x.f, v, x.h⟩ ⟨x.a, x.b, x.c, x.d, x.e, x.f, x.g, v⟩))))))
theorem n8_cases {p : Nat → Prop} (h : ∀ d, d < 8 → p d) (d : Nat) (hd : d < 8) : p d := h d hd
theorem n8get_set_eq (d : Nat) (v : α) (x : N8 α) : n8get d (n8set d v x) = v := by
  unfold n8get n8set
  cases Nat.beq d 0 <;> cases Nat.beq d 1 <;> cases Nat.beq d 2 <;> cases Nat.beq d 3 <;> cases Nat.beq d 4 <;> cases Nat.beq d 5 <;> cases Nat.beq d 6 <;> rfl
theorem n8get_set_ne {d e : Nat} (hd : d < 8) (he : e < 8) (h : e ≠ d) (v : α) (x : N8 α) : n8get e (n8set d v x) = n8get e x := by
  match d, hd with
  | 0, _ => match e, he with | 0, _ => exact absurd rfl h | 1, _ => rfl | 2, _ => rfl | 3, _ => rfl | 4, _ => rfl | 5, _ => rfl | 6, _ => rfl | 7, _ => rfl
  | 1, _ => match e, he with | 0, _ => rfl | 1, _ => exact absurd rfl h | 2, _ => rfl | 3, _ => rfl | 4, _ => rfl | 5, _ => rfl | 6, _ => rfl | 7, _ => rfl
  | 2, _ => match e, he with | 0, _ => rfl | 1, _ => rfl | 2, _ => exact absurd rfl h | 3, _ => rfl | 4, _ => rfl | 5, _ => rfl | 6, _ => rfl | 7, _ => rfl
  | 3, _ => match e, he with | 0, _ => rfl | 1, _ => rfl | 2, _ => rfl | 3, _ => exact absurd rfl h | 4, _ => rfl | 5, _ => rfl | 6, _ => rfl | 7, _ => rfl
  | 4, _ => match e, he with | 0, _ => rfl | 1, _ => rfl | 2, _ => rfl | 3, _ => rfl | 4, _ => exact absurd rfl h | 5, _ => rfl | 6, _ => rfl | 7, _ => rfl
  | 5, _ => match e, he with | 0, _ => rfl | 1, _ => rfl | 2, _ => rfl | 3, _ => rfl | 4, _ => rfl | 5, _ => exact absurd rfl h | 6, _ => rfl | 7, _ => rfl
  | 6, _ => match e, he with | 0, _ => rfl | 1, _ => rfl | 2, _ => rfl | 3, _ => rfl | 4, _ => rfl | 5, _ => rfl | 6, _ => exact absurd rfl h | 7, _ => rfl
  | 7, _ => match e, he with | 0, _ => rfl | 1, _ => rfl | 2, _ => rfl | 3, _ => rfl | 4, _ => rfl | 5, _ => rfl | 6, _ => rfl | 7, _ => exact absurd rfl h

structure P8 (α : Type) where
  f : N8 α → α
noncomputable def p8 (d : Nat) : P8 α :=
  bc (Nat.beq d 0) ⟨fun x => x.a⟩ (bc (Nat.beq d 1) ⟨fun x => x.b⟩ (bc (Nat.beq d 2) ⟨fun x => x.c⟩ (bc (Nat.beq d 3) ⟨fun x => x.d⟩ (bc (Nat.beq d 4) ⟨fun x => x.e⟩ (bc (Nat.beq d 5) ⟨fun x => x.f⟩ (bc (Nat.beq d 6) ⟨fun x => x.g⟩ ⟨fun x => x.h⟩))))))
theorem p8_eq (d : Nat) (x : N8 α) : (p8 d).f x = n8get d x := by
  unfold p8 n8get
  cases Nat.beq d 0 <;> cases Nat.beq d 1 <;> cases Nat.beq d 2 <;> cases Nat.beq d 3 <;> cases Nat.beq d 4 <;> cases Nat.beq d 5 <;> cases Nat.beq d 6 <;> rfl

structure U8 (α : Type) where
  u : (α → (α → Ans) → Ans) → N8 α → (N8 α → Ans) → Ans
noncomputable def u8 (d : Nat) : U8 α :=
  bc (Nat.beq d 0) ⟨fun m x k => N8.rec (fun a b c d e f g h => m a fun a => k ⟨a, b, c, d, e, f, g, h⟩) x⟩
    (bc (Nat.beq d 1) ⟨fun m x k => N8.rec (fun a b c d e f g h => m b fun b => k ⟨a, b, c, d, e, f, g, h⟩) x⟩
    (bc (Nat.beq d 2) ⟨fun m x k => N8.rec (fun a b c d e f g h => m c fun c => k ⟨a, b, c, d, e, f, g, h⟩) x⟩
    (bc (Nat.beq d 3) ⟨fun m x k => N8.rec (fun a b c d e f g h => m d fun d => k ⟨a, b, c, d, e, f, g, h⟩) x⟩
    (bc (Nat.beq d 4) ⟨fun m x k => N8.rec (fun a b c d e f g h => m e fun e => k ⟨a, b, c, d, e, f, g, h⟩) x⟩
    (bc (Nat.beq d 5) ⟨fun m x k => N8.rec (fun a b c d e f g h => m f fun f => k ⟨a, b, c, d, e, f, g, h⟩) x⟩
    (bc (Nat.beq d 6) ⟨fun m x k => N8.rec (fun a b c d e f g h => m g fun g => k ⟨a, b, c, d, e, f, g, h⟩) x⟩
      ⟨fun m x k => N8.rec (fun a b c d e f g h => m h fun h => k ⟨a, b, c, d, e, f, g, h⟩) x⟩))))))
theorem u8_eq (d : Nat) (m : α → (α → Ans) → Ans) (m' : α → α) (hm : ∀ a k, m a k = k (m' a)) (x : N8 α) (k : N8 α → Ans) : (u8 d).u m x k = k (n8set d (m' (n8get d x)) x) := by
  obtain ⟨a, b, c, d', e, f, g, h⟩ := x
  unfold u8 n8get n8set
  cases Nat.beq d 0 <;> cases Nat.beq d 1 <;> cases Nat.beq d 2 <;> cases Nat.beq d 3 <;> cases Nat.beq d 4 <;> cases Nat.beq d 5 <;> cases Nat.beq d 6 <;> exact hm _ _
end

abbrev F3 := N8 (N8 (N8 SV))
noncomputable def getF (i : Nat) (F : F3) : SV := n8get (Nat.mod i 8) (n8get (Nat.mod (Nat.div i 8) 8) (n8get (Nat.div i 64) F))
noncomputable def setF (i : Nat) (v : SV) (F : F3) : F3 :=
  n8set (Nat.div i 64) (n8set (Nat.mod (Nat.div i 8) 8) (n8set (Nat.mod i 8) v (n8get (Nat.mod (Nat.div i 8) 8) (n8get (Nat.div i 64) F))) (n8get (Nat.div i 64) F)) F
theorem getF_eq (i : Nat) (v : SV) (F : F3) : getF i (setF i v F) = v := by unfold getF setF; rw [n8get_set_eq, n8get_set_eq, n8get_set_eq]
theorem getF_ne {i j : Nat} (hi : i < 512) (hj : j < 512) (h : j ≠ i) (v : SV) (F : F3) : getF j (setF i v F) = getF j F := by
  unfold getF setF
  have m8 : ∀ x : Nat, Nat.mod x 8 < 8 := fun x => Nat.mod_lt _ (by omega)
  have hi2 : Nat.div i 64 < 8 := by show i / 64 < 8; omega
  have hj2 : Nat.div j 64 < 8 := by show j / 64 < 8; omega
  by_cases e2 : Nat.div j 64 = Nat.div i 64
  · rw [e2, n8get_set_eq]
    by_cases e1 : Nat.mod (Nat.div j 8) 8 = Nat.mod (Nat.div i 8) 8
    · rw [e1, n8get_set_eq]
      refine n8get_set_ne (m8 _) (m8 _) ?_ _ _
      intro e0
      change j % 8 = i % 8 at e0
      change j / 8 % 8 = i / 8 % 8 at e1
      change j / 64 = i / 64 at e2
      omega
    · rw [n8get_set_ne (m8 _) (m8 _) e1]
  · rw [n8get_set_ne hi2 hj2 e2]

structure GO where
  g : F3 → SV
noncomputable def mkG (i : Nat) : GO := ⟨fun F => (p8 (Nat.mod i 8)).f ((p8 (Nat.mod (Nat.div i 8) 8)).f ((p8 (Nat.div i 64)).f F))⟩
theorem mkG_eq (i : Nat) (F : F3) : (mkG i).g F = getF i F := by
  show (p8 (Nat.mod i 8)).f ((p8 (Nat.mod (Nat.div i 8) 8)).f ((p8 (Nat.div i 64)).f F)) = _
  rw [p8_eq, p8_eq, p8_eq]; rfl
structure SO where
  s : SV → F3 → (F3 → Ans) → Ans
noncomputable def mkS (i : Nat) : SO := ⟨fun v F k => (u8 (Nat.div i 64)).u (fun x k => (u8 (Nat.mod (Nat.div i 8) 8)).u (fun y k => (u8 (Nat.mod i 8)).u (fun _ k => k v) y k) x k) F k⟩
theorem mkS_eq (i : Nat) (v : SV) (F : F3) (k : F3 → Ans) : (mkS i).s v F k = k (setF i v F) := by
  show (u8 (Nat.div i 64)).u (fun x k => (u8 (Nat.mod (Nat.div i 8) 8)).u (fun y k => (u8 (Nat.mod i 8)).u (fun _ k => k v) y k) x k) F k = _
  rw [u8_eq _ _ (fun x => n8set (Nat.mod (Nat.div i 8) 8) (n8set (Nat.mod i 8) v (n8get (Nat.mod (Nat.div i 8) 8) x)) x)]
  · rfl
  · intro x k
    rw [u8_eq _ _ (fun y => n8set (Nat.mod i 8) v y)]
    intro y k
    rw [u8_eq _ _ (fun _ => v)]
    intro _ k; rfl

noncomputable def n8c {α : Type} (x : α) : N8 α := ⟨x, x, x, x, x, x, x, x⟩
noncomputable def blank : F3 := n8c (n8c (n8c SV.unk))
theorem getF_blank (i : Nat) : getF i blank = SV.unk := by
  have h : ∀ {α : Type} (d : Nat) (x : α), n8get d (n8c x) = x := by
    intro α d x
    unfold n8get n8c
    cases Nat.beq d 0 <;> cases Nat.beq d 1 <;> cases Nat.beq d 2 <;> cases Nat.beq d 3 <;> cases Nat.beq d 4 <;> cases Nat.beq d 5 <;> cases Nat.beq d 6 <;> rfl
  unfold getF blank; rw [h, h, h]

/-- A deferred call, as a value. -/
def defEnc (d : Deferred) : Value := match d.target with | .fn fv cap => .tuple #[.func fv #[] cap, .tuple d.args] | _ => .nilIface
/-- What the last slot says of what is deferred. -/
def DefS (σ : Nat → Nat) (β : Nat → Option (Nat × Nat)) (s : SV) (ds : List Deferred) : Prop := (s.1 = 19 ∧ ds = []) ∨ Den σ β s (.tuple (ds.map defEnc).toArray)
theorem DefS.mono {σ β β' s ds} (e : Ext β β') (h : DefS σ β s ds) : DefS σ β' s ds := h.imp id fun h => h.mono e
/-- What a frame says of an activation of N temporaries. -/
structure RepF (σ : Nat → Nat) (β : Nat → Option (Nat × Nat)) (N : Nat) (F : F3) (a : Act) : Prop where
  size : a.tmps.size = N
  defers : DefS σ β (getF 511 F) a.defers
  tmp : ∀ i, i < 511 → (getF i F).1 = 19 ∨ ∃ v, a.tmps[i]? = some v ∧ Den σ β (getF i F) v
  glob : ∀ g, g < 64 → β g = some (g, 0)
def RepFC (nv : Nat) (σ : Nat → Nat) (β : Nat → Option (Nat × Nat)) (N : Nat) (F : F3) (a : Act) : Prop := ∀ σ', Ag nv σ σ' → RepF σ' β N F a
theorem RepF.mono {σ β β' N F a} (e : Ext β β') (h : RepF σ β N F a) : RepF σ β' N F a :=
  ⟨h.size, h.defers.mono e, fun i hi => (h.tmp i hi).imp id fun ⟨v, h1, h2⟩ => ⟨v, h1, h2.mono e⟩, fun g hg => e _ _ (h.glob g hg)⟩
theorem RepFC.mono {nv σ β β' N F a} (e : Ext β β') (h : RepFC nv σ β N F a) : RepFC nv σ β' N F a := fun σ' ha => (h σ' ha).mono e
theorem RepFC.ag {nv nv' σ σ' β N F a} (h : RepFC nv σ β N F a) (hle : nv ≤ nv') (ha : Ag nv σ σ') : RepFC nv' σ' β N F a := fun τ ht => h τ (ha.trans (ht.mono hle))
theorem RepF.put {σ β N F a} (h : RepF σ β N F a) {d : Tmp} (hd : d < N) (hd' : d < 511) {s : SV} {v : Value} (hs : Den σ β s v) : RepF σ β N (setF d s F) (a.put (some d) v) := by
  refine ⟨by simpa [Act.put] using h.size, by rw [getF_ne (Nat.lt_of_lt_of_le hd' (by decide)) (by decide) (Nat.ne_of_gt hd')]; exact h.defers, fun i hi => ?_, h.glob⟩
  have hlt : d < a.tmps.size := by rw [h.size]; exact hd
  by_cases e : i = d
  · subst e
    rw [getF_eq]
    exact .inr ⟨v, by simp [Act.put, hlt], hs⟩
  · rw [getF_ne (Nat.lt_of_lt_of_le hd' (by decide)) (Nat.lt_of_lt_of_le hi (by decide)) e]
    refine (h.tmp i hi).imp id fun ⟨x, h3, h4⟩ => ⟨x, ?_, h4⟩
    simp only [Act.put]; rw [Array.getElem?_setIfInBounds_ne (Ne.symm e)]; exact h3
theorem RepFC.put {nv σ β N F a} (h : RepFC nv σ β N F a) {d : Tmp} (hd : d < N) (hd' : d < 511) {s : SV} {v : Value} (hs : DenC nv σ β s v) : RepFC nv σ β N (setF d s F) (a.put (some d) v) :=
  fun σ' ha => (h σ' ha).put hd hd' (hs σ' ha)
/-- A slot is forgotten. -/
theorem RepF.drop {σ β N F a} (h : RepF σ β N F a) {d : Tmp} (hd' : d < 511) : RepF σ β N (setF d SV.unk F) a := by
  refine ⟨h.size, by rw [getF_ne (Nat.lt_of_lt_of_le hd' (by decide)) (by decide) (Nat.ne_of_gt hd')]; exact h.defers, fun i hi => ?_, h.glob⟩
  by_cases e : i = d
  · subst e; rw [getF_eq]; exact .inl rfl
  · rw [getF_ne (Nat.lt_of_lt_of_le hd' (by decide)) (Nat.lt_of_lt_of_le hi (by decide)) e]; exact h.tmp i hi
/-- What is deferred is more. -/
theorem RepF.def {σ β N F a} (h : RepF σ β N F a) {s : SV} {d : Deferred} (hs : DefS σ β s (d :: a.defers)) : RepF σ β N (setF 511 s F) { a with defers := d :: a.defers } := by
  refine ⟨h.size, by rw [getF_eq]; exact hs, fun i hi => ?_, h.glob⟩
  rw [getF_ne (by omega) (by omega) (by omega)]
  exact h.tmp i hi

/-! ### Constants and operands -/
noncomputable def byteL (l : List UInt8) : (List SV → GO) → GO :=
  List.rec (motive := fun _ => (List SV → GO) → GO) (fun k => k []) (fun x _ ih k => forceN x.toNat fun n => ih fun r => k (.int .u8 (.lit n) :: r)) l
noncomputable def byteS (l : List UInt8) : List SV := List.rec [] (fun x _ ih => .int .u8 (.lit x.toNat) :: ih) l
theorem byteL_eq (l : List UInt8) (k : List SV → GO) : byteL l k = k (byteS l) := by
  induction l generalizing k with
  | nil => rfl
  | cons x l ih =>
    show forceN x.toNat (fun n => byteL l fun r => k (.int .u8 (.lit n) :: r)) = _
    rw [forceN_eq, ih]; rfl
noncomputable def gunk : GO := ⟨fun _ => SV.unk⟩
/-- A constant's number of bits. -/
noncomputable def bitsInt (k : IntKind) (n : Int) : Nat := (n % (2 ^ k.bits : Int)).toNat
noncomputable def cConst (v : Value) : GO :=
  match v with
  | .bool b => ⟨fun _ => .bool (.lit (b2n b))⟩
  | .int k n => forceN (bitsInt k n) fun m => if ofB k m = n then ⟨fun _ => .int k (.lit m)⟩ else gunk
  | .string s => byteL s.data.toList fun l => ⟨fun _ => .str l⟩
  | .pointer none => ⟨fun _ => .pnil⟩
  | .slice none len cap => if len = 0 ∧ cap = 0 then ⟨fun _ => .snil⟩ else gunk
  | .map none => ⟨fun _ => .mnil⟩
  | .func (.func f) first captured => if first.size = 0 ∧ captured.size = 0 then ⟨fun _ => .func f []⟩ else gunk
  | .nilFunc => ⟨fun _ => .fnil⟩
  | .nilIface => ⟨fun _ => .inil⟩
  | _ => gunk
theorem b2n_ne (b : Bool) : (b2n b != 0) = b := by cases b <;> rfl
theorem b2n_le (b : Bool) : b2n b ≤ 1 := by cases b <;> decide
theorem byteS_ok {σ β} (l : List UInt8) : DenL σ β (byteS l) (l.map fun b => Value.int .u8 b.toNat) := by
  induction l with
  | nil => exact .nil
  | cons x l ih =>
    refine .cons ?_ ih
    have hlt : (Tm.lit x.toNat).ev σ < 2 ^ IntKind.bits .u8 := x.toNat_lt
    have := Den.int (σ := σ) (β := β) (k := .u8) (a := 0) (b := 0) (t := .lit x.toNat) (u := .lit 0) (c := .lit 0) (l := []) hlt
    rwa [ev_lit, ofB_unsigned rfl x.toNat_lt] at this
theorem cConst_ok {σ β} (v : Value) (F : F3) : ((cConst v).g F).1 = 19 ∨ Den σ β ((cConst v).g F) v := by
  unfold cConst
  split
  · rename_i b
    right
    have := Den.bool (σ := σ) (β := β) (k := .u8) (a := 0) (b := 0) (t := .lit (b2n b)) (u := .lit 0) (c := .lit 0) (l := []) (by rw [ev_lit]; exact b2n_le b)
    rwa [ev_lit, b2n_ne] at this
  · rename_i k n
    rw [forceN_eq]
    split
    · rename_i he
      right
      have hlt : bitsInt k n < 2 ^ k.bits := by
        have h1 := Int.emod_lt_of_pos n (show (0 : Int) < 2 ^ k.bits by exact_mod_cast Nat.two_pow_pos k.bits)
        have h2 := Int.emod_nonneg n (show (2 : Int) ^ k.bits ≠ 0 by have := Nat.two_pow_pos k.bits; exact_mod_cast (Nat.ne_of_gt this))
        have h3 : (((n % (2 ^ k.bits : Int)).toNat : Nat) : Int) = n % (2 ^ k.bits : Int) := Int.toNat_of_nonneg h2
        have : (((n % (2 ^ k.bits : Int)).toNat : Nat) : Int) < ((2 ^ k.bits : Nat) : Int) := by rw [h3]; push_cast; exact h1
        exact_mod_cast this
      have := Den.int (σ := σ) (β := β) (k := k) (a := 0) (b := 0) (t := .lit (bitsInt k n)) (u := .lit 0) (c := .lit 0) (l := []) (by rw [ev_lit]; exact hlt)
      rwa [ev_lit, he] at this
    · exact .inl rfl
  · rename_i s
    rw [byteL_eq]
    exact .inr (.str (byteS_ok _))
  · exact .inr .pnil
  · split
    · rename_i e; obtain ⟨rfl, rfl⟩ := e; exact .inr .snil
    · exact .inl rfl
  · exact .inr .mnil
  · split
    · rename_i f first captured e
      have e1 : first = #[] := Array.eq_empty_of_size_eq_zero e.1
      have e2 : captured = #[] := Array.eq_empty_of_size_eq_zero e.2
      subst e1; subst e2
      exact .inr (.func (vs := []) .nil)
    · exact .inl rfl
  · exact .inr .fnil
  · exact .inr .inil
  · exact .inl rfl

noncomputable def cO (x : Operand) : GO :=
  Operand.rec (fun t => bc (Nat.blt t 511) (mkG t) gunk) (fun v => cConst v) (fun g => bc (Nat.blt g 64) ⟨fun _ => .ptr g 0⟩ gunk) (fun f => ⟨fun _ => .func f []⟩) x
theorem cO_ok {σ β N F a} (h : RepF σ β N F a) (x : Operand) : ((cO x).g F).1 = 19 ∨ Den σ β ((cO x).g F) (a.eval x) := by
  cases x with
  | tmp t =>
    show (((bc (Nat.blt t 511) (mkG t) gunk : GO)).g F).1 = 19 ∨ Den σ β (((bc (Nat.blt t 511) (mkG t) gunk : GO)).g F) (a.tmps.getD t undef)
    cases hb : Nat.blt t 511
    · exact .inl rfl
    · have e : ((bc true (mkG t) gunk : GO)).g F = getF t F := mkG_eq t F
      rw [e]
      refine (h.tmp t (of_nblt hb)).imp id fun ⟨v, h1, h2⟩ => ?_
      rw [Array.getD_eq_getD_getElem?, h1]; exact h2
  | const v => exact cConst_ok v F
  | global g =>
    show (((bc (Nat.blt g 64) ⟨fun _ => .ptr g 0⟩ gunk : GO)).g F).1 = 19 ∨ Den σ β (((bc (Nat.blt g 64) ⟨fun _ => .ptr g 0⟩ gunk : GO)).g F) (.pointer (some ⟨g, 0, none⟩))
    cases hb : Nat.blt g 64
    · exact .inl rfl
    · exact .inr (.ptr (h.glob g (of_nblt hb)))
  | func f => exact .inr (.func (vs := []) .nil)

end Go.Sy
end
