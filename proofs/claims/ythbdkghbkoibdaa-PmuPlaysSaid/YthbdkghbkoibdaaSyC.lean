/- A symbolic run of the program: operations, memory. -/
import Derived.Test.YthbdkghbkoibdaaSyB
import Derived.LaidEqlPtr
import Derived.ChangeKeysEq

section
/- Operations that only give a value. -/
namespace Go.Sy
open Go.RowKit

noncomputable def ob {α β : Type} (x : Option α) (f : α → Option β) : Option β := Option.rec none f x
theorem ob_some {α β : Type} {x : Option α} {f : α → Option β} {b : β} (h : ob x f = some b) : ∃ a, x = some a ∧ f a = some b := by
  cases x with
  | none => cases h
  | some a => exact ⟨a, rfl, h⟩
/-- What holds of a Bool. -/
noncomputable def ow {α : Type} (c : Bool) (f : Option α) : Option α := bc c f none
theorem ow_some {α : Type} {c : Bool} {f : Option α} {b : α} (h : ow c f = some b) : c = true ∧ f = some b := by
  cases c with
  | false => cases h
  | true => exact ⟨rfl, h⟩

/-! ### Integers -/
noncomputable def ltT (k : IntKind) (a b : Tm) : Tm := bc k.signed (mkBin .slt k.bits a b) (mkBin .ult k.bits a b)
theorem ltT_ev {σ} {k : IntKind} {a b : Tm} (ha : a.ev σ < 2 ^ k.bits) (hb : b.ev σ < 2 ^ k.bits) : (ltT k a b).ev σ = if ofB k (a.ev σ) < ofB k (b.ev σ) then 1 else 0 := by
  rw [← lt_ofB ha hb]
  unfold ltT ltB
  cases k.signed
  · exact mkBin_ev _ _ _ _ _
  · exact mkBin_ev _ _ _ _ _
/-- Whether two are the same: a number stands behind. -/
noncomputable def isLitB (a : Tm) : Bool := Tm.rec (fun _ => true) (fun _ _ => false) (fun _ _ _ _ => false) (fun _ _ _ _ _ _ => false) (fun _ _ _ _ _ _ => false) (fun _ _ _ _ => false) a
noncomputable def eqTm (w : Nat) (a b : Tm) : Tm := bc (isLitB a) (mkBin .eq w b a) (mkBin .eq w a b)
theorem eqTm_ev {σ} (w : Nat) (a b : Tm) : (eqTm w a b).ev σ = if a.ev σ = b.ev σ then 1 else 0 := by
  have key : ∀ a b : Tm, (mkBin .eq w a b).ev σ = if a.ev σ = b.ev σ then 1 else 0 := fun a b => by
    rw [mkBin_ev]
    show b2n (Nat.beq _ _) = _
    by_cases h : a.ev σ = b.ev σ
    · rw [nbeq_t h, if_pos h]; rfl
    · rw [nbeq_f h, if_neg h]; rfl
  unfold eqTm
  cases isLitB a
  · exact key a b
  · refine (key b a).trans ?_
    by_cases h : a.ev σ = b.ev σ
    · rw [if_pos h, if_pos h.symm]
    · rw [if_neg h, if_neg fun e => h e.symm]

/-- A term known to be no negative number of a kind. -/
noncomputable def nonneg (pc : PC) (k : IntKind) (b : Tm) : Bool :=
  bc k.signed (Option.rec (Nat.beq (decT pc (ltT k b (.lit 0))) 0) (fun n => Nat.blt n (p2 (Nat.sub k.bits 1))) (isLit b)) true
theorem nonneg_ok {σ} {pc : PC} (hp : pc.ok σ) {k : IntKind} {b : Tm} (hb : b.ev σ < 2 ^ k.bits) (h : nonneg pc k b = true) : ofB k (b.ev σ) = b.ev σ := by
  unfold nonneg at h
  cases hs : k.signed
  · exact ofB_unsigned hs hb
  · rw [hs] at h
    change Option.rec (Nat.beq (decT pc (ltT k b (.lit 0))) 0) (fun n => Nat.blt n (p2 (Nat.sub k.bits 1))) (isLit b) = true at h
    cases hl : isLit b with
    | none =>
      rw [hl] at h
      have h0 := (decT_ok hp (t := ltT k b (.lit 0))).2 (of_nbeq h)
      rw [ltT_ev hb (by rw [ev_lit]; exact Nat.two_pow_pos _), ev_lit] at h0
      have : ¬ ofB k (b.ev σ) < ofB k 0 := by
        intro e; rw [if_pos e] at h0; cases h0
      have h00 : ofB k 0 = 0 := by rw [ofB_signed hs (Nat.two_pow_pos _), if_neg (by have := Nat.two_pow_pos (k.bits - 1); omega)]; rfl
      rw [h00] at this
      rw [ofB_signed hs hb] at this ⊢
      split at this
      · have hc : ((2 ^ k.bits : Nat) : Int) = 2 ^ k.bits := by push_cast; rfl
        rw [← hc] at this; omega
      · rename_i e; rw [if_neg e]
    | some n =>
      rw [hl] at h
      have : n < 2 ^ (k.bits - 1) := of_nblt h
      rw [isLit_some hl, ev_lit]
      rw [isLit_some hl, ev_lit] at hb
      rw [ofB_signed hs hb, if_neg (Nat.not_le_of_lt this)]

/-- A term known not to be 0. -/
noncomputable def nonzero (pc : PC) (b : Tm) : Bool := Option.rec (Nat.beq (decT pc b) 1) (fun n => Nat.blt 0 n) (isLit b)
theorem nonzero_ok {σ} {pc : PC} (hp : pc.ok σ) {b : Tm} (h : nonzero pc b = true) : b.ev σ ≠ 0 := by
  unfold nonzero at h
  cases hl : isLit b with
  | none => rw [hl] at h; exact (decT_ok hp).1 (of_nbeq h)
  | some n => rw [hl] at h; rw [isLit_some hl, ev_lit]; have := of_nblt h; omega

noncomputable def remC (k : IntKind) (a b : Tm) : Tm := bc k.signed (mkBin .srem k.bits a b) (mkCan .urem k.bits a b)
theorem remC_ev (σ : Nat → Nat) (k : IntKind) (a b : Tm) : (remC k a b).ev σ = (remT k a b).ev σ := by
  unfold remC remT
  cases k.signed
  · show (mkCan .urem k.bits a b).ev σ = (mkBin .urem k.bits a b).ev σ
    rw [mkCan_ev, mkBin_ev]
  · rfl
/-- One is the other's negative. -/
noncomputable def negOf (a b : Tm) : Bool := Tm.rec (fun _ => false) (fun _ _ => false) (fun _ _ _ _ => false) (fun o _ x y _ _ => bc (Nat.beq o.code O2.sub.code) (bc (Option.rec false (fun n => Nat.beq n 0) (isLit x)) (Tm.same y a) false) false) (fun _ _ _ _ _ _ => false) (fun _ _ _ _ => false) b
/-- A term whose bits are all known. -/
noncomputable def litBT (pc : PC) (t : Tm) : Tm := Option.rec t (fun n => .lit n) (constB (bitsOf pc.kv pc.bnds t))
theorem litBT_ev {σ} {pc : PC} (hp : pc.ok σ) (t : Tm) : (litBT pc t).ev σ = t.ev σ := by
  unfold litBT
  cases h : constB (bitsOf pc.kv pc.bnds t) with
  | none => rfl
  | some n => exact (constB_ok (bitsOf_ok hp.2.2.2.1 hp.2.2.1 t) h).symm
/-- One is the other less 1. -/
noncomputable def predOf (w : Nat) (a b : Tm) : Bool := Tm.rec (fun _ => false) (fun _ _ => false) (fun _ _ _ _ => false) (fun o w' x y _ _ => bc (Nat.beq o.code O2.sub.code) (bc (Nat.beq w' w) (bc (Option.rec false (fun n => Nat.beq n 1) (isLit y)) (Tm.same x a) false) false) false) (fun _ _ _ _ _ _ => false) (fun _ _ _ _ => false) b
/-- The lowest bit that is, where those below are known to be none. -/
noncomputable def lowB (l : List Nat) : Option Nat := List.rec none (fun a _ ih => bc (Nat.beq a 0) (Option.rec none (fun n => some (Nat.succ n)) ih) (bc (Nat.beq a 1) (some 0) none)) l
theorem lowB_ok {σ} : ∀ {l : List Nat} {x n : Nat}, Lok σ l x → lowB l = some n → n < lenR l ∧ ∃ m, x = 2 ^ n * (2 * m + 1)
  | [], x, n, h, hc => by cases hc
  | a :: l, x, n, h, hc => by
    change bc (Nat.beq a 0) (Option.rec none (fun n => some (Nat.succ n)) (lowB l)) (bc (Nat.beq a 1) (some 0) none) = some n at hc
    have h0 := h.head
    rw [Nat.testBit_zero] at h0
    by_cases e : a = 0
    · rw [nbeq_t e] at hc
      rw [e] at h0
      have h0 := of_decide_eq_false h0.of0
      cases hv : lowB l with
      | none => rw [hv] at hc; cases hc
      | some v =>
        rw [hv] at hc; cases hc
        obtain ⟨h1, m, h2⟩ := lowB_ok h.tail hv
        refine ⟨Nat.succ_lt_succ h1, m, ?_⟩
        rw [Nat.pow_succ, Nat.mul_comm (2 ^ v) 2, Nat.mul_assoc, ← h2]
        omega
    · rw [nbeq_f e] at hc
      by_cases e1 : a = 1
      · rw [nbeq_t e1] at hc; cases hc
        rw [e1] at h0
        have h0 := of_decide_eq_true h0.of1
        exact ⟨Nat.succ_pos _, x / 2, by omega⟩
      · rw [nbeq_f e1] at hc; cases hc
theorem low_clear {w n m x : Nat} (hx : x = 2 ^ n * (2 * m + 1)) (hw : x < 2 ^ w) (hn : n < w) : Nat.land x ((x + (2 ^ w - 1)) % 2 ^ w) = Nat.land x (2 ^ w - 1 - 2 ^ n) := by
  have hp : 0 < 2 ^ n := Nat.two_pow_pos n
  have hpos : 0 < x := by rw [hx]; exact Nat.mul_pos hp (by omega)
  have e1 : (x + (2 ^ w - 1)) % 2 ^ w = x - 1 := by
    rw [show x + (2 ^ w - 1) = (x - 1) + 2 ^ w by omega, Nat.add_mod_right, Nat.mod_eq_of_lt (by omega)]
  rw [e1]
  have e2 : x - 1 = 2 ^ (n + 1) * m + (2 ^ n - 1) := by
    rw [hx, Nat.mul_add, Nat.mul_one, Nat.pow_succ, Nat.mul_assoc]; omega
  have e3 : x = 2 ^ (n + 1) * m + 2 ^ n := by rw [hx, Nat.mul_add, Nat.mul_one, Nat.pow_succ, Nat.mul_assoc]
  have hlt : 2 ^ n < 2 ^ w := Nat.pow_lt_pow_right (by omega) hn
  have hlt1 : 2 ^ n < 2 ^ (n + 1) := Nat.pow_lt_pow_right (by omega) (Nat.lt_succ_self n)
  apply Nat.eq_of_testBit_eq
  intro i
  show (x &&& (x - 1)).testBit i = (x &&& (2 ^ w - 1 - 2 ^ n)).testBit i
  rw [Nat.testBit_and, Nat.testBit_and, show 2 ^ w - 1 - 2 ^ n = 2 ^ w - (2 ^ n + 1) by omega, Nat.testBit_two_pow_sub_succ hlt, e2]
  rw [Nat.testBit_two_pow_mul_add _ (show 2 ^ n - 1 < 2 ^ (n + 1) by omega)]
  by_cases h1 : i < n
  · have : x.testBit i = false := by
      rw [e3, Nat.testBit_two_pow_mul_add _ hlt1, if_pos (by omega), Nat.testBit_two_pow]; simp; omega
    rw [this, Bool.false_and, Bool.false_and]
  · by_cases h2 : i = n
    · subst h2
      rw [if_pos (Nat.lt_succ_self i), Nat.testBit_two_pow_self]
      have : (2 ^ i - 1).testBit i = false := Nat.testBit_lt_two_pow (by omega)
      rw [this]; simp
    · rw [if_neg (by omega)]
      have h3 : x.testBit i = m.testBit (i - (n + 1)) := by rw [e3, Nat.testBit_two_pow_mul_add _ hlt1, if_neg (by omega)]
      rw [h3, Nat.testBit_two_pow]
      have h4 : decide (n = i) = false := by simp; omega
      rw [h4]
      by_cases h5 : i < w
      · simp [h5]
      · have : x.testBit i = false := Nat.testBit_lt_two_pow (Nat.lt_of_lt_of_le hw (Nat.pow_le_pow_right (by omega) (by omega)))
        rw [← h3, this]; simp
/-- A number and itself less 1: its lowest bit goes. -/
noncomputable def lowAnd (pc : PC) (w : Nat) (a b : Tm) : Option Nat :=
  bc (predOf w a b) (bc (Nat.ble (lenR (bitsOf pc.kv pc.bnds a)) w) (Option.rec none (fun n => some (Nat.sub (Nat.sub (p2 w) 1) (p2 n))) (lowB (bitsOf pc.kv pc.bnds a))) none) none
theorem lowAnd_ok {σ} {pc : PC} (hp : pc.ok σ) {w : Nat} {a b : Tm} {M : Nat} (h : lowAnd pc w a b = some M) : O2.and.ev w (a.ev σ) (b.ev σ) = O2.and.ev w (a.ev σ) M := by
  unfold lowAnd at h
  cases h1 : predOf w a b
  · rw [h1] at h; cases h
  rw [h1] at h
  change bc (Nat.ble (lenR (bitsOf pc.kv pc.bnds a)) w) (Option.rec none (fun n => some (Nat.sub (Nat.sub (p2 w) 1) (p2 n))) (lowB (bitsOf pc.kv pc.bnds a))) none = some M at h
  cases h2 : Nat.ble (lenR (bitsOf pc.kv pc.bnds a)) w
  · rw [h2] at h; cases h
  rw [h2] at h
  change Option.rec none (fun n => some (Nat.sub (Nat.sub (p2 w) 1) (p2 n))) (lowB (bitsOf pc.kv pc.bnds a)) = some M at h
  cases h3 : lowB (bitsOf pc.kv pc.bnds a) with
  | none => rw [h3] at h; cases h
  | some n =>
    rw [h3] at h; cases h
    have hb := bitsOf_ok hp.2.2.2.1 hp.2.2.1 a
    obtain ⟨g1, m, g2⟩ := lowB_ok hb h3
    have hle := Nat.le_of_ble_eq_true h2
    have hlt : a.ev σ < 2 ^ w := Nat.lt_of_lt_of_le hb.lt (Nat.pow_le_pow_right (by omega) hle)
    cases b with
    | bin o w' x y =>
      change bc (Nat.beq o.code O2.sub.code) (bc (Nat.beq w' w) (bc (Option.rec false (fun n => Nat.beq n 1) (isLit y)) (Tm.same x a) false) false) false = true at h1
      obtain ⟨k1, h4⟩ := band_eq h1
      obtain ⟨k2, h5⟩ := band_eq h4
      obtain ⟨k3, h6⟩ := band_eq h5
      have ho : o = .sub := by cases o <;> first | rfl | cases k1
      subst ho
      have k2 := of_nbeq k2
      subst k2
      cases hy : isLit y with
      | none => rw [hy] at k3; cases k3
      | some n1 =>
        rw [hy] at k3
        have k3 : n1 = 1 := of_nbeq k3
        subst k3
        rw [ev_bin, Tm.same_eq h6, isLit_some hy, ev_lit]
        have hw : 1 < 2 ^ w' := Nat.one_lt_two_pow (by omega)
        show Nat.land (a.ev σ) ((a.ev σ + (2 ^ w' - 1 % 2 ^ w')) % 2 ^ w') = Nat.land (a.ev σ) (2 ^ w' - 1 - 2 ^ n)
        rw [Nat.mod_eq_of_lt hw]
        exact low_clear g2 hlt (Nat.lt_of_lt_of_le g1 hle)
    | _ => cases h1
noncomputable def mkAndP (pc : PC) (w : Nat) (a b : Tm) : Tm := Option.rec (bc (negOf a b) (litBT pc (mkAndC w a b)) (mkAndC w a b)) (fun M => litBT pc (mkAndC w a (.lit M))) (lowAnd pc w a b)
theorem mkAndP_ev {σ} {pc : PC} (hp : pc.ok σ) (w a b) : (mkAndP pc w a b).ev σ = O2.and.ev w (a.ev σ) (b.ev σ) := by
  unfold mkAndP
  cases hl : lowAnd pc w a b with
  | none =>
    show (bc (negOf a b) (litBT pc (mkAndC w a b)) (mkAndC w a b)).ev σ = _
    cases negOf a b
    · exact mkAndC_ev σ w a b
    · exact (litBT_ev hp _).trans (mkAndC_ev σ w a b)
  | some M =>
    show (litBT pc (mkAndC w a (.lit M))).ev σ = _
    rw [litBT_ev hp, mkAndC_ev, ev_lit]
    exact (lowAnd_ok hp hl).symm
noncomputable def binI (pc : PC) (op : BinOp) (k : IntKind) (a b : Tm) : Option SV :=
  BinOp.rec (some (.int k (mkCan .add k.bits a b))) (some (.int k (mkBin .sub k.bits a b))) (some (.int k (mkBin .mul k.bits a b)))
    (ow (nonzero pc b) (some (.int k (quoT k a b)))) (ow (nonzero pc b) (some (.int k (remC k a b))))
    (some (.int k (mkAndP pc k.bits a b))) (some (.int k (mkCan .or k.bits a b))) (some (.int k (mkCan .xor k.bits a b))) none none
    (some (.int k (mkAndC k.bits a (mkBin .xor k.bits b (.lit (Nat.sub (p2 k.bits) 1))))))
    (some (.bool (eqTm k.bits a b))) (some (.bool (mkNot (eqTm k.bits a b))))
    (some (.bool (ltT k a b))) (some (.bool (mkNot (ltT k b a)))) (some (.bool (ltT k b a))) (some (.bool (mkNot (ltT k a b)))) op

theorem den_bool {σ β} {t : Tm} {b : Bool} (h : t.ev σ = if b = true then 1 else 0) : Den σ β (.bool t) (.bool b) := by
  have := Den.bool' (σ := σ) (β := β) (t := t) (by rw [h]; split <;> omega)
  have e : (t.ev σ != 0) = b := by rw [h]; cases b <;> rfl
  rwa [e] at this
theorem den_int {σ β} {k : IntKind} {t : Tm} {x : Int} (h : x = ofB k (t.ev σ)) (hl : t.ev σ < 2 ^ k.bits) : Den σ β (.int k t) (.int k x) := by
  subst h; exact .int hl

theorem mod_lt' (x w : Nat) : x % 2 ^ w < 2 ^ w := Nat.mod_lt _ (Nat.two_pow_pos _)

theorem binI_ok {P : Program} {σ β} {pc : PC} (hp : pc.ok σ) {op : BinOp} {k : IntKind} {a b : Tm} {s : SV} (ha : a.ev σ < 2 ^ k.bits) (hb : b.ev σ < 2 ^ k.bits) (h : binI pc op k a b = some s) (t : TypeId) (w : World) :
    ∃ v, (binOp op t (.int k (ofB k (a.ev σ))) (.int k (ofB k (b.ev σ)))).run P w = .ok v w ∧ Den σ β s v := by
  cases op with
  | add =>
    cases h
    refine ⟨_, by simp only [binOp, ne_eq, not_true_eq_false, if_false, Op.intArith, Sem.run_pure] <;> rfl, den_int ?_ ?_⟩
    · rw [mkCan_ev]; exact add_ofB k _ _
    · rw [mkCan_ev]; exact mod_lt' _ _
  | sub =>
    cases h
    refine ⟨_, by simp only [binOp, ne_eq, not_true_eq_false, if_false, Op.intArith, Sem.run_pure] <;> rfl, den_int ?_ ?_⟩
    · rw [mkBin_ev]; exact sub_ofB k _ _
    · rw [mkBin_ev]; exact mod_lt' _ _
  | mul =>
    cases h
    refine ⟨_, by simp only [binOp, ne_eq, not_true_eq_false, if_false, Op.intArith, Sem.run_pure] <;> rfl, den_int ?_ ?_⟩
    · rw [mkBin_ev]; exact mul_ofB k _ _
    · rw [mkBin_ev]; exact mod_lt' _ _
  | quo =>
    obtain ⟨h1, h2⟩ := ow_some h
    cases h2
    have hz := nonzero_ok hp h1
    have hz' : ¬ ofB k (b.ev σ) = 0 := by
      intro e
      have : ofB k (b.ev σ) = ofB k 0 := by
        rw [e]; symm; unfold ofB IntKind.wrap
        simp
        intro _ h'
        have := Nat.two_pow_pos (k.bits - 1)
        have h'' : (0 : Int) < 2 ^ (k.bits - 1) := by exact_mod_cast this
        omega
      exact hz (ofB_inj hb (Nat.two_pow_pos _) this)
    obtain ⟨e1, e2⟩ := quo_ofB σ ha hb
    refine ⟨_, by simp only [binOp, ne_eq, not_true_eq_false, if_false, Op.intDiv, hz', Sem.run_pure] <;> rfl, den_int e1 e2⟩
  | rem =>
    obtain ⟨h1, h2⟩ := ow_some h
    cases h2
    have hz := nonzero_ok hp h1
    have hz' : ¬ ofB k (b.ev σ) = 0 := by
      intro e
      have : ofB k (b.ev σ) = ofB k 0 := by
        rw [e]; symm; unfold ofB IntKind.wrap
        simp
        intro _ h'
        have := Nat.two_pow_pos (k.bits - 1)
        have h'' : (0 : Int) < 2 ^ (k.bits - 1) := by exact_mod_cast this
        omega
      exact hz (ofB_inj hb (Nat.two_pow_pos _) this)
    obtain ⟨e1, e2⟩ := rem_ofB σ ha hb hz
    refine ⟨_, by simp only [binOp, ne_eq, not_true_eq_false, if_false, Op.intDiv, hz', Sem.run_pure] <;> rfl, den_int (by rw [remC_ev]; exact e1) (by rw [remC_ev]; exact e2)⟩
  | and =>
    cases h
    refine ⟨_, by simp only [binOp, ne_eq, not_true_eq_false, if_false, Op.intBits, Sem.run_pure] <;> rfl, den_int ?_ ?_⟩
    · rw [mkAndP_ev hp]; exact and_ofB k ha hb
    · rw [mkAndP_ev hp]; exact Nat.and_lt_two_pow _ hb
  | or =>
    cases h
    refine ⟨_, by simp only [binOp, ne_eq, not_true_eq_false, if_false, Op.intBits, Sem.run_pure] <;> rfl, den_int ?_ ?_⟩
    · rw [mkCan_ev]; exact or_ofB k ha hb
    · rw [mkCan_ev]; exact Nat.or_lt_two_pow ha hb
  | xor =>
    cases h
    refine ⟨_, by simp only [binOp, ne_eq, not_true_eq_false, if_false, Op.intBits, Sem.run_pure] <;> rfl, den_int ?_ ?_⟩
    · rw [mkCan_ev]; exact xor_ofB k ha hb
    · rw [mkCan_ev]; exact Nat.xor_lt_two_pow ha hb
  | shl => cases h
  | shr => cases h
  | andNot =>
    cases h
    refine ⟨_, by simp only [binOp, ne_eq, not_true_eq_false, if_false, Op.intBits, Sem.run_pure] <;> rfl, den_int ?_ ?_⟩
    · rw [mkAndC_ev, mkBin_ev]; exact andNot_ofB k ha hb
    · rw [mkAndC_ev, mkBin_ev]
      show Nat.land _ _ < _
      exact Nat.lt_of_le_of_lt Nat.and_le_left ha
  | eql =>
    cases h
    refine ⟨_, by simp only [binOp, ne_eq, not_true_eq_false, if_false, Op.intCmp, Sem.run_pure] <;> rfl, den_bool ?_⟩
    rw [eqTm_ev, eq_ofB ha hb]
    by_cases e : a.ev σ = b.ev σ
    · simp [e]
    · simp [nbeq_f e, e]
  | neq =>
    cases h
    refine ⟨_, by simp only [binOp, ne_eq, not_true_eq_false, if_false, Op.intCmp, Sem.run_pure] <;> rfl, den_bool ?_⟩
    rw [mkNot_ev, eqTm_ev, show (ofB k (a.ev σ) != ofB k (b.ev σ)) = !(ofB k (a.ev σ) == ofB k (b.ev σ)) from rfl, eq_ofB ha hb]
    by_cases e : a.ev σ = b.ev σ
    · simp [e]
    · simp [nbeq_f e, e]
  | lss =>
    cases h
    refine ⟨_, by simp only [binOp, ne_eq, not_true_eq_false, if_false, Op.intCmp, Sem.run_pure] <;> rfl, den_bool ?_⟩
    rw [ltT_ev ha hb]; simp
  | leq =>
    cases h
    refine ⟨_, by simp only [binOp, ne_eq, not_true_eq_false, if_false, Op.intCmp, Sem.run_pure] <;> rfl, den_bool ?_⟩
    rw [mkNot_ev, ltT_ev hb ha]
    by_cases e : ofB k (b.ev σ) < ofB k (a.ev σ)
    · simp [e]
    · simp [e]
  | gtr =>
    cases h
    refine ⟨_, by simp only [binOp, ne_eq, not_true_eq_false, if_false, Op.intCmp, Sem.run_pure] <;> rfl, den_bool ?_⟩
    rw [ltT_ev hb ha]; simp
  | geq =>
    cases h
    refine ⟨_, by simp only [binOp, ne_eq, not_true_eq_false, if_false, Op.intCmp, Sem.run_pure] <;> rfl, den_bool ?_⟩
    rw [mkNot_ev, ltT_ev ha hb]
    by_cases e : ofB k (a.ev σ) < ofB k (b.ev σ)
    · simp [e]
    · simp [e]

/-! ### Shifts -/
noncomputable def isZ (b : Tm) : Bool := Option.rec false (fun n => Nat.beq n 0) (isLit b)
theorem isZ_t {σ} {b : Tm} (h : isZ b = true) : b.ev σ = 0 := by
  unfold isZ at h
  cases hl : isLit b with
  | none => rw [hl] at h; cases h
  | some n => rw [hl] at h; rw [isLit_some hl]; exact of_nbeq h
/-- A shift of a shift. -/
noncomputable def shr2 (w : Nat) (a b : Tm) : Option Tm :=
  Option.rec none (fun n => Tm.rec none' (fun _ _ => none) (fun _ _ _ _ => none) (fun o w' x c _ _ => bc (band (Nat.beq o.code 8) (Nat.beq w' w)) (Option.rec none (fun m => bc (Nat.blt (Nat.add m n) w) (some (.bin .shr w x (.lit (Nat.add m n)))) none) (isLit c)) none) (fun _ _ _ _ _ _ => none) (fun _ _ _ _ => none) a) (isLit b)
where none' (_ : Nat) : Option Tm := none
theorem shr2_ok {σ : Nat → Nat} {w : Nat} {a b t : Tm} (h : shr2 w a b = some t) : t.ev σ = O2.shr.ev w (a.ev σ) (b.ev σ) := by
  unfold shr2 at h
  cases hb : isLit b with
  | none => rw [hb] at h; cases h
  | some n =>
    rw [hb] at h
    cases a with
    | bin o w' x c =>
      change bc (band (Nat.beq o.code 8) (Nat.beq w' w)) (Option.rec none (fun m => bc (Nat.blt (Nat.add m n) w) (some (.bin .shr w x (.lit (Nat.add m n)))) none) (isLit c)) none = some t at h
      cases h1 : band (Nat.beq o.code 8) (Nat.beq w' w)
      · rw [h1] at h; cases h
      · rw [h1] at h
        obtain ⟨g1, g2⟩ := band_eq h1
        have g1 := O2.code_inj (b := .shr) (of_nbeq g1)
        have g2 := of_nbeq g2
        subst g1; subst g2
        cases hc : isLit c with
        | none => rw [hc] at h; cases h
        | some m =>
          rw [hc] at h
          change bc (Nat.blt (Nat.add m n) w') (some (.bin .shr w' x (.lit (Nat.add m n)))) none = some t at h
          cases h2 : Nat.blt (Nat.add m n) w'
          · rw [h2] at h; cases h
          · rw [h2] at h; cases h
            have hlt : m + n < w' := of_nblt h2
            rw [isLit_some hb, isLit_some hc]
            show bc (Nat.ble w' (m + n)) 0 (x.ev σ / 2 ^ (m + n)) = bc (Nat.ble w' n) 0 ((bc (Nat.ble w' m) 0 (x.ev σ / 2 ^ m)) / 2 ^ n)
            rw [nble_f (by omega), nble_f (by omega), nble_f (by omega)]
            show x.ev σ / 2 ^ (m + n) = x.ev σ / 2 ^ m / 2 ^ n
            rw [Nat.div_div_eq_div_mul, Nat.pow_add]
    | _ => cases h
/-- By no bit: as it was. -/
noncomputable def mkShr (w : Nat) (a b : Tm) : Tm := bc (isZ b) a (Option.rec (mkBin .shr w a b) (fun t => t) (shr2 w a b))
theorem mkShr_ev (σ : Nat → Nat) (k : IntKind) (a b : Tm) : (mkShr k.bits a b).ev σ = O2.shr.ev k.bits (a.ev σ) (b.ev σ) := by
  unfold mkShr
  cases h : isZ b
  · show (Option.rec (mkBin .shr k.bits a b) (fun t => t) (shr2 k.bits a b) : Tm).ev σ = _
    cases h2 : shr2 k.bits a b with
    | none => exact mkBin_ev _ _ _ _ _
    | some t => exact shr2_ok h2
  · show a.ev σ = bc (Nat.ble k.bits (b.ev σ)) 0 (a.ev σ / 2 ^ b.ev σ)
    rw [isZ_t h, nble_f (by cases k <;> decide), bc_false, Nat.pow_zero, Nat.div_one]
noncomputable def shI (pc : PC) (op : BinOp) (k : IntKind) (a : Tm) (yk : IntKind) (b : Tm) : Option SV :=
  ow (nonneg pc yk b) (BinOp.rec none none none none none none none none
    (some (.int k (mkBin .shl k.bits a b))) (some (.int k (bc k.signed (mkBin .sar k.bits a b) (mkShr k.bits a b)))) none none none none none none none op)
theorem shI_ok {P : Program} {σ β} {pc : PC} (hp : pc.ok σ) {op : BinOp} {k yk : IntKind} {a b : Tm} {s : SV} (ha : a.ev σ < 2 ^ k.bits) (hb : b.ev σ < 2 ^ yk.bits) (h : shI pc op k a yk b = some s) (t : TypeId) (w : World) :
    ∃ v, (binOp op t (.int k (ofB k (a.ev σ))) (.int yk (ofB yk (b.ev σ)))).run P w = .ok v w ∧ Den σ β s v := by
  obtain ⟨h1, h2⟩ := ow_some h
  have hn := nonneg_ok hp hb h1
  have hge : ¬ ofB yk (b.ev σ) < 0 := by rw [hn]; omega
  have htn : (ofB yk (b.ev σ)).toNat = b.ev σ := by rw [hn]; rfl
  cases op <;> first | (cases h2; done) | skip
  · cases h2
    refine ⟨_, by simp only [binOp, Op.shift, hge, if_false, Sem.run_pure] <;> rfl, den_int ?_ ?_⟩
    · rw [htn, mkBin_ev]; exact shl_ofB k _ _
    · rw [mkBin_ev]
      show bc (Nat.ble k.bits (b.ev σ)) 0 _ < _
      cases Nat.ble k.bits (b.ev σ)
      · exact mod_lt' _ _
      · exact Nat.two_pow_pos _
  · cases h2
    refine ⟨_, by simp only [binOp, Op.shift, hge, if_false, Sem.run_pure] <;> rfl, den_int ?_ ?_⟩
    · rw [htn]
      cases hs : k.signed
      · show _ = ofB k ((mkShr k.bits a b).ev σ)
        rw [mkShr_ev]; exact shr_ofB_u hs ha _
      · show _ = ofB k ((mkBin .sar k.bits a b).ev σ)
        rw [mkBin_ev]; exact shr_ofB_s hs ha _
    · cases hs : k.signed
      · show (mkShr k.bits a b).ev σ < _
        rw [mkShr_ev]
        show bc (Nat.ble k.bits (b.ev σ)) 0 (a.ev σ / 2 ^ b.ev σ) < _
        cases Nat.ble k.bits (b.ev σ)
        · exact Nat.lt_of_le_of_lt (Nat.div_le_self _ _) ha
        · exact Nat.two_pow_pos _
      · show (mkBin .sar k.bits a b).ev σ < _
        rw [mkBin_ev]
        show bc (isNeg k.bits (a.ev σ)) (2 ^ k.bits - 1 - _) (a.ev σ / 2 ^ _) < _
        have hp2 := Nat.two_pow_pos k.bits
        cases isNeg k.bits (a.ev σ)
        · exact Nat.lt_of_le_of_lt (Nat.div_le_self _ _) ha
        · exact Nat.lt_of_le_of_lt (Nat.sub_le _ _) (by omega)

/-! ### Tests on Bools -/
noncomputable def binB (op : BinOp) (a b : Tm) : Option SV :=
  BinOp.rec none none none none none none none none none none none (some (.bool (eqTm 1 a b))) (some (.bool (mkNot (eqTm 1 a b)))) none none none none op

end Go.Sy
end

section
/- Operations in parts: what an answer comes to. -/
namespace Go.Sy
open Go.RowKit

/-- It ends badly, or goes on with one value. -/
def Rsv (x : Ans) (k : SV → Ans) (Φ : SV → Prop) : Prop := (∃ n, x = .bad n) ∨ ∃ r, x = k r ∧ Φ r
theorem Rsv.bad {n : Nat} {k : SV → Ans} {Φ : SV → Prop} : Rsv (.bad n) k Φ := .inl ⟨n, rfl⟩
theorem Rsv.val {k : SV → Ans} {Φ : SV → Prop} {r : SV} (h : Φ r) : Rsv (k r) k Φ := .inr ⟨r, rfl, h⟩
theorem Rsv.imp {x : Ans} {k : SV → Ans} {Φ Ψ : SV → Prop} (h : Rsv x k Φ) (i : ∀ r, Φ r → Ψ r) : Rsv x k Ψ := Or.imp id (fun ⟨r, h1, h2⟩ => ⟨r, h1, i r h2⟩) h

noncomputable def oa {α : Type} (n : Nat) (x : Option α) (f : α → Ans) : Ans := Option.rec (.bad n) f x
noncomputable def wa (n : Nat) (c : Bool) (f : Ans) : Ans := bc c f (.bad n)
theorem oa_rsv {α : Type} {n : Nat} {x : Option α} {f : α → Ans} {k : SV → Ans} {Φ : SV → Prop} (h : ∀ a, x = some a → Rsv (f a) k Φ) : Rsv (oa n x f) k Φ := by
  cases x with
  | none => exact .bad
  | some a => exact h a rfl
theorem wa_rsv {n : Nat} {c : Bool} {f : Ans} {k : SV → Ans} {Φ : SV → Prop} (h : c = true → Rsv f k Φ) : Rsv (wa n c f) k Φ := by
  cases c with
  | false => exact .bad
  | true => exact h rfl
theorem oa_sat {α : Type} {L σ} {n : Nat} {x : Option α} {f : α → Ans} (h : (oa n x f).sat L σ) : ∃ a, x = some a ∧ (f a).sat L σ := by
  cases x with
  | none => exact h.elim
  | some a => exact ⟨a, rfl, h⟩
theorem wa_sat {L σ} {n : Nat} {c : Bool} {f : Ans} (h : (wa n c f).sat L σ) : c = true ∧ f.sat L σ := by
  cases c with
  | false => exact h.elim
  | true => exact ⟨rfl, h⟩
theorem Rsv.sat {L σ} {x : Ans} {k : SV → Ans} {Φ : SV → Prop} (h : Rsv x k Φ) (hs : x.sat L σ) : ∃ r, Φ r ∧ (k r).sat L σ := by
  rcases h with ⟨n, rfl⟩ | ⟨r, rfl, hr⟩
  · exact hs.elim
  · exact ⟨r, hr, hs⟩

/-- Unknown, or this. -/
def DenO (σ : Nat → Nat) (β : Nat → Option (Nat × Nat)) (s : SV) (v : Value) : Prop := s.1 = 19 ∨ Den σ β s v
section
variable {σ : Nat → Nat} {β : Nat → Option (Nat × Nat)} {s : SV} {v : Value}
theorem svInt_o {x : IntKind × Tm} (h : svInt s = some x) (hd : DenO σ β s v) : Den σ β (.int x.1 x.2) v := hd.elim (fun e => by unfold svInt at h; rw [e] at h; cases h) (svInt_some h)
theorem svBool_o {x : Tm} (h : svBool s = some x) (hd : DenO σ β s v) : Den σ β (.bool x) v := hd.elim (fun e => by unfold svBool at h; rw [e] at h; cases h) (svBool_some h)
theorem svPtr_o {x : Nat × Nat} (h : svPtr s = some x) (hd : DenO σ β s v) : Den σ β (.ptr x.1 x.2) v := hd.elim (fun e => by unfold svPtr at h; rw [e] at h; cases h) (svPtr_some h)
theorem svAgg_o {x : List SV} (h : svAgg s = some x) (hd : DenO σ β s v) : Den σ β (.agg x) v := hd.elim (fun e => by unfold svAgg at h; rw [e] at h; cases h) (svAgg_some h)
theorem svTup_o {x : List SV} (h : svTup s = some x) (hd : DenO σ β s v) : Den σ β (.tuple x) v := hd.elim (fun e => by unfold svTup at h; rw [e] at h; cases h) (svTup_some h)
theorem svMap_o {x : Nat} (h : svMap s = some x) (hd : DenO σ β s v) : Den σ β (.map x) v := hd.elim (fun e => by unfold svMap at h; rw [e] at h; cases h) (svMap_some h)
theorem svFunc_o {x : Nat × List SV} (h : svFunc s = some x) (hd : DenO σ β s v) : Den σ β (.func x.1 x.2) v := hd.elim (fun e => by unfold svFunc at h; rw [e] at h; cases h) (svFunc_some h)
theorem svBfn_o {x : Nat × List SV} (h : svBfn s = some x) (hd : DenO σ β s v) : Den σ β (.bfn x.1 x.2) v := hd.elim (fun e => by unfold svBfn at h; rw [e] at h; cases h) (svBfn_some h)
theorem svStr_o {x : List SV} (h : svStr s = some x) (hd : DenO σ β s v) : Den σ β (.str x) v := hd.elim (fun e => by unfold svStr at h; rw [e] at h; cases h) (svStr_some h)
theorem svSl_o {q : SlV} (h : svSl s = some q) (hd : DenO σ β s v) : Den σ β s v := hd.elim (fun e => by unfold svSl at h; rw [e] at h; cases h) id
/-- A pointer to a place that is a term: object, place within an element, which element, how many cells one has. -/
noncomputable def svPtrT (s : SV) : Option (Nat × Nat × Tm × Nat × Tm × List SV) := bc (Nat.beq s.1 16) (Option.rec none (fun z => some (s.3, s.4, s.5, z, s.7, s.8)) (isLit s.6)) none
theorem svPtrT_o {x : Nat × Nat × Tm × Nat × Tm × List SV} (h : svPtrT s = some x) (hd : DenO σ β s v) : Den σ β (.ptrT x.1 x.2.1 x.2.2.1 x.2.2.2.1 x.2.2.2.2.1 x.2.2.2.2.2) v := by
  unfold svPtrT at h
  rcases hd with e | hd
  · rw [e] at h; cases h
  · cases hb : Nat.beq s.1 16
    · rw [hb] at h; cases h
    · rw [hb] at h
      obtain ⟨k, a, b, t, u, c, l, rfl⟩ := tag_of hb
      cases hd with
      | ptrT hβ => cases h; exact .ptrT hβ
/-- A slice of terms: object, cells of an element, first element, length, capacity. -/
structure SlT where
  o : Nat
  z : Nat
  i : Tm
  len : Tm
  cap : Tm
  l : List SV
noncomputable def svSlT (s : SV) : Option SlT := bc (Nat.beq s.1 17) (some ⟨s.3, s.4, s.5, s.6, s.7, s.8⟩) none
theorem svSlT_o {x : SlT} (h : svSlT s = some x) (hd : DenO σ β s v) : Den σ β (.sliceT x.o x.z x.i x.len x.cap x.l) v := by
  unfold svSlT at h
  rcases hd with e | hd
  · rw [e] at h; cases h
  · cases hb : Nat.beq s.1 17
    · rw [hb] at h; cases h
    · rw [hb] at h
      obtain ⟨k, a, b, t, u, c, l, rfl⟩ := tag_of hb
      cases h
      cases hd with
      | sliceT hb h1 h2 => exact .sliceT hb h1 h2
end

/-- A value, written out, if it is known. -/
noncomputable def kn (s : SV) (k : SV → Ans) : Ans :=
  SV.rec (motive_1 := fun _ => (SV → Ans) → Ans) (motive_2 := fun _ => Nat) (fun tag kd a b t u c l _ k => bc (Nat.beq tag 19) (.bad 19) (k (.mk tag kd a b t u c l))) 0 (fun _ _ _ _ => 0) s k
theorem kn_eq (s : SV) (k : SV → Ans) : (s.1 = 19 ∧ kn s k = .bad 19) ∨ (s.1 ≠ 19 ∧ kn s k = k s) := by
  obtain ⟨tag, kd, a, b, t, u, c, l⟩ := s
  show (tag = 19 ∧ bc (Nat.beq tag 19) _ _ = _) ∨ (tag ≠ 19 ∧ bc (Nat.beq tag 19) _ _ = _)
  by_cases e : tag = 19
  · rw [nbeq_t e]; exact .inl ⟨e, rfl⟩
  · rw [nbeq_f e]; exact .inr ⟨e, rfl⟩
theorem kn_rsv {s : SV} {k : SV → Ans} {Φ : SV → Prop} (h : s.1 ≠ 19 → Φ s) : Rsv (kn s k) k Φ := by
  rcases kn_eq s k with ⟨_, e⟩ | ⟨hn, e⟩
  · rw [e]; exact .bad
  · rw [e]; exact .val (h hn)
theorem kn_sat {L σ} {s : SV} {k : SV → Ans} (h : (kn s k).sat L σ) : s.1 ≠ 19 ∧ (k s).sat L σ := by
  rcases kn_eq s k with ⟨_, e⟩ | ⟨hn, e⟩
  · rw [e] at h; exact h.elim
  · rw [e] at h; exact ⟨hn, h⟩
theorem DenO.of {σ β s v} (h : DenO σ β s v) (hn : s.1 ≠ 19) : Den σ β s v := h.resolve_left hn

noncomputable def forceL (l : List SV) : (List SV → Ans) → Ans := List.rec (motive := fun _ => (List SV → Ans) → Ans) (fun k => k []) (fun x _ ih k => ih fun r => k (x :: r)) l
theorem forceL_eq (l : List SV) (k : List SV → Ans) : forceL l k = k l := by
  induction l generalizing k with
  | nil => rfl
  | cons x l ih => show forceL l (fun r => k (x :: r)) = _; rw [ih]
/-- Its first elements forced; the rest is left. -/
noncomputable def forceP (n : Nat) : List SV → (List SV → Ans) → Ans := Nat.rec (motive := fun _ => List SV → (List SV → Ans) → Ans) (fun l k => List.rec (motive := fun _ => Ans) (k []) (fun x t _ => k (x :: t)) l) (fun _ ih l k => List.rec (motive := fun _ => Ans) (k []) (fun x t _ => ih t fun r => k (x :: r)) l) n
theorem forceP_eq (n : Nat) : ∀ (l : List SV) (k : List SV → Ans), forceP n l k = k l := by
  induction n with
  | zero => intro l k; cases l <;> rfl
  | succ n ih => intro l k; cases l with
    | nil => rfl
    | cons x t => show (forceP n t fun r => k (x :: r)) = _; rw [ih]

/-- Operands, all known. -/
noncomputable def knL (xs : List GO) : F3 → (List SV → Ans) → Ans :=
  List.rec (motive := fun _ => F3 → (List SV → Ans) → Ans) (fun _ k => k []) (fun x _ ih F k => kn (x.g F) fun s => ih F fun r => k (s :: r)) xs
theorem knL_eq : ∀ (xs : List GO) (F : F3) (k : List SV → Ans), (∃ n, knL xs F k = .bad n) ∨ (knL xs F k = k (xs.map fun x => x.g F) ∧ ∀ x ∈ xs, (x.g F).1 ≠ 19)
  | [], F, k => .inr ⟨rfl, fun x hx => by cases hx⟩
  | x :: xs, F, k => by
    change (∃ n, (kn (x.g F) fun s => knL xs F fun r => k (s :: r)) = .bad n) ∨ ((kn (x.g F) fun s => knL xs F fun r => k (s :: r)) = _ ∧ _)
    rcases kn_eq (x.g F) (fun s => knL xs F fun r => k (s :: r)) with ⟨_, e⟩ | ⟨hn, e⟩
    · exact .inl ⟨19, e⟩
    · rw [e]
      rcases knL_eq xs F (fun r => k (x.g F :: r)) with ⟨n, e2⟩ | ⟨e2, h2⟩
      · exact .inl ⟨n, e2⟩
      · refine .inr ⟨e2, fun y hy => ?_⟩
        rcases List.mem_cons.1 hy with rfl | hy
        · exact hn
        · exact h2 y hy
theorem knL_rsv {xs : List GO} {F : F3} {f : List SV → Ans} {k : SV → Ans} {Φ : SV → Prop} (h : (∀ x ∈ xs, (x.g F).1 ≠ 19) → Rsv (f (xs.map fun x => x.g F)) k Φ) : Rsv (knL xs F f) k Φ := by
  rcases knL_eq xs F f with ⟨n, e⟩ | ⟨e, hn⟩
  · rw [e]; exact .bad
  · rw [e]; exact h hn
theorem knL_sat {L σ} {xs : List GO} {F : F3} {f : List SV → Ans} (h : (knL xs F f).sat L σ) : (∀ x ∈ xs, (x.g F).1 ≠ 19) ∧ (f (xs.map fun x => x.g F)).sat L σ := by
  rcases knL_eq xs F f with ⟨n, e⟩ | ⟨e, hn⟩
  · rw [e] at h; exact h.elim
  · rw [e] at h; exact ⟨hn, h⟩
theorem cOs_ok {σ β N F a} (h : RepF σ β N F a) : ∀ (xs : List Operand), (∀ x ∈ xs.map cO, (x.g F).1 ≠ 19) → DenL σ β ((xs.map cO).map fun x => x.g F) (xs.map a.eval)
  | [], _ => .nil
  | x :: xs, hn => .cons ((cO_ok h x).resolve_left (hn _ List.mem_cons_self)) (cOs_ok h xs fun y hy => hn y (List.mem_cons_of_mem _ hy))
noncomputable def cOs (xs : List Operand) : List GO := List.rec [] (fun x _ ih => cO x :: ih) xs
theorem cOs_eq (xs : List Operand) : cOs xs = xs.map cO := by
  induction xs with
  | nil => rfl
  | cons x xs ih => show cO x :: cOs xs = _; rw [ih]; rfl

/-! ### Terms, made -/
structure EF where
  f : Nat → Nat → Nat → Nat
noncomputable def cEv (o : O2) : EF := O2.rec ⟨O2.add.ev⟩ ⟨O2.sub.ev⟩ ⟨O2.mul.ev⟩ ⟨fun _ x y => Nat.land x y⟩ ⟨fun _ x y => Nat.lor x y⟩ ⟨fun _ x y => Nat.xor x y⟩
  ⟨fun w x y => bc (Nat.ble w y) 0 (Nat.mod (Nat.mul x (p2 y)) (p2 w))⟩ ⟨fun w x y => bc (Nat.ble w y) 0 (Nat.div x (p2 y))⟩ ⟨O2.sar.ev⟩ ⟨fun _ x y => b2n (Nat.beq x y)⟩ ⟨fun _ x y => b2n (Nat.blt x y)⟩ ⟨O2.slt.ev⟩ ⟨fun _ x y => Nat.div x y⟩ ⟨fun _ x y => Nat.mod x y⟩ ⟨O2.sdiv.ev⟩ ⟨O2.srem.ev⟩ ⟨O2.pair.ev⟩ o
theorem cEv_eq (o : O2) (w x y : Nat) : (cEv o).f w x y = o.ev w x y := by cases o <;> rfl
structure TB where
  f : Nat → Tm → Tm → (Tm → Ans) → Ans
noncomputable def mkB (o : O2) : TB :=
  ⟨fun w a b k => Option.rec (motive := fun _ => Ans) (k (.bin o w a b)) (fun x => Option.rec (motive := fun _ => Ans) (k (.bin o w a b)) (fun y => forceN ((cEv o).f w x y) fun n => k (.lit n)) (isLit b)) (isLit a)⟩
theorem mkB_eq (o : O2) (w : Nat) (a b : Tm) (k : Tm → Ans) : (mkB o).f w a b k = k (mkBin o w a b) := by
  show Option.rec (motive := fun _ => Ans) (k (.bin o w a b)) (fun x => Option.rec (motive := fun _ => Ans) (k (.bin o w a b)) (fun y => forceN ((cEv o).f w x y) fun n => k (.lit n)) (isLit b)) (isLit a) = _
  unfold mkBin
  cases isLit a with
  | none => rfl
  | some x =>
    cases isLit b with
    | none => rfl
    | some y => show forceN _ _ = _; rw [forceN_eq, cEv_eq]
/-- A term, with nothing left to be worked out. -/
noncomputable def deepT (t : Tm) : (Tm → Ans) → Ans :=
  Tm.rec (motive := fun _ => (Tm → Ans) → Ans) (fun n k => forceN n fun n => k (.lit n)) (fun i w k => forceN i fun i => forceN w fun w => k (.var i w)) (fun o w _ ih k => ih fun a => k (.un o w a))
    (fun o w _ _ iha ihb k => forceN w fun w => iha fun a => ihb fun b => k (.bin o w a b)) (fun _ _ _ ihc iha ihb k => ihc fun c => iha fun a => ihb fun b => k (.ite c a b)) (fun f w _ ih k => ih fun a => k (.app f w a)) t
theorem deepT_eq (t : Tm) : ∀ k : Tm → Ans, deepT t k = k t := by
  induction t with
  | lit n => intro k; show forceN n (fun n => k (.lit n)) = _; rw [forceN_eq]
  | var i w => intro k; show forceN i (fun i => forceN w fun w => k (.var i w)) = _; rw [forceN_eq, forceN_eq]
  | un o w a ih => intro k; exact ih _
  | bin o w a b iha ihb =>
    intro k
    show forceN w (fun w => deepT a fun a => deepT b fun b => k (.bin o w a b)) = _
    rw [forceN_eq, iha, ihb]
  | ite c a b ihc iha ihb =>
    intro k
    show deepT c (fun c => deepT a fun a => deepT b fun b => k (.ite c a b)) = _
    rw [ihc, iha, ihb]
  | app f w a ih => intro k; exact ih _
noncomputable def mkC (o : O2) : TB :=
  ⟨fun w a b k => Option.rec (motive := fun _ => Ans) (deepT (canT (.bin o w a b)) k) (fun x => Option.rec (motive := fun _ => Ans) (deepT (canT (.bin o w a b)) k) (fun y => forceN ((cEv o).f w x y) fun n => k (.lit n)) (isLit b)) (isLit a)⟩
theorem mkC_eq (o : O2) (w : Nat) (a b : Tm) (k : Tm → Ans) : (mkC o).f w a b k = k (mkCan o w a b) := by
  show Option.rec (motive := fun _ => Ans) (deepT (canT (.bin o w a b)) k) (fun x => Option.rec (motive := fun _ => Ans) (deepT (canT (.bin o w a b)) k) (fun y => forceN ((cEv o).f w x y) fun n => k (.lit n)) (isLit b)) (isLit a) = _
  unfold mkCan
  cases isLit a with
  | none => exact deepT_eq _ _
  | some x =>
    cases isLit b with
    | none => exact deepT_eq _ _
    | some y => show forceN _ _ = _; rw [forceN_eq, cEv_eq]
noncomputable def mkA : TB := ⟨fun w a b k => Option.rec (motive := fun _ => Ans) (bc (hasOr a) ((mkC .and).f w a b k) ((mkB .and).f w a b k)) k (andAdd w a b)⟩
theorem mkA_eq (w : Nat) (a b : Tm) (k : Tm → Ans) : mkA.f w a b k = k (mkAndC w a b) := by
  show Option.rec (motive := fun _ => Ans) (bc (hasOr a) ((mkC .and).f w a b k) ((mkB .and).f w a b k)) k (andAdd w a b) = _
  unfold mkAndC
  cases andAdd w a b with
  | some y => rfl
  | none =>
    show bc (hasOr a) ((mkC .and).f w a b k) ((mkB .and).f w a b k) = k (bc (hasOr a) (mkCan .and w a b) (mkBin .and w a b))
    cases hasOr a
    · exact mkB_eq _ _ _ _ _
    · exact mkC_eq _ _ _ _ _
noncomputable def mkAP (pc : PC) : TB := ⟨fun w a b k => Option.rec (motive := fun _ => Ans) (mkA.f w a b fun t => bc (negOf a b) (Option.rec (motive := fun _ => Ans) (k t) (fun n => forceN n fun n => k (.lit n)) (constB (bitsOf pc.kv pc.bnds t))) (k t))
  (fun M => forceN M fun M => mkA.f w a (.lit M) fun t => Option.rec (motive := fun _ => Ans) (k t) (fun n => forceN n fun n => k (.lit n)) (constB (bitsOf pc.kv pc.bnds t))) (lowAnd pc w a b)⟩
theorem mkAP_eq (pc : PC) (w : Nat) (a b : Tm) (k : Tm → Ans) : (mkAP pc).f w a b k = k (mkAndP pc w a b) := by
  have lit : ∀ t, Option.rec (motive := fun _ => Ans) (k t) (fun n => forceN n fun n => k (.lit n)) (constB (bitsOf pc.kv pc.bnds t)) = k (litBT pc t) := fun t => by
    unfold litBT
    cases constB (bitsOf pc.kv pc.bnds t) with
    | none => rfl
    | some n => exact forceN_eq n (fun n => k (.lit n))
  unfold mkAndP
  cases hl : lowAnd pc w a b with
  | none =>
    show Option.rec (motive := fun _ => Ans) (mkA.f w a b fun t => bc (negOf a b) (Option.rec (motive := fun _ => Ans) (k t) (fun n => forceN n fun n => k (.lit n)) (constB (bitsOf pc.kv pc.bnds t))) (k t)) (fun M => forceN M fun M => mkA.f w a (.lit M) fun t => Option.rec (motive := fun _ => Ans) (k t) (fun n => forceN n fun n => k (.lit n)) (constB (bitsOf pc.kv pc.bnds t))) (lowAnd pc w a b) = _
    rw [hl]
    show mkA.f w a b (fun t => bc (negOf a b) (Option.rec (motive := fun _ => Ans) (k t) (fun n => forceN n fun n => k (.lit n)) (constB (bitsOf pc.kv pc.bnds t))) (k t)) = _
    rw [mkA_eq]
    cases negOf a b
    · rfl
    · exact lit _
  | some M =>
    show Option.rec (motive := fun _ => Ans) (mkA.f w a b fun t => bc (negOf a b) (Option.rec (motive := fun _ => Ans) (k t) (fun n => forceN n fun n => k (.lit n)) (constB (bitsOf pc.kv pc.bnds t))) (k t)) (fun M => forceN M fun M => mkA.f w a (.lit M) fun t => Option.rec (motive := fun _ => Ans) (k t) (fun n => forceN n fun n => k (.lit n)) (constB (bitsOf pc.kv pc.bnds t))) (lowAnd pc w a b) = _
    rw [hl]
    show (forceN M fun M => mkA.f w a (.lit M) fun t => Option.rec (motive := fun _ => Ans) (k t) (fun n => forceN n fun n => k (.lit n)) (constB (bitsOf pc.kv pc.bnds t))) = _
    rw [forceN_eq, mkA_eq, lit]
noncomputable def mkU (o : O1) (w : Nat) (a : Tm) (k : Tm → Ans) : Ans := Option.rec (motive := fun _ => Ans) (k (.un o w a)) (fun x => forceN (o.ev w x) fun n => k (.lit n)) (isLit a)
theorem mkU_eq (o : O1) (w : Nat) (a : Tm) (k : Tm → Ans) : mkU o w a k = k (mkUn o w a) := by
  cases a <;> first | rfl | exact forceN_eq _ (fun n => k (.lit n))
noncomputable def mkI (c a b : Tm) (k : Tm → Ans) : Ans := Option.rec (motive := fun _ => Ans) (k (.ite c a b)) (fun n => k (bc (Nat.beq n 0) b a)) (isLit c)
theorem mkI_eq (c a b : Tm) (k : Tm → Ans) : mkI c a b k = k (mkIte c a b) := by
  unfold mkI mkIte
  cases isLit c <;> rfl

/-! ### Operations on numbers -/
structure BI where
  f : PC → IntKind → Tm → Tm → (SV → Ans) → Ans
noncomputable def retI (o : O2) : BI := ⟨fun _ kd a b k => (mkB o).f kd.bits a b fun t => k (.int kd t)⟩
noncomputable def retC (o : O2) : BI := ⟨fun _ kd a b k => (mkC o).f kd.bits a b fun t => k (.int kd t)⟩
noncomputable def mkE : TB := ⟨fun w a b k => bc (isLitB a) ((mkB .eq).f w b a k) ((mkB .eq).f w a b k)⟩
theorem mkE_eq (w : Nat) (a b : Tm) (k : Tm → Ans) : mkE.f w a b k = k (eqTm w a b) := by
  show bc (isLitB a) ((mkB .eq).f w b a k) ((mkB .eq).f w a b k) = _
  unfold eqTm
  cases isLitB a
  · exact mkB_eq _ _ _ _ _
  · exact mkB_eq _ _ _ _ _
noncomputable def ltK (kd : IntKind) (a b : Tm) (k : Tm → Ans) : Ans := bc kd.signed ((mkB .slt).f kd.bits a b k) ((mkB .ult).f kd.bits a b k)
theorem ltK_eq (kd : IntKind) (a b : Tm) (k : Tm → Ans) : ltK kd a b k = k (ltT kd a b) := by
  unfold ltK ltT
  cases kd.signed <;> exact mkB_eq _ _ _ _ _
noncomputable def notK (t : Tm) (k : SV → Ans) : Ans := mkU .bnot 1 t fun t => k (.bool t)
theorem notK_eq (t : Tm) (k : SV → Ans) : notK t k = k (.bool (mkNot t)) := mkU_eq _ _ _ _
noncomputable def cBinI (op : BinOp) : BI :=
  BinOp.rec (retC .add) (retI .sub) (retI .mul)
    ⟨fun pc kd a b k => wa 20 (nonzero pc b) (bc kd.signed ((mkB .sdiv).f kd.bits a b fun t => k (.int kd t)) ((mkB .udiv).f kd.bits a b fun t => k (.int kd t)))⟩
    ⟨fun pc kd a b k => wa 21 (nonzero pc b) (bc kd.signed ((mkB .srem).f kd.bits a b fun t => k (.int kd t)) ((mkC .urem).f kd.bits a b fun t => k (.int kd t)))⟩
    ⟨fun pc kd a b k => (mkAP pc).f kd.bits a b fun t => k (.int kd t)⟩ (retC .or) (retC .xor) ⟨fun _ _ _ _ _ => .bad 22⟩ ⟨fun _ _ _ _ _ => .bad 22⟩
    ⟨fun _ kd a b k => (mkB .xor).f kd.bits b (.lit (Nat.sub (p2 kd.bits) 1)) fun b => mkA.f kd.bits a b fun t => k (.int kd t)⟩
    ⟨fun _ kd a b k => mkE.f kd.bits a b fun t => k (.bool t)⟩ ⟨fun _ kd a b k => mkE.f kd.bits a b fun t => notK t k⟩
    ⟨fun _ kd a b k => ltK kd a b fun t => k (.bool t)⟩ ⟨fun _ kd a b k => ltK kd b a fun t => notK t k⟩ ⟨fun _ kd a b k => ltK kd b a fun t => k (.bool t)⟩ ⟨fun _ kd a b k => ltK kd a b fun t => notK t k⟩ op
theorem cBinI_eq (op : BinOp) (pc : PC) (kd : IntKind) (a b : Tm) (k : SV → Ans) : (∃ n, (cBinI op).f pc kd a b k = .bad n) ∨ ∃ r, binI pc op kd a b = some r ∧ (cBinI op).f pc kd a b k = k r := by
  cases op with
  | add => exact .inr ⟨_, rfl, mkC_eq .add kd.bits a b (fun t => k (.int kd t))⟩
  | sub => exact .inr ⟨_, rfl, mkB_eq .sub kd.bits a b (fun t => k (.int kd t))⟩
  | mul => exact .inr ⟨_, rfl, mkB_eq .mul kd.bits a b (fun t => k (.int kd t))⟩
  | quo =>
    show (∃ n, wa 20 (nonzero pc b) _ = .bad n) ∨ ∃ r, ow (nonzero pc b) (some (.int kd (quoT kd a b))) = some r ∧ wa 20 (nonzero pc b) _ = k r
    cases nonzero pc b
    · exact .inl ⟨_, rfl⟩
    · refine .inr ⟨_, rfl, ?_⟩
      unfold quoT
      show bc kd.signed _ _ = _
      cases kd.signed
      · exact mkB_eq .udiv kd.bits a b (fun t => k (.int kd t))
      · exact mkB_eq .sdiv kd.bits a b (fun t => k (.int kd t))
  | rem =>
    show (∃ n, wa 21 (nonzero pc b) _ = .bad n) ∨ ∃ r, ow (nonzero pc b) (some (.int kd (remC kd a b))) = some r ∧ wa 21 (nonzero pc b) _ = k r
    cases nonzero pc b
    · exact .inl ⟨_, rfl⟩
    · refine .inr ⟨_, rfl, ?_⟩
      unfold remC
      show bc kd.signed _ _ = _
      cases kd.signed
      · exact mkC_eq .urem kd.bits a b (fun t => k (.int kd t))
      · exact mkB_eq .srem kd.bits a b (fun t => k (.int kd t))
  | and => exact .inr ⟨_, rfl, mkAP_eq pc kd.bits a b (fun t => k (.int kd t))⟩
  | or => exact .inr ⟨_, rfl, mkC_eq .or kd.bits a b (fun t => k (.int kd t))⟩
  | xor => exact .inr ⟨_, rfl, mkC_eq .xor kd.bits a b (fun t => k (.int kd t))⟩
  | shl => exact .inl ⟨_, rfl⟩
  | shr => exact .inl ⟨_, rfl⟩
  | andNot => exact .inr ⟨_, rfl, (mkB_eq .xor kd.bits b _ (fun b => mkA.f kd.bits a b fun t => k (.int kd t))).trans (mkA_eq kd.bits a _ (fun t => k (.int kd t)))⟩
  | eql => exact .inr ⟨_, rfl, mkE_eq kd.bits a b (fun t => k (.bool t))⟩
  | neq => exact .inr ⟨_, rfl, (mkE_eq kd.bits a b (fun t => notK t k)).trans (notK_eq _ _)⟩
  | lss => exact .inr ⟨_, rfl, ltK_eq kd a b (fun t => k (.bool t))⟩
  | leq => exact .inr ⟨_, rfl, (ltK_eq kd b a (fun t => notK t k)).trans (notK_eq _ _)⟩
  | gtr => exact .inr ⟨_, rfl, ltK_eq kd b a (fun t => k (.bool t))⟩
  | geq => exact .inr ⟨_, rfl, (ltK_eq kd a b (fun t => notK t k)).trans (notK_eq _ _)⟩

/-- Shifts. -/
noncomputable def cShI (op : BinOp) : IntKind → PC → IntKind → Tm → Tm → (SV → Ans) → Ans :=
  BinOp.rec (motive := fun _ => IntKind → PC → IntKind → Tm → Tm → (SV → Ans) → Ans) (fun _ _ _ _ _ _ => .bad 23) (fun _ _ _ _ _ _ => .bad 23) (fun _ _ _ _ _ _ => .bad 23) (fun _ _ _ _ _ _ => .bad 23) (fun _ _ _ _ _ _ => .bad 23) (fun _ _ _ _ _ _ => .bad 23) (fun _ _ _ _ _ _ => .bad 23) (fun _ _ _ _ _ _ => .bad 23)
    (fun yk pc kd a b k => wa 24 (nonneg pc yk b) ((mkB .shl).f kd.bits a b fun t => k (.int kd t)))
    (fun yk pc kd a b k => wa 24 (nonneg pc yk b) (bc kd.signed ((mkB .sar).f kd.bits a b fun t => k (.int kd t)) (bc (isZ b) (k (.int kd a)) (Option.rec (motive := fun _ => Ans) ((mkB .shr).f kd.bits a b fun t => k (.int kd t)) (fun t => k (.int kd t)) (shr2 kd.bits a b)))))
    (fun _ _ _ _ _ _ => .bad 23) (fun _ _ _ _ _ _ => .bad 23) (fun _ _ _ _ _ _ => .bad 23) (fun _ _ _ _ _ _ => .bad 23) (fun _ _ _ _ _ _ => .bad 23) (fun _ _ _ _ _ _ => .bad 23) (fun _ _ _ _ _ _ => .bad 23) op
theorem cShI_eq (op : BinOp) (yk : IntKind) (pc : PC) (kd : IntKind) (a b : Tm) (k : SV → Ans) : (∃ n, cShI op yk pc kd a b k = .bad n) ∨ ∃ r, shI pc op kd a yk b = some r ∧ cShI op yk pc kd a b k = k r := by
  cases op <;> first | exact .inl ⟨_, rfl⟩ | skip
  · show (∃ n, wa 24 (nonneg pc yk b) _ = .bad n) ∨ ∃ r, ow (nonneg pc yk b) _ = some r ∧ wa 24 (nonneg pc yk b) _ = k r
    cases nonneg pc yk b
    · exact .inl ⟨_, rfl⟩
    · exact .inr ⟨_, rfl, mkB_eq .shl kd.bits a b (fun t => k (.int kd t))⟩
  · show (∃ n, wa 24 (nonneg pc yk b) _ = .bad n) ∨ ∃ r, ow (nonneg pc yk b) _ = some r ∧ wa 24 (nonneg pc yk b) _ = k r
    cases nonneg pc yk b
    · exact .inl ⟨_, rfl⟩
    · refine .inr ⟨_, rfl, ?_⟩
      show bc kd.signed _ _ = k (.int kd (bc kd.signed _ _))
      cases kd.signed
      · show bc (isZ b) _ _ = k (.int kd (mkShr kd.bits a b))
        unfold mkShr
        cases isZ b
        · cases shr2 kd.bits a b with
          | none => exact mkB_eq .shr kd.bits a b (fun t => k (.int kd t))
          | some t => rfl
        · rfl
      · exact mkB_eq .sar kd.bits a b (fun t => k (.int kd t))

end Go.Sy
end

section
/- Operations that give a value in every world. -/
namespace Go.Sy
open Go.RowKit

/-! ### One by one -/
noncomputable def fieldsOf (P : Program) (t : TypeId) : Option (Array Field) := (P.underlying t).bind fun d => match d with | .struct fs => some fs | _ => none
theorem fieldsOf_some {P : Program} {t : TypeId} {fs : Array Field} (h : fieldsOf P t = some fs) : P.underlying t = some (.struct fs) := by
  unfold fieldsOf at h
  cases hu : P.underlying t with
  | none => rw [hu] at h; cases h
  | some d => rw [hu] at h; cases d <;> simp at h; rw [h]
noncomputable def arrOf (P : Program) (t : TypeId) : Option (Nat × TypeId) := (P.underlying t).bind fun d => match d with | .array n e => some (n, e) | _ => none
theorem arrOf_some {P : Program} {t : TypeId} {x : Nat × TypeId} (h : arrOf P t = some x) : P.underlying t = some (.array x.1 x.2) := by
  unfold arrOf at h
  cases hu : P.underlying t with
  | none => rw [hu] at h; cases h
  | some d => rw [hu] at h; cases d <;> simp at h; rw [← h]
noncomputable def sliOf (P : Program) (t : TypeId) : Option TypeId := (P.underlying t).bind fun d => match d with | .slice e => some e | _ => none
theorem sliOf_some {P : Program} {t : TypeId} {e : TypeId} (h : sliOf P t = some e) : P.underlying t = some (.slice e) := by
  unfold sliOf at h
  cases hu : P.underlying t with
  | none => rw [hu] at h; cases h
  | some d => rw [hu] at h; cases d <;> simp at h; rw [← h]
noncomputable def intOfT (P : Program) (t : TypeId) : Option IntKind := (P.underlying t).bind fun d => match d with | .int k => some k | _ => none
theorem intOfT_some {P : Program} {t : TypeId} {e : IntKind} (h : intOfT P t = some e) : P.underlying t = some (.int e) := by
  unfold intOfT at h
  cases hu : P.underlying t with
  | none => rw [hu] at h; cases h
  | some d => rw [hu] at h; cases d <;> simp at h; rw [← h]

/-- A field's place and its size. -/
noncomputable def fieldAt' (P : Program) (t : TypeId) (f : Nat) : Option (Nat × TypeId) := (fieldsOf P t).bind fun fs => (fs[f]?).map fun d => (d.offset, d.type)


structure V1 where
  f : SV → (SV → Ans) → Ans
noncomputable def v1bad (n : Nat) : V1 := ⟨fun _ _ => .bad n⟩
/-- With something of the program's text, or not at all. -/
noncomputable def oc {α : Type} (n : Nat) (x : Option α) (f : α → V1) : V1 := Option.rec (v1bad n) f x
noncomputable def wc (n : Nat) (c : Bool) (f : V1) : V1 := bc c f (v1bad n)
/-- What an operation of one value comes to. -/
def V1ok (P : Program) (run : Value → Sem Value) (h : V1) : Prop := ∀ s k, Rsv (h.f s k) k fun r => ∀ σ β v w, DenO σ β s v → ∃ u, (run v).run P w = .ok u w ∧ Den σ β r u
theorem v1bad_ok {P run n} : V1ok P run (v1bad n) := fun _ _ => .bad
theorem oc_ok {α : Type} {P run n} {x : Option α} {f : α → V1} (h : ∀ a, x = some a → V1ok P run (f a)) : V1ok P run (oc n x f) := by
  cases x with
  | none => exact v1bad_ok
  | some a => exact h a rfl
theorem wc_ok {P run n} {c : Bool} {f : V1} (h : c = true → V1ok P run f) : V1ok P run (wc n c f) := by
  cases c with
  | false => exact v1bad_ok
  | true => exact h rfl

noncomputable def cFieldAddr (P : Program) (t : TypeId) (f : Nat) : V1 :=
  oc 30 (fieldAt' P t f) fun d => oc 31 (szOf P d.2) fun n => wc 32 (Nat.blt 0 n)
    ⟨fun s k => Option.rec (oa 33 (svPtrT s) fun q => forceN (Nat.add q.2.1 d.1) fun f => k (.ptrT q.1 f q.2.2.1 q.2.2.2.1 q.2.2.2.2.1 q.2.2.2.2.2)) (fun p => forceN (Nat.add p.2 d.1) fun off => k (.ptr p.1 off)) (svPtr s)⟩
theorem fieldAt_ok {P : Program} {t : TypeId} {f : Nat} {d : Nat × TypeId} (hd : fieldAt' P t f = some d) : ∃ fs fd, P.underlying t = some (.struct fs) ∧ fs[f]? = some fd ∧ d = (fd.offset, fd.type) := by
  unfold fieldAt' at hd
  cases hf : fieldsOf P t with
  | none => rw [hf] at hd; cases hd
  | some fs =>
    rw [hf] at hd
    simp only [Option.bind_some] at hd
    cases hfd : fs[f]? with
    | none => rw [hfd] at hd; cases hd
    | some fd => rw [hfd] at hd; simp at hd; exact ⟨fs, fd, fieldsOf_some hf, hfd, hd.symm⟩
theorem cFieldAddr_ok (P : Program) (t : TypeId) (f : Nat) : V1ok P (fun v => Instr.fieldAt t v f) (cFieldAddr P t f) := by
  refine oc_ok fun d hd => oc_ok fun n hn => wc_ok fun hn0 => fun s k => ?_
  obtain ⟨fs, fd, hu, hfd, rfl⟩ := fieldAt_ok hd
  have hne : ¬ n = 0 := by have := of_nblt hn0; omega
  show Rsv (Option.rec (oa 33 (svPtrT s) fun q => forceN (Nat.add q.2.1 fd.offset) fun f => k (.ptrT q.1 f q.2.2.1 q.2.2.2.1 q.2.2.2.2.1 q.2.2.2.2.2)) (fun p => forceN (Nat.add p.2 fd.offset) fun off => k (.ptr p.1 off)) (svPtr s)) k _
  cases hp : svPtr s with
  | some p =>
    show Rsv (forceN (Nat.add p.2 fd.offset) fun off => k (.ptr p.1 off)) k _
    rw [forceN_eq]
    refine .val fun σ β v w hd => ?_
    cases svPtr_o hp hd with
    | ptr hb =>
      refine ⟨_, ?_, .ptr (off := p.2 + fd.offset) hb⟩
      simp [Instr.fieldAt, run_underlying' hu, hfd, Instr.sureAddr, fieldPlace, run_sizeOf' hn, hne, add_off]
  | none =>
    refine oa_rsv fun q hq => ?_
    rw [forceN_eq]
    refine .val fun σ β v w hd => ?_
    cases svPtrT_o hq hd with
    | ptrT hb =>
      refine ⟨_, ?_, .ptrT (f := q.2.1 + fd.offset) hb⟩
      simp [Instr.fieldAt, run_underlying' hu, hfd, Instr.sureAddr, fieldPlace, run_sizeOf' hn, hne, add_off]
      omega

/-- A part of an aggregate, at a place that is a number. -/
structure VPart where
  f : List SV → Nat → (SV → Ans) → Ans
noncomputable def cPart (P : Program) (t : TypeId) : VPart :=
  Option.rec ⟨fun _ _ _ => .bad 34⟩ (fun g => Option.rec ⟨fun _ _ _ => .bad 35⟩ (fun n => bc g ⟨fun cs off k => oa 36 (midR cs off n) fun m => forceL m fun m => k (.agg m)⟩ ⟨fun cs off k => oa 37 (nthR cs off) fun s => kn s k⟩) (szOf P t)) (aggOf P t)
theorem cPart_ok (P : Program) (t : TypeId) (cs : List SV) (off : Nat) (k : SV → Ans) :
    Rsv ((cPart P t).f cs off k) k fun r => ∀ σ β vs w, DenL σ β cs vs → ∃ u, (part t vs.toArray off).run P w = .ok u w ∧ Den σ β r u := by
  unfold cPart
  cases hg : aggOf P t with
  | none => exact .bad
  | some g =>
    cases hn : szOf P t with
    | none => exact .bad
    | some n =>
      cases g
      · refine oa_rsv fun s hs => kn_rsv fun _ σ β vs w hv => ?_
        rw [nthR_eq] at hs
        obtain ⟨v, h1, h2⟩ := hv.get hs
        exact ⟨v, by simp [part, run_isAgg' hg, h1], h2⟩
      · refine oa_rsv fun m hm => ?_
        show Rsv (forceL m fun m => k (.agg m)) k _
        rw [forceL_eq]
        refine .val fun σ β vs w hv => ?_
        obtain ⟨h1, h2⟩ := midR_some hm
        refine ⟨.agg ((vs.drop off).take n).toArray, ?_, .agg (h1 ▸ (hv.drop off).take n)⟩
        simp only [part, Sem.run_bind, run_isAgg' hg, Result.andThen_ok, if_true, run_sizeOf' hn, Sem.run_pure]
        congr 2
        apply Array.ext'
        simp [List.extract]
noncomputable def cField (P : Program) (t : TypeId) (f : Nat) : V1 := oc 38 (fieldAt' P t f) fun d => ⟨fun s k => oa 39 (svAgg s) fun cs => (cPart P d.2).f cs d.1 k⟩
theorem cField_ok (P : Program) (t : TypeId) (f : Nat) : V1ok P (fun v => Instr.field t v f) (cField P t f) := by
  refine oc_ok fun d hd s k => oa_rsv fun cs hcs => (cPart_ok P d.2 cs d.1 k).imp fun r hr σ β v w hv => ?_
  obtain ⟨fs, fd, hu, hfd, rfl⟩ := fieldAt_ok hd
  cases svAgg_o hcs hv with
  | agg hl =>
    obtain ⟨u, h1, h2⟩ := hr σ β _ w hl
    exact ⟨u, by simp [Instr.field, run_underlying' hu, hfd, asAgg, h1], h2⟩
noncomputable def cExtract (i : Nat) : V1 := ⟨fun s k => oa 40 (svTup s) fun cs => oa 41 (nthR cs i) fun s => kn s k⟩
theorem cExtract_ok (P : Program) (i : Nat) : V1ok P (fun v => Instr.extract v i) (cExtract i) := by
  refine fun s k => oa_rsv fun cs hcs => oa_rsv fun x hx => kn_rsv fun _ σ β v w hv => ?_
  cases svTup_o hcs hv with
  | tuple hl =>
    rw [nthR_eq] at hx
    obtain ⟨u, h1, h2⟩ := hl.get hx
    exact ⟨u, by simp [Instr.extract, h1], h2⟩

/-- The address of an element, at an index that is a number. -/
structure VIx where
  f : SV → Nat → (SV → Ans) → Ans
noncomputable def xbad (n : Nat) : VIx := ⟨fun _ _ _ => .bad n⟩
noncomputable def xo {α : Type} (x : Option α) (els : VIx) (f : α → VIx) : VIx := Option.rec els f x
theorem xo_rsv {α : Type} {x : Option α} {els : VIx} {f : α → VIx} {s : SV} {n : Nat} {k : SV → Ans} {Φ : SV → Prop} (h0 : x = none → Rsv (els.f s n k) k Φ) (h : ∀ a, x = some a → Rsv ((f a).f s n k) k Φ) : Rsv ((xo x els f).f s n k) k Φ := by
  cases x with
  | none => exact h0 rfl
  | some a => exact h a rfl
noncomputable def cIndexAddr (P : Program) (t : TypeId) : VIx :=
  xo (arrOf P t) (xo (sliOf P t) (xbad 42) fun e => xo (szOf P e) (xbad 43) fun z => ⟨fun s n k => oa 44 (svSl s) fun q => oa 45 q.at_ fun p => wa 46 (Nat.blt n q.len) (forceN (Nat.add p.2 (Nat.mul n z)) fun off => k (.ptr p.1 off))⟩)
    fun ne => xo (szOf P ne.2) (xbad 43) fun z => ⟨fun s n k => oa 47 (svPtr s) fun p => wa 46 (Nat.blt n ne.1) (forceN (Nat.add p.2 (Nat.mul n z)) fun off => k (.ptr p.1 off))⟩
theorem cIndexAddr_ok (P : Program) (t : TypeId) (s : SV) (n : Nat) (k : SV → Ans) :
    Rsv ((cIndexAddr P t).f s n k) k fun r => ∀ σ β v kd w, DenO σ β s v → ∃ u, (Instr.indexAt t v (.int kd (n : Int))).run P w = .ok u w ∧ Den σ β r u := by
  refine xo_rsv (fun ha => xo_rsv (fun _ => .bad) fun e he => xo_rsv (fun _ => .bad) fun z hz => oa_rsv fun q hq => oa_rsv fun p hp => wa_rsv fun hlt => ?_)
    fun ne ha => xo_rsv (fun _ => .bad) fun z hz => oa_rsv fun p hp => wa_rsv fun hlt => ?_
  · rw [forceN_eq]
    refine .val fun σ β v kd w hv => ?_
    rcases svSl_den hq (svSl_o hq hv) with ⟨k1, _⟩ | ⟨o, off, b, c, cap, k1, hb, rfl, _⟩
    · rw [k1] at hp; cases hp
    · rw [k1] at hp; cases hp
      have hl := Nat.not_le_of_lt (of_nblt hlt)
      refine ⟨_, ?_, .ptr (off := off + n * z) hb⟩
      simp [Instr.indexAt, asIntOf, run_underlying' (sliOf_some he), hl, run_sizeOf' hz, add_off]
  · rw [forceN_eq]
    refine .val fun σ β v kd w hv => ?_
    cases svPtr_o hp hv with
    | ptr hb =>
      have hl := Nat.not_le_of_lt (of_nblt hlt)
      refine ⟨_, ?_, .ptr (off := p.2 + n * z) hb⟩
      simp [Instr.indexAt, asIntOf, run_underlying' (arrOf_some ha), Instr.sureAddr, hl, run_sizeOf' hz, add_off]
/-- An element of an array's value. -/
noncomputable def cIndexA (P : Program) (t : TypeId) : VIx :=
  xo (arrOf P t) (xbad 48) fun ne => xo (szOf P ne.2) (xbad 43) fun z => ⟨fun s n k => oa 49 (svAgg s) fun cs => wa 46 (Nat.blt n ne.1) ((cPart P ne.2).f cs (Nat.mul n z) k)⟩
theorem cIndexA_ok (P : Program) (t : TypeId) (s : SV) (n : Nat) (k : SV → Ans) :
    Rsv ((cIndexA P t).f s n k) k fun r => ∀ σ β v kd w, DenO σ β s v → ∃ u, (Instr.index t v (.int kd (n : Int))).run P w = .ok u w ∧ Den σ β r u := by
  refine xo_rsv (fun _ => .bad) fun ne ha => xo_rsv (fun _ => .bad) fun z hz => oa_rsv fun cs hcs => wa_rsv fun hlt => (cPart_ok P ne.2 cs (Nat.mul n z) k).imp fun r hr σ β v kd w hv => ?_
  cases svAgg_o hcs hv with
  | agg hl' =>
    have hl := of_nblt hlt
    obtain ⟨u, h1, h2⟩ := hr σ β _ w hl'
    refine ⟨u, ?_, h2⟩
    simp [Instr.index, asIntOf, run_underlying' (arrOf_some ha), run_sizeOf' hz]
    rw [if_pos hl]; exact h1

noncomputable def strT? (P : Program) (t : TypeId) : Bool := match P.underlying t with | some .string => true | _ => false
theorem strT?_some {P : Program} {t : TypeId} (h : strT? P t = true) : P.underlying t = some .string := by
  unfold strT? at h; split at h <;> first | assumption | cases h
/-- A byte of a string, or an element of an array. -/
noncomputable def cIndex (P : Program) (t : TypeId) : VIx := bc (strT? P t) ⟨fun s n k => oa 49 (svStr s) fun cs => oa 46 (nthR cs n) fun c => k c⟩ (cIndexA P t)
theorem cIndex_ok (P : Program) (t : TypeId) (s : SV) (n : Nat) (k : SV → Ans) :
    Rsv ((cIndex P t).f s n k) k fun r => ∀ σ β v kd w, DenO σ β s v → ∃ u, (Instr.index t v (.int kd (n : Int))).run P w = .ok u w ∧ Den σ β r u := by
  unfold cIndex
  cases ht : strT? P t
  · exact cIndexA_ok P t s n k
  · have hu := strT?_some ht
    refine oa_rsv fun cs hcs => oa_rsv fun c hc => .val fun σ β v kd w hv => ?_
    rw [nthR_eq] at hc
    have h0 : Den σ β (.str cs) v := by
      rcases hv with hv | hv
      · exfalso; unfold svStr at hcs; rw [hv] at hcs; cases hcs
      · exact svStr_some hcs hv
    cases h0 with
    | str hl =>
      rename_i bs
      obtain ⟨u, h1, h2⟩ := DenL.get hl hc
      unfold byteVals at h1
      rw [List.getElem?_map] at h1
      cases hb : bs.data.toList[n]? with
      | none => rw [hb] at h1; cases h1
      | some b =>
        rw [hb] at h1; cases h1
        have hlt : n < bs.data.toList.length := (List.getElem?_eq_some_iff.1 hb).1
        have hbs : bs[n]? = some b := by
          have e1 : bs[n]'(by simpa using hlt) = b := by
            have := (List.getElem?_eq_some_iff.1 hb).2
            have h' : bs.data[n]'(by simpa using hlt) = b := by simpa using this
            exact h'
          rw [getElem?_pos bs n (by simpa using hlt), e1]
        refine ⟨_, ?_, h2⟩
        simp [Instr.index, asIntOf, run_underlying' hu, hbs]

/-! ### Conversions of numbers -/
noncomputable def convK (src dst : IntKind) (t : Tm) (k : Tm → Ans) : Ans := forceT (convT src dst t) k
noncomputable def cConvert (P : Program) (src dst : TypeId) : V1 :=
  oc 50 (P.underlying src) fun _ => oc 51 (intOfT P dst) fun kd => ⟨fun s k => oa 52 (svInt s) fun i => convK i.1 kd i.2 fun t => k (.int kd t)⟩
theorem cConvert_ok (P : Program) (src dst : TypeId) : V1ok P (fun v => convert src dst v) (cConvert P src dst) := by
  refine oc_ok fun d hd => oc_ok fun kd hk s k => oa_rsv fun i hi => ?_
  show Rsv (forceT (convT i.1 kd i.2) fun t => k (.int kd t)) k _
  rw [forceT_eq]
  refine .val fun σ β v w hv => ?_
  cases svInt_o hi hv with
  | int hl =>
    obtain ⟨e1, e2⟩ := conv_ofB (dst := kd) σ hl
    refine ⟨_, ?_, den_int e1 e2⟩
    simp only [convert, Sem.run_bind, run_underlying' hd, run_underlying' (intOfT_some hk), Result.andThen_ok]
    cases d <;> simp [Conv.intToInt]

theorem ofB_zero (k : IntKind) : ofB k 0 = 0 := by
  cases hs : k.signed
  · rw [ofB_unsigned hs (Nat.two_pow_pos _)]; rfl
  · rw [ofB_signed hs (Nat.two_pow_pos _), if_neg (by have := Nat.two_pow_pos (k.bits - 1); omega)]; rfl
theorem ofB_ones (k : IntKind) : ofB k (2 ^ k.bits - 1) = if k.signed then -1 else k.max := by
  have hp := Nat.two_pow_pos k.bits
  have h2 := two_p k
  have hp1 := Nat.two_pow_pos (k.bits - 1)
  cases hs : k.signed
  · rw [ofB_unsigned hs (by omega)]
    simp only [Bool.false_eq_true, if_false, IntKind.max, hs]
    rw [Int.natCast_sub (by omega)]; push_cast; rfl
  · rw [ofB_signed hs (by omega), if_pos (by omega)]
    simp only [if_true]
    rw [Int.natCast_sub (by omega)]; push_cast; omega
noncomputable def cUn (op : UnOp) : V1 :=
  UnOp.rec ⟨fun s k => oa 53 (svInt s) fun i => (mkB .sub).f i.1.bits (.lit 0) i.2 fun t => k (.int i.1 t)⟩
    ⟨fun s k => oa 53 (svInt s) fun i => forceN (Nat.sub (p2 i.1.bits) 1) fun m => (mkB .xor).f i.1.bits (.lit m) i.2 fun t => k (.int i.1 t)⟩
    ⟨fun s k => oa 53 (svBool s) fun t => notK t k⟩ (v1bad 54) op
theorem cUn_ok (P : Program) (op : UnOp) : V1ok P (fun v => Op.unary op v) (cUn op) := by
  cases op with
  | neg =>
    refine fun s k => oa_rsv fun i hi => ?_
    rw [mkB_eq]
    refine .val fun σ β v w hv => ?_
    cases svInt_o hi hv with
    | int hl =>
      refine ⟨_, by simp only [Op.unary, Op.intArith, Sem.run_pure]; rfl, den_int ?_ ?_⟩
      · rw [mkBin_ev, ev_lit, ← sub_ofB, ofB_zero]
      · rw [mkBin_ev]; exact mod_lt' _ _
  | xor =>
    refine fun s k => oa_rsv fun i hi => ?_
    rw [forceN_eq, mkB_eq]
    refine .val fun σ β v w hv => ?_
    cases svInt_o hi hv with
    | int hl =>
      have hp := Nat.two_pow_pos i.1.bits
      refine ⟨_, by simp only [Op.unary, Op.intBits, Sem.run_pure]; rfl, den_int ?_ ?_⟩
      · rw [mkBin_ev, ev_lit, ← ofB_ones]
        exact xor_ofB i.1 (by omega) hl
      · rw [mkBin_ev, ev_lit]
        exact Nat.xor_lt_two_pow (by show 2 ^ i.1.bits - 1 < _; omega) hl
  | not =>
    refine fun s k => oa_rsv fun t ht => ?_
    rw [notK_eq]
    refine .val fun σ β v w hv => ?_
    cases svBool_o ht hv with
    | bool hl =>
      refine ⟨_, by simp only [Op.unary, Sem.run_pure]; rfl, den_bool ?_⟩
      rw [mkNot_ev]
      by_cases e : t.ev σ = 0
      · simp [e]
      · simp [e]
  | plus => exact v1bad_ok

theorem kind_idx {a b : IntKind} (h : a.ctorIdx = b.ctorIdx) : a = b := by cases a <;> cases b <;> first | rfl | (simp [IntKind.ctorIdx] at h)
/-- One of two values. -/
noncomputable def pickT (t : Tm) (a b : SV) (k : SV → Ans) : Ans :=
  Option.rec (motive := fun _ => Ans)
    (oa 55 (svInt a) fun x => oa 55 (svInt b) fun y => wa 56 (Nat.beq x.1.ctorIdx y.1.ctorIdx) (mkI t x.2 y.2 fun r => k (.int x.1 r)))
    (fun x => oa 55 (svBool b) fun y => mkI t x y fun r => k (.bool r)) (svBool a)
noncomputable def pickK1 (pc : PC) (t : Tm) (a b : SV) (k : SV → Ans) : Ans :=
  Option.rec (motive := fun _ => Ans)
    (forceT (simpT pc (redT pc.subs t)) fun t => Option.rec (motive := fun _ => Ans) (pickT t a b k) (fun n => bc (Nat.beq n 0) (kn b k) (kn a k)) (isLit t))
    (fun n => bc (Nat.beq n 0) (kn b k) (kn a k)) (isLit t)
theorem pickT_rsv {t : Tm} {a b : SV} {k : SV → Ans} :
    Rsv (pickT t a b k) k fun r => ∀ σ β va vb, DenO σ β a va → DenO σ β b vb → Den σ β r (if t.ev σ = 0 then vb else va) := by
  unfold pickT
  cases hba : svBool a with
  | some x =>
    refine oa_rsv fun y hy => ?_
    rw [mkI_eq]
    refine .val fun σ β va vb ha hb => ?_
    cases svBool_o hba ha with
    | bool hx =>
      cases svBool_o hy hb with
      | bool hy =>
        by_cases e : t.ev σ = 0
        · have e1 : (mkIte t x y).ev σ = y.ev σ := by rw [mkIte_ev, if_pos e]
          have := Den.bool' (σ := σ) (β := β) (t := mkIte t x y) (by rw [e1]; exact hy)
          rw [e1] at this; rw [if_pos e]; exact this
        · have e1 : (mkIte t x y).ev σ = x.ev σ := by rw [mkIte_ev, if_neg e]
          have := Den.bool' (σ := σ) (β := β) (t := mkIte t x y) (by rw [e1]; exact hx)
          rw [e1] at this; rw [if_neg e]; exact this
  | none =>
    refine oa_rsv fun x hx => oa_rsv fun y hy => wa_rsv fun hk => ?_
    rw [mkI_eq]
    refine .val fun σ β va vb ha hb => ?_
    have hkk := kind_idx (of_nbeq hk)
    cases svInt_o hx ha with
    | int lx =>
      cases svInt_o hy hb with
      | int ly =>
        by_cases e : t.ev σ = 0
        · have e1 : (mkIte t x.2 y.2).ev σ = y.2.ev σ := by rw [mkIte_ev, if_pos e]
          rw [if_pos e, ← hkk]
          rw [← hkk] at ly
          exact den_int (by rw [e1]) (by rw [e1]; exact ly)
        · have e1 : (mkIte t x.2 y.2).ev σ = x.2.ev σ := by rw [mkIte_ev, if_neg e]
          rw [if_neg e]
          exact den_int (by rw [e1]) (by rw [e1]; exact lx)
theorem pickK1_rsv {pc : PC} {t : Tm} {a b : SV} {k : SV → Ans} :
    Rsv (pickK1 pc t a b k) k fun r => ∀ σ β va vb, pc.ok σ → DenO σ β a va → DenO σ β b vb → Den σ β r (if t.ev σ = 0 then vb else va) := by
  have lit : ∀ (t : Tm) (n : Nat), isLit t = some n → Rsv (bc (Nat.beq n 0) (kn b k) (kn a k)) k fun r => ∀ σ β va vb, DenO σ β a va → DenO σ β b vb → Den σ β r (if t.ev σ = 0 then vb else va) := by
    intro t n hn
    rw [isLit_some hn]
    by_cases e : n = 0
    · rw [nbeq_t e]
      refine kn_rsv fun hk σ β va vb _ hb => ?_
      rw [ev_lit, if_pos e]; exact hb.of hk
    · rw [nbeq_f e]
      refine kn_rsv fun hk σ β va vb ha _ => ?_
      rw [ev_lit, if_neg e]; exact ha.of hk
  unfold pickK1
  cases hl : isLit t with
  | some n => exact (lit t n hl).imp fun r hr σ β va vb _ ha hb => hr σ β va vb ha hb
  | none =>
    show Rsv (forceT (simpT pc (redT pc.subs t)) fun t => Option.rec (motive := fun _ => Ans) (pickT t a b k) (fun n => bc (Nat.beq n 0) (kn b k) (kn a k)) (isLit t)) k _
    rw [forceT_eq]
    have he : ∀ σ, pc.ok σ → (simpT pc (redT pc.subs t)).ev σ = t.ev σ := fun σ hp => by rw [simpT_ev hp]; exact redT_ev hp.2.1 t
    generalize simpT pc (redT pc.subs t) = t' at *
    cases hl' : isLit t' with
    | some n => exact (lit t' n hl').imp fun r hr σ β va vb hp ha hb => by rw [← he σ hp]; exact hr σ β va vb ha hb
    | none => exact pickT_rsv.imp fun r hr σ β va vb hp ha hb => by rw [← he σ hp]; exact hr σ β va vb ha hb

/-- Where it is known already, no more is asked. -/
noncomputable def pickK (pc : PC) (t : Tm) (a b : SV) (k : SV → Ans) : Ans :=
  bc (nwT t) (bc (inFacts pc.facts t) (kn a k) (bc (inFacts pc.facts (mkNot t)) (kn b k) (pickK1 pc t a b k))) (pickK1 pc t a b k)
theorem pickK_rsv {pc : PC} {t : Tm} {a b : SV} {k : SV → Ans} :
    Rsv (pickK pc t a b k) k fun r => ∀ σ β va vb, pc.ok σ → DenO σ β a va → DenO σ β b vb → Den σ β r (if t.ev σ = 0 then vb else va) := by
  unfold pickK
  cases h1 : nwT t
  · exact pickK1_rsv
  · cases h2 : inFacts pc.facts t
    · cases h3 : inFacts pc.facts (mkNot t)
      · exact pickK1_rsv
      · refine kn_rsv fun hk σ β va vb hp _ hb => ?_
        rw [if_pos (ne_of_not (hp.1 _ (inFacts_mem h3)))]; exact hb.of hk
    · refine kn_rsv fun hk σ β va vb hp ha _ => ?_
      rw [if_neg (hp.1 _ (inFacts_mem h2))]; exact ha.of hk

end Go.Sy
end

section
/- '==' and '!='. -/
namespace Go.Sy
open Go.RowKit

noncomputable def mkAnd (a b : Tm) : Tm := mkIte a b (.lit 0)
theorem mkAnd_ev {σ} (a b : Tm) : (mkAnd a b).ev σ = if a.ev σ = 0 then 0 else b.ev σ := by unfold mkAnd; rw [mkIte_ev, ev_lit]
noncomputable def eqI (w : Nat) (a b : Tm) : Tm := bc (Tm.same a b) (.lit 1) (eqTm w a b)
theorem eqI_ev {σ} (w : Nat) (a b : Tm) : (eqI w a b).ev σ = if a.ev σ = b.ev σ then 1 else 0 := by
  unfold eqI
  cases h : Tm.same a b
  · exact eqTm_ev w a b
  · rw [Tm.same_eq h]; simp [ev_lit]

/-- A part of an aggregate. -/
noncomputable def partS (P : Program) (t : TypeId) (cs : List SV) (off : Nat) : Option SV :=
  ob (aggOf P t) fun g => ob (szOf P t) fun n => bc g (ob (midR cs off n) fun m => some (.agg m)) (nthR cs off)
theorem partS_ok {P : Program} {σ β} {t : TypeId} {cs : List SV} {vs : List Value} (hv : DenL σ β cs vs) {off : Nat} {r : SV} (h : partS P t cs off = some r) (w : World) :
    ∃ u, (part t vs.toArray off).run P w = .ok u w ∧ Den σ β r u := by
  obtain ⟨g, hg, h⟩ := ob_some h
  obtain ⟨n, hn, h⟩ := ob_some h
  cases g
  · change nthR cs off = some r at h
    rw [nthR_eq] at h
    obtain ⟨v, h1, h2⟩ := hv.get h
    exact ⟨v, by simp [part, run_isAgg' hg, h1], h2⟩
  · obtain ⟨m, hm, h⟩ := ob_some h
    cases h
    obtain ⟨h1, h2⟩ := midR_some hm
    refine ⟨.agg ((vs.drop off).take n).toArray, ?_, .agg (h1 ▸ (hv.drop off).take n)⟩
    simp only [part, Sem.run_bind, run_isAgg' hg, Result.andThen_ok, if_true, run_sizeOf' hn, Sem.run_pure]
    congr 2
    apply Array.ext'
    simp [List.extract]

structure EQ where
  f : SV → SV → Option Tm
noncomputable def eqNo : EQ := ⟨fun _ _ => none⟩
def EQok (P : Program) (d : Nat) (t : TypeId) (q : EQ) : Prop := ∀ σ β w x y vx vy e, DenO σ β x vx → DenO σ β y vy → q.f x y = some e → (Op.equalIn d t vx vy).run P w = .ok (e.ev σ != 0) w ∧ e.ev σ ≤ 1
theorem eqNo_ok {P d t} : EQok P d t eqNo := fun _ _ _ _ _ _ _ _ _ _ h => by cases h

noncomputable def eqLs (xs : List SV) : List SV → Option Tm :=
  List.rec (motive := fun _ => List SV → Option Tm) (fun ys => List.rec (some (.lit 1)) (fun _ _ _ => some (.lit 0)) ys)
    (fun x _ ih ys => List.rec (some (.lit 0)) (fun y t _ => ob (svInt x) fun a => ob (svInt y) fun b => ob (ih t) fun r => some (mkAnd (eqI 8 a.2 b.2) r)) ys) xs
theorem eqLs_ok {σ β} : ∀ {xs ys : List SV} {a b : List UInt8} {e : Tm}, DenL σ β xs (a.map fun b => Value.int .u8 b.toNat) → DenL σ β ys (b.map fun b => Value.int .u8 b.toNat) → eqLs xs ys = some e → (e.ev σ = if a = b then 1 else 0)
  | [], [], a, b, e, hx, hy, h => by
    cases a with
    | cons _ _ => cases hx
    | nil => cases b with
      | cons _ _ => cases hy
      | nil => cases h; rfl
  | [], _ :: _, a, b, e, hx, hy, h => by
    cases a with
    | cons _ _ => cases hx
    | nil => cases b with
      | nil => cases hy
      | cons _ _ => cases h; rfl
  | _ :: _, [], a, b, e, hx, hy, h => by
    cases a with
    | nil => cases hx
    | cons _ _ => cases b with
      | cons _ _ => cases hy
      | nil => cases h; rfl
  | x :: xs, y :: ys, a, b, e, hx, hy, h => by
    cases a with
    | nil => cases hx
    | cons a0 a => cases b with
      | nil => cases hy
      | cons b0 b =>
        cases hx with
        | cons dx tx => cases hy with
          | cons dy ty =>
            change (ob (svInt x) fun a => ob (svInt y) fun b => ob (eqLs xs ys) fun r => some (mkAnd (eqI 8 a.2 b.2) r)) = some e at h
            obtain ⟨i, hi, h⟩ := ob_some h
            obtain ⟨j, hj, h⟩ := ob_some h
            obtain ⟨r, hr, h⟩ := ob_some h
            cases h
            have ih := eqLs_ok tx ty hr
            have h1 := svInt_some hi dx
            have h2 := svInt_some hj dy
            have key : ∀ (i : IntKind × Tm) (x : UInt8), Den σ β (SV.int i.1 i.2) (.int .u8 x.toNat) → i.2.ev σ = x.toNat := by
              intro i x h
              obtain ⟨hv, hl⟩ := h.int_inv
              injection hv with hk1 hk2
              rw [← hk1] at hk2 hl
              have := ofB_emod .u8 (i.2.ev σ)
              rw [← hk2] at this
              have hlt := x.toNat_lt
              change i.2.ev σ < 2 ^ 8 at hl
              change ((x.toNat : Int)) % 2 ^ 8 = (i.2.ev σ : Int) % 2 ^ 8 at this
              omega
            have e1 := key i a0 h1
            have e2 := key j b0 h2
            rw [mkAnd_ev, eqI_ev, e1, e2, ih]
            by_cases hab : a0 = b0
            · subst hab; simp
            · have : a0.toNat ≠ b0.toNat := fun h => hab (UInt8.toNat_inj.1 h)
              simp [this, hab]

noncomputable def eqStr : EQ := ⟨fun x y => ob (svStr x) fun a => ob (svStr y) fun b => eqLs a b⟩
/-- Of which only nil is compared: nil's kind, and those that are not nil. -/
noncomputable def nilS (nt a b c : Nat) (s : SV) : Nat := bc (Nat.beq s.1 nt) 1 (bc (Nat.beq s.1 a) 0 (bc (Nat.beq s.1 b) 0 (bc (Nat.beq s.1 c) 0 2)))
noncomputable def eqNil (nt a b c : Nat) : EQ :=
  ⟨fun x y => bc (Nat.beq (nilS nt a b c x) 1) (bc (Nat.beq (nilS nt a b c y) 1) (some (.lit 1)) (bc (Nat.beq (nilS nt a b c y) 0) (some (.lit 0)) none)) (bc (Nat.beq (nilS nt a b c x) 0) (bc (Nat.beq (nilS nt a b c y) 1) (some (.lit 0)) none) none)⟩

/-- The same address. -/
noncomputable def samePtr (x y : SV) : Bool := bc (Nat.beq x.1 3) (bc (Nat.beq y.1 3) (bc (Nat.beq x.3 y.3) (Nat.beq x.4 y.4) false) false) false
theorem samePtr_ok {σ β} {x y : SV} {v u : Value} (h : samePtr x y = true) (hx : DenO σ β x v) (hy : DenO σ β y u) : ∃ a, v = .pointer (some a) ∧ u = .pointer (some a) := by
  obtain ⟨tag, k, o, off, t, u1, c, l⟩ := x
  obtain ⟨tag', k', o', off', t', u1', c', l'⟩ := y
  change bc (Nat.beq tag 3) (bc (Nat.beq tag' 3) (bc (Nat.beq o o') (Nat.beq off off') false) false) false = true at h
  obtain ⟨h1, h⟩ := band_eq (show band _ _ = true from h)
  obtain ⟨h2, h⟩ := band_eq (show band _ _ = true from h)
  obtain ⟨h3, h4⟩ := band_eq (show band _ _ = true from h)
  have h1 := of_nbeq h1
  have h2 := of_nbeq h2
  have h3 := of_nbeq h3
  have h4 := of_nbeq h4
  subst h1; subst h2; subst h3; subst h4
  rcases hx with hx | hx
  · cases hx
  rcases hy with hy | hy
  · cases hy
  cases hx with
  | ptr g =>
    cases hy with
    | ptr g' =>
      rw [g] at g'; cases g'
      exact ⟨_, rfl, rfl⟩
noncomputable def eqFs (P : Program) (rec : TypeId → EQ) (cs ds : List SV) (fs : List Field) : Option Tm :=
  List.rec (some (.lit 1)) (fun f _ ih => if f.name ≠ "_" then ob (partS P f.type cs f.offset) fun a => ob (partS P f.type ds f.offset) fun b => ob ((rec f.type).f a b) fun e => ob ih fun r => some (mkAnd e r) else ih) fs
noncomputable def eqAs (P : Program) (q : EQ) (e : TypeId) (c : Nat) (cs ds : List SV) (is : List Nat) : Option Tm :=
  List.rec (some (.lit 1)) (fun i _ ih => ob (partS P e cs (Nat.mul i c)) fun a => ob (partS P e ds (Nat.mul i c)) fun b => ob (q.f a b) fun e => ob ih fun r => some (mkAnd e r)) is
noncomputable def eqD (P : Program) (rec : TypeId → EQ) (t : TypeId) : EQ :=
  match P.underlying t with
  | some .bool => ⟨fun x y => ob (svBool x) fun a => ob (svBool y) fun b => some (eqI 1 a b)⟩
  | some (.int _) => ⟨fun x y => ob (svInt x) fun a => ob (svInt y) fun b => ow (Nat.beq a.1.ctorIdx b.1.ctorIdx) (some (eqI a.1.bits a.2 b.2))⟩
  | some .string => eqStr
  | some (.struct fs) => bc (P.stoodInHeld t) eqNo ⟨fun x y => ob (svAgg x) fun cs => ob (svAgg y) fun ds => eqFs P rec cs ds fs.toList⟩
  | some (.array n e) => ⟨fun x y => ob (P.info? e) fun _ => ob (svAgg x) fun cs => ob (svAgg y) fun ds => eqAs P (rec e) e (P.cellsOf e) cs ds (List.range n)⟩
  | some (.pointer e) => ⟨fun x y => bc (samePtr x y) (ob (P.info? e) fun _ => some (.lit 1)) ((eqNil 2 3 16 16).f x y)⟩
  | some (.slice _) => eqNil 4 5 6 17
  | some (.map _ _) => eqNil 7 8 8 8
  | some (.func _ _ _) => eqNil 10 9 9 9
  | some (.interface _) => eqNil 12 15 15 15
  | _ => eqNo
noncomputable def eqC (P : Program) (n : Nat) : TypeId → EQ := Nat.rec (motive := fun _ => TypeId → EQ) (fun _ => eqNo) (fun _ ih t => eqD P ih t) n

theorem eqFs_ok {P : Program} {σ β} {rec : TypeId → EQ} {d : Nat} {w : World} (hrec : ∀ t, EQok P d t (rec t))
    {cs ds : List SV} {xs ys : List Value} (hx : DenL σ β cs xs) (hy : DenL σ β ds ys) :
    ∀ (fs : List Field) (e : Tm), eqFs P rec cs ds fs = some e → (Op.eqFields d xs.toArray ys.toArray fs).run P w = .ok (e.ev σ != 0) w ∧ e.ev σ ≤ 1
  | [], e, h => by cases h; simp [Op.eqFields, ev_lit]
  | f :: fs, e, h => by
    change (if f.name ≠ "_" then ob (partS P f.type cs f.offset) fun a => ob (partS P f.type ds f.offset) fun b => ob ((rec f.type).f a b) fun e => ob (eqFs P rec cs ds fs) fun r => some (mkAnd e r) else eqFs P rec cs ds fs) = some e at h
    by_cases hn : f.name ≠ "_"
    · rw [if_pos hn] at h
      obtain ⟨a, ha, h⟩ := ob_some h
      obtain ⟨b, hb, h⟩ := ob_some h
      obtain ⟨e1, he1, h⟩ := ob_some h
      obtain ⟨r, hr, h⟩ := ob_some h
      cases h
      obtain ⟨va, k1, k2⟩ := partS_ok hx ha w
      obtain ⟨vb, k3, k4⟩ := partS_ok hy hb w
      obtain ⟨k5, k6⟩ := hrec f.type σ β w a b va vb e1 (.inr k2) (.inr k4) he1
      obtain ⟨k7, k8⟩ := eqFs_ok hrec hx hy fs r hr
      rw [mkAnd_ev]
      refine ⟨?_, by split <;> omega⟩
      rw [Op.eqFields]
      simp only [if_pos hn, Sem.run_bind, k1, k3, k5, Result.andThen_ok]
      by_cases e0 : e1.ev σ = 0
      · simp [e0]
      · simp [e0]; simpa using k7
    · rw [if_neg hn] at h
      obtain ⟨k7, k8⟩ := eqFs_ok hrec hx hy fs e h
      refine ⟨?_, k8⟩
      rw [Op.eqFields, if_neg hn]; exact k7
theorem eqAs_ok {P : Program} {σ β} {q : EQ} {d : Nat} {w : World} {el : TypeId} {c : Nat} (hq : EQok P d el q)
    {cs ds : List SV} {xs ys : List Value} (hx : DenL σ β cs xs) (hy : DenL σ β ds ys) :
    ∀ (is : List Nat) (e : Tm), eqAs P q el c cs ds is = some e → (Op.eqItems d el c xs.toArray ys.toArray is).run P w = .ok (e.ev σ != 0) w ∧ e.ev σ ≤ 1
  | [], e, h => by cases h; simp [Op.eqItems, ev_lit]
  | i :: is, e, h => by
    change (ob (partS P el cs (Nat.mul i c)) fun a => ob (partS P el ds (Nat.mul i c)) fun b => ob (q.f a b) fun e => ob (eqAs P q el c cs ds is) fun r => some (mkAnd e r)) = some e at h
    obtain ⟨a, ha, h⟩ := ob_some h
    obtain ⟨b, hb, h⟩ := ob_some h
    obtain ⟨e1, he1, h⟩ := ob_some h
    obtain ⟨r, hr, h⟩ := ob_some h
    cases h
    obtain ⟨va, k1, k2⟩ := partS_ok hx ha w
    obtain ⟨vb, k3, k4⟩ := partS_ok hy hb w
    obtain ⟨k5, k6⟩ := hq σ β w a b va vb e1 (.inr k2) (.inr k4) he1
    obtain ⟨k7, k8⟩ := eqAs_ok hq hx hy is r hr
    rw [mkAnd_ev]
    refine ⟨?_, by split <;> omega⟩
    rw [Op.eqItems]
    have k1' : (part el xs.toArray (i * c)).run P w = .ok va w := k1
    have k3' : (part el ys.toArray (i * c)).run P w = .ok vb w := k3
    simp only [Sem.run_bind, k1', k3', k5, Result.andThen_ok]
    by_cases e0 : e1.ev σ = 0
    · simp [e0]
    · simp [e0]; simpa using k7

theorem nilS_one {nt a b c : Nat} {s : SV} (h : nilS nt a b c s = 1) : s.1 = nt := by
  unfold nilS at h
  cases h1 : Nat.beq s.1 nt
  · rw [h1] at h
    exfalso
    cases h2 : Nat.beq s.1 a <;> cases h3 : Nat.beq s.1 b <;> cases h4 : Nat.beq s.1 c <;> rw [h2, h3, h4] at h <;> cases h
  · exact of_nbeq h1
theorem nilS_zero {nt a b c : Nat} {s : SV} (h : nilS nt a b c s = 0) : s.1 = a ∨ s.1 = b ∨ s.1 = c := by
  unfold nilS at h
  cases h1 : Nat.beq s.1 nt
  · cases h2 : Nat.beq s.1 a
    · cases h3 : Nat.beq s.1 b
      · cases h4 : Nat.beq s.1 c
        · rw [h1, h2, h3, h4] at h; cases h
        · exact .inr (.inr (of_nbeq h4))
      · exact .inr (.inl (of_nbeq h3))
    · exact .inl (of_nbeq h2)
  · rw [h1] at h; cases h
theorem DenO.tag {σ β} {s : SV} {v : Value} {n : Nat} (hd : DenO σ β s v) (h : s.1 = n) (hn : n ≠ 19) : ∃ k a b t u c l, s = .mk n k a b t u c l ∧ Den σ β (.mk n k a b t u c l) v := by
  obtain ⟨tag, k, a, b, t, u, c, l⟩ := s
  have h : tag = n := h
  subst h
  exact ⟨k, a, b, t, u, c, l, rfl, hd.resolve_left hn⟩
/-- What holds of nil and of what is not. -/
theorem eqNil_ok {P : Program} {d : Nat} {t : TypeId} {nt a b c : Nat} {nil : Value} {Q : Value → Prop}
    (h1 : ∀ σ β s v, DenO σ β s v → s.1 = nt → v = nil) (h2 : ∀ σ β s v, DenO σ β s v → s.1 = a ∨ s.1 = b ∨ s.1 = c → Q v)
    (r1 : ∀ w, (Op.equalIn d t nil nil).run P w = .ok true w) (r2 : ∀ v w, Q v → (Op.equalIn d t nil v).run P w = .ok false w) (r3 : ∀ v w, Q v → (Op.equalIn d t v nil).run P w = .ok false w) : EQok P d t (eqNil nt a b c) := by
  intro σ β w x y vx vy e hx hy h
  change bc (Nat.beq (nilS nt a b c x) 1) (bc (Nat.beq (nilS nt a b c y) 1) (some (.lit 1)) (bc (Nat.beq (nilS nt a b c y) 0) (some (.lit 0)) none)) (bc (Nat.beq (nilS nt a b c x) 0) (bc (Nat.beq (nilS nt a b c y) 1) (some (.lit 0)) none) none) = some e at h
  cases x1 : Nat.beq (nilS nt a b c x) 1
  · rw [x1] at h
    cases x0 : Nat.beq (nilS nt a b c x) 0
    · rw [x0] at h; cases h
    · rw [x0] at h
      cases y1 : Nat.beq (nilS nt a b c y) 1
      · rw [y1] at h; cases h
      · rw [y1] at h; cases h
        rw [h1 σ β y vy hy (nilS_one (of_nbeq y1))]
        exact ⟨r3 vx w (h2 σ β x vx hx (nilS_zero (of_nbeq x0))), Nat.zero_le _⟩
  · rw [x1] at h
    rw [h1 σ β x vx hx (nilS_one (of_nbeq x1))]
    cases y1 : Nat.beq (nilS nt a b c y) 1
    · rw [y1] at h
      cases y0 : Nat.beq (nilS nt a b c y) 0
      · rw [y0] at h; cases h
      · rw [y0] at h; cases h
        exact ⟨r2 vy w (h2 σ β y vy hy (nilS_zero (of_nbeq y0))), Nat.zero_le _⟩
    · rw [y1] at h; cases h
      rw [h1 σ β y vy hy (nilS_one (of_nbeq y1))]
      exact ⟨r1 w, Nat.le_refl _⟩

theorem eqC_ok {P : Program} : ∀ (n d : Nat), n ≤ d → ∀ t, EQok P d t (eqC P n t)
  | 0, d, _, t => eqNo_ok
  | n + 1, 0, hd, _ => by omega
  | n + 1, d + 1, hd, t => by
    have ih : ∀ t, EQok P d t (eqC P n t) := eqC_ok n d (by omega)
    show EQok P (d + 1) t (eqD P (eqC P n) t)
    unfold eqD
    split
    · rename_i hu
      intro σ β w x y vx vy e hx hy h
      obtain ⟨a, ha, h⟩ := ob_some h
      obtain ⟨b, hb, h⟩ := ob_some h
      cases h
      cases svBool_o ha hx with
      | bool lx =>
        cases svBool_o hb hy with
        | bool ly =>
          rw [run_equalIn_bool' w d t _ _ hu, eqI_ev]
          refine ⟨?_, by split <;> omega⟩
          congr 1
          generalize a.ev σ = p at *
          generalize b.ev σ = q at *
          have : p = 0 ∨ p = 1 := by omega
          have : q = 0 ∨ q = 1 := by omega
          rcases ‹p = 0 ∨ p = 1› with rfl | rfl <;> rcases ‹q = 0 ∨ q = 1› with rfl | rfl <;> rfl
    · rename_i hu
      intro σ β w x y vx vy e hx hy h
      obtain ⟨a, ha, h⟩ := ob_some h
      obtain ⟨b, hb, h⟩ := ob_some h
      obtain ⟨hk, h⟩ := ow_some h
      cases h
      have hkk := kind_idx (of_nbeq hk)
      cases svInt_o ha hx with
      | int lx =>
        cases svInt_o hb hy with
        | int ly =>
          rw [← hkk] at ly ⊢
          rw [run_equalIn_int w d t a.1 _ _ _ hu]
          rw [eqI_ev, eq_ofB lx ly]
          refine ⟨?_, by split <;> omega⟩
          by_cases e : a.2.ev σ = b.2.ev σ
          · simp [e]
          · simp [nbeq_f e, e]
    · rename_i hu
      intro σ β w x y vx vy e hx hy h
      obtain ⟨a, ha, h⟩ := ob_some h
      obtain ⟨b, hb, h⟩ := ob_some h
      cases svStr_o ha hx with
      | str lx =>
        cases svStr_o hb hy with
        | str ly =>
          rename_i bx by_
          have := eqLs_ok lx ly h
          rw [this]
          refine ⟨?_, by split <;> omega⟩
          rw [Op.equalIn]
          simp only [Sem.run_bind, run_underlying' hu, Result.andThen_ok, Sem.run_pure]
          congr 1
          obtain ⟨⟨x0⟩⟩ := bx
          obtain ⟨⟨y0⟩⟩ := by_
          show ((⟨x0⟩ : Array UInt8) == ⟨y0⟩) = _
          by_cases hxy : x0 = y0
          · subst hxy; simp
          · have : ¬ (ByteArray.mk ⟨x0⟩).data.toList = (ByteArray.mk ⟨y0⟩).data.toList := hxy
            simp [hxy]
    · rename_i fs hu
      cases hst : P.stoodInHeld t
      · intro σ β w x y vx vy e hx hy h
        obtain ⟨cs, hcs, h⟩ := ob_some h
        obtain ⟨ds, hds, h⟩ := ob_some h
        cases svAgg_o hcs hx with
        | agg hlx =>
          cases svAgg_o hds hy with
          | agg hly =>
            have hfo : P.fieldsOf t = fs := by simp [Program.fieldsOf, hu]
            rw [run_equalIn_struct (P := P) w d t _ _ (by rw [hfo]; exact hu) hst, hfo]
            exact eqFs_ok ih hlx hly _ _ h
      · exact eqNo_ok
    · rename_i m el hu
      intro σ β w x y vx vy e hx hy h
      obtain ⟨i, hi, h⟩ := ob_some h
      obtain ⟨cs, hcs, h⟩ := ob_some h
      obtain ⟨ds, hds, h⟩ := ob_some h
      cases svAgg_o hcs hx with
      | agg hlx =>
        cases svAgg_o hds hy with
        | agg hly =>
          rw [run_equalIn_array (P := P) w d _ _ hu hi]
          exact eqAs_ok (ih el) hlx hly _ _ h
    · rename_i el hu
      intro σ β w x y vx vy e hx hy h
      change (bc (samePtr x y) (ob (P.info? el) fun _ => some (.lit 1)) ((eqNil 2 3 16 16).f x y)) = some e at h
      cases hsp : samePtr x y
      rotate_left
      · rw [hsp] at h
        obtain ⟨j, hj, h⟩ := ob_some (show (ob (P.info? el) fun _ => some (Tm.lit 1)) = some e from h)
        cases h
        obtain ⟨ad, rfl, rfl⟩ := samePtr_ok hsp hx hy
        refine ⟨?_, by rw [ev_lit]; omega⟩
        simp [Op.equalIn, run_underlying' hu, sizeOf, typeInfo, hj, run_sameAddr_same, ev_lit]
      rw [hsp] at h
      have h' : (eqNil 2 3 16 16).f x y = some e := h
      clear h hsp
      revert h' hy hx
      revert e vy vx y x w β σ
      refine eqNil_ok (nil := .pointer none) (Q := fun v => ∃ a, v = .pointer (some a)) ?_ ?_ ?_ ?_ ?_
      · intro σ β s v hd hs
        obtain ⟨k, a, b, t, u, c, l, rfl, h⟩ := hd.tag hs (by omega)
        cases h; rfl
      · intro σ β s v hd hs
        rcases hs with hs | hs | hs <;> obtain ⟨k, a, b, t, u, c, l, rfl, h⟩ := hd.tag hs (by omega) <;> cases h <;> exact ⟨_, rfl⟩
      · intro w; simp [Op.equalIn, run_underlying' hu]
      · rintro v w ⟨a, rfl⟩; simp [Op.equalIn, run_underlying' hu]
      · rintro v w ⟨a, rfl⟩; simp [Op.equalIn, run_underlying' hu]
    · rename_i el hu
      refine eqNil_ok (nil := .slice none 0 0) (Q := fun v => ∃ a n c, v = .slice (some a) n c) ?_ ?_ ?_ ?_ ?_
      · intro σ β s v hd hs
        obtain ⟨k, a, b, t, u, c, l, rfl, h⟩ := hd.tag hs (by omega)
        cases h; rfl
      · intro σ β s v hd hs
        rcases hs with hs | hs | hs <;> obtain ⟨k, a, b, t, u, c, l, rfl, h⟩ := hd.tag hs (by omega) <;> cases h <;> exact ⟨_, _, _, rfl⟩
      · intro w; simp [Op.equalIn, run_underlying' hu]
      · rintro v w ⟨a, n, c, rfl⟩; simp [Op.equalIn, run_underlying' hu]
      · rintro v w ⟨a, n, c, rfl⟩; simp [Op.equalIn, run_underlying' hu]
    · rename_i k1 k2 hu
      refine eqNil_ok (nil := .map none) (Q := fun v => ∃ r, v = .map (some r)) ?_ ?_ ?_ ?_ ?_
      · intro σ β s v hd hs
        obtain ⟨k, a, b, t, u, c, l, rfl, h⟩ := hd.tag hs (by omega)
        cases h; rfl
      · intro σ β s v hd hs
        rcases hs with hs | hs | hs <;> obtain ⟨k, a, b, t, u, c, l, rfl, h⟩ := hd.tag hs (by omega) <;> cases h <;> exact ⟨_, rfl⟩
      · intro w; simp [Op.equalIn, run_underlying' hu]
      · rintro v w ⟨a, rfl⟩; simp [Op.equalIn, run_underlying' hu]
      · rintro v w ⟨a, rfl⟩; simp [Op.equalIn, run_underlying' hu]
    · rename_i k1 k2 k3 hu
      refine eqNil_ok (nil := .nilFunc) (Q := fun v => ∃ f a b, v = .func f a b) ?_ ?_ ?_ ?_ ?_
      · intro σ β s v hd hs
        obtain ⟨k, a, b, t, u, c, l, rfl, h⟩ := hd.tag hs (by omega)
        cases h; rfl
      · intro σ β s v hd hs
        rcases hs with hs | hs | hs <;> obtain ⟨k, a, b, t, u, c, l, rfl, h⟩ := hd.tag hs (by omega) <;> cases h <;> exact ⟨_, _, _, rfl⟩
      · intro w; simp [Op.equalIn, run_underlying' hu]
      · rintro v w ⟨f, a, b, rfl⟩; simp [Op.equalIn, run_underlying' hu]
      · rintro v w ⟨f, a, b, rfl⟩; simp [Op.equalIn, run_underlying' hu]
    · rename_i ms hu
      refine eqNil_ok (nil := .nilIface) (Q := fun v => ∃ t x, v = .iface t x) ?_ ?_ ?_ ?_ ?_
      · intro σ β s v hd hs
        obtain ⟨k, a, b, t, u, c, l, rfl, h⟩ := hd.tag hs (by omega)
        cases h; rfl
      · intro σ β s v hd hs
        rcases hs with hs | hs | hs <;> obtain ⟨k, a, b, t, u, c, l, rfl, h⟩ := hd.tag hs (by omega) <;> cases h <;> exact ⟨_, _, rfl⟩
      · intro w; simp [Op.equalIn, run_underlying' hu]
      · rintro v w ⟨f, a, rfl⟩; simp [Op.equalIn, run_underlying' hu]
      · rintro v w ⟨f, a, rfl⟩; simp [Op.equalIn, run_underlying' hu]
    · exact eqNo_ok

end Go.Sy
end

section
/- Operations on a frame that give a value in every world. -/
namespace Go.Sy
open Go.RowKit

structure VP where
  f : F3 → PC → (SV → Ans) → Ans
noncomputable def pbad (n : Nat) : VP := ⟨fun _ _ _ => .bad n⟩
/-- The operation comes to this value. -/
def Yl (P : Program) (N : Nat) (o : Oper) (F : F3) (pc : PC) (r : SV) : Prop := ∀ σ β a w, RepF σ β N F a → pc.ok σ → ∃ v, (execOp a.eval o).run P w = .ok (.value v) w ∧ Den σ β r v
def VPok (P : Program) (N : Nat) (o : Oper) (h : VP) : Prop := ∀ F pc (k : SV → Ans), Rsv (h.f F pc k) k (Yl P N o F pc)
theorem pbad_ok {P N o n} : VPok P N o (pbad n) := fun _ _ _ => .bad
noncomputable def po {α : Type} (n : Nat) (x : Option α) (f : α → VP) : VP := Option.rec (pbad n) f x
noncomputable def pw (n : Nat) (c : Bool) (f : VP) : VP := bc c f (pbad n)
theorem po_ok {α : Type} {P N o n} {x : Option α} {f : α → VP} (h : ∀ a, x = some a → VPok P N o (f a)) : VPok P N o (po n x f) := by
  cases x with
  | none => exact pbad_ok
  | some a => exact h a rfl
theorem pw_ok {P N o n} {c : Bool} {f : VP} (h : c = true → VPok P N o f) : VPok P N o (pw n c f) := by
  cases c with
  | false => exact pbad_ok
  | true => exact h rfl
theorem cO_o {σ β N F a} (h : RepF σ β N F a) (x : Operand) : DenO σ β ((cO x).g F) (a.eval x) := cO_ok h x

/-- An operation of one operand. -/
noncomputable def p1 (h : V1) (x : GO) : VP := ⟨fun F _ k => h.f (x.g F) k⟩
theorem p1_ok {P N} {run : Value → Sem Value} {h : V1} (hh : V1ok P run h) {o : Oper} {x : Operand} (he : ∀ ρ, execOp ρ o = (do pure (.value (← run (ρ x))))) : VPok P N o (p1 h (cO x)) :=
  fun F _ k => (hh ((cO x).g F) k).imp fun r hr σ β a w hF _ => by
    obtain ⟨u, h1, h2⟩ := hr σ β (a.eval x) w (cO_o hF x)
    exact ⟨u, by rw [he]; simp [h1], h2⟩

noncomputable def pMove (x : GO) : VP := ⟨fun F _ k => kn (x.g F) k⟩
theorem pMove_ok {P N} {o : Oper} {x : Operand} (he : ∀ ρ, execOp ρ o = pure (.value (ρ x))) : VPok P N o (pMove (cO x)) :=
  fun F _ k => kn_rsv fun hk σ β a w hF _ => ⟨_, by rw [he]; rfl, (cO_o hF x).of hk⟩

noncomputable def pPick (c a b : GO) : VP := ⟨fun F pc k => oa 60 (svBool (c.g F)) fun t => pickK pc t (a.g F) (b.g F) k⟩
theorem pPick_ok {P N} {c a b : Operand} {dst ty pos af g} : VPok P N ⟨dst, .pick c a b, ty, pos, af, g⟩ (pPick (cO c) (cO a) (cO b)) :=
  fun F pc k => oa_rsv fun t ht => pickK_rsv.imp fun r hr σ β ac w hF hp => by
    have h := hr σ β _ _ hp (cO_o hF a) (cO_o hF b)
    have hc := svBool_o ht (cO_o hF c)
    generalize hv : ac.eval c = vc at hc
    cases hc with
    | bool hl =>
      refine ⟨_, by simp only [execOp, hv, asBool]; rfl, ?_⟩
      by_cases e : t.ev σ = 0
      · rw [if_pos e] at h; simpa [e] using h
      · rw [if_neg e] at h; simpa [e] using h

noncomputable def nilC (s : SV) (k : SV → Ans) : Ans := bc (Nat.beq s.1 3) (kn s k) (bc (Nat.beq s.1 9) (kn s k) (bc (Nat.beq s.1 16) (kn s k) (.bad 61)))
noncomputable def pNil (x : GO) : VP := ⟨fun F _ k => nilC (x.g F) k⟩
theorem pNil_ok {P N} {x : Operand} {dst ty pos af g} : VPok P N ⟨dst, .nilCheck x, ty, pos, af, g⟩ (pNil (cO x)) := by
  intro F pc k
  have key : ∀ n, (n = 3 ∨ n = 9 ∨ n = 16) → ((cO x).g F).1 = n → Rsv (kn ((cO x).g F) k) k (Yl P N ⟨dst, .nilCheck x, ty, pos, af, g⟩ F pc) := fun n hn ht => kn_rsv fun hk σ β a w hF _ => by
    have hd := (cO_o hF x).of hk
    obtain ⟨k', a', b', t, u, c, l, hs, hd'⟩ := (cO_o hF x).tag ht (by omega)
    rw [hs] at hd ⊢
    generalize hv : a.eval x = v at hd
    rcases hn with rfl | rfl | rfl
    · cases hd with
      | ptr hb => exact ⟨_, by simp only [execOp, hv]; rfl, .ptr hb⟩
    · cases hd with
      | func hb => exact ⟨_, by simp only [execOp, hv]; rfl, .func hb⟩
    · cases hd with
      | ptrT hb => exact ⟨_, by simp only [execOp, hv]; rfl, .ptrT hb⟩
  show Rsv (bc (Nat.beq ((cO x).g F).1 3) (kn ((cO x).g F) k) (bc (Nat.beq ((cO x).g F).1 9) (kn ((cO x).g F) k) (bc (Nat.beq ((cO x).g F).1 16) (kn ((cO x).g F) k) (.bad 61)))) k _
  cases h3 : Nat.beq ((cO x).g F).1 3
  · cases h9 : Nat.beq ((cO x).g F).1 9
    · cases h16 : Nat.beq ((cO x).g F).1 16
      · exact .bad
      · exact key 16 (by simp) (of_nbeq h16)
    · exact key 9 (by simp) (of_nbeq h9)
  · exact key 3 (by simp) (of_nbeq h3)

/-! ### Operators -/
noncomputable def eqKind (op : BinOp) : Nat := BinOp.rec 0 0 0 0 0 0 0 0 0 0 0 1 2 0 0 0 0 op
noncomputable def isShB (op : BinOp) : Bool := BinOp.rec false false false false false false false false true true false false false false false false false op
noncomputable def isConstO (x : Operand) : Bool := Operand.rec (fun _ => false) (fun _ => true) (fun _ => false) (fun _ => false) x
noncomputable def isIfaceT (P : Program) (t : TypeId) : Bool := match P.underlying t with | some (.interface _) => true | _ => false
/-- Whether '==' may be asked of such operands. -/
noncomputable def guardOk (P : Program) (t : TypeId) (x y : Operand) : Bool := bc (P.eqGuardType P.depth t) (band (isIfaceT P t) (bc (isConstO x) true (isConstO y))) true
noncomputable def pEq (P : Program) (op : BinOp) (t : TypeId) (x y : Operand) : VP :=
  pw 62 (guardOk P t x y) (pw 63 (Nat.blt 0 (eqKind op)) (bc (Nat.beq (eqKind op) 1)
    ⟨fun F _ k => oa 64 ((eqC P 20 t).f ((cO x).g F) ((cO y).g F)) fun e => forceT e fun e => k (.bool e)⟩
    ⟨fun F _ k => oa 64 ((eqC P 20 t).f ((cO x).g F) ((cO y).g F)) fun e => forceT e fun e => notK e k⟩))
noncomputable def pInt (op : BinOp) (x y : Operand) : VP :=
  bc (isShB op) ⟨fun F pc k => oa 65 (svInt ((cO x).g F)) fun i => oa 65 (svInt ((cO y).g F)) fun j => cShI op j.1 pc i.1 i.2 j.2 k⟩
    ⟨fun F pc k => oa 65 (svInt ((cO x).g F)) fun i => oa 65 (svInt ((cO y).g F)) fun j => wa 66 (Nat.beq i.1.ctorIdx j.1.ctorIdx) ((cBinI op).f pc i.1 i.2 j.2 k)⟩
noncomputable def isAddB (op : BinOp) : Bool := Nat.beq op.ctorIdx BinOp.add.ctorIdx
noncomputable def pCat (x y : Operand) : VP := ⟨fun F _ k => oa 67 (svStr ((cO x).g F)) fun a => oa 67 (svStr ((cO y).g F)) fun b => forceL (appR a b) fun l => wa 68 (Nat.ble (lenR l) 1099511627776) (k (.str l))⟩
noncomputable def isStrT (P : Program) (t : TypeId) : Bool := match P.underlying t with | some .string => true | _ => false
theorem isStrT_some {P : Program} {t : TypeId} (h : isStrT P t = true) : P.underlying t = some .string := by
  unfold isStrT at h; split at h <;> simp_all
noncomputable def pBin (P : Program) (op : BinOp) (t : TypeId) (x y : Operand) : VP :=
  Option.rec (bc (band (isAddB op) (isStrT P t)) (pCat x y) (pEq P op t x y)) (fun _ => pInt op x y) (intOfT P t)

theorem pInt_ok {P N} {op : BinOp} {t : TypeId} {x y : Operand} {yt : TypeId} {dst ty pos af g} : VPok P N ⟨dst, .binOp op t x y yt, ty, pos, af, g⟩ (pInt op x y) := by
  have hg : ∀ w k k' (m n : Int), (eqGuard op t x y (.int k m) (.int k' n)).run P w = .ok () w := by
    intro w k k' m n; unfold eqGuard; cases op <;> rfl
  unfold pInt
  cases hs : isShB op
  · intro F pc k
    refine oa_rsv fun i hi => oa_rsv fun j hj => wa_rsv fun hk => ?_
    rcases cBinI_eq op pc i.1 i.2 j.2 k with ⟨n, e⟩ | ⟨r, hr, e⟩
    · rw [e]; exact .bad
    · rw [e]
      refine .val fun σ β a w hF hp => ?_
      have dx := svInt_o hi (cO_o hF x)
      have dy := svInt_o hj (cO_o hF y)
      obtain ⟨hx, lx⟩ := dx.int_inv
      obtain ⟨hy, ly⟩ := dy.int_inv
      have hkk := kind_idx (of_nbeq hk)
      rw [← hkk] at ly hy
      obtain ⟨v, h1, h2⟩ := binI_ok (P := P) (β := β) hp lx ly hr t w
      exact ⟨v, by simp [execOp, hx, hy, hg, h1], h2⟩
  · intro F pc k
    refine oa_rsv fun i hi => oa_rsv fun j hj => ?_
    rcases cShI_eq op j.1 pc i.1 i.2 j.2 k with ⟨n, e⟩ | ⟨r, hr, e⟩
    · rw [e]; exact .bad
    · rw [e]
      refine .val fun σ β a w hF hp => ?_
      obtain ⟨hx, lx⟩ := (svInt_o hi (cO_o hF x)).int_inv
      obtain ⟨hy, ly⟩ := (svInt_o hj (cO_o hF y)).int_inv
      obtain ⟨v, h1, h2⟩ := shI_ok (P := P) (β := β) hp lx ly hr t w
      exact ⟨v, by simp [execOp, hx, hy, hg, h1], h2⟩
theorem pCat_ok {P N} {t : TypeId} {x y : Operand} {yt : TypeId} {dst ty pos af g} : VPok P N ⟨dst, .binOp .add t x y yt, ty, pos, af, g⟩ (pCat x y) := by
  intro F pc k
  refine oa_rsv fun i hi => oa_rsv fun j hj => ?_
  rw [forceL_eq, appR_eq]
  refine wa_rsv fun hle => .val fun σ β a w hF hp => ?_
  have dx := svStr_o hi (cO_o hF x)
  have dy := svStr_o hj (cO_o hF y)
  generalize hvx : a.eval x = vx at dx
  generalize hvy : a.eval y = vy at dy
  cases dx with
  | str hx =>
    cases dy with
    | str hy =>
      rename_i bx by_
      have hle' := of_nble hle
      rw [lenR_eq, List.length_append, hx.length, hy.length, byteVals_length, byteVals_length] at hle'
      have hsz : (bx.size : Int) + by_.size ≤ 9223372036854775807 := by omega
      refine ⟨.string (bx ++ by_), by simp [execOp, hvx, hvy, eqGuard, binOp, Op.stringOp, hsz], .str ?_⟩
      have : byteVals (bx ++ by_) = byteVals bx ++ byteVals by_ := by simp [byteVals]
      rw [this]
      exact hx.append hy

theorem guard_ok {P : Program} {op : BinOp} (hop : op = .eql ∨ op = .neq) {t : TypeId} {x y : Operand} {vx vy : Value} (hgo : guardOk P t x y = true) (hu : ∃ d, P.underlying t = some d) (hagg : P.eqGuardType P.depth t = true → ∀ cs, vx ≠ .agg cs) (w : World) :
    (eqGuard op t x y vx vy).run P w = .ok () w := by
  unfold eqGuard
  rw [if_neg (by rcases hop with rfl | rfl <;> simp)]
  split
  · -- both nil
    unfold guardOk at hgo
    cases hgt : P.eqGuardType P.depth t
    · split
      · rfl
      · have hin : (Op.eqGuardIn Op.maxDepth t .nilIface .nilIface).run P w = .ok false w := by
          show (Op.eqGuardIn (9999 + 1) t .nilIface .nilIface).run P w = _
          rw [Op.eqGuardIn]
          obtain ⟨d, hu⟩ := hu
          simp only [Sem.run_bind, run_underlying' hu, Result.andThen_ok]
          cases d <;> try rfl
          rename_i ms
          cases hd : P.depth with
          | zero => rw [hd] at hgt; cases hgt
          | succ n =>
            rw [hd] at hgt
            simp only [Program.eqGuardType, hu] at hgt
            simp only [hgt]; rfl
        simp [hin]
    · rw [hgt] at hgo
      obtain ⟨g1, g2⟩ := band_eq hgo
      clear hgo hagg
      cases x <;> cases y <;> first | rfl | (cases g2; done)
  · rename_i cs ds
    cases hgt : P.eqGuardType P.depth t
    · simp [hgt]
    · exact absurd rfl (hagg hgt _)
  · rfl
theorem eqC_shape {P : Program} {n : Nat} {t : TypeId} {x y : SV} {e : Tm} (h : (eqC P n t).f x y = some e) :
    (∃ d, P.underlying t = some d) ∧ (intOfT P t = none → x.1 ≠ 0) ∧ (P.eqGuardType P.depth t = true → isIfaceT P t = true → x.1 ≠ 13) ∧ x.1 ≠ 19 := by
  cases n with
  | zero => cases h
  | succ n =>
    change (eqD P (eqC P n) t).f x y = some e at h
    unfold eqD at h
    have nil : ∀ {nt a b c : Nat}, (nt ≠ 0 ∧ nt ≠ 13 ∧ nt ≠ 19) → (a ≠ 0 ∧ a ≠ 13 ∧ a ≠ 19) → (b ≠ 0 ∧ b ≠ 13 ∧ b ≠ 19) → (c ≠ 0 ∧ c ≠ 13 ∧ c ≠ 19) → (eqNil nt a b c).f x y = some e → x.1 ≠ 0 ∧ x.1 ≠ 13 ∧ x.1 ≠ 19 := by
      intro nt a b c hnt ha hb hc h
      change bc (Nat.beq (nilS nt a b c x) 1) _ (bc (Nat.beq (nilS nt a b c x) 0) _ none) = some e at h
      cases x1 : Nat.beq (nilS nt a b c x) 1
      · rw [x1] at h
        cases x0 : Nat.beq (nilS nt a b c x) 0
        · rw [x0] at h; cases h
        · rcases nilS_zero (of_nbeq x0) with h' | h' | h' <;> rw [h'] <;> assumption
      · rw [nilS_one (of_nbeq x1)]; exact hnt
    obtain ⟨tag, k0, a0, b0, t0, u0, c0, l0⟩ := x
    split at h
    · rename_i hu
      obtain ⟨a, ha, _⟩ := ob_some h
      have : tag = 1 := by
        unfold svBool at ha
        cases hb : Nat.beq tag 1
        · change bc (Nat.beq tag 1) _ none = _ at ha; rw [hb] at ha; cases ha
        · exact of_nbeq hb
      subst this
      exact ⟨⟨_, hu⟩, fun _ => by decide, fun _ _ => by decide, by decide⟩
    · rename_i hu
      obtain ⟨a, ha, _⟩ := ob_some h
      have : tag = 0 := by
        unfold svInt at ha
        cases hb : Nat.beq tag 0
        · change bc (Nat.beq tag 0) _ none = _ at ha; rw [hb] at ha; cases ha
        · exact of_nbeq hb
      subst this
      refine ⟨⟨_, hu⟩, fun hn => ?_, fun _ _ => by decide, by decide⟩
      unfold intOfT at hn
      rw [hu] at hn; simp at hn
    · rename_i hu
      obtain ⟨a, ha, _⟩ := ob_some h
      have : tag = 11 := by
        unfold svStr at ha
        cases hb : Nat.beq tag 11
        · change bc (Nat.beq tag 11) _ none = _ at ha; rw [hb] at ha; cases ha
        · exact of_nbeq hb
      subst this
      exact ⟨⟨_, hu⟩, fun _ => by decide, fun _ _ => by decide, by decide⟩
    · rename_i fs hu
      cases hst : P.stoodInHeld t
      · rw [hst] at h
        obtain ⟨a, ha, _⟩ := ob_some h
        have : tag = 13 := by
          unfold svAgg at ha
          cases hb : Nat.beq tag 13
          · change bc (Nat.beq tag 13) _ none = _ at ha; rw [hb] at ha; cases ha
          · exact of_nbeq hb
        subst this
        refine ⟨⟨_, hu⟩, fun _ => by decide, fun _ hi => ?_, by decide⟩
        unfold isIfaceT at hi; rw [hu] at hi; cases hi
      · rw [hst] at h; cases h
    · rename_i m el hu
      obtain ⟨_, _, h⟩ := ob_some h
      obtain ⟨a, ha, _⟩ := ob_some h
      have : tag = 13 := by
        unfold svAgg at ha
        cases hb : Nat.beq tag 13
        · change bc (Nat.beq tag 13) _ none = _ at ha; rw [hb] at ha; cases ha
        · exact of_nbeq hb
      subst this
      refine ⟨⟨_, hu⟩, fun _ => by decide, fun _ hi => ?_, by decide⟩
      unfold isIfaceT at hi; rw [hu] at hi; cases hi
    · rename_i el hu
      have key : tag ≠ 0 ∧ tag ≠ 13 ∧ tag ≠ 19 := by
        change (bc (samePtr (.mk tag k0 a0 b0 t0 u0 c0 l0) y) (ob (P.info? el) fun _ => some (.lit 1)) ((eqNil 2 3 16 16).f (.mk tag k0 a0 b0 t0 u0 c0 l0) y)) = some e at h
        cases hsp : samePtr (.mk tag k0 a0 b0 t0 u0 c0 l0) y
        · rw [hsp] at h; exact nil (by decide) (by decide) (by decide) (by decide) h
        · obtain ⟨h3, _⟩ := band_eq (show band (Nat.beq tag 3) _ = true from hsp)
          have := of_nbeq h3
          subst this
          decide
      exact ⟨⟨_, hu⟩, fun _ => key.1, fun _ _ => key.2.1, key.2.2⟩
    all_goals first
      | (rename_i hu; have := nil (by decide) (by decide) (by decide) (by decide) h; exact ⟨⟨_, hu⟩, fun _ => this.1, fun _ _ => this.2.1, this.2.2⟩)
      | (cases h; done)

theorem pEq_ok {P N} {op : BinOp} {t : TypeId} {x y : Operand} {yt : TypeId} {dst ty pos af g} (hni : intOfT P t = none) : VPok P N ⟨dst, .binOp op t x y yt, ty, pos, af, g⟩ (pEq P op t x y) := by
  refine pw_ok fun hgo => pw_ok fun hk => ?_
  have hop : op = .eql ∨ op = .neq := by cases op <;> first | (cases hk; done) | exact .inl rfl | exact .inr rfl
  have main : ∀ F (σ : Nat → Nat) (β : Nat → Option (Nat × Nat)) (a : Act) w e, RepF σ β N F a → (eqC P 20 t).f ((cO x).g F) ((cO y).g F) = some e →
      (do eqGuard op t x y (a.eval x) (a.eval y); binOp op t (a.eval x) (a.eval y) : Sem Value).run P w = .ok (.bool (if op = .eql then (e.ev σ != 0) else !(e.ev σ != 0))) w ∧ e.ev σ ≤ 1 := by
    intro F σ β a w e hF he
    have hx := cO_o hF x
    have hy := cO_o hF y
    obtain ⟨s1, s2, s3, s4⟩ := eqC_shape he
    obtain ⟨h1, h2⟩ := eqC_ok (P := P) 20 10000 (by omega) t σ β w _ _ _ _ e hx hy he
    refine ⟨?_, h2⟩
    have hdx := hx.of s4
    generalize (cO x).g F = sx at *
    generalize (cO y).g F = sy at *
    have hguard : (eqGuard op t x y (a.eval x) (a.eval y)).run P w = .ok () w := by
      refine guard_ok hop hgo s1 (fun hgt cs hv => ?_) w
      unfold guardOk at hgo
      rw [hgt] at hgo
      obtain ⟨g1, _⟩ := band_eq hgo
      rw [hv] at hdx
      cases hdx
      exact s3 hgt g1 rfl
    have hnum : ∀ k n, a.eval x ≠ .int k n := by
      intro k n hv
      rw [hv] at hdx
      cases hdx
      exact s2 hni rfl
    have hfl : ∀ k n, a.eval x ≠ .float k n := by intro k n hv; rw [hv] at hdx; cases hdx
    have hcx : ∀ k n m, a.eval x ≠ .complex k n m := by intro k n m hv; rw [hv] at hdx; cases hdx
    have hres : (Op.equal t (a.eval x) (a.eval y)).run P w = .ok (e.ev σ != 0) w := h1
    simp only [Sem.run_bind, hguard, Result.andThen_ok]
    generalize a.eval x = vx at *
    generalize a.eval y = vy at *
    by_cases hs : ∃ s, vx = .string s
    · obtain ⟨s, rfl⟩ := hs
      obtain ⟨d, hu⟩ := s1
      have hstr : ∃ s', vy = .string s' ∧ (s.toList == s'.toList) = (e.ev σ != 0) := by
        change (Op.equalIn (9999 + 1) t (.string s) vy).run P w = _ at h1
        rw [Op.equalIn] at h1
        simp only [Sem.run_bind, run_underlying' hu, Result.andThen_ok] at h1
        cases d <;> cases vy <;> first | (cases h1; done) | skip
        rename_i s'
        simp only [Sem.run_pure, Result.ok.injEq] at h1
        exact ⟨s', rfl, by rw [← beq_toListBytes]; exact h1.1⟩
      obtain ⟨s', rfl, hss⟩ := hstr
      rcases hop with rfl | rfl
      · simp [binOp, Op.stringOp, hss]
      · have : (!(s.toList == s'.toList)) = !(e.ev σ != 0) := by rw [hss]
        simp [binOp, Op.stringOp, this]
    · rcases hop with rfl | rfl
      · unfold binOp
        split <;> first
          | (exfalso; exact hnum _ _ rfl)
          | (exfalso; exact hfl _ _ rfl)
          | (exfalso; exact hcx _ _ _ rfl)
          | (exfalso; exact hs ⟨_, rfl⟩)
          | (simp [hres]; done)
          | simp_all
      · unfold binOp
        split <;> first
          | (exfalso; exact hnum _ _ rfl)
          | (exfalso; exact hfl _ _ rfl)
          | (exfalso; exact hcx _ _ _ rfl)
          | (exfalso; exact hs ⟨_, rfl⟩)
          | (simp [hres]; done)
          | simp_all
  rcases hop with rfl | rfl
  · intro F pc k
    show Rsv (oa 64 ((eqC P 20 t).f ((cO x).g F) ((cO y).g F)) fun e => forceT e fun e => k (.bool e)) k _
    refine oa_rsv fun e he => ?_
    rw [forceT_eq]
    refine .val fun σ β a w hF hp => ?_
    obtain ⟨h1, h2⟩ := main F σ β a w e hF he
    exact ⟨.bool (e.ev σ != 0), by simp only [execOp, Sem.run_bind] at h1 ⊢; simp [h1], .bool h2⟩
  · intro F pc k
    show Rsv (oa 64 ((eqC P 20 t).f ((cO x).g F) ((cO y).g F)) fun e => forceT e fun e => notK e k) k _
    refine oa_rsv fun e he => ?_
    rw [forceT_eq, notK_eq]
    refine .val fun σ β a w hF hp => ?_
    obtain ⟨h1, h2⟩ := main F σ β a w e hF he
    refine ⟨.bool (!(e.ev σ != 0)), by simp only [execOp, Sem.run_bind] at h1 ⊢; simp [h1], den_bool ?_⟩
    rw [mkNot_ev]
    by_cases e0 : e.ev σ = 0
    · simp [e0]
    · simp [e0]

theorem pBin_ok {P N} {op : BinOp} {t : TypeId} {x y : Operand} {yt : TypeId} {dst ty pos af g} : VPok P N ⟨dst, .binOp op t x y yt, ty, pos, af, g⟩ (pBin P op t x y) := by
  unfold pBin
  cases hi : intOfT P t with
  | some k => exact pInt_ok
  | none =>
    cases hc : band (isAddB op) (isStrT P t)
    · exact pEq_ok hi
    · have : op = .add := by
        have := (band_eq hc).1
        cases op <;> first | rfl | (cases this; done)
      subst this
      exact pCat_ok

end Go.Sy
end

section
/- Zero values, aggregates, functions, lengths, slices. -/
namespace Go.Sy
open Go.RowKit

noncomputable def knP {α : Type} (bad : α) (s : SV) (k : SV → α) : α :=
  SV.rec (motive_1 := fun _ => (SV → α) → α) (motive_2 := fun _ => Nat) (fun tag kd a b t u c l _ k => bc (Nat.beq tag 19) bad (k (.mk tag kd a b t u c l))) 0 (fun _ _ _ _ => 0) s k
theorem knP_eq {α : Type} (bad : α) (s : SV) (k : SV → α) : (s.1 = 19 ∧ knP bad s k = bad) ∨ (s.1 ≠ 19 ∧ knP bad s k = k s) := by
  obtain ⟨tag, kd, a, b, t, u, c, l⟩ := s
  show (tag = 19 ∧ bc (Nat.beq tag 19) _ _ = _) ∨ (tag ≠ 19 ∧ bc (Nat.beq tag 19) _ _ = _)
  by_cases e : tag = 19
  · rw [nbeq_t e]; exact .inl ⟨e, rfl⟩
  · rw [nbeq_f e]; exact .inr ⟨e, rfl⟩
/-- Constants, written out. -/
noncomputable def constsK {α : Type} (bad : α) (vs : List Value) : (List SV → α) → α :=
  List.rec (motive := fun _ => (List SV → α) → α) (fun k => k []) (fun v _ ih k => knP bad ((cConst v).g blank) fun s => ih fun l => k (s :: l)) vs
theorem constsK_ok {α : Type} (bad : α) : ∀ (vs : List Value) (k : List SV → α), constsK bad vs k = bad ∨ ∃ ss, constsK bad vs k = k ss ∧ ∀ σ β, DenL σ β ss vs
  | [], k => .inr ⟨[], rfl, fun _ _ => .nil⟩
  | v :: vs, k => by
    change (knP bad ((cConst v).g blank) fun s => constsK bad vs fun l => k (s :: l)) = bad ∨ ∃ ss, (knP bad ((cConst v).g blank) fun s => constsK bad vs fun l => k (s :: l)) = k ss ∧ _
    rcases knP_eq bad ((cConst v).g blank) (fun s => constsK bad vs fun l => k (s :: l)) with ⟨_, e⟩ | ⟨hn, e⟩
    · exact .inl e
    · rw [e]
      rcases constsK_ok bad vs (fun l => k ((cConst v).g blank :: l)) with e2 | ⟨ss, e2, h2⟩
      · exact .inl e2
      · exact .inr ⟨_, e2, fun σ β => .cons ((cConst_ok v blank).resolve_left hn) (h2 σ β)⟩
/-- The cells of a type's zero value. -/
noncomputable def zeroK {α : Type} (bad : α) (P : Program) (t : TypeId) (k : List SV → α) : α :=
  Option.rec bad (fun v => constsK bad v.cells.toList k) ((P.info? t).bind fun i => i.zero)
theorem zeroK_ok {α : Type} {bad : α} {P : Program} {t : TypeId} {k : List SV → α} :
    zeroK bad P t k = bad ∨ ∃ ss, zeroK bad P t k = k ss ∧ ∃ v, (∃ i, P.info? t = some i ∧ i.zero = some v) ∧ (∀ w, (zeroValue t).run P w = .ok v w) ∧ ∀ σ β, DenL σ β ss v.cells.toList := by
  unfold zeroK
  cases hi : P.info? t with
  | none => exact .inl rfl
  | some i =>
    simp only [Option.bind_some]
    cases hz : i.zero with
    | none => exact .inl rfl
    | some v =>
      rcases constsK_ok bad v.cells.toList k with e | ⟨ss, e, h⟩
      · exact .inl e
      · exact .inr ⟨ss, e, v, ⟨i, rfl, hz⟩, fun w => by simp [zeroValue, run_typeInfo' hi, hz], h⟩

/-! ### Cells -/
noncomputable def cellsOf (s : SV) : List SV := bc (Nat.beq s.1 13) s.8 [s]
theorem cellsOf_den {σ β} {s : SV} {v : Value} (h : Den σ β s v) : DenL σ β (cellsOf s) v.cells.toList := by
  have hh := h
  cases h with
  | agg h => exact h
  | _ => exact .cons hh .nil
noncomputable def one (s : SV) : Bool := bc (Nat.beq s.1 13) false (bc (Nat.beq s.1 14) false true)
noncomputable def allOne (l : List SV) : Bool := List.rec true (fun x _ ih => bc (one x) ih false) l
theorem one_ok {σ β} {s : SV} {v : Value} (h : Den σ β s v) (ho : one s = true) : v.oneCell' = true ∧ v.cells = #[v] := by
  cases h <;> first | exact ⟨rfl, rfl⟩ | (cases ho)
theorem allOne_ok {σ β} : ∀ {cs : List SV} {vs : List Value}, DenL σ β cs vs → allOne cs = true → ∀ v ∈ vs, v.oneCell' = true
  | _, _, .nil, _, v, hv => by cases hv
  | _, _, .cons (c := c) h t, ho, v, hv => by
    change bc (one c) _ false = true at ho
    cases h1 : one c
    · rw [h1] at ho; cases ho
    · rw [h1] at ho
      rcases List.mem_cons.1 hv with rfl | hv
      · exact (one_ok h h1).1
      · exact allOne_ok t ho v hv

/-! ### Aggregates -/
theorem fold_set (off : Nat) : ∀ (vs : List Value) (k : Nat) (arr : Array Value), off + k + vs.length ≤ arr.size →
    ((vs.zipIdx k).foldl (fun cs (x : Value × Nat) => cs.setIfInBounds (off + x.2) x.1) arr).toList = arr.toList.take (off + k) ++ vs ++ arr.toList.drop (off + k + vs.length)
  | [], k, arr, h => by simp
  | v :: vs, k, arr, h => by
    simp only [List.zipIdx_cons, List.foldl_cons]
    simp only [List.length_cons] at h
    rw [fold_set off vs (k + 1) _ (by simp; omega)]
    have hlt : off + k < arr.size := by omega
    have hL : arr.toList.length = arr.size := by simp
    rw [Array.toList_setIfInBounds]
    apply List.ext_getElem?
    intro i
    simp only [List.getElem?_append, List.getElem?_take, List.getElem?_drop, List.getElem?_set, List.length_take, List.length_set, List.length_cons, List.getElem?_cons, List.append_assoc, hL]
    grind

/-- Parts laid into cells: where each lies, how many cells it has. -/
structure PP where
  off : Nat
  n : Nat
  x : GO
noncomputable def fillK (ps : List PP) : F3 → List SV → (List SV → Ans) → Ans :=
  List.rec (motive := fun _ => F3 → List SV → (List SV → Ans) → Ans) (fun _ cs k => k cs)
    (fun p _ ih F cs k => kn (p.x.g F) fun s => wa 70 (Nat.beq (lenR (cellsOf s)) p.n) (wa 71 (Nat.ble (Nat.add p.off p.n) (lenR cs)) (oa 72 (layR cs (cellsOf s) p.off) fun cs' => forceL cs' fun cs' => ih F cs' k))) ps
/-- The parts of a literal, each with its place. -/
noncomputable def placed (place : Nat → Option (Nat × Nat)) (ps : List (Nat × Operand)) : Option (List PP) :=
  List.rec (some []) (fun p _ ih => ob (place p.1) fun q => forceN q.1 fun o => forceN q.2 fun n => ob ih fun l => some (⟨o, n, cO p.2⟩ :: l)) ps
theorem placed_cons {place : Nat → Option (Nat × Nat)} {p : Nat × Operand} {ps : List (Nat × Operand)} {l : List PP} (h : placed place (p :: ps) = some l) :
    ∃ q l', place p.1 = some q ∧ placed place ps = some l' ∧ l = ⟨q.1, q.2, cO p.2⟩ :: l' := by
  change (ob (place p.1) fun q => forceN q.1 fun o => forceN q.2 fun n => ob (placed place ps) fun l => some (⟨o, n, cO p.2⟩ :: l)) = some l at h
  obtain ⟨q, hq, h⟩ := ob_some h
  rw [forceN_eq, forceN_eq] at h
  obtain ⟨l', hl, h⟩ := ob_some h
  cases h
  exact ⟨q, l', hq, hl, rfl⟩
theorem fillK_ok (place : Nat → Option (Nat × Nat)) : ∀ (ps : List (Nat × Operand)) (l : List PP), placed place ps = some l → ∀ (F : F3) (cs : List SV) (k : List SV → Ans),
    (∃ n, fillK l F cs k = .bad n) ∨ ∃ r, fillK l F cs k = k r ∧ ∀ σ β N a (arr : Array Value), RepF σ β N F a → DenL σ β cs arr.toList → ∃ arr', Instr.fill place arr (ps.map fun (i, x) => (i, a.eval x)) = some arr' ∧ DenL σ β r arr'.toList
  | [], l, h, F, cs, k => by cases h; exact .inr ⟨cs, rfl, fun σ β N a arr _ hd => ⟨arr, rfl, hd⟩⟩
  | p :: ps, l, h, F, cs, k => by
    obtain ⟨q, l', hq, hl, rfl⟩ := placed_cons h
    change (∃ n, (kn ((cO p.2).g F) fun s => wa 70 (Nat.beq (lenR (cellsOf s)) q.2) (wa 71 (Nat.ble (Nat.add q.1 q.2) (lenR cs)) (oa 72 (layR cs (cellsOf s) q.1) fun cs' => forceL cs' fun cs' => fillK l' F cs' k))) = .bad n) ∨
      ∃ r, (kn ((cO p.2).g F) fun s => wa 70 (Nat.beq (lenR (cellsOf s)) q.2) (wa 71 (Nat.ble (Nat.add q.1 q.2) (lenR cs)) (oa 72 (layR cs (cellsOf s) q.1) fun cs' => forceL cs' fun cs' => fillK l' F cs' k))) = k r ∧ _
    rcases kn_eq ((cO p.2).g F) (fun s => wa 70 (Nat.beq (lenR (cellsOf s)) q.2) (wa 71 (Nat.ble (Nat.add q.1 q.2) (lenR cs)) (oa 72 (layR cs (cellsOf s) q.1) fun cs' => forceL cs' fun cs' => fillK l' F cs' k))) with ⟨_, e⟩ | ⟨hn, e⟩
    · exact .inl ⟨_, e⟩
    · rw [e]
      dsimp only
      generalize hs : (cO p.2).g F = s at *
      cases h1 : Nat.beq (lenR (cellsOf s)) q.2
      · exact .inl ⟨_, rfl⟩
      · cases h2 : Nat.ble (Nat.add q.1 q.2) (lenR cs)
        · exact .inl ⟨_, rfl⟩
        · cases h3 : layR cs (cellsOf s) q.1 with
          | none => exact .inl ⟨_, rfl⟩
          | some cs' =>
            show (∃ n, (forceL cs' fun cs' => fillK l' F cs' k) = .bad n) ∨ ∃ r, (forceL cs' fun cs' => fillK l' F cs' k) = k r ∧ _
            rw [forceL_eq]
            rcases fillK_ok place ps l' hl F cs' k with ⟨n, e2⟩ | ⟨r, e2, h4⟩
            · exact .inl ⟨n, e2⟩
            · refine .inr ⟨r, e2, fun σ β N a arr hF hd => ?_⟩
              have hx : Den σ β s (a.eval p.2) := by have := cO_o hF p.2; rw [hs] at this; exact this.of hn
              have hc := cellsOf_den hx
              have hlen := hc.length
              have hn' := of_nbeq h1
              rw [lenR_eq] at hn'
              have hle' := of_nble h2
              rw [lenR_eq, hd.length] at hle'
              obtain ⟨e1, _⟩ := layR_some h3
              have hsz : (a.eval p.2).cells.size = q.2 := by rw [← hn', hlen]; simp
              have hfold := fold_set q.1 (a.eval p.2).cells.toList 0 arr (by simp; rw [hsz]; simpa using hle')
              have hfold' : ((a.eval p.2).cells.zipIdx.foldl (fun cs (x : Value × Nat) => cs.setIfInBounds (q.1 + x.2) x.1) arr).toList = arr.toList.take q.1 ++ (a.eval p.2).cells.toList ++ arr.toList.drop (q.1 + (a.eval p.2).cells.toList.length) := by
                rw [← Array.foldl_toList, Array.toList_zipIdx]
                simpa using hfold
              obtain ⟨arr', ha, hr⟩ := h4 σ β N a _ hF (by
                rw [hfold', e1, hlen]
                exact DenL.append (DenL.append (hd.take q.1) hc) (hd.drop (q.1 + (a.eval p.2).cells.toList.length)))
              refine ⟨arr', ?_, hr⟩
              simp only [List.map_cons, Instr.fill, hq]
              rw [if_neg (by simp [hsz]; simpa using hle')]
              exact ha

noncomputable def placesOf (P : Program) (fs : List Field) : Option (List (Nat × Nat)) := List.rec (some []) (fun f _ ih => ob (szOf P f.type) fun n => ob ih fun l => some ((f.offset, n) :: l)) fs
theorem placesOf_ok {P : Program} (w : World) : ∀ {fs : List Field} {l : List (Nat × Nat)}, placesOf P fs = some l →
    (fs.mapM (fun f => do pure (f.offset, ← sizeOf f.type) : Field → Sem (Nat × Nat))).run P w = .ok l w
  | [], l, h => by cases h; simp
  | f :: fs, l, h => by
    change (ob (szOf P f.type) fun n => ob (placesOf P fs) fun l => some ((f.offset, n) :: l)) = some l at h
    obtain ⟨n, hn, h⟩ := ob_some h
    obtain ⟨t, ht, h⟩ := ob_some h
    cases h
    simp only [List.mapM_cons, Sem.run_bind, run_sizeOf' hn, Result.andThen_ok, Sem.run_pure, placesOf_ok w ht]

noncomputable def pBuild (P : Program) (t : TypeId) (ps : List (Nat × Operand)) : VP :=
  zeroK (pbad 73) P t fun z => Option.rec
    (po 74 (arrOf P t) fun ne => po 75 (szOf P ne.2) fun n => po 76 (placed (fun i => some (Nat.mul i n, n)) ps) fun l => ⟨fun F _ k => fillK l F z fun cs => k (.agg cs)⟩)
    (fun fs => po 77 (placesOf P fs.toList) fun pl => po 78 (placed (nthR pl) ps) fun l => ⟨fun F _ k => fillK l F z fun cs => k (.agg cs)⟩) (fieldsOf P t)
theorem pBuild_ok {P N} {t : TypeId} {ps : Array (Nat × Operand)} {dst ty pos af g} : VPok P N ⟨dst, .build t ps, ty, pos, af, g⟩ (pBuild P t ps.toList) := by
  have fin : ∀ (l : List PP) (z : List SV) (zv : Value) (place : Nat → Option (Nat × Nat)), placed place ps.toList = some l → (∀ σ β, DenL σ β z zv.cells.toList) →
      (∀ (a : Act) w arr', Instr.fill place zv.cells (ps.toList.map fun (i, x) => (i, a.eval x)) = some arr' → (Instr.build t (ps.map fun (i, x) => (i, a.eval x))).run P w = .ok (.agg arr') w) →
      VPok P N ⟨dst, .build t ps, ty, pos, af, g⟩ ⟨fun F _ k => fillK l F z fun cs => k (.agg cs)⟩ := by
    intro l z zv place hl hz hrun F pc k
    rcases fillK_ok place ps.toList l hl F z (fun cs => k (.agg cs)) with ⟨n, e⟩ | ⟨r, e, h⟩
    · exact .inl ⟨n, e⟩
    · refine .inr ⟨.agg r, e, fun σ β a w hF _ => ?_⟩
      obtain ⟨arr', h1, h2⟩ := h σ β N a zv.cells hF (hz σ β)
      refine ⟨.agg arr', by simp [execOp, hrun a w arr' h1], ?_⟩
      have := Den.agg (σ := σ) (β := β) (k := .u8) (a := 0) (b := 0) (t := .lit 0) (u := .lit 0) (c := .lit 0) h2
      simpa using this
  unfold pBuild
  rcases zeroK_ok (bad := pbad 73) (P := P) (t := t) (k := fun z => Option.rec
    (po 74 (arrOf P t) fun ne => po 75 (szOf P ne.2) fun n => po 76 (placed (fun i => some (Nat.mul i n, n)) ps.toList) fun l => ⟨fun F _ k => fillK l F z fun cs => k (.agg cs)⟩)
    (fun fs => po 77 (placesOf P fs.toList) fun pl => po 78 (placed (nthR pl) ps.toList) fun l => ⟨fun F _ k => fillK l F z fun cs => k (.agg cs)⟩) (fieldsOf P t)) with e | ⟨z, e, zv, _, hzr, hzd⟩
  · rw [e]; exact pbad_ok
  · rw [e]
    cases hf : fieldsOf P t with
    | some fs =>
      refine po_ok fun pl hpl => po_ok fun l hl => fin l z zv (nthR pl) hl hzd fun a w arr' h1 => ?_
      have hpl' := placesOf_ok (P := P) w hpl
      have he : (fun i => pl.toArray[i]?) = nthR pl := by funext i; rw [nthR_eq]; simp
      simp only [Instr.build, Sem.run_bind, hzr, Result.andThen_ok, run_underlying' (fieldsOf_some hf), Array.mapM_eq_mapM_toList, Sem.run_map, hpl']
      rw [he]
      simp [h1]
    | none =>
      refine po_ok fun ne hne => po_ok fun n hn => po_ok fun l hl => fin l z zv (fun i => some (i * n, n)) hl hzd fun a w arr' h1 => ?_
      simp only [Instr.build, Sem.run_bind, hzr, Result.andThen_ok, run_underlying' (arrOf_some hne), run_sizeOf' hn]
      simp [h1]

/-! ### Functions -/
noncomputable def fnOf (f : Fn) : Option Nat := Fn.casesOn (motive := fun _ => Option Nat) f (fun f => some f) (fun _ => none) (fun _ _ => none) (fun _ _ _ _ => none) (fun _ => none)
theorem fnOf_some {f : Fn} {n : Nat} (h : fnOf f = some n) : f = .func n := by cases f <;> first | (cases h; done) | (cases h; rfl)
noncomputable def pMakeFunc0 (fn : Fn) (first captured : Array Operand) : VP :=
  po 79 (fnOf fn) fun f => pw 80 (Nat.beq first.size 0) ⟨fun F _ k => knL (cOs captured.toList) F fun cs => k (.func f cs)⟩
theorem pMakeFunc0_ok {P N} {fn : Fn} {first captured : Array Operand} {dst ty pos af g} : VPok P N ⟨dst, .makeFunc fn first captured, ty, pos, af, g⟩ (pMakeFunc0 fn first captured) := by
  refine po_ok fun f hf => pw_ok fun h0 => fun F pc k => knL_rsv fun hn => .val fun σ β a w hF _ => ?_
  have e0 : first = #[] := Array.eq_empty_of_size_eq_zero (of_nbeq h0)
  rw [cOs_eq] at hn ⊢
  have hl := cOs_ok hF captured.toList hn
  refine ⟨.func fn (first.map a.eval) (captured.map a.eval), by simp [execOp, Instr.makeFunc], ?_⟩
  rw [fnOf_some hf, e0]
  have := Den.func (σ := σ) (β := β) (k := .u8) (f := f) (a := 0) (t := .lit 0) (u := .lit 0) (c := .lit 0) hl
  have e1 : (List.map a.eval captured.toList).toArray = Array.map a.eval captured := by
    apply Array.ext'; simp
  rw [e1] at this
  have e2 : Array.map a.eval (#[] : Array Operand) = #[] := by simp
  rw [e2]
  exact this
/-- A method of a value: what comes first is bound. -/
noncomputable def pMakeBound (fn : Fn) (first captured : Array Operand) : VP :=
  po 79 (fnOf fn) fun f => pw 80 (Nat.beq captured.size 0) ⟨fun F _ k => knL (cOs first.toList) F fun cs => k (.bfn f cs)⟩
theorem pMakeBound_ok {P N} {fn : Fn} {first captured : Array Operand} {dst ty pos af g} : VPok P N ⟨dst, .makeFunc fn first captured, ty, pos, af, g⟩ (pMakeBound fn first captured) := by
  refine po_ok fun f hf => pw_ok fun h0 => fun F pc k => knL_rsv fun hn => .val fun σ β a w hF _ => ?_
  have e0 : captured = #[] := Array.eq_empty_of_size_eq_zero (of_nbeq h0)
  rw [cOs_eq] at hn ⊢
  have hl := cOs_ok hF first.toList hn
  refine ⟨.func fn (first.map a.eval) (captured.map a.eval), by simp [execOp, Instr.makeFunc], ?_⟩
  rw [fnOf_some hf, e0]
  have := Den.bfn (σ := σ) (β := β) (k := .u8) (f := f) (a := 0) (t := .lit 0) (u := .lit 0) (c := .lit 0) hl
  have e1 : (List.map a.eval first.toList).toArray = Array.map a.eval first := by
    apply Array.ext'; simp
  rw [e1] at this
  have e2 : Array.map a.eval (#[] : Array Operand) = #[] := by simp
  rw [e2]
  exact this
noncomputable def pMakeFunc (fn : Fn) (first captured : Array Operand) : VP := bc (Nat.beq first.size 0) (pMakeFunc0 fn first captured) (pMakeBound fn first captured)
theorem pMakeFunc_ok {P N} {fn : Fn} {first captured : Array Operand} {dst ty pos af g} : VPok P N ⟨dst, .makeFunc fn first captured, ty, pos, af, g⟩ (pMakeFunc fn first captured) := by
  unfold pMakeFunc
  cases Nat.beq first.size 0
  · exact pMakeBound_ok
  · exact pMakeFunc0_ok

/-! ### len -/
noncomputable def lit64 (n : Nat) (k : SV → Ans) : Ans := wa 81 (Nat.blt n (p2 63)) (k (.int .i64 (.lit n)))
theorem lit64_rsv {n : Nat} {k : SV → Ans} {Φ : SV → Prop} (h : (∀ σ β, Den σ β (.int .i64 (.lit n)) (goInt n)) → Φ (.int .i64 (.lit n))) : Rsv (lit64 n k) k Φ := by
  refine wa_rsv fun h1 => .val (h fun σ β => ?_)
  have hlt : n < 2 ^ 63 := of_nblt h1
  unfold goInt
  refine den_int ?_ (by rw [ev_lit]; show n < 2 ^ 64; omega)
  rw [ev_lit, ofB_signed (k := .i64) rfl (by show n < 2 ^ 64; omega), if_neg (by show ¬ 2 ^ 63 ≤ n; omega)]
noncomputable def lenStr (s : SV) (k : SV → Ans) : Ans := oa 82 (svStr s) fun l => forceN (lenR l) fun n => lit64 n k
noncomputable def lenSl (s : SV) (k : SV → Ans) : Ans :=
  Option.rec (motive := fun _ => Ans) (oa 83 (svSlT s) fun q => k (.int .i64 q.len)) (fun q => lit64 q.len k) (svSl s)
noncomputable def cLen (P : Program) (t : TypeId) : V1 :=
  match P.underlying t with
  | some .string => ⟨lenStr⟩
  | some (.slice _) => ⟨lenSl⟩
  | some (.array n _) => ⟨fun _ k => lit64 n k⟩
  | _ => v1bad 84
theorem svSlT_den {σ β} {s : SV} {q : SlT} {v : Value} (h : svSlT s = some q) (hd : DenO σ β s v) :
    ∃ b n, β q.o = some (b, n) ∧ v = .slice (some ⟨b, offB q.l n + q.i.ev σ, none⟩) (q.len.ev σ) (q.cap.ev σ) ∧ q.len.ev σ ≤ q.cap.ev σ ∧ q.cap.ev σ < 2 ^ 63 := by
  cases svSlT_o h hd with
  | sliceT hb h1 h2 => exact ⟨_, _, hb, rfl, h1, h2⟩
theorem goInt_ev {σ β} {t : Tm} (h : t.ev σ < 2 ^ 63) : Den σ β (.int .i64 t) (goInt (t.ev σ)) := by
  unfold goInt
  refine den_int ?_ (by show t.ev σ < 2 ^ 64; omega)
  rw [ofB_signed (k := .i64) rfl (by show t.ev σ < 2 ^ 64; omega), if_neg (by show ¬ 2 ^ 63 ≤ t.ev σ; omega)]
theorem cLen_ok (P : Program) (t : TypeId) (ts : Array TypeId) (ht : ts[0]? = some t) (ty : TypeId) : V1ok P (fun v => Builtin.len_ ts ty #[v]) (cLen P t) := by
  unfold cLen
  split
  · rename_i hu
    refine fun s k => oa_rsv fun l hl => ?_
    rw [forceN_eq]
    refine lit64_rsv fun hg σ β v w hv => ?_
    cases svStr_o hl hv with
    | str h =>
      rename_i bs
      have e : lenR l = bs.size := by rw [lenR_eq, h.length, byteVals_length]
      refine ⟨goInt (lenR l), ?_, hg σ β⟩
      rw [e]; simp [Builtin.len_, ht, run_underlying' hu]
  · rename_i el hu
    intro s k
    show Rsv (Option.rec (motive := fun _ => Ans) (oa 83 (svSlT s) fun q => k (.int .i64 q.len)) (fun q => lit64 q.len k) (svSl s)) k _
    cases hq : svSl s with
    | some q =>
      refine lit64_rsv fun hg σ β v w hv => ⟨goInt q.len, ?_, hg σ β⟩
      rcases svSl_den hq (svSl_o hq hv) with ⟨_, k2, _, rfl⟩ | ⟨o, off, b, c, cap, _, _, rfl, _⟩
      · rw [k2]; simp [Builtin.len_, ht, run_underlying' hu]
      · simp [Builtin.len_, ht, run_underlying' hu]
    | none =>
      refine oa_rsv fun q hq => .val fun σ β v w hv => ?_
      obtain ⟨b, n, _, rfl, h1, h2⟩ := svSlT_den hq hv
      exact ⟨goInt (q.len.ev σ), by simp [Builtin.len_, ht, run_underlying' hu], goInt_ev (by omega)⟩
  · rename_i n el hu
    refine fun s k => lit64_rsv fun hg σ β v w hv => ⟨goInt n, by simp [Builtin.len_, ht, run_underlying' hu], hg σ β⟩
  · exact v1bad_ok

end Go.Sy
end

section
/- Slices of slices, arrays, strings; min and max; all operations that give a value in every world. -/
namespace Go.Sy
open Go.RowKit

/-- A number that is written, of whatever kind: below 0 it is none. -/
noncomputable def ixLit (s : SV) : Option Nat := ob (svInt s) fun x => ob (isLit x.2) fun n => ow (bc x.1.signed (Nat.blt n (p2 (Nat.sub x.1.bits 1))) true) (some n)
theorem ixLit_ok {σ β} {s : SV} {n : Nat} (h : ixLit s = some n) {v : Value} (hd : DenO σ β s v) : ∃ k, v = .int k (n : Int) := by
  obtain ⟨x, hx, h⟩ := ob_some h
  obtain ⟨m, hm, h⟩ := ob_some h
  obtain ⟨hc, h⟩ := ow_some h
  cases h
  obtain ⟨rfl, hl⟩ := (svInt_o hx hd).int_inv
  refine ⟨x.1, ?_⟩
  rw [isLit_some hm, ev_lit] at hl ⊢
  congr 1
  cases hs : x.1.signed
  · exact ofB_unsigned hs hl
  · rw [hs] at hc
    have : n < 2 ^ (x.1.bits - 1) := of_nblt hc
    rw [ofB_signed hs hl, if_neg (Nat.not_le_of_lt this)]

/-- A bound: what is written, or what it is without. -/
noncomputable def bLit (x : Option GO) (F : F3) (d : Nat) (k : Nat → Ans) : Ans := Option.rec (motive := fun _ => Ans) (k d) (fun g => oa 85 (ixLit (g.g F)) k) x
noncomputable def cOo (x : Option Operand) : Option GO := Option.rec none (fun x => some (cO x)) x
theorem bLit_rsv {x : Option Operand} {F : F3} {d : Nat} {f : Nat → Ans} {k : SV → Ans} {Φ : SV → Prop}
    (h : ∀ n, (∀ σ β N a, RepF σ β N F a → (x = none ∧ n = d) ∨ ∃ kd, x.map a.eval = some (.int kd (n : Int))) → Rsv (f n) k Φ) : Rsv (bLit (cOo x) F d f) k Φ := by
  cases x with
  | none => exact h d fun _ _ _ _ _ => .inl ⟨rfl, rfl⟩
  | some x =>
    refine oa_rsv fun n hn => h n fun σ β N a hF => .inr ?_
    obtain ⟨kd, hk⟩ := ixLit_ok hn (cO_o hF x)
    exact ⟨kd, by simp [hk]⟩
/-- What a bound's operand is. -/
def BndIs (x : Option Value) (d n : Nat) : Prop := (x = none ∧ n = d) ∨ ∃ kd, x = some (.int kd (n : Int))
theorem bound_ok {P : Program} {kd : IntKind} {n y : Nat} (hy : n ≤ y) (code : BoundsCode) (w : World) : (Instr.sliceBound (.int kd (n : Int)) y code).run P w = .ok n w := by
  simp [Instr.sliceBound, asIntOf, hy]
theorem bounds_ok {P : Program} {vlo vhi : Option Value} {isS : Bool} {len cap l h : Nat} (hl : BndIs vlo 0 l) (hh : BndIs vhi len h) (h1 : l ≤ h) (h2 : h ≤ cap) (w : World) :
    (Instr.sliceBounds isS len cap vlo vhi none).run P w = .ok (l, h, cap) w := by
  unfold Instr.sliceBounds
  rcases hh with ⟨rfl, rfl⟩ | ⟨kd, rfl⟩
  · rcases hl with ⟨rfl, rfl⟩ | ⟨kd', rfl⟩
    · simp
    · have := fun code => bound_ok (P := P) (kd := kd') h1 code w
      simp [this]
  · have h' := fun code => bound_ok (P := P) (kd := kd) h2 code w
    rcases hl with ⟨rfl, rfl⟩ | ⟨kd', rfl⟩
    · simp [h']
    · have := fun code => bound_ok (P := P) (kd := kd') h1 code w
      simp [this, h']

noncomputable def slStr (s : SV) (F : F3) (lo hi : Option GO) (k : SV → Ans) : Ans :=
  oa 86 (svStr s) fun b => bLit lo F 0 fun l => forceN (lenR b) fun n => bLit hi F n fun h => wa 87 (band (Nat.ble l h) (Nat.ble h n)) (forceL (takeR (Nat.sub h l) (dropR l b)) fun r => k (.str r))
noncomputable def slSl (z : Nat) (s : SV) (F : F3) (lo hi : Option GO) (k : SV → Ans) (els : Ans) : Ans :=
  Option.rec (motive := fun _ => Ans) els (fun q => bLit lo F 0 fun l => bLit hi F q.len fun h =>
    Option.rec (motive := fun _ => Ans) (oa 88 q.at_ fun p => wa 89 (band (band (Nat.ble l h) (Nat.ble h q.len)) (bc (Nat.beq l 0) true (band (Nat.blt l q.len) (Nat.blt 0 z)))) (forceN (Nat.add p.2 (Nat.mul l z)) fun off => forceN (Nat.add (litOr s.6) l) fun sh => forceN (Nat.sub h l) fun n => k (.mk 6 .u8 p.1 n (.lit off) (.lit sh) (.lit 0) [])))
      (fun cap => wa 90 (band (Nat.ble l h) (Nat.ble h cap))
        (Option.rec (motive := fun _ => Ans) (k .snil) (fun p => forceN (bc (Nat.beq cap l) p.2 (Nat.add p.2 (Nat.mul l z))) fun off => forceN (Nat.sub h l) fun n => forceN (Nat.sub cap l) fun c => k (.slice p.1 off n c)) q.at_)) q.cap) (svSl s)
/-- Of a slice of terms: from its first element on. -/
noncomputable def slT (z : Nat) (pc : PC) (s : SV) (F : F3) (lo hi : Option GO) (k : SV → Ans) : Ans :=
  oa 91 (svSlT s) fun q => wa 92 (Nat.beq q.z z) (bLit lo F 0 fun l => wa 93 (Nat.beq l 0)
    (Option.rec (motive := fun _ => Ans) (k (.sliceT q.o q.z q.i q.len q.cap q.l))
      (fun g => oa 94 (svInt (g.g F)) fun i => wa 95 (nonneg pc i.1 i.2) (wa 96 (bc (Nat.beq (decT pc (.bin .ult 64 q.cap i.2)) 0) true (Nat.beq (decT pc (.bin .ult 64 q.len i.2)) 0)) (k (.sliceT q.o q.z q.i i.2 q.cap q.l)))) hi))
noncomputable def slPtr (ne : Nat) (z : Nat) (s : SV) (F : F3) (lo hi : Option GO) (k : SV → Ans) : Ans :=
  oa 97 (svPtr s) fun p => bLit lo F 0 fun l => bLit hi F ne fun h => wa 98 (band (Nat.ble l h) (Nat.ble h ne))
    (forceN (bc (Nat.beq ne l) p.2 (Nat.add p.2 (Nat.mul l z))) fun off => forceN (Nat.sub h l) fun n => forceN (Nat.sub ne l) fun c => k (.slice p.1 off n c))
noncomputable def pSlice (P : Program) (t : TypeId) (x : Operand) (lo hi mx : Option Operand) : VP :=
  pw 99 (Option.rec true (fun _ => false) mx) (Option.rec
    (Option.rec (pw 100 (isStrT P t) ⟨fun F _ k => slStr ((cO x).g F) F (cOo lo) (cOo hi) k⟩)
      (fun e => po 101 (szOf P e) fun z => ⟨fun F pc k => slSl z ((cO x).g F) F (cOo lo) (cOo hi) k (slT z pc ((cO x).g F) F (cOo lo) (cOo hi) k)⟩) (sliOf P t))
    (fun ne => po 102 (szOf P ne.2) fun z => ⟨fun F _ k => slPtr ne.1 z ((cO x).g F) F (cOo lo) (cOo hi) k⟩) (arrOf P t))

theorem slSl_rsv {P : Program} {t e : TypeId} (he : sliOf P t = some e) {z : Nat} (hz : szOf P e = some z) {x : Operand} {lo hi : Option Operand} {F : F3} {pc : PC} {k : SV → Ans} {N : Nat} :
    Rsv (slSl z ((cO x).g F) F (cOo lo) (cOo hi) k (slT z pc ((cO x).g F) F (cOo lo) (cOo hi) k)) k fun r => ∀ σ β a w, RepF σ β N F a → pc.ok σ → ∃ u, (Instr.sliceAt t (a.eval x) (lo.map a.eval) (hi.map a.eval) none).run P w = .ok u w ∧ Den σ β r u := by
  have hu := sliOf_some he
  unfold slSl
  cases hq : svSl ((cO x).g F) with
  | none =>
    -- a slice of terms
    refine oa_rsv fun q hq => wa_rsv fun hzz => bLit_rsv fun l hl => wa_rsv fun hl0 => ?_
    have hl0 := of_nbeq hl0
    have hzz := of_nbeq hzz
    subst hl0
    cases hi with
    | none =>
      refine .val fun σ β a w hF _ => ?_
      obtain ⟨b, n, hb, hv, h1, h2⟩ := svSlT_den hq (cO_o hF x)
      have hlo : BndIs (lo.map a.eval) 0 0 := (hl σ β N a hF).imp (fun h => ⟨by rw [h.1]; rfl, h.2⟩) id
      refine ⟨.slice (some ⟨b, offB q.l n + q.i.ev σ, none⟩) (q.len.ev σ) (q.cap.ev σ), ?_, .sliceT hb h1 h2⟩
      have hbd := bounds_ok (P := P) (isS := true) (len := q.len.ev σ) (cap := q.cap.ev σ) hlo (vhi := none) (.inl ⟨rfl, rfl⟩) (Nat.zero_le _) h1 w
      rw [hv]
      by_cases e0 : q.cap.ev σ = 0
      · simp only [Instr.sliceAt, Option.map_none, Sem.run_bind, run_underlying' hu, Result.andThen_ok, Instr.slice, Sem.run_pure, hbd, run_sizeOf' hz]
        rw [if_pos e0]; simp
      · simp [Instr.sliceAt, run_underlying' hu, Instr.slice, hbd, run_sizeOf' hz, e0, add_off]
    | some hi =>
      refine oa_rsv fun i hi' => wa_rsv fun hnn => wa_rsv fun hdec => .val fun σ β a w hF hp => ?_
      obtain ⟨b, n, hb, hv, h1, h2⟩ := svSlT_den hq (cO_o hF x)
      have hlo : BndIs (lo.map a.eval) 0 0 := (hl σ β N a hF).imp (fun h => ⟨by rw [h.1]; rfl, h.2⟩) id
      obtain ⟨hvi, hli⟩ := (svInt_o hi' (cO_o hF hi)).int_inv
      have hnn' := nonneg_ok hp hli hnn
      have hle : i.2.ev σ ≤ q.cap.ev σ := by
        have aux : ∀ c : Tm, Nat.beq (decT pc (.bin .ult 64 c i.2)) 0 = true → i.2.ev σ ≤ c.ev σ := fun c hdec => by
          have := (decT_ok hp (t := .bin .ult 64 c i.2)).2 (of_nbeq hdec)
          change b2n (Nat.blt (c.ev σ) (i.2.ev σ)) = 0 at this
          rcases Nat.lt_or_ge (c.ev σ) (i.2.ev σ) with hh | hh
          · rw [nblt_t hh] at this; cases this
          · exact hh
        cases h0 : Nat.beq (decT pc (.bin .ult 64 q.cap i.2)) 0
        · rw [h0] at hdec; exact Nat.le_trans (aux _ hdec) h1
        · exact aux _ h0
      refine ⟨.slice (some ⟨b, offB q.l n + q.i.ev σ, none⟩) (i.2.ev σ) (q.cap.ev σ), ?_, .sliceT hb hle h2⟩
      have hbd := bounds_ok (P := P) (isS := true) (len := q.len.ev σ) (cap := q.cap.ev σ) hlo (vhi := some (a.eval hi)) (h := i.2.ev σ) (.inr ⟨i.1, by rw [hvi, hnn']⟩) (Nat.zero_le _) hle w
      rw [hv]
      by_cases e0 : q.cap.ev σ = 0
      · simp only [Instr.sliceAt, Option.map_some, Sem.run_bind, run_underlying' hu, Result.andThen_ok, Instr.slice, Sem.run_pure, hbd, run_sizeOf' hz]
        rw [if_pos e0]; simp
      · simp [Instr.sliceAt, run_underlying' hu, Instr.slice, hbd, run_sizeOf' hz, e0, add_off]
  | some q =>
    refine bLit_rsv fun l hl => bLit_rsv fun h hh => ?_
    cases hcap : q.cap with
    | none =>
      refine oa_rsv fun p hp => wa_rsv fun hc => ?_
      obtain ⟨hc1, hc2⟩ := band_eq hc
      obtain ⟨hc1, hc3⟩ := band_eq hc1
      have e1 := of_nble hc1
      have e2 := of_nble hc3
      show Rsv (forceN (Nat.add p.2 (Nat.mul l z)) fun off => forceN (Nat.add (litOr ((cO x).g F).6) l) fun sh => forceN (Nat.sub h l) fun n => k (.mk 6 .u8 p.1 n (.lit off) (.lit sh) (.lit 0) [])) k _
      rw [forceN_eq, forceN_eq, forceN_eq]
      refine .val fun σ β a w hF _ => ?_
      have hlo : BndIs (lo.map a.eval) 0 l := (hl σ β N a hF).imp (fun h => ⟨by rw [h.1]; rfl, h.2⟩) id
      have hhi : BndIs (hi.map a.eval) q.len h := (hh σ β N a hF).imp (fun h => ⟨by rw [h.1]; rfl, h.2⟩) id
      rcases svSl_den hq (svSl_o hq (cO_o hF x)) with ⟨k1, _⟩ | ⟨o, off, b, c, cap, k1, k2, hv, k3, k4⟩
      · rw [k1] at hp; cases hp
      · rw [k1] at hp; cases hp
        obtain ⟨sh, _, hsh, hcapc, hlc, hz0⟩ := k4 hcap
        have hbd := bounds_ok (P := P) (isS := true) (len := q.len) (cap := cap) hlo hhi e1 (by omega) w
        rw [hv, hsh]
        have hpos : l ≠ 0 → l < q.len ∧ 0 < z := fun h0 => by
          rw [nbeq_f h0] at hc2
          obtain ⟨g1, g2⟩ := band_eq (show band _ _ = true from hc2)
          exact ⟨of_nblt g1, of_nblt g2⟩
        refine ⟨.slice (some ⟨b, off + l * z, none⟩) (h - l) (cap - l), ?_, ?_⟩
        · by_cases e : cap = l
          · have hl0 : l = 0 := by
              rcases Nat.eq_zero_or_pos l with hh | hh
              · exact hh
              · have := (hpos (by omega)).1; omega
            subst hl0
            simp only [Instr.sliceAt, Sem.run_bind, run_underlying' hu, Result.andThen_ok, Instr.slice, Sem.run_pure, hbd, run_sizeOf' hz]
            rw [if_pos e]
            simp
          · simp [Instr.sliceAt, run_underlying' hu, Instr.slice, hbd, run_sizeOf' hz, e, add_off]
        · have hcc : cap - l = c - (sh + l) := by omega
          rw [hcc]
          refine .sliceU k2 (by show h - l + (sh + l) ≤ c; omega) (fun h0 => ?_)
          change off + l * z = 0 at h0
          show sh + l = 0
          have h1 := hz0 (by omega)
          rcases Nat.eq_zero_or_pos l with hh | hh
          · omega
          · have h2 := (hpos (by omega)).2
            have : 0 < l * z := Nat.mul_pos hh h2
            omega
    | some cap0 =>
      refine wa_rsv fun hc => ?_
      obtain ⟨hc1, hc2⟩ := band_eq hc
      have e1 := of_nble hc1
      have e2 := of_nble hc2
      cases hat : q.at_ with
      | none =>
        refine .val fun σ β a w hF _ => ?_
        have hlo : BndIs (lo.map a.eval) 0 l := (hl σ β N a hF).imp (fun h => ⟨by rw [h.1]; rfl, h.2⟩) id
        have hhi : BndIs (hi.map a.eval) q.len h := (hh σ β N a hF).imp (fun h => ⟨by rw [h.1]; rfl, h.2⟩) id
        rcases svSl_den hq (svSl_o hq (cO_o hF x)) with ⟨k1, k2, k3, hv⟩ | ⟨o, off, b, c, cap, k1, _⟩
        · rw [hcap] at k3; cases k3
          rw [k2] at hhi
          have hbd := bounds_ok (P := P) (isS := true) (len := 0) (cap := 0) hlo hhi e1 e2 w
          have : h = 0 := by omega
          have : l = 0 := by omega
          subst_vars
          rw [hv]
          exact ⟨.slice none 0 0, by simp [Instr.sliceAt, run_underlying' hu, Instr.slice, hbd, run_sizeOf' hz], .snil⟩
        · rw [hat] at k1; cases k1
      | some p =>
        show Rsv (forceN (bc (Nat.beq cap0 l) p.2 (Nat.add p.2 (Nat.mul l z))) fun off => forceN (Nat.sub h l) fun n => forceN (Nat.sub cap0 l) fun c => k (.slice p.1 off n c)) k _
        rw [forceN_eq, forceN_eq, forceN_eq]
        refine .val fun σ β a w hF _ => ?_
        have hlo : BndIs (lo.map a.eval) 0 l := (hl σ β N a hF).imp (fun h => ⟨by rw [h.1]; rfl, h.2⟩) id
        have hhi : BndIs (hi.map a.eval) q.len h := (hh σ β N a hF).imp (fun h => ⟨by rw [h.1]; rfl, h.2⟩) id
        rcases svSl_den hq (svSl_o hq (cO_o hF x)) with ⟨k1, _⟩ | ⟨o, off, b, c, cap, k1, k2, hv, k3, k4⟩
        · rw [hat] at k1; cases k1
        · rw [hat] at k1; cases k1
          have := k3 cap0 hcap
          subst this
          have hbd := bounds_ok (P := P) (isS := true) (len := q.len) (cap := cap) hlo hhi e1 e2 w
          rw [hv]
          by_cases e : cap = l
          · rw [nbeq_t e]
            refine ⟨.slice (some ⟨b, off, none⟩) (h - l) (cap - l), ?_, .slice (off := off) k2⟩
            simp only [Instr.sliceAt, Sem.run_bind, run_underlying' hu, Result.andThen_ok, Instr.slice, Sem.run_pure, hbd, run_sizeOf' hz]
            rw [if_pos e]
          · rw [nbeq_f e]
            refine ⟨.slice (some ⟨b, off + l * z, none⟩) (h - l) (cap - l), ?_, .slice (off := off + l * z) k2⟩
            simp [Instr.sliceAt, run_underlying' hu, Instr.slice, hbd, run_sizeOf' hz, e, add_off]

theorem pSlice_ok {P N} {t : TypeId} {x : Operand} {lo hi mx : Option Operand} {dst ty pos af g} : VPok P N ⟨dst, .slice t x lo hi mx, ty, pos, af, g⟩ (pSlice P t x lo hi mx) := by
  refine pw_ok fun hmx => ?_
  cases mx with
  | some _ => cases hmx
  | none =>
    have lift : ∀ {F : F3} {pc : PC} {k : SV → Ans} {y : Ans}, (Rsv y k fun r => ∀ σ β a w, RepF σ β N F a → pc.ok σ → ∃ u, (Instr.sliceAt t (a.eval x) (lo.map a.eval) (hi.map a.eval) none).run P w = .ok u w ∧ Den σ β r u) →
        Rsv y k (Yl P N ⟨dst, .slice t x lo hi none, ty, pos, af, g⟩ F pc) := fun h => h.imp fun r hr σ β a w hF hp => by
      obtain ⟨u, h1, h2⟩ := hr σ β a w hF hp
      exact ⟨u, by simp [execOp, h1], h2⟩
    cases ha : arrOf P t with
    | some ne =>
      refine po_ok fun z hz F pc k => lift (oa_rsv fun p hp => bLit_rsv fun l hl => bLit_rsv fun h hh => wa_rsv fun hc => ?_)
      obtain ⟨hc1, hc2⟩ := band_eq hc
      have e1 := of_nble hc1
      have e2 := of_nble hc2
      rw [forceN_eq, forceN_eq, forceN_eq]
      refine .val fun σ β a w hF _ => ?_
      have hlo : BndIs (lo.map a.eval) 0 l := (hl σ β N a hF).imp (fun h => ⟨by rw [h.1]; rfl, h.2⟩) id
      have hhi : BndIs (hi.map a.eval) ne.1 h := (hh σ β N a hF).imp (fun h => ⟨by rw [h.1]; rfl, h.2⟩) id
      have hd := svPtr_o hp (cO_o hF x)
      generalize a.eval x = v at hd
      cases hd with
      | ptr hb =>
        have hbd := bounds_ok (P := P) (isS := false) (len := ne.1) (cap := ne.1) hlo hhi e1 e2 w
        rename_i b c
        by_cases e : ne.1 = l
        · rw [nbeq_t e]
          refine ⟨.slice (some ⟨b, p.2, none⟩) (h - l) (ne.1 - l), ?_, .slice (off := p.2) hb⟩
          simp only [Instr.sliceAt, Sem.run_bind, run_underlying' (arrOf_some ha), Result.andThen_ok, Instr.sureAddr, Sem.run_pure, hbd, run_sizeOf' hz]
          rw [if_pos e]
        · rw [nbeq_f e]
          refine ⟨.slice (some ⟨b, p.2 + l * z, none⟩) (h - l) (ne.1 - l), ?_, .slice (off := p.2 + l * z) hb⟩
          simp [Instr.sliceAt, run_underlying' (arrOf_some ha), Instr.sureAddr, hbd, run_sizeOf' hz, e, add_off]
    | none =>
      cases hsl : sliOf P t with
      | some e => exact po_ok fun z hz F pc k => lift (slSl_rsv hsl hz)
      | none =>
        refine pw_ok fun hst F pc k => lift (oa_rsv fun b hb => bLit_rsv fun l hl => ?_)
        rw [forceN_eq]
        refine bLit_rsv fun h hh => wa_rsv fun hc => ?_
        rw [forceL_eq, takeR_eq, dropR_eq]
        obtain ⟨hc1, hc2⟩ := band_eq hc
        have e1 := of_nble hc1
        have e2 := of_nble hc2
        refine .val fun σ β a w hF _ => ?_
        have hlo : BndIs (lo.map a.eval) 0 l := (hl σ β N a hF).imp (fun h => ⟨by rw [h.1]; rfl, h.2⟩) id
        have hhi : BndIs (hi.map a.eval) (lenR b) h := (hh σ β N a hF).imp (fun h => ⟨by rw [h.1]; rfl, h.2⟩) id
        have hd := svStr_o hb (cO_o hF x)
        generalize a.eval x = v at hd
        cases hd with
        | str hb' =>
          rename_i bs
          have hlen : lenR b = bs.size := by rw [lenR_eq, hb'.length, byteVals_length]
          rw [hlen] at hhi e2
          have hbd := bounds_ok (P := P) (isS := false) (len := bs.size) (cap := bs.size) hlo hhi e1 e2 w
          refine ⟨.string (bs.extract l h), by simp [Instr.sliceAt, run_underlying' (isStrT_some hst), Instr.slice, hbd], .str ?_⟩
          have : byteVals (bs.extract l h) = ((byteVals bs).drop l).take (h - l) := by
            unfold byteVals
            rw [ByteArray.data_extract, Array.toList_extract]
            simp [List.extract, List.map_drop, List.map_take]
          rw [this]
          exact (hb'.drop l).take (h - l)

/-! ### min and max -/
/-- A condition, decided where that can be. -/
noncomputable def dcT (pc : PC) (c : Tm) : Tm := forceN (decT pc (redT pc.subs c)) fun d => bc (Nat.beq d 1) (.lit 1) (bc (Nat.beq d 0) (.lit 0) c)
theorem dcT_ev {σ} {pc : PC} (h : pc.ok σ) (c : Tm) : (dcT pc c).ev σ = 0 ↔ c.ev σ = 0 := by
  unfold dcT
  rw [forceN_eq]
  have hd := decT_ok h (t := redT pc.subs c)
  unfold Vok at hd
  rw [redT_ev h.2.1] at hd
  cases h1 : Nat.beq (decT pc (redT pc.subs c)) 1
  · cases h0 : Nat.beq (decT pc (redT pc.subs c)) 0
    · exact Iff.rfl
    · exact ⟨fun _ => hd.2 (of_nbeq h0), fun _ => rfl⟩
  · exact ⟨fun e => absurd e Nat.one_ne_zero, fun e => absurd e (hd.1 (of_nbeq h1))⟩
noncomputable def mm (pc : PC) (mx : Bool) (k : IntKind) (x y : Tm) : Tm := bc mx (mkIte (dcT pc (ltT k x y)) y x) (mkIte (dcT pc (ltT k y x)) y x)
noncomputable def mmK (pc : PC) (mx : Bool) (kd : IntKind) (x y : Tm) (k : Tm → Ans) : Ans := bc mx (ltK kd x y fun c => forceT (dcT pc c) fun c => mkI c y x k) (ltK kd y x fun c => forceT (dcT pc c) fun c => mkI c y x k)
theorem mmK_eq (pc : PC) (mx : Bool) (kd : IntKind) (x y : Tm) (k : Tm → Ans) : mmK pc mx kd x y k = k (mm pc mx kd x y) := by
  unfold mmK mm
  cases mx
  · show ltK kd y x (fun c => forceT (dcT pc c) fun c => mkI c y x k) = _; rw [ltK_eq, forceT_eq, mkI_eq]
  · show ltK kd x y (fun c => forceT (dcT pc c) fun c => mkI c y x k) = _; rw [ltK_eq, forceT_eq, mkI_eq]
theorem mm_ok {P : Program} {σ} {pc : PC} (hp : pc.ok σ) (mx : Bool) (k : IntKind) {x y : Tm} (hx : x.ev σ < 2 ^ k.bits) (hy : y.ev σ < 2 ^ k.bits) (w : World) :
    ((bc mx Builtin.max2 Builtin.min2) (.int k (ofB k (x.ev σ))) (.int k (ofB k (y.ev σ)))).run P w = .ok (.int k (ofB k ((mm pc mx k x y).ev σ))) w ∧ (mm pc mx k x y).ev σ < 2 ^ k.bits := by
  have dc : ∀ c : Tm, ∀ a b : Nat, (if (dcT pc c).ev σ = 0 then a else b) = (if c.ev σ = 0 then a else b) := fun c a b => by
    by_cases e : c.ev σ = 0
    · rw [if_pos e, if_pos ((dcT_ev hp c).2 e)]
    · rw [if_neg e, if_neg fun h => e ((dcT_ev hp c).1 h)]
  cases mx
  · show (Builtin.min2 _ _).run P w = .ok (.int k (ofB k ((mkIte (dcT pc (ltT k y x)) y x).ev σ))) w ∧ (mkIte (dcT pc (ltT k y x)) y x).ev σ < _
    rw [mkIte_ev, dc, ltT_ev hy hx]
    by_cases e : ofB k (y.ev σ) < ofB k (x.ev σ)
    · simp [e, Builtin.min2, hy]
    · simp [e, Builtin.min2, hx]
  · show (Builtin.max2 _ _).run P w = .ok (.int k (ofB k ((mkIte (dcT pc (ltT k x y)) y x).ev σ))) w ∧ (mkIte (dcT pc (ltT k x y)) y x).ev σ < _
    rw [mkIte_ev, dc, ltT_ev hx hy]
    by_cases e : ofB k (x.ev σ) < ofB k (y.ev σ)
    · have : ofB k (y.ev σ) > ofB k (x.ev σ) := e
      simp [Builtin.max2, this, hy]
    · have : ¬ ofB k (y.ev σ) > ofB k (x.ev σ) := e
      simp [Builtin.max2, this, hx]
noncomputable def mmL (pc : PC) (mx : Bool) (kd : IntKind) (ys : List GO) : F3 → Tm → (SV → Ans) → Ans :=
  List.rec (motive := fun _ => F3 → Tm → (SV → Ans) → Ans) (fun _ t k => k (.int kd t)) (fun y _ ih F t k => oa 103 (svInt (y.g F)) fun j => wa 104 (Nat.beq kd.ctorIdx j.1.ctorIdx) (forceT (redT pc.subs j.2) fun jt => mmK pc mx kd t jt fun t => ih F t k)) ys
noncomputable def pMM (mx : Bool) (xs : List Operand) : VP :=
  List.rec (pbad 105) (fun x r _ => ⟨fun F pc k => oa 103 (svInt ((cO x).g F)) fun i => forceT (redT pc.subs i.2) fun it => mmL pc mx i.1 (cOs r) F it k⟩) xs
theorem pMM_rsv {P : Program} {N : Nat} {pc : PC} (mx : Bool) : ∀ (xs : List Operand) (F : F3) (kd : IntKind) (t : Tm) (k : SV → Ans),
    Rsv (mmL pc mx kd (cOs xs) F t k) k fun r => ∀ σ β a w, pc.ok σ → RepF σ β N F a → t.ev σ < 2 ^ kd.bits → ∃ u, ((xs.map a.eval).foldlM (bc mx Builtin.max2 Builtin.min2) (.int kd (ofB kd (t.ev σ)))).run P w = .ok u w ∧ Den σ β r u
  | [], F, kd, t, k => .val fun σ β a w _ _ ht => ⟨_, by simp only [List.map_nil, List.foldlM_nil, Sem.run_pure], .int ht⟩
  | y :: ys, F, kd, t, k => by
    show Rsv (oa 103 (svInt ((cO y).g F)) fun j => wa 104 (Nat.beq kd.ctorIdx j.1.ctorIdx) (forceT (redT pc.subs j.2) fun jt => mmK pc mx kd t jt fun t => mmL pc mx kd (cOs ys) F t k)) k _
    refine oa_rsv fun j hj => wa_rsv fun hk => ?_
    rw [forceT_eq, mmK_eq]
    refine (pMM_rsv (P := P) (N := N) mx ys F kd (mm pc mx kd t (redT pc.subs j.2)) k).imp fun r hr σ β a w hp hF ht => ?_
    obtain ⟨hv, hl⟩ := (svInt_o hj (cO_o hF y)).int_inv
    have hkk := kind_idx (of_nbeq hk)
    rw [← hkk] at hl hv
    have hred : (redT pc.subs j.2).ev σ = j.2.ev σ := redT_ev hp.2.1 _
    rw [← hred] at hl hv
    obtain ⟨m1, m2⟩ := mm_ok (P := P) (σ := σ) hp mx kd ht hl w
    obtain ⟨u, n1, n2⟩ := hr σ β a w hp hF m2
    refine ⟨u, ?_, n2⟩
    rw [List.map_cons, List.foldlM_cons, Sem.run_bind, hv, m1]
    exact n1
theorem pMM_ok {P N} (mx : Bool) {args : Array Operand} {ats : Array TypeId} {dst ty pos af g} : VPok P N ⟨dst, .call ⟨.builtin (bc mx .max .min), args, ats⟩, ty, pos, af, g⟩ (pMM mx args.toList) := by
  cases hargs : args.toList with
  | nil => exact pbad_ok
  | cons x xs =>
    intro F pc k
    show Rsv (oa 103 (svInt ((cO x).g F)) fun i => forceT (redT pc.subs i.2) fun it => mmL pc mx i.1 (cOs xs) F it k) k _
    refine oa_rsv fun i hi => ?_
    rw [forceT_eq]
    refine (pMM_rsv (P := P) (N := N) mx xs F i.1 (redT pc.subs i.2) k).imp fun r hr σ β a w hF hp => ?_
    obtain ⟨hv, hl⟩ := (svInt_o hi (cO_o hF x)).int_inv
    have hred : (redT pc.subs i.2).ev σ = i.2.ev σ := redT_ev hp.2.1 _
    rw [← hred] at hl hv
    obtain ⟨u, h1, h2⟩ := hr σ β a w hp hF hl
    refine ⟨u, ?_, h2⟩
    have hm : args.map a.eval = (a.eval x :: xs.map a.eval).toArray := by
      apply Array.ext'; simp [hargs]
    rw [← hv] at h1
    cases mx
    · have h1' : (Builtin.min_ ats ty (a.eval x :: xs.map a.eval).toArray).run P w = .ok u w := h1
      simp [execOp, resolve, invoke, builtin, hm, h1']
    · have h1' : (Builtin.max_ ats ty (a.eval x :: xs.map a.eval).toArray).run P w = .ok u w := h1
      simp [execOp, resolve, invoke, builtin, hm, h1']

noncomputable def bIdx (b : Builtin) : Nat := b.ctorIdx
theorem builtin_idx {a b : Builtin} (h : a.ctorIdx = b.ctorIdx) : a = b := by cases a <;> cases b <;> first | rfl | (simp [Builtin.ctorIdx] at h)
noncomputable def pLen (P : Program) (args : List Operand) (ats : Array TypeId) : VP := List.rec (pbad 106) (fun x r _ => List.rec (po 107 (ats[0]?) fun t => p1 (cLen P t) (cO x)) (fun _ _ _ => pbad 106) r) args
theorem pLen_ok {P N} {args : Array Operand} {ats : Array TypeId} {dst ty pos af g} : VPok P N ⟨dst, .call ⟨.builtin .len, args, ats⟩, ty, pos, af, g⟩ (pLen P args.toList ats) := by
  cases hargs : args.toList with
  | nil => exact pbad_ok
  | cons x xs =>
    cases xs with
    | cons _ _ => exact pbad_ok
    | nil =>
      refine po_ok fun t ht => p1_ok (cLen_ok P t ats ht ty) fun ρ => ?_
      have hm : args.map ρ = #[ρ x] := by apply Array.ext'; simp [hargs]
      simp only [execOp, resolve, invoke, builtin, hm, pure_bind]

/-! ### Slices with a bound of what they may grow to -/
/-- A sum of a term and another. -/
noncomputable def addOf (t x : Tm) : Option Tm :=
  Tm.rec (fun _ => none) (fun _ _ => none) (fun _ _ _ _ => none) (fun o w a b _ _ => bc (band (Nat.beq o.code 1) (Nat.beq w 64)) (bc (Tm.same a x) (some b) (bc (Tm.same b x) (some a) none)) none) (fun _ _ _ _ _ _ => none) (fun _ _ _ _ => none) t
theorem addOf_ok {σ : Nat → Nat} {t x n : Tm} (h : addOf t x = some n) : t.ev σ = (x.ev σ + n.ev σ) % 2 ^ 64 := by
  cases t with
  | bin o w a b =>
    change bc (band (Nat.beq o.code 1) (Nat.beq w 64)) (bc (Tm.same a x) (some b) (bc (Tm.same b x) (some a) none)) none = some n at h
    cases hc : band (Nat.beq o.code 1) (Nat.beq w 64)
    · rw [hc] at h; cases h
    · rw [hc] at h
      obtain ⟨h1, h2⟩ := band_eq hc
      have h1 := O2.code_inj (b := .add) (of_nbeq h1)
      have h2 := of_nbeq h2
      subst h1; subst h2
      change bc (Tm.same a x) (some b) (bc (Tm.same b x) (some a) none) = some n at h
      cases ha : Tm.same a x
      · rw [ha] at h
        change bc (Tm.same b x) (some a) none = some n at h
        cases hb : Tm.same b x
        · rw [hb] at h; cases h
        · rw [hb] at h; cases h
          rw [← Tm.same_eq hb, Nat.add_comm]; rfl
      · rw [ha] at h; cases h
        rw [← Tm.same_eq ha]; rfl
  | _ => cases h
theorem bounds3_ok {P : Program} {isS : Bool} {kl kh km : IntKind} {len cap l h m : Nat} (h1 : l ≤ h) (h2 : h ≤ m) (h3 : m ≤ cap) (w : World) :
    (Instr.sliceBounds isS len cap (some (.int kl (l : Int))) (some (.int kh (h : Int))) (some (.int km (m : Int)))).run P w = .ok (l, h, m) w := by
  unfold Instr.sliceBounds
  have a1 := fun code => bound_ok (P := P) (kd := km) h3 code w
  have a2 := fun code => bound_ok (P := P) (kd := kh) h2 code w
  have a3 := fun code => bound_ok (P := P) (kd := kl) h1 code w
  simp [a1, a2, a3]
noncomputable def uns (s : SV) : Option Tm := ob (svInt s) fun x => ow (Bool.not x.1.signed) (some x.2)
theorem uns_ok {σ β} {s : SV} {t : Tm} (h : uns s = some t) {v : Value} (hd : DenO σ β s v) : ∃ k, v = .int k (t.ev σ : Int) := by
  obtain ⟨x, hx, h⟩ := ob_some h
  obtain ⟨hc, h⟩ := ow_some h
  cases h
  obtain ⟨rfl, hl⟩ := (svInt_o hx hd).int_inv
  refine ⟨x.1, ?_⟩
  rw [ofB_unsigned (by cases hs : x.1.signed; rfl; rw [hs] at hc; cases hc) hl]
noncomputable def sl3T (pc : PC) (s l h m : SV) (k : SV → Ans) : Ans :=
  oa 280 (svSl s) fun q => oa 281 q.at_ fun p => oa 282 q.cap fun cap => oa 283 (uns l) fun x => oa 283 (uns h) fun t => oa 283 (uns m) fun t' => wa 284 (Tm.same t t') (oa 285 (addOf t x) fun n =>
    wa 286 (band (Nat.beq (decT pc (.bin .ult 64 (.lit cap) x)) 0) (band (Nat.beq (decT pc (.bin .ult 64 (.bin .sub 64 (.lit cap) x) n)) 0) (Nat.blt (Nat.add p.2 cap) 9223372036854775808)))
      (k (.sliceT p.1 1 (mkIte (mkBin .eq 64 n (.lit 0)) (.lit p.2) (bc (Nat.beq p.2 0) x (mkBin .add 64 (.lit p.2) x))) n n)))
noncomputable def sl3L (z : Nat) (s : SV) (l h m : Nat) (k : SV → Ans) : Ans :=
  oa 280 (svSl s) fun q => oa 281 q.at_ fun p => oa 282 q.cap fun cap => wa 287 (band (Nat.ble l h) (band (Nat.ble h m) (Nat.ble m cap)))
    (forceN (bc (Nat.beq m l) p.2 (Nat.add p.2 (Nat.mul l z))) fun off => forceN (Nat.sub h l) fun n => forceN (Nat.sub m l) fun c => k (.slice p.1 off n c))
noncomputable def sl3 (z : Nat) (pc : PC) (s l h m : SV) (k : SV → Ans) : Ans :=
  Option.rec (motive := fun _ => Ans) (wa 288 (Nat.beq z 1) (sl3T pc s l h m k)) (fun l' => oa 289 (ixLit h) fun h' => oa 289 (ixLit m) fun m' => sl3L z s l' h' m' k) (ixLit l)
noncomputable def pSlice3 (P : Program) (t : TypeId) (x lo hi mx : Operand) : VP :=
  po 290 (sliOf P t) fun e => po 291 (szOf P e) fun z => ⟨fun F pc k => sl3 z pc ((cO x).g F) ((cO lo).g F) ((cO hi).g F) ((cO mx).g F) k⟩
theorem pSlice3_ok {P N} {t : TypeId} {x lo hi mx : Operand} {dst ty pos af g} : VPok P N ⟨dst, .slice t x (some lo) (some hi) (some mx), ty, pos, af, g⟩ (pSlice3 P t x lo hi mx) := by
  refine po_ok fun e he => po_ok fun z hz F pc k => ?_
  have hu := sliOf_some he
  have lift : ∀ {y : Ans}, (Rsv y k fun r => ∀ σ β a w, RepF σ β N F a → pc.ok σ → ∃ u, (Instr.sliceAt t (a.eval x) (some (a.eval lo)) (some (a.eval hi)) (some (a.eval mx))).run P w = .ok u w ∧ Den σ β r u) →
      Rsv y k (Yl P N ⟨dst, .slice t x (some lo) (some hi) (some mx), ty, pos, af, g⟩ F pc) := fun h => h.imp fun r hr σ β a w hF hp => by
    obtain ⟨u, h1, h2⟩ := hr σ β a w hF hp
    exact ⟨u, by simp [execOp, h1], h2⟩
  refine lift ?_
  show Rsv (sl3 z pc _ _ _ _ k) k _
  unfold sl3
  cases hl : ixLit ((cO lo).g F) with
  | none =>
    refine wa_rsv fun hz1 => oa_rsv fun q hq => oa_rsv fun p hp => oa_rsv fun cap hcap => oa_rsv fun x' hx => oa_rsv fun t1 ht => oa_rsv fun t2 ht2 => wa_rsv fun hsame => oa_rsv fun n hn => wa_rsv fun hc => ?_
    have hz1 := of_nbeq hz1
    subst hz1
    obtain ⟨c1, c2⟩ := band_eq hc
    obtain ⟨c2, c3⟩ := band_eq c2
    have hsame := Tm.same_eq hsame
    subst hsame
    refine .val fun σ β a w hF hpc => ?_
    obtain ⟨kl, hvl⟩ := uns_ok hx (cO_o hF lo)
    obtain ⟨kh, hvh⟩ := uns_ok ht (cO_o hF hi)
    obtain ⟨km, hvm⟩ := uns_ok ht2 (cO_o hF mx)
    have d1 : x'.ev σ ≤ cap := by
      have := (decT_ok hpc (t := .bin .ult 64 (.lit cap) x')).2 (of_nbeq c1)
      change b2n (Nat.blt cap (x'.ev σ)) = 0 at this
      rcases Nat.lt_or_ge cap (x'.ev σ) with hh | hh
      · rw [nblt_t hh] at this; cases this
      · exact hh
    have c3 : p.2 + cap < 9223372036854775808 := of_nblt c3
    have d2 : n.ev σ ≤ cap - x'.ev σ := by
      have := (decT_ok hpc (t := .bin .ult 64 (.bin .sub 64 (.lit cap) x') n)).2 (of_nbeq c2)
      change b2n (Nat.blt ((cap + (2 ^ 64 - x'.ev σ % 2 ^ 64)) % 2 ^ 64) (n.ev σ)) = 0 at this
      rw [Nat.mod_eq_of_lt (show x'.ev σ < 2 ^ 64 by omega), show cap + (2 ^ 64 - x'.ev σ) = (cap - x'.ev σ) + 2 ^ 64 by omega, Nat.add_mod_right, Nat.mod_eq_of_lt (by omega)] at this
      rcases Nat.lt_or_ge (cap - x'.ev σ) (n.ev σ) with hh | hh
      · rw [nblt_t hh] at this; cases this
      · exact hh
    have d3 : t1.ev σ = x'.ev σ + n.ev σ := by rw [addOf_ok hn, Nat.mod_eq_of_lt (by omega)]
    rcases svSl_den hq (svSl_o hq (cO_o hF x)) with ⟨k1, _⟩ | ⟨o, off, b, c, cap', k1, k2, hv, k3, k4⟩
    · rw [k1] at hp; cases hp
    · rw [k1] at hp; cases hp
      have hcc := k3 cap hcap
      subst hcc
      have hbd := bounds3_ok (P := P) (isS := true) (kl := kl) (kh := kh) (km := km) (len := q.len) (cap := cap') (l := x'.ev σ) (h := t1.ev σ) (m := t1.ev σ) (by omega) (Nat.le_refl _) (by omega) w
      have hi' : (mkIte (mkBin .eq 64 n (.lit 0)) (.lit off) (bc (Nat.beq off 0) x' (mkBin .add 64 (.lit off) x'))).ev σ = if n.ev σ = 0 then off else off + x'.ev σ := by
        rw [mkIte_ev, mkBin_ev]
        show (if b2n (Nat.beq (n.ev σ) 0) = 0 then (bc (Nat.beq off 0) x' (mkBin .add 64 (.lit off) x')).ev σ else off) = _
        have e2 : (bc (Nat.beq off 0) x' (mkBin .add 64 (.lit off) x')).ev σ = off + x'.ev σ := by
          by_cases e0 : off = 0
          · subst e0; rw [nbeq_t rfl]; show x'.ev σ = _; omega
          · rw [nbeq_f e0]
            show (mkBin .add 64 (.lit off) x').ev σ = _
            rw [mkBin_ev]
            show (off + x'.ev σ) % 2 ^ 64 = _
            rw [Nat.mod_eq_of_lt (by omega)]
        rw [e2]
        by_cases e0 : n.ev σ = 0
        · rw [nbeq_t e0, if_pos e0]; rfl
        · rw [nbeq_f e0, if_neg e0]; rfl
      refine ⟨.slice (some ⟨b, if n.ev σ = 0 then off else off + x'.ev σ, none⟩) (n.ev σ) (n.ev σ), ?_, ?_⟩
      · rw [hv, hvl, hvh, hvm]
        simp only [Instr.sliceAt, Sem.run_bind, run_underlying' hu, Result.andThen_ok, Instr.slice, hbd, run_sizeOf' hz, Sem.run_pure]
        have e3 : t1.ev σ - x'.ev σ = n.ev σ := by omega
        rw [e3]
        by_cases e0 : n.ev σ = 0
        · rw [if_pos (show t1.ev σ = x'.ev σ by omega), if_pos e0]
        · rw [if_neg (show ¬ t1.ev σ = x'.ev σ by omega), if_neg e0]
          simp [add_off]
      · have := Den.sliceT (σ := σ) (β := β) (k := .u8) (o := o) (z := 1) (t := mkIte (mkBin .eq 64 n (.lit 0)) (.lit off) (bc (Nat.beq off 0) x' (mkBin .add 64 (.lit off) x'))) (u := n) (c := n) (l := []) k2 (Nat.le_refl _) (by show n.ev σ < 2 ^ 63; omega)
        rw [hi', show ∀ m, offB [] c + m = m from fun m => Nat.zero_add m] at this
        exact this
  | some l' =>
    refine oa_rsv fun h' hh => oa_rsv fun m' hm => oa_rsv fun q hq => oa_rsv fun p hp => oa_rsv fun cap hcap => wa_rsv fun hc => ?_
    obtain ⟨g1, g⟩ := band_eq hc
    obtain ⟨g2, g3⟩ := band_eq g
    have c1 : l' ≤ h' := of_nble g1
    have c2 : h' ≤ m' := of_nble g2
    have c3 : m' ≤ cap := of_nble g3
    rw [forceN_eq, forceN_eq, forceN_eq]
    refine .val fun σ β a w hF hpc => ?_
    obtain ⟨kl, hvl⟩ := ixLit_ok hl (cO_o hF lo)
    obtain ⟨kh, hvh⟩ := ixLit_ok hh (cO_o hF hi)
    obtain ⟨km, hvm⟩ := ixLit_ok hm (cO_o hF mx)
    rcases svSl_den hq (svSl_o hq (cO_o hF x)) with ⟨k1, _⟩ | ⟨o, off, b, c, cap', k1, k2, hv, k3, k4⟩
    · rw [k1] at hp; cases hp
    · rw [k1] at hp; cases hp
      have hcc := k3 cap hcap
      subst hcc
      have hbd := bounds3_ok (P := P) (isS := true) (kl := kl) (kh := kh) (km := km) (len := q.len) (cap := cap') c1 c2 c3 w
      by_cases e0 : m' = l'
      · rw [nbeq_t e0]
        refine ⟨.slice (some ⟨b, off, none⟩) (h' - l') (m' - l'), ?_, .slice k2⟩
        rw [hv, hvl, hvh, hvm]
        simp only [Instr.sliceAt, Sem.run_bind, run_underlying' hu, Result.andThen_ok, Instr.slice, hbd, run_sizeOf' hz, Sem.run_pure]
        rw [if_pos e0]
      · rw [nbeq_f e0]
        refine ⟨.slice (some ⟨b, off + l' * z, none⟩) (h' - l') (m' - l'), ?_, .slice k2⟩
        rw [hv, hvl, hvh, hvm]
        simp only [Instr.sliceAt, Sem.run_bind, run_underlying' hu, Result.andThen_ok, Instr.slice, hbd, run_sizeOf' hz, Sem.run_pure]
        rw [if_neg e0]
        simp [add_off]
noncomputable def pSliceA (P : Program) (t : TypeId) (x : Operand) (lo hi mx : Option Operand) : VP :=
  Option.rec (pSlice P t x lo hi none) (fun m => Option.rec (pbad 292) (fun h => Option.rec (pbad 292) (fun l => pSlice3 P t x l h m) lo) hi) mx
theorem pSliceA_ok {P N} {t : TypeId} {x : Operand} {lo hi mx : Option Operand} {dst ty pos af g} : VPok P N ⟨dst, .slice t x lo hi mx, ty, pos, af, g⟩ (pSliceA P t x lo hi mx) := by
  cases mx with
  | none => exact pSlice_ok
  | some m => cases hi with
    | none => exact pbad_ok
    | some h => cases lo with
      | none => exact pbad_ok
      | some l => exact pSlice3_ok

/-- Operations that give a value in every world. -/
noncomputable def cPure (P : Program) (o : Op) : Option VP :=
  match o with
  | .move x => some (pMove (cO x))
  | .assign x => some (pMove (cO x))
  | .pick c a b => some (pPick (cO c) (cO a) (cO b))
  | .build t ps => some (pBuild P t ps.toList)
  | .nilCheck x => some (pNil (cO x))
  | .binOp op t x y _ => some (pBin P op t x y)
  | .unOp op _ x => some (p1 (cUn op) (cO x))
  | .convert s d x => Option.rec none (fun _ => some (p1 (cConvert P s d) (cO x))) (intOfT P d)
  | .makeFunc fn a b => some (pMakeFunc fn a b)
  | .fieldAddr t x f => some (p1 (cFieldAddr P t f) (cO x))
  | .field t x f => some (p1 (cField P t f) (cO x))
  | .extract x i => some (p1 (cExtract i) (cO x))
  | .slice t x lo hi mx => some (pSliceA P t x lo hi mx)
  | .call ⟨.builtin b, args, ats⟩ => bc (Nat.beq b.ctorIdx Builtin.len.ctorIdx) (some (pLen P args.toList ats)) (bc (Nat.beq b.ctorIdx Builtin.max.ctorIdx) (some (pMM true args.toList)) (bc (Nat.beq b.ctorIdx Builtin.min.ctorIdx) (some (pMM false args.toList)) none))
  | _ => none
theorem cPure_ok {P N} {o : Oper} {h : VP} (hc : cPure P o.op = some h) : VPok P N o h := by
  obtain ⟨dst, op, ty, pos, af, g⟩ := o
  unfold cPure at hc
  split at hc
  · rename_i x he; change op = _ at he; subst he; cases hc; exact pMove_ok fun _ => rfl
  · rename_i x he; change op = _ at he; subst he; cases hc; exact pMove_ok fun _ => rfl
  · rename_i he; change op = _ at he; subst he; cases hc; exact pPick_ok
  · rename_i he; change op = _ at he; subst he; cases hc; exact pBuild_ok
  · rename_i he; change op = _ at he; subst he; cases hc; exact pNil_ok
  · rename_i he; change op = _ at he; subst he; cases hc; exact pBin_ok
  · rename_i op' t x he; change op = _ at he; subst he; cases hc; exact p1_ok (cUn_ok P op') fun _ => rfl
  · rename_i s d x he; change op = _ at he; subst he
    cases hi : intOfT P d with
    | none => rw [hi] at hc; cases hc
    | some k => rw [hi] at hc; cases hc; exact p1_ok (cConvert_ok P s d) fun _ => rfl
  · rename_i he; change op = _ at he; subst he; cases hc; exact pMakeFunc_ok
  · rename_i t x f he; change op = _ at he; subst he; cases hc; exact p1_ok (cFieldAddr_ok P t f) fun _ => rfl
  · rename_i t x f he; change op = _ at he; subst he; cases hc; exact p1_ok (cField_ok P t f) fun _ => rfl
  · rename_i x i he; change op = _ at he; subst he; cases hc; exact p1_ok (cExtract_ok P i) fun _ => rfl
  · rename_i he; change op = _ at he; subst he; cases hc; exact pSliceA_ok
  · rename_i b args ats he; change op = _ at he; subst he
    cases h1 : Nat.beq b.ctorIdx Builtin.len.ctorIdx
    · rw [h1] at hc
      cases h2 : Nat.beq b.ctorIdx Builtin.max.ctorIdx
      · rw [h2] at hc
        cases h3 : Nat.beq b.ctorIdx Builtin.min.ctorIdx
        · rw [h3] at hc; cases hc
        · rw [h3] at hc; cases hc
          have := builtin_idx (of_nbeq h3); subst this
          exact pMM_ok false
      · rw [h2] at hc; cases hc
        have := builtin_idx (of_nbeq h2); subst this
        exact pMM_ok true
    · rw [h1] at hc; cases hc
      have := builtin_idx (of_nbeq h1); subst this
      exact pLen_ok
  · cases hc

end Go.Sy
end

section
/- Memory: reading, writing, new objects. -/
namespace Go.Sy
open Go.RowKit

/-- The cells that are known of an object. -/
noncomputable def obCells (ob : SObj) : Option (List SV) := SObj.rec (fun cs _ => some cs) (fun cs _ _ => some cs) (fun _ => none) (fun _ _ _ => none) (fun _ _ _ _ => none) (fun _ => none) (fun _ _ => none) (fun cs => some cs) ob
noncomputable def cellsOb (st : St) (o : Nat) : Option (List SV) := Option.rec none (fun he => obCells he.ob) (st.hp.get o)
theorem cellsOb_ok {M σ w0 β} {st : St} {w : World} (h : Rep M σ w0 β st w) {o : Nat} {cs : List SV} (hc : cellsOb st o = some cs) {b c : Nat} (hb : β o = some (b, c)) :
    ∃ vs, DenL σ β cs vs ∧ ∀ j v, vs[j]? = some v → w.cell? (⟨b, j, none⟩ : Addr) = some v := by
  unfold cellsOb at hc
  cases hg : st.hp.get o with
  | none => rw [hg] at hc; cases hc
  | some he =>
    rw [hg] at hc
    obtain ⟨ob, ro⟩ := he
    obtain ⟨b1, c1, x, h1, h2, h3, _⟩ := h.heap o _ hg
    rw [hb] at h1; simp at h1; obtain ⟨rfl, rfl⟩ := h1
    cases ob with
    | cells cs0 e =>
      cases hc
      cases h3 with
      | cells hd => exact ⟨_, hd, fun j v hj => by simp only [World.cell?, h2]; simpa using hj⟩
    | grown cs0 e z =>
      cases hc
      cases h3 with
      | grown hd hcz =>
        refine ⟨_, hd, fun j v hj => ?_⟩
        have hlt := (List.getElem?_eq_some_iff.1 hj).1
        simp only [World.cell?, h2]
        simp [List.getElem?_append_left hlt, hj]
    | map _ => cases hc
    | iter _ _ _ => cases hc
    | sym _ _ _ _ => cases hc
    | imap _ => cases hc
    | siter _ _ => cases hc
    | tab cs0 =>
      cases hc
      cases h3 with
      | tab hd hcs => exact ⟨_, hd, fun j v hj => by simp only [World.cell?, h2]; simpa using hcs j v hj⟩

/-! ### Cells of a variable's row -/
noncomputable def symS (k : Option IntKind) (b : Nat) (i : Tm) : SV := Option.rec (.bool (.app b 1 i)) (fun kd => .int kd (.app b kd.bits i)) k
theorem symS_ok {σ β} (k : Option IntKind) (b : Nat) (i : Tm) : Den σ β (symS k b i) (symCell σ b (i.ev σ) k) := by
  cases k with
  | none =>
    have := Den.bool' (σ := σ) (β := β) (t := .app b 1 i) (by rw [ev_app]; have := Nat.mod_lt (σ (appAt b (i.ev σ))) (Nat.two_pow_pos 1); omega)
    rw [ev_app] at this; exact this
  | some kd =>
    have := Den.int' (σ := σ) (β := β) (k := kd) (t := .app b kd.bits i) (by rw [ev_app]; exact mod_lt' _ _)
    rw [ev_app] at this; exact this
noncomputable def symL (fs : List (Option IntKind)) (i : Tm) : Nat → (List SV → Ans) → Ans :=
  List.rec (motive := fun _ => Nat → (List SV → Ans) → Ans) (fun _ k => k []) (fun f _ ih b k => forceN b fun b => ih (Nat.succ b) fun l => k (symS f b i :: l)) fs
noncomputable def symR (fs : List (Option IntKind)) (i : Tm) : Nat → List SV := List.rec (motive := fun _ => Nat → List SV) (fun _ => []) (fun f _ ih b => symS f b i :: ih (Nat.succ b)) fs
theorem symL_eq (fs : List (Option IntKind)) (i : Tm) : ∀ (b : Nat) (k : List SV → Ans), symL fs i b k = k (symR fs i b) := by
  induction fs with
  | nil => intro b k; rfl
  | cons f fs ih =>
    intro b k
    show (forceN b fun b => symL fs i (Nat.succ b) fun l => k (symS f b i :: l)) = _
    rw [forceN_eq, ih]; rfl
theorem symR_get (i : Tm) : ∀ (fs : List (Option IntKind)) (b j : Nat), (symR fs i b)[j]? = (fs[j]?).map fun f => symS f (b + j) i
  | [], b, j => by simp [symR]
  | f :: fs, b, 0 => by show some (symS f b i) = _; simp
  | f :: fs, b, j + 1 => by
    show (symR fs i (b + 1))[j]? = _
    rw [symR_get i fs (b + 1) j]
    simp only [List.getElem?_cons_succ]
    rw [show b + 1 + j = b + (j + 1) by omega]

/-- A variable that is said to be this term. -/
noncomputable def eqApp (t : Tm) (f : Tm) : Option Tm :=
  Tm.rec (fun _ => none) (fun _ _ => none) (fun _ _ _ _ => none) (fun o _ a b _ _ => bc (Nat.beq o.code 10) (Tm.rec (fun _ => none) (fun _ _ => bc (Tm.same b t) (some a) none) (fun _ _ _ _ => none) (fun _ _ _ _ _ _ => none) (fun _ _ _ _ _ _ => none) (fun _ _ _ _ => none) a) none) (fun _ _ _ _ _ _ => none) (fun _ _ _ _ => none) f
theorem eqApp_ok {σ : Nat → Nat} {t f x : Tm} (h : eqApp t f = some x) (hf : f.ev σ ≠ 0) : x.ev σ = t.ev σ := by
  cases f with
  | bin o w a b =>
    change bc (Nat.beq o.code 10) (Tm.rec (fun _ => none) (fun _ _ => bc (Tm.same b t) (some a) none) (fun _ _ _ _ => none) (fun _ _ _ _ _ _ => none) (fun _ _ _ _ _ _ => none) (fun _ _ _ _ => none) a) none = some x at h
    cases h1 : Nat.beq o.code 10
    · rw [h1] at h; cases h
    · rw [h1] at h
      have h1 := O2.code_inj (b := .eq) (of_nbeq h1)
      subst h1
      cases a with
      | var i w' =>
        change bc (Tm.same b t) (some (.var i w')) none = some x at h
        cases h2 : Tm.same b t
        · rw [h2] at h; cases h
        · rw [h2] at h; cases h
          rw [← Tm.same_eq h2]
          change b2n (Nat.beq ((Tm.var i w').ev σ) (b.ev σ)) ≠ 0 at hf
          by_cases e : (Tm.var i w').ev σ = b.ev σ
          · exact e
          · rw [nbeq_f e] at hf; exact absurd rfl hf
      | _ => cases h
  | _ => cases h
noncomputable def appVar (t : Tm) (l : List Tm) : Option Tm := List.rec none (fun f _ ih => Option.rec ih (fun x => some x) (eqApp t f)) l
theorem appVar_ok {σ : Nat → Nat} {t x : Tm} : ∀ {l : List Tm}, (∀ f ∈ l, f.ev σ ≠ 0) → appVar t l = some x → x.ev σ = t.ev σ
  | [], _, h => by cases h
  | f :: l, hl, h => by
    change Option.rec (appVar t l) (fun x => some x) (eqApp t f) = some x at h
    cases he : eqApp t f with
    | none => rw [he] at h; exact appVar_ok (fun g hg => hl g (List.mem_cons_of_mem _ hg)) h
    | some y => rw [he] at h; cases h; exact eqApp_ok he (hl f List.mem_cons_self)
noncomputable def vaS (pc : PC) (s : SV) : SV := Option.rec s (fun x => .mk s.1 s.2 s.3 s.4 x s.6 s.7 s.8) (appVar s.5 pc.facts)
noncomputable def vaL (pc : PC) (cs : List SV) : (List SV → Ans) → Ans := List.rec (motive := fun _ => (List SV → Ans) → Ans) (fun k => k []) (fun x _ ih k => ih fun l => k (vaS pc x :: l)) cs
theorem vaL_eq (pc : PC) : ∀ (cs : List SV) (k : List SV → Ans), vaL pc cs k = k (cs.map (vaS pc))
  | [], k => rfl
  | x :: cs, k => by
    show (vaL pc cs fun l => k (vaS pc x :: l)) = _
    rw [vaL_eq pc cs]; rfl
theorem vaS_sym {σ β} {pc : PC} (hp : pc.ok σ) (f : Option IntKind) (b : Nat) (i : Tm) : Den σ β (vaS pc (symS f b i)) (symCell σ b (i.ev σ) f) := by
  have h := symS_ok (σ := σ) (β := β) f b i
  unfold vaS
  cases ha : appVar (symS f b i).5 pc.facts with
  | none => exact h
  | some x =>
    have he := appVar_ok hp.1 ha
    cases f with
    | none =>
      have h1 : x.ev σ = (Tm.app b 1 i).ev σ := he
      show Den σ β (.bool x) _
      cases h with
      | bool hl =>
        rw [← h1] at hl
        have := Den.bool' (σ := σ) (β := β) (t := x) hl
        rw [h1] at this; exact this
    | some kd =>
      have h1 : x.ev σ = (Tm.app b kd.bits i).ev σ := he
      show Den σ β (.int kd x) _
      cases h with
      | int hl =>
        rw [← h1] at hl
        have := Den.int' (σ := σ) (β := β) (k := kd) (t := x) hl
        rw [h1] at this; exact this

structure SymO where
  d : Tm
  fs : List (Option IntKind)
  base : Nat
  len : Tm
noncomputable def symOb (st : St) (o : Nat) : Option SymO := Option.rec none (fun he => SObj.rec (fun _ _ => none) (fun _ _ _ => none) (fun _ => none) (fun _ _ _ => none) (fun d fs b l => some ⟨d, fs, b, l⟩) (fun _ => none) (fun _ _ => none) (fun _ => none) he.ob) (st.hp.get o)

/-! ### Loading -/
structure LD where
  f : St → SV → (SV → Ans) → Ans
noncomputable def ldBad (n : Nat) : LD := ⟨fun _ _ _ => .bad n⟩
/-- Cells as a value. -/
noncomputable def asK (agg : Bool) (cs : List SV) (k : SV → Ans) : Ans := bc agg (forceL cs fun cs => k (.agg cs)) (List.rec (.bad 110) (fun x t _ => List.rec (kn x k) (fun _ _ _ => .bad 111) t) cs)
noncomputable def isCons {α : Type} (l : List α) : Bool := List.rec false (fun _ _ _ => true) l
theorem isCons_off {l : List SV} (h : isCons l = true) (n : Nat) : offB l n = n := by
  cases l with
  | nil => cases h
  | cons _ _ => rfl
noncomputable def ldT (agg : Bool) (n : Nat) (st : St) (s : SV) (k : SV → Ans) : Ans :=
  oa 112 (svPtrT s) fun q => oa 113 (symOb st q.1) fun y => wa 114 (band (band (Nat.beq (lenR y.fs) q.2.2.2.1) (isCons q.2.2.2.2.2)) (Tm.same q.2.2.2.2.1 y.d)) (wa 115 (Nat.beq (decT st.pc (.bin .ult 64 q.2.2.1 y.len)) 1)
    (oa 116 (midR y.fs q.2.1 n) fun fs => symL fs q.2.2.1 (Nat.add y.base q.2.1) fun cs => vaL st.pc cs fun cs => asK agg cs k))
noncomputable def ldK (agg : Bool) (n : Nat) : LD :=
  ⟨fun st s k => Option.rec (motive := fun _ => Ans) (ldT agg n st s k)
    (fun p => oa 117 (cellsOb st p.1) fun cs => bc agg (oa 118 (midR cs p.2 n) fun m => forceL m fun m => k (.agg m)) (wa 119 (Nat.beq n 1) (oa 118 (nthR cs p.2) fun x => kn x k))) (svPtr s)⟩
noncomputable def cLoad (P : Program) (t : TypeId) : LD := Option.rec (ldBad 120) (fun g => Option.rec (ldBad 121) (fun n => ldK g n) (szOf P t)) (aggOf P t)

theorem asK_rsv {agg : Bool} {cs : List SV} {k : SV → Ans} : Rsv (asK agg cs k) k fun r => (agg = true ∧ r = .agg cs) ∨ (agg = false ∧ cs = [r]) := by
  cases agg
  · show Rsv (List.rec (.bad 110) (fun x t _ => List.rec (kn x k) (fun _ _ _ => .bad 111) t) cs) k _
    cases cs with
    | nil => exact .bad
    | cons x t => cases t with
      | nil => exact kn_rsv fun _ => .inr ⟨rfl, rfl⟩
      | cons _ _ => exact .bad
  · show Rsv (forceL cs fun cs => k (.agg cs)) k _
    rw [forceL_eq]; exact .val (.inl ⟨rfl, rfl⟩)
theorem loadCells_den {P : Program} {σ β} {cs : List SV} {vs : List Value} (hd : DenL σ β cs vs) {n : Nat} (hn : vs.length = n) {b off : Nat} {w : World} (hc : ∀ j v, vs[j]? = some v → w.cell? (⟨b, off + j, none⟩ : Addr) = some v)
    {t : TypeId} {g : Bool} (ha : aggOf P t = some g) (hs : szOf P t = some n) {r : SV} (hr : (g = true ∧ r = .agg cs) ∨ (g = false ∧ cs = [r])) :
    ∃ u, (loadVar t ⟨b, off, none⟩).run P w = .ok u w ∧ Den σ β r u := by
  simp only [loadVar, Sem.run_bind, run_isAgg' ha, Result.andThen_ok]
  rcases hr with ⟨rfl, rfl⟩ | ⟨rfl, rfl⟩
  · have hrun := run_loadCells_list (P := P) w ⟨b, off, none⟩ vs fun j v hj => by rw [add_off]; exact hc j v hj
    rw [hn] at hrun
    exact ⟨.agg vs.toArray, by simp [run_sizeOf' hs, hrun], .agg hd⟩
  · cases hd with
    | cons hx tl =>
      cases tl with
      | nil =>
        rename_i v
        have := hc 0 v rfl
        simp only [Nat.add_zero] at this
        exact ⟨v, by simp [this], hx⟩

/-- What a load comes to. -/
def LDok (P : Program) (t : TypeId) (h : LD) : Prop := ∀ st s (k : SV → Ans), Rsv (h.f st s k) k fun r => ∀ M σ w0 β v w, Rep M σ w0 β st w → st.pc.ok σ → DenO σ β s v → ∃ u, (Instr.loadAt t v).run P w = .ok u w ∧ Den σ β r u
theorem ldK_ok {P : Program} {t : TypeId} {g : Bool} {n : Nat} (ha : aggOf P t = some g) (hn : szOf P t = some n) : LDok P t (ldK g n) := by
  intro st s k
  show Rsv (Option.rec (motive := fun _ => Ans) (ldT g n st s k)
    (fun p => oa 117 (cellsOb st p.1) fun cs => bc g (oa 118 (midR cs p.2 n) fun m => forceL m fun m => k (.agg m)) (wa 119 (Nat.beq n 1) (oa 118 (nthR cs p.2) fun x => kn x k))) (svPtr s)) k _
  cases hp : svPtr s with
  | some p =>
    refine oa_rsv fun cs hcs => ?_
    have fin : ∀ (m : List SV), m = (cs.drop p.2).take n → m.length = n → ∀ r, ((g = true ∧ r = .agg m) ∨ (g = false ∧ m = [r])) →
        ∀ M σ w0 β v w, Rep M σ w0 β st w → st.pc.ok σ → DenO σ β s v → ∃ u, (Instr.loadAt t v).run P w = .ok u w ∧ Den σ β r u := by
      intro m hm hml r hr M σ w0 β v w hR _ hv
      have hd := svPtr_o hp hv
      cases hd with
      | ptr hb =>
        rename_i b c
        obtain ⟨vs, h1, h2⟩ := cellsOb_ok hR hcs hb
        have hd' : DenL σ β m ((vs.drop p.2).take n) := by rw [hm]; exact (h1.drop _).take _
        obtain ⟨u, h3, h4⟩ := loadCells_den (P := P) hd' (n := n) (by rw [← hd'.length, hml]) (b := b) (off := p.2) (w := w) (fun j v hj => by
          have hjn : j < n := by
            rcases Nat.lt_or_ge j n with hjn | hjn
            · exact hjn
            · rw [List.getElem?_eq_none (by simp; omega)] at hj; cases hj
          rw [List.getElem?_take_of_lt hjn, List.getElem?_drop] at hj
          exact h2 _ _ hj) ha hn hr
        exact ⟨u, by simp [Instr.loadAt, Instr.sureAddr, h3], h4⟩
    cases g
    · refine wa_rsv fun h1 => oa_rsv fun x hx => kn_rsv fun _ => ?_
      have h1 := of_nbeq h1
      subst h1
      rw [nthR_eq] at hx
      have hlt := (List.getElem?_eq_some_iff.1 hx).1
      have hm : [x] = (cs.drop p.2).take 1 := by
        rw [List.drop_eq_getElem_cons hlt, List.take_succ_cons, List.take_zero, (List.getElem?_eq_some_iff.1 hx).2]
      exact fin [x] hm rfl x (.inr ⟨rfl, rfl⟩)
    · refine oa_rsv fun m hm => ?_
      rw [forceL_eq]
      obtain ⟨h1, h2⟩ := midR_some hm
      exact .val (fin m h1 h2 _ (.inl ⟨rfl, rfl⟩))
  | none =>
    refine oa_rsv fun q hq => oa_rsv fun y hy => wa_rsv fun hz => wa_rsv fun hi => oa_rsv fun fs hfs => ?_
    rw [symL_eq, vaL_eq]
    refine asK_rsv.imp fun r hr M σ w0 β v w hR hp' hv => ?_
    obtain ⟨f1, f2⟩ := midR_some hfs
    obtain ⟨hz, hdd⟩ := band_eq hz
    obtain ⟨hz, hcons⟩ := band_eq hz
    have hdd := Tm.same_eq hdd
    have hz := of_nbeq hz
    rw [lenR_eq] at hz
    have hlt : q.2.2.1.ev σ < y.len.ev σ := by
      have := (decT_ok hp' (t := .bin .ult 64 q.2.2.1 y.len)).1 (of_nbeq hi)
      change b2n (Nat.blt (q.2.2.1.ev σ) (y.len.ev σ)) ≠ 0 at this
      rcases Nat.lt_or_ge (q.2.2.1.ev σ) (y.len.ev σ) with hh | hh
      · exact hh
      · rw [nblt_f (by omega)] at this; exact absurd rfl this
    cases svPtrT_o hq hv with
    | ptrT hb =>
      rename_i b c
      unfold symOb at hy
      cases hg : st.hp.get q.1 with
      | none => rw [hg] at hy; cases hy
      | some he =>
        rw [hg] at hy
        obtain ⟨ob, ro⟩ := he
        obtain ⟨b1, c1, x, k1, k2, k3, _⟩ := hR.heap q.1 _ hg
        rw [hb] at k1; simp at k1; obtain ⟨rfl, rfl⟩ := k1
        cases ob with
        | cells _ _ => cases hy
        | grown _ _ _ => cases hy
        | map _ => cases hy
        | iter _ _ _ => cases hy
        | imap _ => cases hy
        | siter _ _ => cases hy
        | tab _ => cases hy
        | sym d fs0 base len =>
        cases hy
        cases k3 with
        | sym hcell =>
          rename_i cs fr
          dsimp only at hz hlt f1 hr hdd
          rw [hdd, isCons_off hcons]
          have key : ∀ j k, fs[j]? = some k → cs[c + (d.ev σ + q.2.2.1.ev σ * q.2.2.2.1 + q.2.1) + j]? = some (symCell σ (base + q.2.1 + j) (q.2.2.1.ev σ) k) := by
            intro j k hj
            have hjn : j < n := by rw [← f2]; exact (List.getElem?_eq_some_iff.1 hj).1
            rw [f1, List.getElem?_take_of_lt hjn, List.getElem?_drop] at hj
            have := hcell (q.2.2.1.ev σ) (q.2.1 + j) k hlt hj
            rw [hz] at this
            rw [show c + (d.ev σ + q.2.2.1.ev σ * q.2.2.2.1 + q.2.1) + j = c + (d.ev σ + q.2.2.1.ev σ * q.2.2.2.1 + (q.2.1 + j)) by omega, this, Nat.add_assoc]
          have hd' : ∀ (gs : List (Option IntKind)) (n' : Nat), (∀ j k, gs[j]? = some k → cs[c + (d.ev σ + q.2.2.1.ev σ * q.2.2.2.1 + q.2.1) + (n' + j)]? = some (symCell σ (base + q.2.1 + (n' + j)) (q.2.2.1.ev σ) k)) →
              ∃ vs, DenL σ β ((symR gs q.2.2.1 (base + q.2.1 + n')).map (vaS st.pc)) vs ∧ vs.length = gs.length ∧ ∀ j v, vs[j]? = some v → cs[c + (d.ev σ + q.2.2.1.ev σ * q.2.2.2.1 + q.2.1) + (n' + j)]? = some v := by
            intro gs
            induction gs with
            | nil => intro d' _; exact ⟨[], .nil, rfl, fun j v hj => by cases hj⟩
            | cons k gs ih =>
              intro d' hk
              obtain ⟨vs, h1, h2, h3⟩ := ih (d' + 1) (fun j k hj => by
                have := hk (j + 1) k hj
                rw [show d' + 1 + j = d' + (j + 1) by omega]; exact this)
              refine ⟨symCell σ (base + q.2.1 + d') (q.2.2.1.ev σ) k :: vs, .cons (vaS_sym hp' k _ _) h1, by simp [h2], fun j v hj => ?_⟩
              cases j with
              | zero =>
                cases hj
                have := hk 0 k rfl
                simpa using this
              | succ j =>
                have := h3 j v hj
                rw [show d' + (j + 1) = d' + 1 + j by omega]; exact this
          obtain ⟨vs, h1, h2, h3⟩ := hd' fs 0 (fun j k hj => by rw [Nat.zero_add]; exact key j k hj)
          have hr' : (g = true ∧ r = .agg ((symR fs q.2.2.1 (base + q.2.1 + 0)).map (vaS st.pc))) ∨ (g = false ∧ ((symR fs q.2.2.1 (base + q.2.1 + 0)).map (vaS st.pc)) = [r]) := hr
          obtain ⟨u, h5, h6⟩ := loadCells_den (P := P) h1 (n := n) (by rw [h2, f2]) (b := b) (off := c + (d.ev σ + q.2.2.1.ev σ * q.2.2.2.1 + q.2.1)) (w := w) (fun j v hj => by
            have := h3 j v hj
            rw [Nat.zero_add] at this
            simp only [World.cell?, k2]
            simpa using this) ha hn hr'
          exact ⟨u, by simp [Instr.loadAt, Instr.sureAddr, h5], h6⟩
theorem cLoad_ok (P : Program) (t : TypeId) : LDok P t (cLoad P t) := by
  unfold cLoad
  cases ha : aggOf P t with
  | none => exact fun _ _ _ => .bad
  | some g =>
    cases hn : szOf P t with
    | none => exact fun _ _ _ => .bad
    | some n => exact ldK_ok ha hn

/-! ### Storing -/
noncomputable def forceTr {α β : Type} (t : Tr α) (k : Tr α → β) : β := Tr.rec (k .nil) (fun v a b c d _ _ _ _ => k (.node v a b c d)) t
theorem forceTr_eq {α β : Type} (t : Tr α) (k : Tr α → β) : forceTr t k = k t := by cases t <;> rfl
noncomputable def stPut (st : St) (o : Nat) (ob : SObj) (k : St → Ans) : Ans := forceTr (st.hp.set o (some ⟨ob, false⟩)) fun hp => k ⟨hp, st.nn, st.pc⟩
theorem stPut_eq (st : St) (o : Nat) (ob : SObj) (k : St → Ans) : stPut st o ob k = k (st.put o ob) := forceTr_eq _ _
/-- An object with other cells. -/
noncomputable def obLay (ob : SObj) (vs : List SV) (off : Nat) (k : SObj → Ans) : Ans :=
  SObj.rec (motive := fun _ => Ans) (fun cs e => oa 122 (layR cs vs off) fun cs' => forceP (Nat.add off (lenR vs)) cs' fun cs' => k (.cells cs' e)) (fun cs e z => oa 122 (layR cs vs off) fun cs' => forceL cs' fun cs' => k (.grown cs' e z)) (fun _ => .bad 123) (fun _ _ _ => .bad 123) (fun _ _ _ _ => .bad 123) (fun _ => .bad 123) (fun _ _ => .bad 123) (fun _ => .bad 123) ob
noncomputable def storeCs (st : St) (o off : Nat) (vs : List SV) (k : St → Ans) : Ans :=
  oa 124 (st.hp.get o) fun he => bc he.ro (.bad 125) (obLay he.ob vs off fun ob => stPut st o ob k)
noncomputable def storeK (n : Nat) (st : St) (p : Nat × Nat) (s : SV) (k : St → Ans) : Ans :=
  wa 126 (allOne (cellsOf s)) (wa 127 (Nat.beq (lenR (cellsOf s)) n) (storeCs st p.1 p.2 (cellsOf s) k))

theorem storeCs_ok {P : Program} {L M σ w0 β} {st : St} {w : World} (h : RepC M σ w0 β st w) {o off : Nat} {ss : List SV} {vs : List Value} (hv : DenLC st.pc.nv σ β ss vs) (h1 : ∀ v ∈ vs, v.oneCell' = true)
    {k : St → Ans} (hs : (storeCs st o off ss k).sat L σ) {b c : Nat} (hb : β o = some (b, c)) :
    ∃ st' w', (storeCells ⟨b, off, none⟩ vs).run P w = .ok () w' ∧ st'.pc = st.pc ∧ st'.nn = st.nn ∧ RepC M σ w0 β st' w' ∧ (k st').sat L σ := by
  obtain ⟨he, hg, hs⟩ := oa_sat hs
  obtain ⟨ob, ro⟩ := he
  cases ro with
  | true => exact hs.elim
  | false =>
    change (obLay ob ss off fun ob => stPut st o ob k).sat L σ at hs
    have hR := h.2 σ (Ag.refl _ _)
    obtain ⟨b1, c1, x, k1, k2, k3, _⟩ := hR.heap o _ hg
    rw [hb] at k1; simp at k1; obtain ⟨rfl, rfl⟩ := k1
    have hvσ := hv σ (Ag.refl _ _)
    have hlv := hvσ.length
    have denAt : ∀ σ', Ag st.pc.nv σ σ' → ObjDen σ' β c ob x := fun σ' ha => by
      obtain ⟨b2, c2, x2, j1, j2, j3, _⟩ := (h.2 σ' ha).heap o _ hg
      rw [hb] at j1; simp at j1; obtain ⟨rfl, rfl⟩ := j1
      rw [k2] at j2; cases j2; exact j3
    cases ob with
    | map _ => exact hs.elim
    | iter _ _ _ => exact hs.elim
    | imap _ => exact hs.elim
    | siter _ _ => exact hs.elim
    | tab _ => exact hs.elim
    | sym _ _ _ _ => exact hs.elim
    | cells cs e =>
      obtain ⟨cs', hl, hs⟩ := oa_sat hs
      rw [forceP_eq] at hs
      change (stPut st o (.cells cs' e) k).sat L σ at hs
      rw [stPut_eq] at hs
      have hfin := hs
      clear hs
      obtain ⟨e1, e2⟩ := layR_some hl
      cases k3 with
      | cells hd =>
        rename_i vs0
        have hlen := hd.length
        rcases e2 with rfl | e2
        · cases hvσ
          have hsame : cs' = cs := by rw [e1]; simp
          refine ⟨st.put o (.cells cs' e), w, by simp [storeCells], rfl, rfl, ?_, hfin⟩
          have := h.turn hg hb (ob' := .cells cs' e) (x := .cells vs0.toArray e (0, 0)) (fun σ' ha => by rw [hsame]; exact denAt σ' ha)
          rw [setSame k2] at this
          exact this
        · have hrun := run_storeCells_at (P := P) b off e vs 0 vs0.toArray w k2 (by simp; omega) h1
          rw [setRow_eq k2] at hrun
          refine ⟨st.put o (.cells cs' e), _, hrun, rfl, rfl, ?_, hfin⟩
          refine h.turn hg hb fun σ' ha => ?_
          have hd' := denAt σ' ha
          generalize hx : Obj.cells vs0.toArray e (0, 0) = x' at hd'
          cases hd' with
          | cells hd' =>
            rename_i vs1
            have : vs1 = vs0 := by injection hx with hx _ _; exact (congrArg Array.toList hx).symm
            subst this
            rw [e1]
            refine .cells ?_
            simp only [Nat.add_zero]
            rw [hlv]
            exact ((hd'.take off).append (hv σ' ha)).append (hd'.drop _)
    | grown cs e z =>
      obtain ⟨cs', hl, hs⟩ := oa_sat hs
      rw [forceL_eq] at hs
      change (stPut st o (.grown cs' e z) k).sat L σ at hs
      rw [stPut_eq] at hs
      have hfin := hs
      clear hs
      obtain ⟨e1, e2⟩ := layR_some hl
      generalize hx : x = xo at k3
      cases k3 with
      | grown hd hcz =>
        rename_i vs0 rest
        have hlen := hd.length
        rcases e2 with rfl | e2
        · cases hvσ
          have hsame : cs' = cs := by rw [e1]; simp
          refine ⟨st.put o (.grown cs' e z), w, by simp [storeCells], rfl, rfl, ?_, hfin⟩
          have := h.turn hg hb (ob' := .grown cs' e z) (x := x) (fun σ' ha => by rw [hsame]; exact denAt σ' ha)
          rw [setSame k2] at this
          exact this
        · subst hx
          have hrun := run_storeCells_at (P := P) b off e vs 0 (vs0 ++ rest).toArray w k2 (by simp; omega) h1
          rw [setRow_eq k2] at hrun
          refine ⟨st.put o (.grown cs' e z), _, hrun, rfl, rfl, ?_, hfin⟩
          refine h.turn hg hb fun σ' ha => ?_
          have hd' := denAt σ' ha
          generalize hx : Obj.cells (vs0 ++ rest).toArray e (0, 0) = x' at hd'
          cases hd' with
          | grown hd' hcz' =>
            rename_i vs1 rest1
            have hx' : vs0 ++ rest = vs1 ++ rest1 := by injection hx with hx _ _; exact congrArg Array.toList hx
            have hl1 := hd'.length
            have : vs0 = vs1 ∧ rest = rest1 := List.append_inj hx' (by omega)
            obtain ⟨rfl, rfl⟩ := this
            have hsplit : ((vs0 ++ rest).toArray.toList.take (off + 0) ++ vs ++ (vs0 ++ rest).toArray.toList.drop (off + 0 + vs.length)) = (vs0.take off ++ vs ++ vs0.drop (off + vs.length)) ++ rest := by
              show ((vs0 ++ rest).take (off + 0) ++ vs ++ (vs0 ++ rest).drop (off + 0 + vs.length)) = _
              rw [Nat.add_zero, List.take_append_of_le_length (by omega), List.drop_append_of_le_length (by omega)]
              simp
            rw [hsplit, e1]
            refine .grown ?_ ?_
            · rw [hlv]
              exact ((hd'.take off).append (hv σ' ha)).append (hd'.drop _)
            · rw [← hcz']
              simp
              omega

theorem storeK_ok {P : Program} {L M σ w0 β} {st : St} {w : World} (h : RepC M σ w0 β st w) {t : TypeId} {n : Nat} (hn : szOf P t = some n) {o off : Nat} {s : SV} {v : Value} (hv : DenC st.pc.nv σ β s v)
    {k : St → Ans} (hs : (storeK n st (o, off) s k).sat L σ) {b c : Nat} (hb : β o = some (b, c)) :
    ∃ st' w', (storeVar t ⟨b, off, none⟩ v).run P w = .ok () w' ∧ st'.pc = st.pc ∧ st'.nn = st.nn ∧ RepC M σ w0 β st' w' ∧ (k st').sat L σ := by
  obtain ⟨ho, hs⟩ := wa_sat hs
  obtain ⟨hl, hs⟩ := wa_sat hs
  have hd : DenLC st.pc.nv σ β (cellsOf s) v.cells.toList := fun σ' ha => cellsOf_den (hv σ' ha)
  have h1 := allOne_ok (hd σ (Ag.refl _ _)) ho
  obtain ⟨st', w', hr, e1, e2, hw, hk⟩ := storeCs_ok (P := P) h hd h1 hs hb
  refine ⟨st', w', ?_, e1, e2, hw, hk⟩
  have : v.cells.size = n := by
    have := (hd σ (Ag.refl _ _)).length
    rw [← of_nbeq hl, lenR_eq, this]; simp
  simp [storeVar, run_sizeOf' hn, this, hr]

/-! ### A new object -/
noncomputable def stNew (st : St) (ob : SObj) (k : St → Ans) : Ans := forceTr (st.hp.set st.nn (some ⟨ob, false⟩)) fun hp => forceN (Nat.succ st.nn) fun nn => k ⟨hp, nn, st.pc⟩
theorem stNew_eq (st : St) (ob : SObj) (k : St → Ans) : stNew st ob k = k (st.new ob) := by unfold stNew; rw [forceTr_eq, forceN_eq]; rfl

end Go.Sy
end
