/- A symbolic run of the program: heap, operands, operations. -/
import Derived.Test.YtcnaapegjhlcdaaSxA
import Derived.Laws.Cells
import Derived.Laws.CopyRow
import Derived.Laws.StructEq

section
/- The heap of a symbolic run: new objects, reading, writing. -/
namespace Go.Sx
open Go.RowKit

/-! ### Lists, by their recursors -/
section lists
variable {α : Type}
noncomputable def dropR (n : Nat) : List α → List α :=
  Nat.rec (motive := fun _ => List α → List α) (fun l => l) (fun _ ih l => List.rec [] (fun _ t _ => ih t) l) n
theorem dropR_eq (n : Nat) : ∀ l : List α, dropR n l = l.drop n := by
  induction n with
  | zero => intro l; rfl
  | succ n ih => intro l; cases l with
    | nil => simp; rfl
    | cons x t => exact ih t
noncomputable def takeR (n : Nat) : List α → List α :=
  Nat.rec (motive := fun _ => List α → List α) (fun _ => []) (fun _ ih l => List.rec [] (fun x t _ => x :: ih t) l) n
theorem takeR_eq (n : Nat) : ∀ l : List α, takeR n l = l.take n := by
  induction n with
  | zero => intro l; simp; rfl
  | succ n ih => intro l; cases l with
    | nil => simp; rfl
    | cons x t => show x :: takeR n t = _; rw [ih]; rfl
noncomputable def appR (l m : List α) : List α := List.rec m (fun x _ ih => x :: ih) l
theorem appR_eq (l m : List α) : appR l m = l ++ m := by
  induction l with
  | nil => rfl
  | cons x t ih => show x :: appR t m = _; rw [ih]; rfl
noncomputable def nthR (l : List α) (n : Nat) : Option α := List.rec none (fun x _ _ => some x) (dropR n l)
theorem nthR_eq (l : List α) (n : Nat) : nthR l n = l[n]? := by
  unfold nthR; rw [dropR_eq]
  rw [← List.head?_drop]
  cases l.drop n <;> rfl
/-- n elements from the place off on, if they are there. -/
noncomputable def midR (l : List α) (off n : Nat) : Option (List α) :=
  let m := takeR n (dropR off l)
  bc (Nat.beq (lenR m) n) (some m) none
theorem midR_some {l m : List α} {off n : Nat} (h : midR l off n = some m) : m = (l.drop off).take n ∧ m.length = n := by
  unfold midR at h
  simp only [dropR_eq, takeR_eq, lenR_eq] at h
  cases hb : Nat.beq ((l.drop off).take n).length n
  · rw [hb] at h; cases h
  · rw [hb] at h; cases h; exact ⟨rfl, of_nbeq hb⟩
/-- Elements laid from the place off on. -/
noncomputable def layR (l m : List α) (off : Nat) : Option (List α) :=
  bc (Nat.beq (lenR (takeR (lenR m) (dropR off l))) (lenR m)) (some (appR (takeR off l) (appR m (dropR (lenR m) (dropR off l))))) none
theorem layR_some {l m r : List α} {off : Nat} (h : layR l m off = some r) : r = l.take off ++ m ++ l.drop (off + m.length) ∧ (m = [] ∨ off + m.length ≤ l.length) := by
  unfold layR at h
  simp only [dropR_eq, takeR_eq, lenR_eq, appR_eq] at h
  cases hb : Nat.beq ((l.drop off).take m.length).length m.length
  · rw [hb] at h; cases h
  · rw [hb] at h; cases h
    refine ⟨by simp [List.drop_drop], ?_⟩
    have := of_nbeq hb
    simp at this
    cases m with
    | nil => exact .inl rfl
    | cons x t => right; simp at this ⊢; omega
end lists

/-! ### A new object -/
noncomputable def St.new (st : St) (ob : SObj) : St := ⟨st.hp.set st.nn (some ⟨ob, false⟩), Nat.succ st.nn, st.pc⟩
def bUpd (β : Nat → Option (Nat × Nat)) (o b c : Nat) : Nat → Option (Nat × Nat) := fun i => if i = o then some (b, c) else β i
theorem bUpd_ext {β : Nat → Option (Nat × Nat)} {o b c : Nat} (h : β o = none) : Ext β (bUpd β o b c) := by
  intro i x hx
  unfold bUpd
  rw [if_neg]
  · exact hx
  · rintro rfl; rw [h] at hx; cases hx

theorem Rep.new {σ w0 β} {st : St} {w : World} (h : Rep σ w0 β st w) {ob : SObj} {x : Obj} {c : Nat} (hx : ObjDen σ β c ob x) :
    Ext β (bUpd β st.nn w.heap.size c) ∧ bUpd β st.nn w.heap.size c st.nn = some (w.heap.size, c) ∧
    Rep σ w0 (bUpd β st.nn w.heap.size c) (st.new ob) { w with heap := w.heap.push x } := by
  have hext : Ext β (bUpd β st.nn w.heap.size c) := bUpd_ext (h.fresh _ (Nat.le_refl _))
  have hself : bUpd β st.nn w.heap.size c st.nn = some (w.heap.size, c) := by simp [bUpd]
  refine ⟨hext, hself, h.pc, ?_, ?_, ?_, ?_⟩
  · exact h.below.alloc h.below.size x
  · intro o ho
    have h1 : st.nn ≤ o := Nat.le_of_succ_le ho
    have h2 : ¬ o = st.nn := fun e => by subst e; exact absurd ho (Nat.not_succ_le_self _)
    simp [bUpd, h2, h.fresh o h1]
  · intro o he ho
    change (st.hp.set st.nn (some ⟨ob, false⟩)).get o = some he at ho
    by_cases e : o = st.nn
    · subst e
      rw [Tr.get_set_eq] at ho; cases ho
      exact ⟨_, _, x, hself, by simp, hx.mono hext, fun _ => h.below.size⟩
    · rw [Tr.get_set_ne _ _ e] at ho
      obtain ⟨b, c', y, h1, h2, h3, h4⟩ := h.heap o he ho
      have hlt : b < w.heap.size := (Array.getElem?_eq_some_iff.1 h2).1
      exact ⟨b, c', y, hext _ _ h1, by rw [Array.getElem?_push]; rw [if_neg (by omega)]; exact h2, h3.mono hext, h4⟩
  · intro o o' he he' b c1 c2 ho ho' hb hb'
    change (st.hp.set st.nn (some ⟨ob, false⟩)).get o = some he at ho
    change (st.hp.set st.nn (some ⟨ob, false⟩)).get o' = some he' at ho'
    have old : ∀ o he, o ≠ st.nn → st.hp.get o = some he → ∃ b c, bUpd β st.nn w.heap.size c o = some (b, c) ∧ β o = some (b, c) ∧ b < w.heap.size := by
      intro o he e hg
      obtain ⟨b, c', y, h1, h2, _, _⟩ := h.heap o he hg
      exact ⟨b, c', by simp [bUpd, e, h1], h1, (Array.getElem?_eq_some_iff.1 h2).1⟩
    by_cases e : o = st.nn
    · by_cases e' : o' = st.nn
      · rw [e, e']
      · rw [Tr.get_set_ne _ _ e'] at ho'
        obtain ⟨b1, c3, _, h2, h3⟩ := old o' he' e' ho'
        have h4 := hext _ _ h2
        rw [hb'] at h4; subst e; rw [hself] at hb
        simp at h4 hb; omega
    · rw [Tr.get_set_ne _ _ e] at ho
      by_cases e' : o' = st.nn
      · obtain ⟨b1, c3, _, h2, h3⟩ := old o he e ho
        have h4 := hext _ _ h2
        rw [hb] at h4; subst e'; rw [hself] at hb'
        simp at h4 hb'; omega
      · rw [Tr.get_set_ne _ _ e'] at ho'
        obtain ⟨b1, c3, _, h2, _⟩ := old o he e ho
        obtain ⟨b2, c4, _, h5, _⟩ := old o' he' e' ho'
        have h4 := hext _ _ h2
        have h6 := hext _ _ h5
        rw [hb] at h4; rw [hb'] at h6
        simp at h4 h6
        exact h.inj o o' he he' b c3 c4 ho ho' (by rw [h2, h4.1]) (by rw [h5, h6.1])

/-! ### An object that is turned -/
theorem Rep.turn {σ w0 β} {st : St} {w : World} (h : Rep σ w0 β st w) {o : Nat} {ob ob' : SObj} (ho : st.hp.get o = some ⟨ob, false⟩) {b c : Nat} (hb : β o = some (b, c)) {x : Obj} (hx : ObjDen σ β c ob' x) :
    Rep σ w0 β ⟨st.hp.set o (some ⟨ob', false⟩), st.nn, st.pc⟩ { w with heap := w.heap.setIfInBounds b x } := by
  obtain ⟨b1, c1, y, h1, h2, h3, h4⟩ := h.heap o _ ho
  rw [hb] at h1; simp at h1; obtain ⟨rfl, rfl⟩ := h1
  have hlt : b < w.heap.size := (Array.getElem?_eq_some_iff.1 h2).1
  have hge := h4 rfl
  refine ⟨h.pc, ⟨h.below.os, h.below.tape, h.below.output, by simpa using h.below.size, fun k hk => ?_⟩, h.fresh, ?_, ?_⟩
  · show (w.heap.setIfInBounds b x)[k]? = _
    rw [Array.getElem?_setIfInBounds_ne (by omega)]
    exact h.below.block k hk
  · intro o' he' ho'
    change (st.hp.set o (some ⟨ob', false⟩)).get o' = some he' at ho'
    by_cases e : o' = o
    · subst e
      rw [Tr.get_set_eq] at ho'; cases ho'
      exact ⟨b, c, x, hb, by simp [hlt], hx, fun _ => hge⟩
    · rw [Tr.get_set_ne _ _ e] at ho'
      obtain ⟨b2, c2, z, k1, k2, k3, k4⟩ := h.heap o' he' ho'
      refine ⟨b2, c2, z, k1, ?_, k3, k4⟩
      show (w.heap.setIfInBounds b x)[b2]? = _
      have : b ≠ b2 := by
        intro e2; subst e2
        exact e (h.inj o' o he' _ b c2 c ho' ho k1 hb)
      rw [Array.getElem?_setIfInBounds_ne this]; exact k2
  · intro o1 o2 he1 he2 b' c1 c2 k1 k2 k3 k4
    change (st.hp.set o (some ⟨ob', false⟩)).get o1 = some he1 at k1
    change (st.hp.set o (some ⟨ob', false⟩)).get o2 = some he2 at k2
    have back : ∀ o1 he1, (st.hp.set o (some ⟨ob', false⟩)).get o1 = some he1 → ∃ he, st.hp.get o1 = some he := by
      intro o1 he1 k
      by_cases e : o1 = o
      · subst e; exact ⟨_, ho⟩
      · rw [Tr.get_set_ne _ _ e] at k; exact ⟨_, k⟩
    obtain ⟨_, j1⟩ := back o1 he1 k1
    obtain ⟨_, j2⟩ := back o2 he2 k2
    exact h.inj o1 o2 _ _ b' c1 c2 j1 j2 k3 k4

/-! ### Reading -/
noncomputable def cellsAt (st : St) (o off n : Nat) : Option (List SV) :=
  Option.rec none (fun he => SObj.rec (fun cs _ => midR cs off n) (fun cs _ _ => midR cs off n) (fun _ _ => none) he.ob) (st.hp.get o)

theorem add_off (b off j : Nat) : (⟨b, off, none⟩ : Addr).add j = ⟨b, off + j, none⟩ := by
  unfold Addr.add; split <;> simp_all

theorem cellsAt_ok {σ w0 β} {st : St} {w : World} (h : Rep σ w0 β st w) {o off n : Nat} {cs : List SV} (hc : cellsAt st o off n = some cs) {b c : Nat} (hb : β o = some (b, c)) :
    ∃ vs, DenL σ β cs vs ∧ vs.length = n ∧ ∀ j v, vs[j]? = some v → w.cell? (⟨b, off, none⟩ : Addr) = w.cell? ⟨b, off, none⟩ ∧ w.cell? ((⟨b, off, none⟩ : Addr).add j) = some v := by
  unfold cellsAt at hc
  cases hg : st.hp.get o with
  | none => rw [hg] at hc; cases hc
  | some he =>
    rw [hg] at hc
    obtain ⟨ob, ro⟩ := he
    obtain ⟨b1, c1, x, h1, h2, h3, _⟩ := h.heap o _ hg
    rw [hb] at h1; simp at h1; obtain ⟨rfl, rfl⟩ := h1
    cases ob with
    | cells cs0 e =>
      change midR cs0 off n = some cs at hc
      obtain ⟨hm, hl⟩ := midR_some hc
      cases h3 with
      | cells hd =>
        rename_i vs0
        refine ⟨(vs0.drop off).take n, hm ▸ (hd.drop off).take n, ?_, fun j v hj => ⟨rfl, ?_⟩⟩
        · have := (hm ▸ (hd.drop off).take n : DenL σ β cs ((vs0.drop off).take n)).length
          omega
        · rw [add_off]
          simp only [World.cell?, h2]
          have hjn : j < n := by
            rcases Nat.lt_or_ge j n with hjn | hjn
            · exact hjn
            · rw [List.getElem?_eq_none (by simp; omega)] at hj; cases hj
          rw [List.getElem?_take_of_lt hjn, List.getElem?_drop] at hj
          simpa using hj
    | grown cs0 e z =>
      change midR cs0 off n = some cs at hc
      obtain ⟨hm, hl⟩ := midR_some hc
      cases h3 with
      | grown hd hcz =>
        rename_i vs0 rest
        have hlen : ((vs0.drop off).take n).length = n := by
          have := (hm ▸ (hd.drop off).take n : DenL σ β cs ((vs0.drop off).take n)).length
          omega
        refine ⟨(vs0.drop off).take n, hm ▸ (hd.drop off).take n, hlen, fun j v hj => ⟨rfl, ?_⟩⟩
        rw [add_off]
        simp only [World.cell?, h2]
        have hjn : j < n := by
          rcases Nat.lt_or_ge j n with hjn | hjn
          · exact hjn
          · rw [List.getElem?_eq_none (by simp; omega)] at hj; cases hj
        rw [List.getElem?_take_of_lt hjn, List.getElem?_drop] at hj
        have hlt : off + j < vs0.length := by
          rcases Nat.lt_or_ge (off + j) vs0.length with h' | h'
          · exact h'
          · rw [List.getElem?_eq_none h'] at hj; cases hj
        simp [List.getElem?_append_left hlt, hj]
    | map es clock => cases hc

end Go.Sx
end

section
/- Operands, reading and storing variables. -/
namespace Go.Sx
open Go.RowKit

/-- A constant of the program, as a symbolic value. -/
noncomputable def ofVal (v : Value) : Option SV :=
  match v with
  | .bool b => some (.bool (.lit (b2n b)))
  | .int k n => let m := (n % (2 ^ k.bits : Int)).toNat
                if ofB k m = n then some (.int k (.lit m)) else none
  | .string s => some (.str s)
  | .pointer none => some .pnil
  | .slice none len cap => if len = 0 ∧ cap = 0 then some .snil else none
  | .map none => some .mnil
  | .func (.func f) first captured => if first.size = 0 ∧ captured.size = 0 then some (.func f []) else none
  | .nilFunc => some .fnil
  | .nilIface => some .inil
  | _ => none
theorem b2n_ne (b : Bool) : (b2n b != 0) = b := by cases b <;> rfl
theorem b2n_le (b : Bool) : b2n b ≤ 1 := by cases b <;> decide
theorem ofVal_ok {σ β} {v : Value} {s : SV} (h : ofVal v = some s) : Den σ β s v := by
  unfold ofVal at h
  split at h
  · cases h
    rename_i b
    have := Den.bool (σ := σ) (β := β) (t := .lit (b2n b)) (by rw [ev_lit]; exact b2n_le b)
    rwa [ev_lit, b2n_ne] at this
  · rename_i k n
    dsimp only at h
    split at h
    · rename_i he
      cases h
      have hlt : (n % (2 ^ k.bits : Int)).toNat < 2 ^ k.bits := by
        have h1 := Int.emod_lt_of_pos n (show (0 : Int) < 2 ^ k.bits by exact_mod_cast Nat.two_pow_pos k.bits)
        have h2 := Int.emod_nonneg n (show (2 : Int) ^ k.bits ≠ 0 by have := Nat.two_pow_pos k.bits; exact_mod_cast (Nat.ne_of_gt this))
        have h3 : (((n % (2 ^ k.bits : Int)).toNat : Nat) : Int) = n % (2 ^ k.bits : Int) := Int.toNat_of_nonneg h2
        have : (((n % (2 ^ k.bits : Int)).toNat : Nat) : Int) < ((2 ^ k.bits : Nat) : Int) := by rw [h3]; push_cast; exact h1
        exact_mod_cast this
      have := Den.int (σ := σ) (β := β) (k := k) (t := .lit (n % (2 ^ k.bits : Int)).toNat) (by rw [ev_lit]; exact hlt)
      rwa [ev_lit, he] at this
    · cases h
  · cases h; exact .str
  · cases h; exact .pnil
  · split at h
    · rename_i e; obtain ⟨rfl, rfl⟩ := e; cases h; exact .snil
    · cases h
  · cases h; exact .mnil
  · split at h
    · rename_i f first captured e
      cases h
      have e1 : first = #[] := Array.eq_empty_of_size_eq_zero e.1
      have e2 : captured = #[] := Array.eq_empty_of_size_eq_zero e.2
      subst e1; subst e2
      exact .func (vs := []) .nil
    · cases h
  · cases h; exact .fnil
  · cases h; exact .inil
  · cases h

noncomputable def opnd (F : Fr) (x : Operand) : Option SV :=
  Operand.rec (fun t => F.t.get t) (fun v => ofVal v) (fun _ => none) (fun f => some (.func f [])) x
theorem opnd_ok {σ β} {F : Fr} {a : Act} (h : RepF σ β F a) {x : Operand} {s : SV} (hx : opnd F x = some s) : Den σ β s (a.eval x) := by
  cases x with
  | tmp t =>
    obtain ⟨v, h1, h2⟩ := h.tmp t s hx
    show Den σ β s (a.tmps.getD t undef)
    rw [Array.getD_eq_getD_getElem?, h1]; exact h2
  | const v => exact ofVal_ok hx
  | global g => cases hx
  | func f => cases hx; exact .func (vs := []) .nil

/-! ### Types -/
def isAggD : TypeDesc → Bool
  | .struct _ | .array _ _ => true
  | _ => false
noncomputable def aggOf (P : Program) (t : TypeId) : Option Bool := (P.underlying t).map isAggD
noncomputable def szOf (P : Program) (t : TypeId) : Option Nat := (P.info? t).map (·.size)
theorem run_underlying' {P : Program} {t : TypeId} {d : TypeDesc} (h : P.underlying t = some d) (w : World) : (underlying t).run P w = .ok d w := by
  simp [underlying, h]
theorem run_typeInfo' {P : Program} {t : TypeId} {i : TypeInfo} (h : P.info? t = some i) (w : World) : (typeInfo t).run P w = .ok i w := by
  simp [typeInfo, h]
theorem run_isAgg' {P : Program} {t : TypeId} {b : Bool} (h : aggOf P t = some b) (w : World) : (isAgg t).run P w = .ok b w := by
  unfold aggOf at h
  cases hu : P.underlying t with
  | none => rw [hu] at h; cases h
  | some d =>
    rw [hu] at h
    simp only [isAgg, Sem.run_bind, run_underlying' hu, Result.andThen_ok]
    cases d <;> simp [isAggD] at h <;> subst h <;> rfl
theorem run_sizeOf' {P : Program} {t : TypeId} {n : Nat} (h : szOf P t = some n) (w : World) : (sizeOf t).run P w = .ok n w := by
  unfold szOf at h
  cases hi : P.info? t with
  | none => rw [hi] at h; cases h
  | some i => rw [hi] at h; simp at h; simp [sizeOf, run_typeInfo' hi, h]

/-! ### Reading a variable -/
/-- n cells as a value of a type. -/
noncomputable def asVal (agg : Bool) (cs : List SV) : Option SV := bc agg (some (.agg cs)) (List.rec none (fun x t _ => List.rec (some x) (fun _ _ _ => none) t) cs)
noncomputable def loadV (P : Program) (st : St) (t : TypeId) (o off : Nat) : Option SV :=
  Option.rec none (fun agg => Option.rec none (fun n => Option.rec none (fun cs => asVal agg cs) (cellsAt st o off n)) (szOf P t)) (aggOf P t)

theorem loadV_ok {P : Program} {σ w0 β} {st : St} {w : World} (h : Rep σ w0 β st w) {t : TypeId} {o off : Nat} {s : SV} (hl : loadV P st t o off = some s) {b c : Nat} (hb : β o = some (b, c)) :
    ∃ v, (loadVar t ⟨b, off, none⟩).run P w = .ok v w ∧ Den σ β s v := by
  unfold loadV at hl
  cases ha : aggOf P t with
  | none => rw [ha] at hl; cases hl
  | some agg =>
    cases hs : szOf P t with
    | none => rw [ha, hs] at hl; cases hl
    | some n =>
      cases hc : cellsAt st o off n with
      | none => rw [ha, hs] at hl; dsimp only at hl; rw [hc] at hl; cases hl
      | some cs =>
        rw [ha, hs] at hl; dsimp only at hl; rw [hc] at hl
        change asVal agg cs = some s at hl
        obtain ⟨vs, h1, h2, h3⟩ := cellsAt_ok h hc hb
        simp only [loadVar, Sem.run_bind, run_isAgg' ha, Result.andThen_ok]
        cases agg
        · -- one cell
          cases h1 with
          | nil => cases hl
          | cons hd tl =>
            cases tl with
            | cons _ _ => cases hl
            | nil =>
              cases hl
              rename_i v
              have := (h3 0 v rfl).2
              simp only [add_off, Nat.add_zero] at this
              exact ⟨v, by simp [this], hd⟩
        · cases hl
          have hrun := run_loadCells_list (P := P) w ⟨b, off, none⟩ vs fun j v hj => (h3 j v hj).2
          rw [h2] at hrun
          exact ⟨.agg vs.toArray, by simp [run_sizeOf' hs, hrun], .agg h1⟩

/-! ### Storing into a variable -/
noncomputable def one (s : SV) : Bool := SV.casesOn (motive_1 := fun _ => Bool) s (fun _ _ => true) (fun _ => true) true (fun _ _ => true) true (fun _ _ _ _ => true) (fun _ _ => true) true (fun _ => true) (fun _ _ => true) true (fun _ => true) true (fun _ => false) (fun _ => false)
noncomputable def allOne (l : List SV) : Bool := List.rec true (fun x _ ih => bc (one x) ih false) l
theorem one_ok {σ β} {s : SV} {v : Value} (h : Den σ β s v) (ho : one s = true) : v.oneCell' = true ∧ v.cells = #[v] := by
  cases h <;> first | exact ⟨rfl, rfl⟩ | (cases ho)
theorem allOne_ok {σ β} : ∀ {cs : List SV} {vs : List Value}, DenL σ β cs vs → allOne cs = true → ∀ v ∈ vs, v.oneCell' = true
  | _, _, .nil, _, v, hv => by cases hv
  | _, _, .cons (c := c) h t, ho, v, hv => by
    change bc (one c) _ false = true at ho
    cases h1 : one c
    · rw [h1] at ho; cases ho
    · rw [h1] at ho
      rcases List.mem_cons.1 hv with rfl | hv
      · exact (one_ok h h1).1
      · exact allOne_ok t ho v hv
/-- The cells of a value. -/
noncomputable def cellsOf (s : SV) : List SV := SV.casesOn (motive_1 := fun _ => List SV) s (fun k t => [.int k t]) (fun t => [.bool t]) [.pnil] (fun o off => [.ptr o off]) [.snil] (fun a b c d => [.slice a b c d]) (fun a b => [.sliceU a b]) [.mnil] (fun o => [.map o]) (fun f c => [.func f c]) [.fnil] (fun b => [.str b]) [.inil] (fun cs => cs) (fun cs => [.tuple cs])
theorem cellsOf_ok {σ β} {s : SV} {v : Value} (h : Den σ β s v) (ho : allOne (cellsOf s) = true) : DenL σ β (cellsOf s) v.cells.toList ∧ (∀ x ∈ v.cells.toList, x.oneCell' = true) := by
  have key : DenL σ β (cellsOf s) v.cells.toList := by
    cases h with
    | int h => exact .cons (.int h) .nil
    | bool h => exact .cons (.bool h) .nil
    | pnil => exact .cons .pnil .nil
    | ptr h => exact .cons (.ptr h) .nil
    | snil => exact .cons .snil .nil
    | slice h => exact .cons (.slice h) .nil
    | sliceU h hl => exact .cons (.sliceU h hl) .nil
    | mnil => exact .cons .mnil .nil
    | map h => exact .cons (.map h) .nil
    | func h => exact .cons (.func h) .nil
    | fnil => exact .cons .fnil .nil
    | str => exact .cons .str .nil
    | inil => exact .cons .inil .nil
    | agg h => exact h
    | tuple h => exact .cons (.tuple h) .nil
  exact ⟨key, allOne_ok key ho⟩

/-- Whether an object may be written. -/
noncomputable def storeAt (st : St) (o off : Nat) (vs : List SV) : Option St :=
  Option.rec none (fun he => bc he.ro none
    (SObj.rec (fun cs e => Option.rec none (fun cs' => some ⟨st.hp.set o (some ⟨.cells cs' e, false⟩), st.nn, st.pc⟩) (layR cs vs off)) (fun _ _ _ => none) (fun _ _ => none) he.ob)) (st.hp.get o)
noncomputable def storeV (P : Program) (st : St) (t : TypeId) (o off : Nat) (s : SV) : Option St :=
  bc (allOne (cellsOf s)) (Option.rec none (fun n => bc (Nat.beq (lenR (cellsOf s)) n) (storeAt st o off (cellsOf s)) none) (szOf P t)) none

theorem setRow_eq {w : World} {g : Nat} {old cs : Array Value} {t : TypeId} {fr : Nat × Nat} (hg : w.heap[g]? = some (.cells old t fr)) :
    w.setRow g cs = { w with heap := w.heap.setIfInBounds g (.cells cs t fr) } := by
  have hlt : g < w.heap.size := (Array.getElem?_eq_some_iff.1 hg).1
  unfold World.setRow
  congr 1
  apply Array.ext_getElem?
  intro i
  rw [Array.getElem?_modify, Array.getElem?_setIfInBounds]
  by_cases e : g = i
  · subst e
    have hv : w.heap[g] = .cells old t fr := (Array.getElem?_eq_some_iff.1 hg).2
    simp [hlt, hv]
  · simp [e]

theorem storeAt_ok {P : Program} {σ w0 β} {st st' : St} {w : World} (h : Rep σ w0 β st w) {o off : Nat} {ss : List SV} {vs : List Value} (hv : DenL σ β ss vs) (h1 : ∀ x ∈ vs, x.oneCell' = true)
    (hs : storeAt st o off ss = some st') {b c : Nat} (hb : β o = some (b, c)) :
    ∃ w', (storeCells ⟨b, off, none⟩ vs).run P w = .ok () w' ∧ Rep σ w0 β st' w' := by
  unfold storeAt at hs
  cases hg : st.hp.get o with
  | none => rw [hg] at hs; cases hs
  | some he =>
    rw [hg] at hs
    obtain ⟨ob, ro⟩ := he
    cases ro with
    | true => cases hs
    | false =>
      obtain ⟨b1, c1, x, k1, k2, k3, _⟩ := h.heap o _ hg
      rw [hb] at k1; simp at k1; obtain ⟨rfl, rfl⟩ := k1
      cases ob with
      | cells cs e =>
        change Option.rec none (fun cs' => some _) (layR cs ss off) = some st' at hs
        cases hl : layR cs ss off with
        | none => rw [hl] at hs; cases hs
        | some cs' =>
          rw [hl] at hs; cases hs
          obtain ⟨e1, e2⟩ := layR_some hl
          cases k3 with
          | cells hd =>
            rename_i vs0
            have hlen := hd.length
            have hlv := hv.length
            rcases e2 with rfl | e2
            · cases hv
              refine ⟨w, by simp [storeCells], ?_⟩
              have hsame : cs' = cs := by rw [e1]; simp
              rw [hsame]
              have hk : w.heap.setIfInBounds b (.cells vs0.toArray e (0, 0)) = w.heap := by
                apply Array.ext_getElem?
                intro i
                have hlt : b < w.heap.size := (Array.getElem?_eq_some_iff.1 k2).1
                rw [Array.getElem?_setIfInBounds]
                by_cases ei : b = i
                · subst ei
                  have hv : w.heap[b] = .cells vs0.toArray e (0, 0) := (Array.getElem?_eq_some_iff.1 k2).2
                  simp [hlt, hv]
                · simp [ei]
              have := h.turn hg hb (ob' := .cells cs e) (x := .cells vs0.toArray e (0, 0)) (.cells hd)
              rw [hk] at this
              exact this
            · have hrun := run_storeCells_at (P := P) b off e vs 0 vs0.toArray w k2 (by simp; omega) h1
              rw [setRow_eq k2] at hrun
              refine ⟨_, hrun, ?_⟩
              refine h.turn hg hb ?_
              rw [e1]
              refine .cells ?_
              simp only [Nat.add_zero]
              rw [hlv]
              exact ((hd.take off).append hv).append (hd.drop _)
      | grown _ _ _ => cases hs
      | map _ _ => cases hs

theorem storeV_ok {P : Program} {σ w0 β} {st st' : St} {w : World} (h : Rep σ w0 β st w) {t : TypeId} {o off : Nat} {s : SV} {v : Value} (hv : Den σ β s v)
    (hs : storeV P st t o off s = some st') {b c : Nat} (hb : β o = some (b, c)) :
    ∃ w', (storeVar t ⟨b, off, none⟩ v).run P w = .ok () w' ∧ Rep σ w0 β st' w' := by
  unfold storeV at hs
  cases ho : allOne (cellsOf s)
  · rw [ho] at hs; cases hs
  · rw [ho] at hs
    cases hz : szOf P t with
    | none => rw [hz] at hs; cases hs
    | some n =>
      rw [hz] at hs
      change bc (Nat.beq (lenR (cellsOf s)) n) (storeAt st o off (cellsOf s)) none = some st' at hs
      cases hn : Nat.beq (lenR (cellsOf s)) n
      · rw [hn] at hs; cases hs
      · rw [hn] at hs
        obtain ⟨k1, k2⟩ := cellsOf_ok hv ho
        obtain ⟨w', hr, hw⟩ := storeAt_ok (P := P) h k1 k2 hs hb
        refine ⟨w', ?_, hw⟩
        have : v.cells.size = n := by
          have := k1.length
          rw [← of_nbeq hn, lenR_eq, this]; simp
        simp [storeVar, run_sizeOf' hz, this, hr]

end Go.Sx
end

section
/- Operations that only give a value. -/
namespace Go.Sx
open Go.RowKit

noncomputable def ob {α β : Type} (x : Option α) (f : α → Option β) : Option β := Option.rec none f x
theorem ob_some {α β : Type} {x : Option α} {f : α → Option β} {b : β} (h : ob x f = some b) : ∃ a, x = some a ∧ f a = some b := by
  cases x with
  | none => cases h
  | some a => exact ⟨a, rfl, h⟩
/-- What holds of a Bool. -/
noncomputable def ow {α : Type} (c : Bool) (f : Option α) : Option α := bc c f none
theorem ow_some {α : Type} {c : Bool} {f : Option α} {b : α} (h : ow c f = some b) : c = true ∧ f = some b := by
  cases c with
  | false => cases h
  | true => exact ⟨rfl, h⟩

/-! ### Integers -/
noncomputable def ltT (k : IntKind) (a b : Tm) : Tm := bc k.signed (mkBin .slt k.bits a b) (mkBin .ult k.bits a b)
theorem ltT_ev {σ} {k : IntKind} {a b : Tm} (ha : a.ev σ < 2 ^ k.bits) (hb : b.ev σ < 2 ^ k.bits) : (ltT k a b).ev σ = if ofB k (a.ev σ) < ofB k (b.ev σ) then 1 else 0 := by
  rw [← lt_ofB ha hb]
  unfold ltT ltB
  cases k.signed
  · exact mkBin_ev _ _ _ _ _
  · exact mkBin_ev _ _ _ _ _
noncomputable def eqTm (w : Nat) (a b : Tm) : Tm := mkBin .eq w a b
theorem eqTm_ev {σ} (w : Nat) (a b : Tm) : (eqTm w a b).ev σ = if a.ev σ = b.ev σ then 1 else 0 := by
  unfold eqTm; rw [mkBin_ev]
  show b2n (Nat.beq _ _) = _
  by_cases h : a.ev σ = b.ev σ
  · rw [nbeq_t h, if_pos h]; rfl
  · rw [nbeq_f h, if_neg h]; rfl

/-- A term known to be no negative number of a kind. -/
noncomputable def nonneg (pc : PC) (k : IntKind) (b : Tm) : Bool :=
  bc k.signed (Option.rec (Nat.beq (decT pc (ltT k b (.lit 0))) 0) (fun n => Nat.blt n (p2 (Nat.sub k.bits 1))) (isLit b)) true
theorem nonneg_ok {σ} {pc : PC} (hp : pc.ok σ) {k : IntKind} {b : Tm} (hb : b.ev σ < 2 ^ k.bits) (h : nonneg pc k b = true) : ofB k (b.ev σ) = b.ev σ := by
  unfold nonneg at h
  cases hs : k.signed
  · exact ofB_unsigned hs hb
  · rw [hs] at h
    change Option.rec (Nat.beq (decT pc (ltT k b (.lit 0))) 0) (fun n => Nat.blt n (p2 (Nat.sub k.bits 1))) (isLit b) = true at h
    cases hl : isLit b with
    | none =>
      rw [hl] at h
      have h0 := (decT_ok hp (t := ltT k b (.lit 0))).2 (of_nbeq h)
      rw [ltT_ev hb (by rw [ev_lit]; exact Nat.two_pow_pos _), ev_lit] at h0
      have : ¬ ofB k (b.ev σ) < ofB k 0 := by
        intro e; rw [if_pos e] at h0; cases h0
      have h00 : ofB k 0 = 0 := by rw [ofB_signed hs (Nat.two_pow_pos _), if_neg (by have := Nat.two_pow_pos (k.bits - 1); omega)]; rfl
      rw [h00] at this
      rw [ofB_signed hs hb] at this ⊢
      split at this
      · have hc : ((2 ^ k.bits : Nat) : Int) = 2 ^ k.bits := by push_cast; rfl
        rw [← hc] at this; omega
      · rename_i e; rw [if_neg e]
    | some n =>
      rw [hl] at h
      have : n < 2 ^ (k.bits - 1) := of_nblt h
      rw [isLit_some hl, ev_lit]
      rw [isLit_some hl, ev_lit] at hb
      rw [ofB_signed hs hb, if_neg (Nat.not_le_of_lt this)]

/-- A term known not to be 0. -/
noncomputable def nonzero (pc : PC) (b : Tm) : Bool := Option.rec (Nat.beq (decT pc b) 1) (fun n => Nat.blt 0 n) (isLit b)
theorem nonzero_ok {σ} {pc : PC} (hp : pc.ok σ) {b : Tm} (h : nonzero pc b = true) : b.ev σ ≠ 0 := by
  unfold nonzero at h
  cases hl : isLit b with
  | none => rw [hl] at h; exact (decT_ok hp).1 (of_nbeq h)
  | some n => rw [hl] at h; rw [isLit_some hl, ev_lit]; have := of_nblt h; omega

noncomputable def binI (pc : PC) (op : BinOp) (k : IntKind) (a b : Tm) : Option SV :=
  BinOp.rec (some (.int k (mkBin .add k.bits a b))) (some (.int k (mkBin .sub k.bits a b))) (some (.int k (mkBin .mul k.bits a b)))
    (ow (nonzero pc b) (some (.int k (quoT k a b)))) (ow (nonzero pc b) (some (.int k (remT k a b))))
    (some (.int k (mkBin .and k.bits a b))) (some (.int k (mkBin .or k.bits a b))) (some (.int k (mkBin .xor k.bits a b))) none none
    (some (.int k (mkBin .and k.bits a (mkBin .xor k.bits b (.lit (Nat.sub (p2 k.bits) 1))))))
    (some (.bool (eqTm k.bits a b))) (some (.bool (mkNot (eqTm k.bits a b))))
    (some (.bool (ltT k a b))) (some (.bool (mkNot (ltT k b a)))) (some (.bool (ltT k b a))) (some (.bool (mkNot (ltT k a b)))) op

theorem den_bool {σ β} {t : Tm} {b : Bool} (h : t.ev σ = if b = true then 1 else 0) : Den σ β (.bool t) (.bool b) := by
  have := Den.bool (σ := σ) (β := β) (t := t) (by rw [h]; split <;> omega)
  have e : (t.ev σ != 0) = b := by rw [h]; cases b <;> rfl
  rwa [e] at this
theorem den_int {σ β} {k : IntKind} {t : Tm} {x : Int} (h : x = ofB k (t.ev σ)) (hl : t.ev σ < 2 ^ k.bits) : Den σ β (.int k t) (.int k x) := by
  subst h; exact .int hl

theorem mod_lt' (x w : Nat) : x % 2 ^ w < 2 ^ w := Nat.mod_lt _ (Nat.two_pow_pos _)

theorem binI_ok {P : Program} {σ β} {pc : PC} (hp : pc.ok σ) {op : BinOp} {k : IntKind} {a b : Tm} {s : SV} (ha : a.ev σ < 2 ^ k.bits) (hb : b.ev σ < 2 ^ k.bits) (h : binI pc op k a b = some s) (t : TypeId) (w : World) :
    ∃ v, (binOp op t (.int k (ofB k (a.ev σ))) (.int k (ofB k (b.ev σ)))).run P w = .ok v w ∧ Den σ β s v := by
  cases op with
  | add =>
    cases h
    refine ⟨_, by simp only [binOp, ne_eq, not_true_eq_false, if_false, Op.intArith, Sem.run_pure] <;> rfl, den_int ?_ ?_⟩
    · rw [mkBin_ev]; exact add_ofB k _ _
    · rw [mkBin_ev]; exact mod_lt' _ _
  | sub =>
    cases h
    refine ⟨_, by simp only [binOp, ne_eq, not_true_eq_false, if_false, Op.intArith, Sem.run_pure] <;> rfl, den_int ?_ ?_⟩
    · rw [mkBin_ev]; exact sub_ofB k _ _
    · rw [mkBin_ev]; exact mod_lt' _ _
  | mul =>
    cases h
    refine ⟨_, by simp only [binOp, ne_eq, not_true_eq_false, if_false, Op.intArith, Sem.run_pure] <;> rfl, den_int ?_ ?_⟩
    · rw [mkBin_ev]; exact mul_ofB k _ _
    · rw [mkBin_ev]; exact mod_lt' _ _
  | quo =>
    obtain ⟨h1, h2⟩ := ow_some h
    cases h2
    have hz := nonzero_ok hp h1
    have hz' : ¬ ofB k (b.ev σ) = 0 := by
      intro e
      have : ofB k (b.ev σ) = ofB k 0 := by
        rw [e]; symm; unfold ofB IntKind.wrap
        simp
        intro _ h'
        have := Nat.two_pow_pos (k.bits - 1)
        have h'' : (0 : Int) < 2 ^ (k.bits - 1) := by exact_mod_cast this
        omega
      exact hz (ofB_inj hb (Nat.two_pow_pos _) this)
    obtain ⟨e1, e2⟩ := quo_ofB σ ha hb
    refine ⟨_, by simp only [binOp, ne_eq, not_true_eq_false, if_false, Op.intDiv, hz', Sem.run_pure] <;> rfl, den_int e1 e2⟩
  | rem =>
    obtain ⟨h1, h2⟩ := ow_some h
    cases h2
    have hz := nonzero_ok hp h1
    have hz' : ¬ ofB k (b.ev σ) = 0 := by
      intro e
      have : ofB k (b.ev σ) = ofB k 0 := by
        rw [e]; symm; unfold ofB IntKind.wrap
        simp
        intro _ h'
        have := Nat.two_pow_pos (k.bits - 1)
        have h'' : (0 : Int) < 2 ^ (k.bits - 1) := by exact_mod_cast this
        omega
      exact hz (ofB_inj hb (Nat.two_pow_pos _) this)
    obtain ⟨e1, e2⟩ := rem_ofB σ ha hb hz
    refine ⟨_, by simp only [binOp, ne_eq, not_true_eq_false, if_false, Op.intDiv, hz', Sem.run_pure] <;> rfl, den_int e1 e2⟩
  | and =>
    cases h
    refine ⟨_, by simp only [binOp, ne_eq, not_true_eq_false, if_false, Op.intBits, Sem.run_pure] <;> rfl, den_int ?_ ?_⟩
    · rw [mkBin_ev]; exact and_ofB k ha hb
    · rw [mkBin_ev]; exact Nat.and_lt_two_pow _ hb
  | or =>
    cases h
    refine ⟨_, by simp only [binOp, ne_eq, not_true_eq_false, if_false, Op.intBits, Sem.run_pure] <;> rfl, den_int ?_ ?_⟩
    · rw [mkBin_ev]; exact or_ofB k ha hb
    · rw [mkBin_ev]; exact Nat.or_lt_two_pow ha hb
  | xor =>
    cases h
    refine ⟨_, by simp only [binOp, ne_eq, not_true_eq_false, if_false, Op.intBits, Sem.run_pure] <;> rfl, den_int ?_ ?_⟩
    · rw [mkBin_ev]; exact xor_ofB k ha hb
    · rw [mkBin_ev]; exact Nat.xor_lt_two_pow ha hb
  | shl => cases h
  | shr => cases h
  | andNot =>
    cases h
    refine ⟨_, by simp only [binOp, ne_eq, not_true_eq_false, if_false, Op.intBits, Sem.run_pure] <;> rfl, den_int ?_ ?_⟩
    · rw [mkBin_ev, mkBin_ev]; exact andNot_ofB k ha hb
    · rw [mkBin_ev, mkBin_ev]
      show Nat.land _ _ < _
      exact Nat.lt_of_le_of_lt Nat.and_le_left ha
  | eql =>
    cases h
    refine ⟨_, by simp only [binOp, ne_eq, not_true_eq_false, if_false, Op.intCmp, Sem.run_pure] <;> rfl, den_bool ?_⟩
    rw [eqTm_ev, eq_ofB ha hb]
    by_cases e : a.ev σ = b.ev σ
    · simp [e]
    · simp [nbeq_f e, e]
  | neq =>
    cases h
    refine ⟨_, by simp only [binOp, ne_eq, not_true_eq_false, if_false, Op.intCmp, Sem.run_pure] <;> rfl, den_bool ?_⟩
    rw [mkNot_ev, eqTm_ev, show (ofB k (a.ev σ) != ofB k (b.ev σ)) = !(ofB k (a.ev σ) == ofB k (b.ev σ)) from rfl, eq_ofB ha hb]
    by_cases e : a.ev σ = b.ev σ
    · simp [e]
    · simp [nbeq_f e, e]
  | lss =>
    cases h
    refine ⟨_, by simp only [binOp, ne_eq, not_true_eq_false, if_false, Op.intCmp, Sem.run_pure] <;> rfl, den_bool ?_⟩
    rw [ltT_ev ha hb]; simp
  | leq =>
    cases h
    refine ⟨_, by simp only [binOp, ne_eq, not_true_eq_false, if_false, Op.intCmp, Sem.run_pure] <;> rfl, den_bool ?_⟩
    rw [mkNot_ev, ltT_ev hb ha]
    by_cases e : ofB k (b.ev σ) < ofB k (a.ev σ)
    · simp [e]
    · simp [e]
  | gtr =>
    cases h
    refine ⟨_, by simp only [binOp, ne_eq, not_true_eq_false, if_false, Op.intCmp, Sem.run_pure] <;> rfl, den_bool ?_⟩
    rw [ltT_ev hb ha]; simp
  | geq =>
    cases h
    refine ⟨_, by simp only [binOp, ne_eq, not_true_eq_false, if_false, Op.intCmp, Sem.run_pure] <;> rfl, den_bool ?_⟩
    rw [mkNot_ev, ltT_ev ha hb]
    by_cases e : ofB k (a.ev σ) < ofB k (b.ev σ)
    · simp [e]
    · simp [e]

/-! ### Shifts -/
noncomputable def shI (pc : PC) (op : BinOp) (k : IntKind) (a : Tm) (yk : IntKind) (b : Tm) : Option SV :=
  ow (nonneg pc yk b) (BinOp.rec none none none none none none none none
    (some (.int k (mkBin .shl k.bits a b))) (some (.int k (bc k.signed (mkBin .sar k.bits a b) (mkBin .shr k.bits a b)))) none none none none none none none op)
theorem shI_ok {P : Program} {σ β} {pc : PC} (hp : pc.ok σ) {op : BinOp} {k yk : IntKind} {a b : Tm} {s : SV} (ha : a.ev σ < 2 ^ k.bits) (hb : b.ev σ < 2 ^ yk.bits) (h : shI pc op k a yk b = some s) (t : TypeId) (w : World) :
    ∃ v, (binOp op t (.int k (ofB k (a.ev σ))) (.int yk (ofB yk (b.ev σ)))).run P w = .ok v w ∧ Den σ β s v := by
  obtain ⟨h1, h2⟩ := ow_some h
  have hn := nonneg_ok hp hb h1
  have hge : ¬ ofB yk (b.ev σ) < 0 := by rw [hn]; omega
  have htn : (ofB yk (b.ev σ)).toNat = b.ev σ := by rw [hn]; rfl
  cases op <;> first | (cases h2; done) | skip
  · cases h2
    refine ⟨_, by simp only [binOp, Op.shift, hge, if_false, Sem.run_pure] <;> rfl, den_int ?_ ?_⟩
    · rw [htn, mkBin_ev]; exact shl_ofB k _ _
    · rw [mkBin_ev]
      show bc (Nat.ble k.bits (b.ev σ)) 0 _ < _
      cases Nat.ble k.bits (b.ev σ)
      · exact mod_lt' _ _
      · exact Nat.two_pow_pos _
  · cases h2
    refine ⟨_, by simp only [binOp, Op.shift, hge, if_false, Sem.run_pure] <;> rfl, den_int ?_ ?_⟩
    · rw [htn]
      cases hs : k.signed
      · show _ = ofB k ((mkBin .shr k.bits a b).ev σ)
        rw [mkBin_ev]; exact shr_ofB_u hs ha _
      · show _ = ofB k ((mkBin .sar k.bits a b).ev σ)
        rw [mkBin_ev]; exact shr_ofB_s hs ha _
    · cases hs : k.signed
      · show (mkBin .shr k.bits a b).ev σ < _
        rw [mkBin_ev]
        show bc (Nat.ble k.bits (b.ev σ)) 0 (a.ev σ / 2 ^ b.ev σ) < _
        cases Nat.ble k.bits (b.ev σ)
        · exact Nat.lt_of_le_of_lt (Nat.div_le_self _ _) ha
        · exact Nat.two_pow_pos _
      · show (mkBin .sar k.bits a b).ev σ < _
        rw [mkBin_ev]
        show bc (isNeg k.bits (a.ev σ)) (2 ^ k.bits - 1 - _) (a.ev σ / 2 ^ _) < _
        have hp2 := Nat.two_pow_pos k.bits
        cases isNeg k.bits (a.ev σ)
        · exact Nat.lt_of_le_of_lt (Nat.div_le_self _ _) ha
        · exact Nat.lt_of_le_of_lt (Nat.sub_le _ _) (by omega)

/-! ### Tests on Bools -/
noncomputable def binB (op : BinOp) (a b : Tm) : Option SV :=
  BinOp.rec none none none none none none none none none none none (some (.bool (eqTm 1 a b))) (some (.bool (mkNot (eqTm 1 a b)))) none none none none op

end Go.Sx
end

section
/- Operations that only give a value, all of them. -/
namespace Go.Sx
open Go.RowKit

/-! ### What a value is -/
noncomputable def svInt (s : SV) : Option (IntKind × Tm) := SV.casesOn (motive_1 := fun _ => Option (IntKind × Tm)) s (fun k t => some (k, t)) (fun _ => none) none (fun _ _ => none) none (fun _ _ _ _ => none) (fun _ _ => none) none (fun _ => none) (fun _ _ => none) none (fun _ => none) none (fun _ => none) (fun _ => none)
theorem svInt_some {s : SV} {x : IntKind × Tm} (h : svInt s = some x) : s = .int x.1 x.2 := by cases s <;> first | (cases h; done) | (cases h; rfl)
noncomputable def svBool (s : SV) : Option Tm := SV.casesOn (motive_1 := fun _ => Option Tm) s (fun _ _ => none) (fun t => some t) none (fun _ _ => none) none (fun _ _ _ _ => none) (fun _ _ => none) none (fun _ => none) (fun _ _ => none) none (fun _ => none) none (fun _ => none) (fun _ => none)
theorem svBool_some {s : SV} {x : Tm} (h : svBool s = some x) : s = .bool x := by cases s <;> first | (cases h; done) | (cases h; rfl)
noncomputable def svPtr (s : SV) : Option (Nat × Nat) := SV.casesOn (motive_1 := fun _ => Option (Nat × Nat)) s (fun _ _ => none) (fun _ => none) none (fun o off => some (o, off)) none (fun _ _ _ _ => none) (fun _ _ => none) none (fun _ => none) (fun _ _ => none) none (fun _ => none) none (fun _ => none) (fun _ => none)
theorem svPtr_some {s : SV} {x : Nat × Nat} (h : svPtr s = some x) : s = .ptr x.1 x.2 := by cases s <;> first | (cases h; done) | (cases h; rfl)
noncomputable def svAgg (s : SV) : Option (List SV) := SV.casesOn (motive_1 := fun _ => Option (List SV)) s (fun _ _ => none) (fun _ => none) none (fun _ _ => none) none (fun _ _ _ _ => none) (fun _ _ => none) none (fun _ => none) (fun _ _ => none) none (fun _ => none) none (fun cs => some cs) (fun _ => none)
theorem svAgg_some {s : SV} {x : List SV} (h : svAgg s = some x) : s = .agg x := by cases s <;> first | (cases h; done) | (cases h; rfl)
noncomputable def svTup (s : SV) : Option (List SV) := SV.casesOn (motive_1 := fun _ => Option (List SV)) s (fun _ _ => none) (fun _ => none) none (fun _ _ => none) none (fun _ _ _ _ => none) (fun _ _ => none) none (fun _ => none) (fun _ _ => none) none (fun _ => none) none (fun _ => none) (fun cs => some cs)
theorem svTup_some {s : SV} {x : List SV} (h : svTup s = some x) : s = .tuple x := by cases s <;> first | (cases h; done) | (cases h; rfl)
noncomputable def svMap (s : SV) : Option Nat := SV.casesOn (motive_1 := fun _ => Option Nat) s (fun _ _ => none) (fun _ => none) none (fun _ _ => none) none (fun _ _ _ _ => none) (fun _ _ => none) none (fun o => some o) (fun _ _ => none) none (fun _ => none) none (fun _ => none) (fun _ => none)
theorem svMap_some {s : SV} {x : Nat} (h : svMap s = some x) : s = .map x := by cases s <;> first | (cases h; done) | (cases h; rfl)
noncomputable def svFunc (s : SV) : Option (Nat × List SV) := SV.casesOn (motive_1 := fun _ => Option (Nat × List SV)) s (fun _ _ => none) (fun _ => none) none (fun _ _ => none) none (fun _ _ _ _ => none) (fun _ _ => none) none (fun _ => none) (fun f c => some (f, c)) none (fun _ => none) none (fun _ => none) (fun _ => none)
theorem svFunc_some {s : SV} {x : Nat × List SV} (h : svFunc s = some x) : s = .func x.1 x.2 := by cases s <;> first | (cases h; done) | (cases h; rfl)
/-- A slice with its block: the object, the place, the length, the capacity if it is known. -/
noncomputable def svSlice (s : SV) : Option (Nat × Nat × Nat × Option Nat) := SV.casesOn (motive_1 := fun _ => Option (Nat × Nat × Nat × Option Nat)) s (fun _ _ => none) (fun _ => none) none (fun _ _ => none) none (fun o off len cap => some (o, off, len, some cap)) (fun o len => some (o, 0, len, none)) none (fun _ => none) (fun _ _ => none) none (fun _ => none) none (fun _ => none) (fun _ => none)
theorem svSlice_den {σ β} {s : SV} {x : Nat × Nat × Nat × Option Nat} (h : svSlice s = some x) {v : Value} (hd : Den σ β s v) :
    ∃ b c cap, β x.1 = some (b, c) ∧ v = .slice (some ⟨b, x.2.1, none⟩) x.2.2.1 cap ∧ (∀ k, x.2.2.2 = some k → cap = k) := by
  cases hd <;> first | (cases h; done) | skip
  · cases h
    rename_i b c hb
    exact ⟨b, c, _, hb, rfl, fun k hk => by cases hk; rfl⟩
  · cases h
    rename_i b c hb hl
    exact ⟨b, c, _, hb, rfl, fun k hk => by cases hk⟩

/-! ### One by one -/
noncomputable def fieldsOf (P : Program) (t : TypeId) : Option (Array Field) := (P.underlying t).bind fun d => match d with | .struct fs => some fs | _ => none
theorem fieldsOf_some {P : Program} {t : TypeId} {fs : Array Field} (h : fieldsOf P t = some fs) : P.underlying t = some (.struct fs) := by
  unfold fieldsOf at h
  cases hu : P.underlying t with
  | none => rw [hu] at h; cases h
  | some d => rw [hu] at h; cases d <;> simp at h; rw [h]
noncomputable def arrOf (P : Program) (t : TypeId) : Option (Nat × TypeId) := (P.underlying t).bind fun d => match d with | .array n e => some (n, e) | _ => none
theorem arrOf_some {P : Program} {t : TypeId} {x : Nat × TypeId} (h : arrOf P t = some x) : P.underlying t = some (.array x.1 x.2) := by
  unfold arrOf at h
  cases hu : P.underlying t with
  | none => rw [hu] at h; cases h
  | some d => rw [hu] at h; cases d <;> simp at h; rw [← h]
noncomputable def sliOf (P : Program) (t : TypeId) : Option TypeId := (P.underlying t).bind fun d => match d with | .slice e => some e | _ => none
theorem sliOf_some {P : Program} {t : TypeId} {e : TypeId} (h : sliOf P t = some e) : P.underlying t = some (.slice e) := by
  unfold sliOf at h
  cases hu : P.underlying t with
  | none => rw [hu] at h; cases h
  | some d => rw [hu] at h; cases d <;> simp at h; rw [← h]
noncomputable def intOfT (P : Program) (t : TypeId) : Option IntKind := (P.underlying t).bind fun d => match d with | .int k => some k | _ => none
theorem intOfT_some {P : Program} {t : TypeId} {e : IntKind} (h : intOfT P t = some e) : P.underlying t = some (.int e) := by
  unfold intOfT at h
  cases hu : P.underlying t with
  | none => rw [hu] at h; cases h
  | some d => rw [hu] at h; cases d <;> simp at h; rw [← h]

/-- A field's place and its size. -/
noncomputable def fieldAt' (P : Program) (t : TypeId) (f : Nat) : Option (Nat × TypeId) := (fieldsOf P t).bind fun fs => (fs[f]?).map fun d => (d.offset, d.type)

noncomputable def opFieldAddr (P : Program) (t : TypeId) (f : Nat) (x : Option SV) : Option SV :=
  ob x fun s => ob (svPtr s) fun p => ob (fieldAt' P t f) fun d => ob (szOf P d.2) fun n => ow (Nat.blt 0 n) (some (.ptr p.1 (Nat.add p.2 d.1)))
theorem opFieldAddr_ok {P : Program} {σ β} {t : TypeId} {f : Nat} {x : Option SV} {v : Value} (hv : ∀ s, x = some s → Den σ β s v) {r : SV} (h : opFieldAddr P t f x = some r) (w : World) :
    ∃ u, (Instr.fieldAt t v f).run P w = .ok u w ∧ Den σ β r u := by
  obtain ⟨s, hs, h⟩ := ob_some h
  obtain ⟨p, hp, h⟩ := ob_some h
  obtain ⟨d, hd, h⟩ := ob_some h
  obtain ⟨n, hn, h⟩ := ob_some h
  obtain ⟨hn0, h⟩ := ow_some h
  cases h
  have hden := hv s hs
  rw [svPtr_some hp] at hden
  cases hden with
  | ptr hb =>
    rename_i b c
    unfold fieldAt' at hd
    cases hf : fieldsOf P t with
    | none => rw [hf] at hd; cases hd
    | some fs =>
      rw [hf] at hd
      simp only [Option.bind_some] at hd
      cases hfd : fs[f]? with
      | none => rw [hfd] at hd; cases hd
      | some fd =>
        rw [hfd] at hd; simp at hd; subst hd
        refine ⟨_, ?_, .ptr (off := p.2 + fd.offset) hb⟩
        have hne : ¬ n = 0 := by have := of_nblt hn0; omega
        simp [Instr.fieldAt, run_underlying' (fieldsOf_some hf), hfd, Instr.sureAddr, fieldPlace, run_sizeOf' hn, hne, add_off]

/-- A part of an aggregate. -/
noncomputable def partS (P : Program) (t : TypeId) (cs : List SV) (off : Nat) : Option SV :=
  ob (aggOf P t) fun g => ob (szOf P t) fun n => bc g (ob (midR cs off n) fun m => some (.agg m)) (nthR cs off)
theorem partS_ok {P : Program} {σ β} {t : TypeId} {cs : List SV} {vs : List Value} (hv : DenL σ β cs vs) {off : Nat} {r : SV} (h : partS P t cs off = some r) (w : World) :
    ∃ u, (part t vs.toArray off).run P w = .ok u w ∧ Den σ β r u := by
  obtain ⟨g, hg, h⟩ := ob_some h
  obtain ⟨n, hn, h⟩ := ob_some h
  cases g
  · change nthR cs off = some r at h
    rw [nthR_eq] at h
    obtain ⟨v, h1, h2⟩ := hv.get h
    exact ⟨v, by simp [part, run_isAgg' hg, h1], h2⟩
  · obtain ⟨m, hm, h⟩ := ob_some h
    cases h
    obtain ⟨h1, h2⟩ := midR_some hm
    refine ⟨.agg ((vs.drop off).take n).toArray, ?_, .agg (h1 ▸ (hv.drop off).take n)⟩
    simp only [part, Sem.run_bind, run_isAgg' hg, Result.andThen_ok, if_true, run_sizeOf' hn, Sem.run_pure]
    congr 2
    apply Array.ext'
    simp [List.extract]
noncomputable def opField (P : Program) (t : TypeId) (f : Nat) (x : Option SV) : Option SV :=
  ob x fun s => ob (svAgg s) fun cs => ob (fieldAt' P t f) fun d => partS P d.2 cs d.1
theorem opField_ok {P : Program} {σ β} {t : TypeId} {f : Nat} {x : Option SV} {v : Value} (hv : ∀ s, x = some s → Den σ β s v) {r : SV} (h : opField P t f x = some r) (w : World) :
    ∃ u, (Instr.field t v f).run P w = .ok u w ∧ Den σ β r u := by
  obtain ⟨s, hs, h⟩ := ob_some h
  obtain ⟨cs, hc, h⟩ := ob_some h
  obtain ⟨d, hd, h⟩ := ob_some h
  have hden := hv s hs
  rw [svAgg_some hc] at hden
  cases hden with
  | agg hl =>
    rename_i vs
    unfold fieldAt' at hd
    cases hf : fieldsOf P t with
    | none => rw [hf] at hd; cases hd
    | some fs =>
      rw [hf] at hd
      simp only [Option.bind_some] at hd
      cases hfd : fs[f]? with
      | none => rw [hfd] at hd; cases hd
      | some fd =>
        rw [hfd] at hd; simp at hd; subst hd
        obtain ⟨u, h1, h2⟩ := partS_ok hl h w
        exact ⟨u, by simp [Instr.field, run_underlying' (fieldsOf_some hf), hfd, asAgg, h1], h2⟩

noncomputable def opExtract (i : Nat) (x : Option SV) : Option SV := ob x fun s => ob (svTup s) fun cs => nthR cs i
theorem opExtract_ok {P : Program} {σ β} {i : Nat} {x : Option SV} {v : Value} (hv : ∀ s, x = some s → Den σ β s v) {r : SV} (h : opExtract i x = some r) (w : World) :
    ∃ u, (Instr.extract v i).run P w = .ok u w ∧ Den σ β r u := by
  obtain ⟨s, hs, h⟩ := ob_some h
  obtain ⟨cs, hc, h⟩ := ob_some h
  have hden := hv s hs
  rw [svTup_some hc] at hden
  cases hden with
  | tuple hl =>
    rw [nthR_eq] at h
    obtain ⟨u, h1, h2⟩ := hl.get h
    exact ⟨u, by simp [Instr.extract, h1], h2⟩

/-- A literal index, of whatever kind: below 0 it is none. -/
noncomputable def ixLit (s : SV) : Option Nat := ob (svInt s) fun x => ob (isLit x.2) fun n => ow (bc x.1.signed (Nat.blt n (p2 (Nat.sub x.1.bits 1))) true) (some n)
theorem ixLit_ok {σ β} {s : SV} {n : Nat} (h : ixLit s = some n) {v : Value} (hd : Den σ β s v) : ∃ k, v = .int k (n : Int) := by
  obtain ⟨x, hx, h⟩ := ob_some h
  obtain ⟨m, hm, h⟩ := ob_some h
  obtain ⟨hc, h⟩ := ow_some h
  cases h
  rw [svInt_some hx] at hd
  cases hd with
  | int hl =>
    refine ⟨x.1, ?_⟩
    rw [isLit_some hm, ev_lit] at hl ⊢
    congr 1
    cases hs : x.1.signed
    · exact ofB_unsigned hs hl
    · rw [hs] at hc
      have : n < 2 ^ (x.1.bits - 1) := of_nblt hc
      rw [ofB_signed hs hl, if_neg (Nat.not_le_of_lt this)]

/-- The address of an element, at a literal index. -/
noncomputable def opIndexAddr (P : Program) (t : TypeId) (x ix : Option SV) : Option SV :=
  ob x fun s => ob ix fun i => ob (ixLit i) fun n =>
    Option.rec
      (ob (sliOf P t) fun e => ob (svSlice s) fun q => ob (szOf P e) fun z => ow (Nat.blt n q.2.2.1) (some (.ptr q.1 (Nat.add q.2.1 (Nat.mul n z)))))
      (fun ne => ob (svPtr s) fun p => ob (szOf P ne.2) fun z => ow (Nat.blt n ne.1) (some (.ptr p.1 (Nat.add p.2 (Nat.mul n z))))) (arrOf P t)
theorem opIndexAddr_ok {P : Program} {σ β} {t : TypeId} {x ix : Option SV} {v i : Value} (hv : ∀ s, x = some s → Den σ β s v) (hi : ∀ s, ix = some s → Den σ β s i) {r : SV} (h : opIndexAddr P t x ix = some r) (w : World) :
    ∃ u, (Instr.indexAt t v i).run P w = .ok u w ∧ Den σ β r u := by
  obtain ⟨s, hs, h⟩ := ob_some h
  obtain ⟨si, hsi, h⟩ := ob_some h
  obtain ⟨n, hn, h⟩ := ob_some h
  obtain ⟨k, rfl⟩ := ixLit_ok hn (hi si hsi)
  have hden := hv s hs
  cases ha : arrOf P t with
  | some ne =>
    rw [ha] at h
    obtain ⟨p, hp, h⟩ := ob_some h
    obtain ⟨z, hz, h⟩ := ob_some h
    obtain ⟨hlt, h⟩ := ow_some h
    cases h
    rw [svPtr_some hp] at hden
    cases hden with
    | ptr hb =>
      have hl := Nat.not_le_of_lt (of_nblt hlt)
      refine ⟨_, ?_, .ptr (off := p.2 + n * z) hb⟩
      simp [Instr.indexAt, asIntOf, run_underlying' (arrOf_some ha), Instr.sureAddr, hl, run_sizeOf' hz, add_off]
  | none =>
    rw [ha] at h
    obtain ⟨e, he, h⟩ := ob_some h
    obtain ⟨q, hq, h⟩ := ob_some h
    obtain ⟨z, hz, h⟩ := ob_some h
    obtain ⟨hlt, h⟩ := ow_some h
    cases h
    obtain ⟨b, c, cap, hb, rfl, _⟩ := svSlice_den hq hden
    have hl := Nat.not_le_of_lt (of_nblt hlt)
    refine ⟨_, ?_, .ptr (off := q.2.1 + n * z) hb⟩
    simp [Instr.indexAt, asIntOf, run_underlying' (sliOf_some he), hl, run_sizeOf' hz, add_off]

/-- An element of an array's value, at a literal index. -/
noncomputable def opIndex (P : Program) (t : TypeId) (x ix : Option SV) : Option SV :=
  ob x fun s => ob ix fun i => ob (ixLit i) fun n => ob (svAgg s) fun cs => ob (arrOf P t) fun ne => ob (szOf P ne.2) fun z => ow (Nat.blt n ne.1) (partS P ne.2 cs (Nat.mul n z))
theorem opIndex_ok {P : Program} {σ β} {t : TypeId} {x ix : Option SV} {v i : Value} (hv : ∀ s, x = some s → Den σ β s v) (hi : ∀ s, ix = some s → Den σ β s i) {r : SV} (h : opIndex P t x ix = some r) (w : World) :
    ∃ u, (Instr.index t v i).run P w = .ok u w ∧ Den σ β r u := by
  obtain ⟨s, hs, h⟩ := ob_some h
  obtain ⟨si, hsi, h⟩ := ob_some h
  obtain ⟨n, hn, h⟩ := ob_some h
  obtain ⟨cs, hc, h⟩ := ob_some h
  obtain ⟨ne, ha, h⟩ := ob_some h
  obtain ⟨z, hz, h⟩ := ob_some h
  obtain ⟨hlt, h⟩ := ow_some h
  obtain ⟨k, rfl⟩ := ixLit_ok hn (hi si hsi)
  have hden := hv s hs
  rw [svAgg_some hc] at hden
  cases hden with
  | agg hl' =>
    have hl := of_nblt hlt
    obtain ⟨u, h1, h2⟩ := partS_ok hl' h w
    refine ⟨u, ?_, h2⟩
    simp [Instr.index, asIntOf, run_underlying' (arrOf_some ha), run_sizeOf' hz]
    rw [if_pos hl]; exact h1

noncomputable def opConvert (P : Program) (src dst : TypeId) (x : Option SV) : Option SV :=
  ob x fun s => ob (svInt s) fun i => ob (P.underlying src) fun _ => ob (intOfT P dst) fun k => some (.int k (convT i.1 k i.2))
theorem opConvert_ok {P : Program} {σ β} {src dst : TypeId} {x : Option SV} {v : Value} (hv : ∀ s, x = some s → Den σ β s v) {r : SV} (h : opConvert P src dst x = some r) (w : World) :
    ∃ u, (convert src dst v).run P w = .ok u w ∧ Den σ β r u := by
  obtain ⟨s, hs, h⟩ := ob_some h
  obtain ⟨i, hi, h⟩ := ob_some h
  obtain ⟨d, hd, h⟩ := ob_some h
  obtain ⟨k, hk, h⟩ := ob_some h
  cases h
  have hden := hv s hs
  rw [svInt_some hi] at hden
  cases hden with
  | int hl =>
    obtain ⟨e1, e2⟩ := conv_ofB (dst := k) σ hl
    refine ⟨_, ?_, den_int e1 e2⟩
    simp only [convert, Sem.run_bind, run_underlying' hd, run_underlying' (intOfT_some hk), Result.andThen_ok]
    cases d <;> simp [Conv.intToInt]

noncomputable def opUn (op : UnOp) (x : Option SV) : Option SV :=
  ob x fun s => UnOp.rec (ob (svInt s) fun i => some (.int i.1 (mkBin .sub i.1.bits (.lit 0) i.2)))
    (ob (svInt s) fun i => some (.int i.1 (mkBin .xor i.1.bits (.lit (Nat.sub (p2 i.1.bits) 1)) i.2)))
    (ob (svBool s) fun t => some (.bool (mkNot t))) none op
theorem ofB_zero (k : IntKind) : ofB k 0 = 0 := by
  cases hs : k.signed
  · rw [ofB_unsigned hs (Nat.two_pow_pos _)]; rfl
  · rw [ofB_signed hs (Nat.two_pow_pos _), if_neg (by have := Nat.two_pow_pos (k.bits - 1); omega)]; rfl
theorem ofB_ones (k : IntKind) : ofB k (2 ^ k.bits - 1) = if k.signed then -1 else k.max := by
  have hp := Nat.two_pow_pos k.bits
  have h2 := two_p k
  have hp1 := Nat.two_pow_pos (k.bits - 1)
  cases hs : k.signed
  · rw [ofB_unsigned hs (by omega)]
    simp only [Bool.false_eq_true, if_false, IntKind.max, hs]
    rw [Int.natCast_sub (by omega)]; push_cast; rfl
  · rw [ofB_signed hs (by omega), if_pos (by omega)]
    simp only [if_true]
    rw [Int.natCast_sub (by omega)]; push_cast; omega
theorem opUn_ok {P : Program} {σ β} {op : UnOp} {x : Option SV} {v : Value} (hv : ∀ s, x = some s → Den σ β s v) {r : SV} (h : opUn op x = some r) (w : World) :
    ∃ u, (Op.unary op v).run P w = .ok u w ∧ Den σ β r u := by
  obtain ⟨s, hs, h⟩ := ob_some h
  have hden := hv s hs
  cases op with
  | neg =>
    obtain ⟨i, hi, h⟩ := ob_some h
    cases h
    rw [svInt_some hi] at hden
    cases hden with
    | int hl =>
      refine ⟨_, by simp only [Op.unary, Op.intArith, Sem.run_pure]; rfl, den_int ?_ ?_⟩
      · rw [mkBin_ev, ev_lit, ← sub_ofB, ofB_zero]
      · rw [mkBin_ev]; exact mod_lt' _ _
  | xor =>
    obtain ⟨i, hi, h⟩ := ob_some h
    cases h
    rw [svInt_some hi] at hden
    cases hden with
    | int hl =>
      have hp := Nat.two_pow_pos i.1.bits
      refine ⟨_, by simp only [Op.unary, Op.intBits, Sem.run_pure]; rfl, den_int ?_ ?_⟩
      · rw [mkBin_ev, ev_lit, ← ofB_ones]
        exact xor_ofB i.1 (by omega) hl
      · rw [mkBin_ev, ev_lit]
        exact Nat.xor_lt_two_pow (by show 2 ^ i.1.bits - 1 < _; omega) hl
  | not =>
    obtain ⟨t, ht, h⟩ := ob_some h
    cases h
    rw [svBool_some ht] at hden
    cases hden with
    | bool hl =>
      refine ⟨_, by simp only [Op.unary, Sem.run_pure]; rfl, den_bool ?_⟩
      rw [mkNot_ev]
      by_cases e : t.ev σ = 0
      · simp [e]
      · simp [e]
  | plus => cases h

noncomputable def opNilCheck (x : Option SV) : Option SV :=
  ob x fun s => SV.casesOn (motive_1 := fun _ => Option SV) s (fun _ _ => none) (fun _ => none) none (fun o off => some (.ptr o off)) none (fun _ _ _ _ => none) (fun _ _ => none) none (fun _ => none) (fun f c => some (.func f c)) none (fun _ => none) none (fun _ => none) (fun _ => none)

/-- One of two values. -/
noncomputable def opPick (pc : PC) (c a b : Option SV) : Option SV :=
  ob c fun c => ob (svBool c) fun t => Option.rec
    (ob a fun a => ob b fun b => Option.rec
      (ob (svInt a) fun x => ob (svInt b) fun y => ow (Nat.beq x.1.ctorIdx y.1.ctorIdx) (some (.int x.1 (mkIte t x.2 y.2))))
      (fun x => ob (svBool b) fun y => some (.bool (mkIte t x y))) (svBool a))
    (fun n => bc (Nat.beq n 0) b a) (isLit (simpT pc (redT pc.subs t)))
theorem kind_idx {a b : IntKind} (h : a.ctorIdx = b.ctorIdx) : a = b := by cases a <;> cases b <;> first | rfl | (simp [IntKind.ctorIdx] at h)
theorem opPick_ok {P : Program} {σ β} {pc : PC} (hp : pc.ok σ) {c a b : Option SV} {vc va vb : Value} (hc : ∀ s, c = some s → Den σ β s vc) (ha : ∀ s, a = some s → Den σ β s va) (hb : ∀ s, b = some s → Den σ β s vb) {r : SV} (h : opPick pc c a b = some r) (w : World) :
    ∃ t : Bool, (asBool vc).run P w = .ok t w ∧ Den σ β r (if t = true then va else vb) := by
  obtain ⟨s, hs, h⟩ := ob_some h
  obtain ⟨t, ht, h⟩ := ob_some h
  have hden := hc s hs
  rw [svBool_some ht] at hden
  cases hden with
  | bool hl =>
    refine ⟨_, rfl, ?_⟩
    cases hi : isLit (simpT pc (redT pc.subs t)) with
    | some n =>
      rw [hi] at h
      have hev : t.ev σ = n := by rw [← redT_ev hp.2.1 t, ← simpT_ev hp, isLit_some hi]; rfl
      rw [hev]
      by_cases e : n = 0
      · subst e; exact hb r h
      · change bc (Nat.beq n 0) b a = some r at h
        rw [nbeq_f e] at h
        have : (n != 0) = true := by simpa using e
        rw [this]; exact ha r h
    | none =>
      rw [hi] at h
      obtain ⟨sa, hsa, h⟩ := ob_some h
      obtain ⟨sb, hsb, h⟩ := ob_some h
      have da := ha sa hsa
      have db := hb sb hsb
      cases hba : svBool sa with
      | some x =>
        rw [hba] at h
        obtain ⟨y, hy, h⟩ := ob_some h
        cases h
        rw [svBool_some hba] at da
        rw [svBool_some hy] at db
        cases da with
        | bool hx =>
          cases db with
          | bool hy =>
            by_cases e : t.ev σ = 0
            · have e1 : (mkIte t x y).ev σ = y.ev σ := by rw [mkIte_ev, if_pos e]
              have := Den.bool (σ := σ) (β := β) (t := mkIte t x y) (by rw [e1]; exact hy)
              rw [e1] at this; simp [e]; simpa using this
            · have e1 : (mkIte t x y).ev σ = x.ev σ := by rw [mkIte_ev, if_neg e]
              have := Den.bool (σ := σ) (β := β) (t := mkIte t x y) (by rw [e1]; exact hx)
              rw [e1] at this; simp [e]; simpa using this
      | none =>
        rw [hba] at h
        obtain ⟨x, hx, h⟩ := ob_some h
        obtain ⟨y, hy, h⟩ := ob_some h
        obtain ⟨hk, h⟩ := ow_some h
        cases h
        rw [svInt_some hx] at da
        rw [svInt_some hy] at db
        have hkk := kind_idx (of_nbeq hk)
        cases da with
        | int lx =>
          cases db with
          | int ly =>
            by_cases e : t.ev σ = 0
            · have e1 : (mkIte t x.2 y.2).ev σ = y.2.ev σ := by rw [mkIte_ev, if_pos e]
              simp only [e, bne_self_eq_false, Bool.false_eq_true, if_false]
              rw [← hkk] at ly ⊢
              exact den_int (by rw [e1]) (by rw [e1]; exact ly)
            · have e1 : (mkIte t x.2 y.2).ev σ = x.2.ev σ := by rw [mkIte_ev, if_neg e]
              have : (t.ev σ != 0) = true := by simpa using e
              simp only [this, if_true]
              exact den_int (by rw [e1]) (by rw [e1]; exact lx)

end Go.Sx
end

section
/- Zero values, boxes, aggregates written out. -/
namespace Go.Sx
open Go.RowKit

noncomputable def ofVals (l : List Value) : Option (List SV) := List.rec (some []) (fun v _ ih => ob (ofVal v) fun s => ob ih fun t => some (s :: t)) l
theorem ofVals_ok {σ β} : ∀ {l : List Value} {ss : List SV}, ofVals l = some ss → DenL σ β ss l
  | [], ss, h => by cases h; exact .nil
  | v :: l, ss, h => by
    change (ob (ofVal v) fun s => ob (ofVals l) fun t => some (s :: t)) = some ss at h
    obtain ⟨s, hs, h⟩ := ob_some h
    obtain ⟨t, ht, h⟩ := ob_some h
    cases h
    exact .cons (ofVal_ok hs) (ofVals_ok ht)
/-- The cells of a type's zero value. -/
noncomputable def zeroS (P : Program) (t : TypeId) : Option (List SV) := (P.info? t).bind fun i => i.zero.bind fun v => ofVals v.cells.toList
theorem zeroS_ok {P : Program} {σ β} {t : TypeId} {ss : List SV} (h : zeroS P t = some ss) (w : World) : ∃ v, (zeroValue t).run P w = .ok v w ∧ DenL σ β ss v.cells.toList := by
  unfold zeroS at h
  cases hi : P.info? t with
  | none => rw [hi] at h; cases h
  | some i =>
    rw [hi] at h
    simp only [Option.bind_some] at h
    cases hz : i.zero with
    | none => rw [hz] at h; cases h
    | some v => rw [hz] at h; exact ⟨v, by simp [zeroValue, run_typeInfo' hi, hz], ofVals_ok h⟩
/-- One value of the zero's cells. -/
noncomputable def zeroV (P : Program) (t : TypeId) : Option SV := (P.info? t).bind fun i => i.zero.bind fun v => match v with
  | .agg cs => (ofVals cs.toList).map .agg
  | v => ofVal v
theorem zeroV_ok {P : Program} {σ β} {t : TypeId} {s : SV} (h : zeroV P t = some s) (w : World) : ∃ v, (zeroValue t).run P w = .ok v w ∧ Den σ β s v := by
  unfold zeroV at h
  cases hi : P.info? t with
  | none => rw [hi] at h; cases h
  | some i =>
    rw [hi] at h
    simp only [Option.bind_some] at h
    cases hz : i.zero with
    | none => rw [hz] at h; cases h
    | some v =>
      rw [hz] at h
      simp only [Option.bind_some] at h
      refine ⟨v, by simp [zeroValue, run_typeInfo' hi, hz], ?_⟩
      split at h
      · rename_i cs
        cases ho : ofVals cs.toList with
        | none => rw [ho] at h; cases h
        | some l => rw [ho] at h; cases h; have := Den.agg (ofVals_ok (σ := σ) (β := β) ho); simpa using this
      · exact ofVal_ok h

theorem cellsOf_den {σ β} {s : SV} {v : Value} (h : Den σ β s v) : DenL σ β (cellsOf s) v.cells.toList := by
  cases h with
  | int h => exact .cons (.int h) .nil
  | bool h => exact .cons (.bool h) .nil
  | pnil => exact .cons .pnil .nil
  | ptr h => exact .cons (.ptr h) .nil
  | snil => exact .cons .snil .nil
  | slice h => exact .cons (.slice h) .nil
  | sliceU h hl => exact .cons (.sliceU h hl) .nil
  | mnil => exact .cons .mnil .nil
  | map h => exact .cons (.map h) .nil
  | func h => exact .cons (.func h) .nil
  | fnil => exact .cons .fnil .nil
  | str => exact .cons .str .nil
  | inil => exact .cons .inil .nil
  | agg h => exact h
  | tuple h => exact .cons (.tuple h) .nil

/-! ### A new variable -/
theorem new_ok {P : Program} {σ w0 β} {st : St} {w : World} (h : Rep σ w0 β st w) {cs : List SV} {vs : List Value} (hd : DenL σ β cs vs) (e : TypeId) :
    ∃ β' w', (newRow e vs.toArray).run P w = .ok ⟨w.heap.size, 0, none⟩ w' ∧ Ext β β' ∧ Rep σ w0 β' (st.new (.cells cs e)) w' ∧ β' st.nn = some (w.heap.size, 0) := by
  obtain ⟨h1, h2, h3⟩ := h.new (c := 0) (ob := .cells cs e) (x := .cells vs.toArray e (0, 0)) (.cells hd)
  exact ⟨_, _, by simp [newRow], h1, h3, h2⟩

/-! ### Aggregates -/
theorem fold_set (off : Nat) : ∀ (vs : List Value) (k : Nat) (arr : Array Value), off + k + vs.length ≤ arr.size →
    ((vs.zipIdx k).foldl (fun cs (x : Value × Nat) => cs.setIfInBounds (off + x.2) x.1) arr).toList = arr.toList.take (off + k) ++ vs ++ arr.toList.drop (off + k + vs.length)
  | [], k, arr, h => by simp
  | v :: vs, k, arr, h => by
    simp only [List.zipIdx_cons, List.foldl_cons]
    simp only [List.length_cons] at h
    rw [fold_set off vs (k + 1) _ (by simp; omega)]
    have hlt : off + k < arr.size := by omega
    have hL : arr.toList.length = arr.size := by simp
    rw [Array.toList_setIfInBounds]
    apply List.ext_getElem?
    intro i
    simp only [List.getElem?_append, List.getElem?_take, List.getElem?_drop, List.getElem?_set, List.length_take, List.length_set, List.length_cons, List.getElem?_cons, List.append_assoc, hL]
    grind

/-- Parts, and what they denote. -/
inductive DenP (σ : Nat → Nat) (β : Nat → Option (Nat × Nat)) : List (Nat × SV) → List (Nat × Value) → Prop
  | nil : DenP σ β [] []
  | cons {i : Nat} {s : SV} {v : Value} {ps : List (Nat × SV)} {vs : List (Nat × Value)} (h : Den σ β s v) (t : DenP σ β ps vs) : DenP σ β ((i, s) :: ps) ((i, v) :: vs)

noncomputable def fillS (place : Nat → Option (Nat × Nat)) (ps : List (Nat × SV)) : List SV → Option (List SV) :=
  List.rec (motive := fun _ => List SV → Option (List SV)) (fun cs => some cs)
    (fun p _ ih cs => ob (place p.1) fun q => ow (Nat.beq (lenR (cellsOf p.2)) q.2) (ob (layR cs (cellsOf p.2) q.1) fun cs' => ow (Nat.ble (Nat.add q.1 q.2) (lenR cs)) (ih cs'))) ps
theorem fillS_ok {σ β} (place : Nat → Option (Nat × Nat)) : ∀ (ps : List (Nat × SV)) (vs : List (Nat × Value)) (cs : List SV) (arr : Array Value) (r : List SV),
    DenP σ β ps vs → DenL σ β cs arr.toList → fillS place ps cs = some r → ∃ a, Instr.fill place arr vs = some a ∧ DenL σ β r a.toList
  | [], [], cs, arr, r, _, hd, h => by cases h; exact ⟨arr, rfl, hd⟩
  | p :: ps, v :: vs, cs, arr, r, hf, hd, h => by
    cases hf with
    | cons h0 ht =>
      rename_i i s x
      change (ob (place i) fun q => ow (Nat.beq (lenR (cellsOf s)) q.2) (ob (layR cs (cellsOf s) q.1) fun cs' => ow (Nat.ble (Nat.add q.1 q.2) (lenR cs)) (fillS place ps cs'))) = some r at h
      obtain ⟨q, hq, h⟩ := ob_some h
      obtain ⟨hn, h⟩ := ow_some h
      obtain ⟨cs', hl, h⟩ := ob_some h
      obtain ⟨hle, h⟩ := ow_some h
      have hc := cellsOf_den h0
      have hlen := hc.length
      have hn' := of_nbeq hn
      rw [lenR_eq] at hn'
      have hle' := of_nble hle
      rw [lenR_eq, hd.length] at hle'
      obtain ⟨e1, _⟩ := layR_some hl
      have hsz : x.cells.size = q.2 := by rw [← hn', hlen]; simp
      have hfold := fold_set q.1 x.cells.toList 0 arr (by simp; rw [hsz]; simpa using hle')
      have hfold' : (x.cells.zipIdx.foldl (fun cs (x : Value × Nat) => cs.setIfInBounds (q.1 + x.2) x.1) arr).toList = arr.toList.take q.1 ++ x.cells.toList ++ arr.toList.drop (q.1 + x.cells.toList.length) := by
        rw [← Array.foldl_toList, Array.toList_zipIdx]
        simpa using hfold
      obtain ⟨a, ha, hr⟩ := fillS_ok place ps vs cs' _ r ht (by
        rw [hfold', e1, hlen]
        exact DenL.append (DenL.append (hd.take q.1) hc) (hd.drop (q.1 + x.cells.toList.length))) h
      refine ⟨a, ?_, hr⟩
      simp only [Instr.fill, hq]
      rw [if_neg (by simp [hsz]; simpa using hle')]
      exact ha
  | [], _ :: _, _, _, _, hf, _, _ => by cases hf
  | _ :: _, [], _, _, _, hf, _, _ => by cases hf

noncomputable def placesOf (P : Program) (fs : List Field) : Option (List (Nat × Nat)) := List.rec (some []) (fun f _ ih => ob (szOf P f.type) fun n => ob ih fun l => some ((f.offset, n) :: l)) fs
theorem placesOf_ok {P : Program} (w : World) : ∀ {fs : List Field} {l : List (Nat × Nat)}, placesOf P fs = some l →
    (fs.mapM (fun f => do pure (f.offset, ← sizeOf f.type) : Field → Sem (Nat × Nat))).run P w = .ok l w
  | [], l, h => by cases h; simp
  | f :: fs, l, h => by
    change (ob (szOf P f.type) fun n => ob (placesOf P fs) fun l => some ((f.offset, n) :: l)) = some l at h
    obtain ⟨n, hn, h⟩ := ob_some h
    obtain ⟨t, ht, h⟩ := ob_some h
    cases h
    simp only [List.mapM_cons, Sem.run_bind, run_sizeOf' hn, Result.andThen_ok, Sem.run_pure, placesOf_ok w ht]

/-- The operands of parts. -/
noncomputable def opndPs (F : Fr) (ps : List (Nat × Operand)) : Option (List (Nat × SV)) := List.rec (some []) (fun p _ ih => ob (opnd F p.2) fun s => ob ih fun t => some ((p.1, s) :: t)) ps
theorem opndPs_ok {σ β} {F : Fr} {a : Act} (hF : RepF σ β F a) : ∀ {ps : List (Nat × Operand)} {l : List (Nat × SV)}, opndPs F ps = some l →
    DenP σ β l (ps.map fun (i, x) => (i, a.eval x))
  | [], l, h => by cases h; exact .nil
  | p :: ps, l, h => by
    change (ob (opnd F p.2) fun s => ob (opndPs F ps) fun t => some ((p.1, s) :: t)) = some l at h
    obtain ⟨s, hs, h⟩ := ob_some h
    obtain ⟨t, ht, h⟩ := ob_some h
    cases h
    exact .cons (opnd_ok hF hs) (opndPs_ok hF ht)

noncomputable def nthD {α : Type} (l : List α) : Nat → Option α := fun i => nthR l i
noncomputable def opBuild (P : Program) (t : TypeId) (F : Fr) (ps : List (Nat × Operand)) : Option SV :=
  ob (opndPs F ps) fun l => ob (zeroS P t) fun z =>
    Option.rec (ob (arrOf P t) fun ne => ob (szOf P ne.2) fun n => ob (fillS (fun i => some (Nat.mul i n, n)) l z) fun cs => some (.agg cs))
      (fun fs => ob (placesOf P fs.toList) fun pl => ob (fillS (nthR pl) l z) fun cs => some (.agg cs)) (fieldsOf P t)
theorem opBuild_ok {P : Program} {σ β} {F : Fr} {a : Act} (hF : RepF σ β F a) {t : TypeId} {ps : Array (Nat × Operand)} {r : SV} (h : opBuild P t F ps.toList = some r) (w : World) :
    ∃ u, (Instr.build t (ps.map fun (i, x) => (i, a.eval x))).run P w = .ok u w ∧ Den σ β r u := by
  obtain ⟨l, hl, h⟩ := ob_some h
  obtain ⟨z, hz, h⟩ := ob_some h
  have hfa := opndPs_ok hF hl
  obtain ⟨zv, hzr, hzd⟩ := zeroS_ok (P := P) (σ := σ) (β := β) hz w
  cases hf : fieldsOf P t with
  | some fs =>
    rw [hf] at h
    obtain ⟨pl, hpl, h⟩ := ob_some h
    obtain ⟨cs, hcs, h⟩ := ob_some h
    cases h
    obtain ⟨arr, h1, h2⟩ := fillS_ok (nthR pl) l _ z zv.cells cs hfa hzd hcs
    refine ⟨.agg arr, ?_, by simpa using Den.agg h2⟩
    have hpl' := placesOf_ok (P := P) w hpl
    have he : (fun i => pl.toArray[i]?) = nthR pl := by funext i; rw [nthR_eq]; simp
    simp only [Instr.build, Sem.run_bind, hzr, Result.andThen_ok, run_underlying' (fieldsOf_some hf), Array.mapM_eq_mapM_toList, Sem.run_map, hpl']
    rw [he]
    simp [h1]
  | none =>
    rw [hf] at h
    obtain ⟨ne, hne, h⟩ := ob_some h
    obtain ⟨n, hn, h⟩ := ob_some h
    obtain ⟨cs, hcs, h⟩ := ob_some h
    cases h
    obtain ⟨arr, h1, h2⟩ := fillS_ok _ l _ z zv.cells cs hfa hzd hcs
    refine ⟨.agg arr, ?_, by simpa using Den.agg h2⟩
    have h1' : Instr.fill (fun i => some (i * n, n)) zv.cells (List.map (fun x => (x.fst, a.eval x.snd)) ps.toList) = some arr := h1
    simp only [Instr.build, Sem.run_bind, hzr, Result.andThen_ok, run_underlying' (arrOf_some hne), run_sizeOf' hn]
    simp [h1']

end Go.Sx
end

section
/- '==' and '!='. -/
namespace Go.Sx
open Go.RowKit

noncomputable def mkAnd (a b : Tm) : Tm := mkIte a b (.lit 0)
theorem mkAnd_ev {σ} (a b : Tm) : (mkAnd a b).ev σ = if a.ev σ = 0 then 0 else b.ev σ := by unfold mkAnd; rw [mkIte_ev, ev_lit]

noncomputable def isBoolT (P : Program) (t : TypeId) : Bool := match P.underlying t with | some .bool => true | _ => false
theorem isBoolT_some {P : Program} {t : TypeId} (h : isBoolT P t = true) : P.underlying t = some .bool := by
  unfold isBoolT at h; split at h <;> simp_all
/-- The fields that count. -/
noncomputable def fieldsN (P : Program) (t : TypeId) : Option (List (Nat × TypeId)) :=
  match fieldsOf P t with
  | some fs => if P.stoodInHeld t then none else some ((fs.toList.filter fun f => f.name ≠ "_").map fun f => (f.offset, f.type))
  | none => none

noncomputable def eqFs (P : Program) (rec : TypeId → SV → SV → Option Tm) (cs ds : List SV) (fs : List (Nat × TypeId)) : Option Tm :=
  List.rec (some (.lit 1)) (fun f _ ih => ob (partS P f.2 cs f.1) fun a => ob (partS P f.2 ds f.1) fun b => ob (rec f.2 a b) fun e => ob ih fun r => some (mkAnd e r)) fs
noncomputable def eqS (P : Program) (n : Nat) : TypeId → SV → SV → Option Tm :=
  Nat.rec (motive := fun _ => TypeId → SV → SV → Option Tm) (fun _ _ _ => none)
    (fun _ ih t x y => Option.rec
      (Option.rec
        (ow (isBoolT P t) (ob (svBool x) fun a => ob (svBool y) fun b => some (eqTm 1 a b)))
        (fun _ => ob (svInt x) fun a => ob (svInt y) fun b => ow (Nat.beq a.1.ctorIdx b.1.ctorIdx) (some (eqTm a.1.bits a.2 b.2))) (intOfT P t))
      (fun fs => ob (svAgg x) fun cs => ob (svAgg y) fun ds => eqFs P ih cs ds fs) (fieldsN P t)) n

theorem eqFs_ok {P : Program} {σ β} {rec : TypeId → SV → SV → Option Tm} {d : Nat} {w : World}
    (hrec : ∀ t x y vx vy e, Den σ β x vx → Den σ β y vy → rec t x y = some e → (Op.equalIn d t vx vy).run P w = .ok (e.ev σ != 0) w ∧ e.ev σ ≤ 1)
    {cs ds : List SV} {xs ys : List Value} (hx : DenL σ β cs xs) (hy : DenL σ β ds ys) :
    ∀ (fs : List Field) (e : Tm), eqFs P rec cs ds ((fs.filter fun f => f.name ≠ "_").map fun f => (f.offset, f.type)) = some e →
      (Op.eqFields d xs.toArray ys.toArray fs).run P w = .ok (e.ev σ != 0) w ∧ e.ev σ ≤ 1
  | [], e, h => by cases h; simp [Op.eqFields, ev_lit]
  | f :: fs, e, h => by
    by_cases hn : f.name ≠ "_"
    · rw [List.filter_cons_of_pos (by simpa using hn)] at h
      change (ob (partS P f.type cs f.offset) fun a => ob (partS P f.type ds f.offset) fun b => ob (rec f.type a b) fun e => ob (eqFs P rec cs ds ((fs.filter fun f => f.name ≠ "_").map fun f => (f.offset, f.type))) fun r => some (mkAnd e r)) = some e at h
      obtain ⟨a, ha, h⟩ := ob_some h
      obtain ⟨b, hb, h⟩ := ob_some h
      obtain ⟨e1, he1, h⟩ := ob_some h
      obtain ⟨r, hr, h⟩ := ob_some h
      cases h
      obtain ⟨va, k1, k2⟩ := partS_ok hx ha w
      obtain ⟨vb, k3, k4⟩ := partS_ok hy hb w
      obtain ⟨k5, k6⟩ := hrec _ _ _ _ _ _ k2 k4 he1
      obtain ⟨k7, k8⟩ := eqFs_ok hrec hx hy fs r hr
      rw [mkAnd_ev]
      refine ⟨?_, by split <;> omega⟩
      rw [Op.eqFields]
      simp only [if_pos hn, Sem.run_bind, k1, k3, k5, Result.andThen_ok]
      by_cases e0 : e1.ev σ = 0
      · simp [e0]
      · simp [e0]; simpa using k7
    · rw [List.filter_cons_of_neg (by simpa using hn)] at h
      obtain ⟨k7, k8⟩ := eqFs_ok hrec hx hy fs e h
      refine ⟨?_, k8⟩
      rw [Op.eqFields, if_neg hn]; exact k7

theorem eqS_ok {P : Program} {σ β} (w : World) : ∀ (n d : Nat), n ≤ d → ∀ t x y vx vy e, Den σ β x vx → Den σ β y vy → eqS P n t x y = some e →
    (Op.equalIn d t vx vy).run P w = .ok (e.ev σ != 0) w ∧ e.ev σ ≤ 1
  | 0, d, _, t, x, y, vx, vy, e, _, _, h => by cases h
  | n + 1, 0, hd, _, _, _, _, _, _, _, _, _ => by omega
  | n + 1, d + 1, hd, t, x, y, vx, vy, e, hx, hy, h => by
    change (Option.rec
      (Option.rec
        (ow (isBoolT P t) (ob (svBool x) fun a => ob (svBool y) fun b => some (eqTm 1 a b)))
        (fun _ => ob (svInt x) fun a => ob (svInt y) fun b => ow (Nat.beq a.1.ctorIdx b.1.ctorIdx) (some (eqTm a.1.bits a.2 b.2))) (intOfT P t))
      (fun fs => ob (svAgg x) fun cs => ob (svAgg y) fun ds => eqFs P (eqS P n) cs ds fs) (fieldsN P t)) = some e at h
    cases hf : fieldsN P t with
    | some fs =>
      rw [hf] at h
      obtain ⟨cs, hcs, h⟩ := ob_some h
      obtain ⟨ds, hds, h⟩ := ob_some h
      rw [svAgg_some hcs] at hx
      rw [svAgg_some hds] at hy
      unfold fieldsN at hf
      cases hff : fieldsOf P t with
      | none => rw [hff] at hf; cases hf
      | some fs0 =>
        rw [hff] at hf
        simp only at hf
        split at hf
        · cases hf
        · rename_i hst
          cases hf
          cases hx with
          | agg hlx =>
            cases hy with
            | agg hly =>
              have hu := fieldsOf_some hff
              have hfo : P.fieldsOf t = fs0 := by simp [Program.fieldsOf, hu]
              rw [run_equalIn_struct (P := P) w d t _ _ (by rw [hfo]; exact hu) (by simpa using hst), hfo]
              exact eqFs_ok (fun t x y vx vy e hx hy he => eqS_ok w n d (by omega) t x y vx vy e hx hy he) hlx hly _ _ h
    | none =>
      rw [hf] at h
      cases hi : intOfT P t with
      | some k =>
        rw [hi] at h
        obtain ⟨a, ha, h⟩ := ob_some h
        obtain ⟨b, hb, h⟩ := ob_some h
        obtain ⟨hk, h⟩ := ow_some h
        cases h
        rw [svInt_some ha] at hx
        rw [svInt_some hb] at hy
        have hkk := kind_idx (of_nbeq hk)
        cases hx with
        | int lx =>
          cases hy with
          | int ly =>
            rw [← hkk] at ly ⊢
            rw [run_equalIn_int w d t a.1 _ _ _ (intOfT_some hi)]
            rw [eqTm_ev, eq_ofB lx ly]
            refine ⟨?_, by split <;> omega⟩
            by_cases e : a.2.ev σ = b.2.ev σ
            · simp [e]
            · simp [nbeq_f e, e]
      | none =>
        rw [hi] at h
        obtain ⟨hb, h⟩ := ow_some h
        obtain ⟨a, ha, h⟩ := ob_some h
        obtain ⟨b, hb', h⟩ := ob_some h
        cases h
        rw [svBool_some ha] at hx
        rw [svBool_some hb'] at hy
        cases hx with
        | bool lx =>
          cases hy with
          | bool ly =>
            rw [run_equalIn_bool' w d t _ _ (isBoolT_some hb), eqTm_ev]
            refine ⟨?_, by split <;> omega⟩
            congr 1
            generalize a.ev σ = p at *
            generalize b.ev σ = q at *
            have : p = 0 ∨ p = 1 := by omega
            have : q = 0 ∨ q = 1 := by omega
            rcases ‹p = 0 ∨ p = 1› with rfl | rfl <;> rcases ‹q = 0 ∨ q = 1› with rfl | rfl <;> rfl

/-- Whether a value is nil (1), or surely not (0); 2: nobody knows. -/
noncomputable def nilS (s : SV) : Nat := SV.casesOn (motive_1 := fun _ => Nat) s (fun _ _ => 2) (fun _ => 2) 1 (fun _ _ => 0) 1 (fun _ _ _ _ => 0) (fun _ _ => 0) 1 (fun _ => 0) (fun _ _ => 0) 1 (fun _ => 2) 1 (fun _ => 2) (fun _ => 2)
noncomputable def isPtrT (P : Program) (t : TypeId) : Bool := match P.underlying t with | some (.pointer _) => true | _ => false
theorem isPtrT_some {P : Program} {t : TypeId} (h : isPtrT P t = true) : ∃ e, P.underlying t = some (.pointer e) := by
  unfold isPtrT at h; split at h <;> simp_all
noncomputable def svStr (s : SV) : Option ByteArray := SV.casesOn (motive_1 := fun _ => Option ByteArray) s (fun _ _ => none) (fun _ => none) none (fun _ _ => none) none (fun _ _ _ _ => none) (fun _ _ => none) none (fun _ => none) (fun _ _ => none) none (fun b => some b) none (fun _ => none) (fun _ => none)
theorem svStr_some {s : SV} {x : ByteArray} (h : svStr s = some x) : s = .str x := by cases s <;> first | (cases h; done) | (cases h; rfl)
noncomputable def isNilP (s : SV) : Bool := SV.casesOn (motive_1 := fun _ => Bool) s (fun _ _ => false) (fun _ => false) true (fun _ _ => false) false (fun _ _ _ _ => false) (fun _ _ => false) false (fun _ => false) (fun _ _ => false) false (fun _ => false) false (fun _ => false) (fun _ => false)
theorem isNilP_true {s : SV} (h : isNilP s = true) : s = .pnil := by cases s <;> first | (cases h; done) | rfl

/-- '==' of what is no number: 1, 0 or a term. -/
noncomputable def eqAny (P : Program) (t : TypeId) (x y : SV) : Option Tm :=
  bc (isPtrT P t)
    (bc (isNilP x) (bc (isNilP y) (some (.lit 1)) (ob (svPtr y) fun _ => some (.lit 0))) (bc (isNilP y) (ob (svPtr x) fun _ => some (.lit 0)) none))
    (eqS P 20 t x y)
theorem eqAny_ok {P : Program} {σ β} (w : World) {t : TypeId} {x y : SV} {vx vy : Value} {e : Tm} (hx : Den σ β x vx) (hy : Den σ β y vy) (h : eqAny P t x y = some e) :
    (Op.equal t vx vy).run P w = .ok (e.ev σ != 0) w ∧ e.ev σ ≤ 1 := by
  unfold eqAny at h
  cases hp : isPtrT P t
  · rw [hp] at h
    exact eqS_ok w 20 10000 (by omega) t x y vx vy e hx hy h
  · rw [hp] at h
    obtain ⟨el, hu⟩ := isPtrT_some hp
    have hun : ∀ a b, (Op.equal t (.pointer a) (.pointer b)).run P w = (Op.equalIn (9999 + 1) t (.pointer a) (.pointer b)).run P w := fun _ _ => rfl
    change bc (isNilP x) (bc (isNilP y) (some (Tm.lit 1)) (ob (svPtr y) fun _ => some (Tm.lit 0))) (bc (isNilP y) (ob (svPtr x) fun _ => some (Tm.lit 0)) none) = some e at h
    cases h1 : isNilP x
    · rw [h1] at h
      change bc (isNilP y) (ob (svPtr x) fun _ => some (Tm.lit 0)) none = some e at h
      cases h2 : isNilP y
      · rw [h2] at h; cases h
      · rw [h2] at h
        obtain ⟨p, hp', h⟩ := ob_some h
        cases h
        rw [isNilP_true h2] at hy
        rw [svPtr_some hp'] at hx
        cases hx with
        | ptr hb => cases hy with
          | pnil =>
            rw [hun, Op.equalIn]
            simp [run_underlying' hu, ev_lit]
    · rw [h1] at h
      rw [isNilP_true h1] at hx
      cases hx with
      | pnil =>
        change bc (isNilP y) (some (Tm.lit 1)) (ob (svPtr y) fun _ => some (Tm.lit 0)) = some e at h
        cases h2 : isNilP y
        · rw [h2] at h
          obtain ⟨p, hp', h⟩ := ob_some h
          cases h
          rw [svPtr_some hp'] at hy
          cases hy with
          | ptr hb =>
            rw [hun, Op.equalIn]
            simp [run_underlying' hu, ev_lit]
        · rw [h2] at h
          cases h
          rw [isNilP_true h2] at hy
          cases hy with
          | pnil =>
            rw [hun, Op.equalIn]
            simp [run_underlying' hu, ev_lit]

end Go.Sx
end

section
/- The symbolic run of code. -/
namespace Go.Sx
open Go.RowKit

/-! ### Values written out -/
noncomputable def forceK {α : Type} (kd : IntKind) (k : IntKind → α) : α := IntKind.rec (k .i8) (k .i16) (k .i32) (k .i64) (k .u8) (k .u16) (k .u32) (k .u64) kd
theorem forceK_eq {α : Type} (kd : IntKind) (k : IntKind → α) : forceK kd k = k kd := by cases kd <;> rfl
noncomputable def forceT {α : Type} (t : Tm) (k : Tm → α) : α :=
  Tm.casesOn t (fun n => forceN n fun n => k (.lit n)) (fun i w => k (.var i w)) (fun o w a => k (.un o w a)) (fun o w a b => k (.bin o w a b)) (fun c a b => k (.ite c a b))
theorem forceT_eq {α : Type} (t : Tm) (k : Tm → α) : forceT t k = k t := by cases t <;> first | rfl | exact forceN_eq _ (fun n => k (.lit n))
noncomputable def forceS {α : Type} (s : SV) (k : SV → α) : α :=
  SV.casesOn (motive_1 := fun _ => α) s (fun kd t => forceK kd fun kd => forceT t fun t => k (.int kd t)) (fun t => forceT t fun t => k (.bool t)) (k .pnil)
    (fun o off => forceN o fun o => forceN off fun off => k (.ptr o off)) (k .snil) (fun o off len cap => forceN o fun o => forceN off fun off => forceN len fun len => forceN cap fun cap => k (.slice o off len cap))
    (fun o len => forceN o fun o => forceN len fun len => k (.sliceU o len)) (k .mnil) (fun o => forceN o fun o => k (.map o)) (fun f c => k (.func f c)) (k .fnil) (fun b => k (.str b)) (k .inil) (fun cs => k (.agg cs)) (fun cs => k (.tuple cs))
theorem forceS_eq {α : Type} (s : SV) (k : SV → α) : forceS s k = k s := by
  cases s <;> simp only [forceS, forceK_eq, forceT_eq, forceN_eq]

/-! ### Operations that give a value in every world -/
noncomputable def isSh (op : BinOp) : Bool := BinOp.rec false false false false false false false false true true false false false false false false false op
theorem isSh_true {op : BinOp} (h : isSh op = true) : op = .shl ∨ op = .shr := by cases op <;> first | (cases h; done) | exact .inl rfl | exact .inr rfl
/-- '==' (1), '!=' (2), something else (0). -/
noncomputable def eqKind (op : BinOp) : Nat := BinOp.rec 0 0 0 0 0 0 0 0 0 0 0 1 2 0 0 0 0 op
noncomputable def opBin (P : Program) (pc : PC) (op : BinOp) (t : TypeId) (x y : Option SV) : Option SV :=
  ob x fun a => ob y fun b =>
    Option.rec
      (ow (Nat.blt 0 (eqKind op)) (ow (bc (isPtrT P t) true (Bool.not (P.eqGuardType P.depth t))) (ob (eqAny P t a b) fun e => some (.bool (bc (Nat.beq (eqKind op) 1) e (mkNot e))))))
      (fun i => ob (svInt b) fun j => bc (isSh op) (shI pc op i.1 i.2 j.1 j.2) (ow (Nat.beq i.1.ctorIdx j.1.ctorIdx) (binI pc op i.1 i.2 j.2))) (svInt a)

noncomputable def opnds (F : Fr) (xs : List Operand) : Option (List SV) := List.rec (some []) (fun x _ ih => ob (opnd F x) fun s => ob ih fun t => some (s :: t)) xs
theorem opnds_ok {σ β} {F : Fr} {a : Act} (hF : RepF σ β F a) : ∀ {xs : List Operand} {l : List SV}, opnds F xs = some l → DenL σ β l (xs.map a.eval)
  | [], l, h => by cases h; exact .nil
  | x :: xs, l, h => by
    change (ob (opnd F x) fun s => ob (opnds F xs) fun t => some (s :: t)) = some l at h
    obtain ⟨s, hs, h⟩ := ob_some h
    obtain ⟨t, ht, h⟩ := ob_some h
    cases h
    exact .cons (opnd_ok hF hs) (opnds_ok hF ht)

noncomputable def fnOf (f : Fn) : Option Nat := Fn.casesOn (motive := fun _ => Option Nat) f (fun f => some f) (fun _ => none) (fun _ _ => none) (fun _ _ _ _ => none) (fun _ => none)
theorem fnOf_some {f : Fn} {n : Nat} (h : fnOf f = some n) : f = .func n := by cases f <;> first | (cases h; done) | (cases h; rfl)

noncomputable def opMakeFunc (fn : Fn) (first captured : Array Operand) (F : Fr) : Option SV :=
  ob (fnOf fn) fun f => ow (Nat.beq first.size 0) (ob (opnds F captured.toList) fun cs => some (.func f cs))

/-- len, of what is no map. -/
noncomputable def lenS (s : SV) : Option Nat := SV.casesOn (motive_1 := fun _ => Option Nat) s (fun _ _ => none) (fun _ => none) none (fun _ _ => none) (some 0) (fun _ _ len _ => some len) (fun _ len => some len) none (fun _ => none) (fun _ _ => none) none (fun b => some b.size) none (fun _ => none) (fun _ => none)
noncomputable def isStrT (P : Program) (t : TypeId) : Bool := match P.underlying t with | some .string => true | _ => false
theorem isStrT_some {P : Program} {t : TypeId} (h : isStrT P t = true) : P.underlying t = some .string := by
  unfold isStrT at h; split at h <;> simp_all
noncomputable def lit64 (n : Nat) : Option SV := ow (Nat.blt n (p2 63)) (some (.int .i64 (.lit n)))
noncomputable def opLen (P : Program) (t : TypeId) (x : SV) : Option SV :=
  Option.rec (Option.rec (ow (isStrT P t) (ob (svStr x) fun b => lit64 b.size))
      (fun ne => lit64 ne.1) (arrOf P t))
    (fun _ => Option.rec (ob (lenS x) fun n => ow (Nat.beq (nilS x) 1) (lit64 n)) (fun q => lit64 q.2.2.1) (svSlice x)) (sliOf P t)

noncomputable def isLen (b : Builtin) : Bool := Nat.beq b.ctorIdx Builtin.len.ctorIdx
noncomputable def opVcall (P : Program) (F : Fr) (c : Call) : Option SV :=
  Callee.casesOn (motive := fun _ => Option SV) c.callee (fun _ => none) (fun _ _ => none)
    (fun b => ow (isLen b) (ob (c.argTypes[0]?) fun t => ob (opnds F c.args.toList) fun xs => List.rec none (fun x _ _ => opLen P t x) xs))

/-- The operation's value, where it is one and the same in every world. -/
noncomputable def opV (P : Program) (o : Op) : Fr → PC → Option SV :=
  Op.casesOn (motive := fun _ => Fr → PC → Option SV) o
    (fun x F _ => opnd F x) (fun x F _ => opnd F x) (fun c a b F pc => opPick pc (opnd F c) (opnd F a) (opnd F b))
    (fun _ _ _ => none) (fun _ _ _ _ => none) (fun t ps F _ => opBuild P t F ps.toList) (fun _ _ _ _ _ => none) (fun _ _ _ _ _ _ => none) (fun _ _ _ _ => none) (fun _ _ _ _ _ => none)
    (fun _ _ _ => none) (fun _ _ _ => none) (fun x F _ => opNilCheck (opnd F x)) (fun op t x y _ F pc => opBin P pc op t (opnd F x) (opnd F y)) (fun op _ x F _ => opUn op (opnd F x))
    (fun s d x F _ => opConvert P s d (opnd F x)) (fun _ _ _ _ => none) (fun _ _ _ _ => none) (fun fn a b F _ => opMakeFunc fn a b F) (fun _ _ _ _ => none) (fun _ _ _ _ => none) (fun _ _ _ _ _ => none)
    (fun _ _ _ _ _ _ _ => none) (fun t x f F _ => opFieldAddr P t f (opnd F x)) (fun t x f F _ => opField P t f (opnd F x)) (fun t x i F _ => opIndexAddr P t (opnd F x) (opnd F i)) (fun t x i F _ => opIndex P t (opnd F x) (opnd F i))
    (fun _ _ _ _ _ _ => none) (fun _ _ _ _ _ _ => none) (fun _ _ _ _ _ => none) (fun _ _ _ _ _ _ => none) (fun _ _ _ _ => none) (fun _ _ _ _ => none) (fun _ _ _ => none) (fun _ _ _ _ _ _ => none)
    (fun x i F _ => opExtract i (opnd F x)) (fun c F _ => opVcall P F c) (fun _ _ _ => none) (fun _ _ _ => none) (fun _ _ _ => none) (fun _ _ _ _ => none) (fun _ _ _ _ _ => none) (fun _ _ _ _ => none)

/-- It yields this value, in every world. -/
def YieldsV (P : Program) (o : Oper) (a : Act) (v : Value) : Prop := ∀ w, (execOp a.eval o).run P w = .ok (.value v) w

theorem yields_of {P : Program} {o : Oper} {a : Act} {s : Sem Value} (he : execOp a.eval o = (do pure (.value (← s)))) {σ β} {r : SV} (w : World) (h : ∃ u, s.run P w = .ok u w ∧ Den σ β r u) :
    ∃ v, (execOp a.eval o).run P w = .ok (.value v) w ∧ Den σ β r v := by
  obtain ⟨u, h1, h2⟩ := h
  exact ⟨u, by rw [he]; simp [h1], h2⟩

theorem eqS_shape {P : Program} {n : Nat} {t : TypeId} {x y : SV} {e : Tm} (h : eqS P n t x y = some e) : x ≠ .inil := by
  cases n with
  | zero => cases h
  | succ n =>
    rintro rfl
    change (Option.rec
      (Option.rec
        (ow (isBoolT P t) (ob (svBool .inil) fun a => ob (svBool y) fun b => some (eqTm 1 a b)))
        (fun _ => ob (svInt .inil) fun a => ob (svInt y) fun b => ow (Nat.beq a.1.ctorIdx b.1.ctorIdx) (some (eqTm a.1.bits a.2 b.2))) (intOfT P t))
      (fun fs => ob (svAgg .inil) fun cs => ob (svAgg y) fun ds => eqFs P (eqS P n) cs ds fs) (fieldsN P t)) = some e at h
    cases hf : fieldsN P t with
    | some fs => rw [hf] at h; cases h
    | none =>
      rw [hf] at h
      cases hi : intOfT P t with
      | some k => rw [hi] at h; cases h
      | none =>
        rw [hi] at h
        obtain ⟨_, h⟩ := ow_some h
        cases h
theorem eqAny_shape {P : Program} {t : TypeId} {x y : SV} {e : Tm} (h : eqAny P t x y = some e) : x ≠ .inil ∧ (∀ cs, x = .agg cs → isPtrT P t = false) := by
  unfold eqAny at h
  cases hp : isPtrT P t
  · rw [hp] at h
    exact ⟨eqS_shape h, fun _ _ => rfl⟩
  · rw [hp] at h
    change bc (isNilP x) (bc (isNilP y) (some (Tm.lit 1)) (ob (svPtr y) fun _ => some (Tm.lit 0))) (bc (isNilP y) (ob (svPtr x) fun _ => some (Tm.lit 0)) none) = some e at h
    constructor
    · rintro rfl
      change bc (isNilP y) (none) none = some e at h
      cases hy : isNilP y <;> (rw [hy] at h; cases h)
    · rintro cs rfl
      change bc (isNilP y) (none) none = some e at h
      cases hy : isNilP y <;> (rw [hy] at h; cases h)

theorem opBin_ok {P : Program} {σ β} {pc : PC} (hp : pc.ok σ) {op : BinOp} {t : TypeId} {x y : Option SV} {ox oy : Operand} {vx vy : Value} (hx : ∀ s, x = some s → Den σ β s vx) (hy : ∀ s, y = some s → Den σ β s vy) {r : SV} (h : opBin P pc op t x y = some r) (w : World) :
    ∃ u, (do eqGuard op t ox oy vx vy; binOp op t vx vy : Sem Value).run P w = .ok u w ∧ Den σ β r u := by
  obtain ⟨a, ha, h⟩ := ob_some h
  obtain ⟨b, hb, h⟩ := ob_some h
  have da := hx a ha
  have db := hy b hb
  cases hi : svInt a with
  | some i =>
    rw [hi] at h
    obtain ⟨j, hj, h⟩ := ob_some h
    rw [svInt_some hi] at da
    rw [svInt_some hj] at db
    have hg : ∀ k k' (m n : Int), (eqGuard op t ox oy (.int k m) (.int k' n)).run P w = .ok () w := by
      intro k k' m n; unfold eqGuard; cases op <;> rfl
    cases da with
    | int lx =>
      cases db with
      | int ly =>
        simp only [Sem.run_bind, hg, Result.andThen_ok]
        cases hs : isSh op
        · rw [hs] at h
          obtain ⟨hk, h'⟩ := ow_some h
          have hkk := kind_idx (of_nbeq hk)
          rw [← hkk] at ly ⊢
          exact binI_ok hp lx ly h' t w
        · rw [hs] at h
          exact shI_ok hp lx ly h t w
  | none =>
    rw [hi] at h
    obtain ⟨hk, h⟩ := ow_some h
    obtain ⟨hgt, h⟩ := ow_some h
    obtain ⟨e, he, h⟩ := ob_some h
    cases h
    obtain ⟨h1, h2⟩ := eqAny_ok (P := P) w da db he
    obtain ⟨s1, s2⟩ := eqAny_shape he
    have hop : op = .eql ∨ op = .neq := by cases op <;> first | (cases hk; done) | exact .inl rfl | exact .inr rfl
    have hguard : (eqGuard op t ox oy vx vy).run P w = .ok () w := by
      unfold eqGuard
      rw [if_neg (by rcases hop with rfl | rfl <;> simp)]
      split
      · exfalso; cases da; exact s1 rfl
      · cases da with
        | agg hl =>
          have hpt := s2 _ rfl
          rw [hpt] at hgt
          have hgt' : P.eqGuardType P.depth t = false := by
            change (!(P.eqGuardType P.depth t)) = true at hgt
            simpa using hgt
          simp [hgt']
      · rfl
    have hnint : ∀ k n, vx ≠ .int k n := by
      rintro k n rfl
      cases da
      cases hi
    have hkind : ∀ k n, vx ≠ .float k n := by rintro k n rfl; cases da
    have hcx : ∀ k n m, vx ≠ .complex k n m := by rintro k n m rfl; cases da
    have hstr : ∀ n, vx ≠ .string n := by
      rintro n rfl
      cases da
      unfold eqAny at he
      cases hpt : isPtrT P t
      · rw [hpt] at he
        change eqS P 20 t (.str n) b = some e at he
        change (Option.rec
          (Option.rec
            (ow (isBoolT P t) (ob (svBool (.str n)) fun a => ob (svBool b) fun b => some (eqTm 1 a b)))
            (fun _ => ob (svInt (.str n)) fun a => ob (svInt b) fun b => ow (Nat.beq a.1.ctorIdx b.1.ctorIdx) (some (eqTm a.1.bits a.2 b.2))) (intOfT P t))
          (fun fs => ob (svAgg (.str n)) fun cs => ob (svAgg b) fun ds => eqFs P (eqS P 19) cs ds fs) (fieldsN P t)) = some e at he
        cases hf : fieldsN P t with
        | some fs => rw [hf] at he; cases he
        | none =>
          rw [hf] at he
          cases hi : intOfT P t with
          | some k => rw [hi] at he; cases he
          | none => rw [hi] at he; obtain ⟨_, he⟩ := ow_some he; cases he
      · rw [hpt] at he
        change bc (isNilP b) (none) none = some e at he
        cases hy : isNilP b <;> (rw [hy] at he; cases he)
    simp only [Sem.run_bind, hguard, Result.andThen_ok]
    rcases hop with rfl | rfl
    · refine ⟨.bool (e.ev σ != 0), ?_, .bool h2⟩
      unfold binOp
      split <;> first
        | (exfalso; exact hnint _ _ rfl)
        | (exfalso; exact hkind _ _ rfl)
        | (exfalso; exact hcx _ _ _ rfl)
        | (exfalso; exact hstr _ rfl)
        | (simp [h1]; done)
        | simp_all
    · refine ⟨.bool (!(e.ev σ != 0)), ?_, den_bool ?_⟩
      · unfold binOp
        split <;> first
          | (exfalso; exact hnint _ _ rfl)
          | (exfalso; exact hkind _ _ rfl)
          | (exfalso; exact hcx _ _ _ rfl)
          | (exfalso; exact hstr _ rfl)
          | (simp [h1]; done)
          | simp_all
      · show (mkNot e).ev σ = _
        rw [mkNot_ev]
        by_cases e0 : e.ev σ = 0
        · simp [e0]
        · simp [e0]

end Go.Sx
end

section
/- Every operation that gives a value in every world. -/
namespace Go.Sx
open Go.RowKit

mutual
theorem Den.det {σ β} : ∀ {s : SV} {v v' : Value}, Den σ β s v → Den σ β s v' → v = v'
  | _, _, _, .int _, .int _ => rfl
  | _, _, _, .bool _, .bool _ => rfl
  | _, _, _, .pnil, .pnil => rfl
  | _, _, _, .ptr h, .ptr h' => by rw [h] at h'; simp at h'; rw [h'.1]
  | _, _, _, .snil, .snil => rfl
  | _, _, _, .slice h, .slice h' => by rw [h] at h'; simp at h'; rw [h'.1]
  | _, _, _, .sliceU h _, .sliceU h' _ => by rw [h] at h'; simp at h'; rw [h'.1, h'.2]
  | _, _, _, .mnil, .mnil => rfl
  | _, _, _, .map h, .map h' => by rw [h] at h'; simp at h'; rw [h'.1]
  | _, _, _, .func h, .func h' => by rw [DenL.det h h']
  | _, _, _, .fnil, .fnil => rfl
  | _, _, _, .str, .str => rfl
  | _, _, _, .inil, .inil => rfl
  | _, _, _, .agg h, .agg h' => by rw [DenL.det h h']
  | _, _, _, .tuple h, .tuple h' => by rw [DenL.det h h']
theorem DenL.det {σ β} : ∀ {s : List SV} {v v' : List Value}, DenL σ β s v → DenL σ β s v' → v = v'
  | _, _, _, .nil, .nil => rfl
  | _, _, _, .cons h t, .cons h' t' => by rw [Den.det h h', DenL.det t t']
end

theorem lit64_ok {σ β} {n : Nat} {r : SV} (h : lit64 n = some r) : Den σ β r (goInt n) := by
  obtain ⟨h1, h2⟩ := ow_some h
  cases h2
  have hlt : n < 2 ^ 63 := of_nblt h1
  unfold goInt
  refine den_int ?_ (by rw [ev_lit]; show n < 2 ^ 64; omega)
  rw [ev_lit, ofB_signed (k := .i64) rfl (by show n < 2 ^ 64; omega), if_neg (by show ¬ 2 ^ 63 ≤ n; omega)]

theorem opLen_ok {P : Program} {σ β} {t : TypeId} {x : SV} {v : Value} (hv : Den σ β x v) {r : SV} (h : opLen P t x = some r) (ts : Array TypeId) (ht : ts[0]? = some t) (ty : TypeId) (vs : Array Value) (hvs : vs[0]? = some v) (w : World) :
    ∃ u, (Builtin.len_ ts ty vs).run P w = .ok u w ∧ Den σ β r u := by
  unfold opLen at h
  cases hs : sliOf P t with
  | some e =>
    rw [hs] at h
    have hu := sliOf_some hs
    cases hq : svSlice x with
    | some q =>
      change Option.rec _ (fun q => lit64 q.2.2.1) (svSlice x) = some r at h
      rw [hq] at h
      obtain ⟨b, c, cap, hb, rfl, _⟩ := svSlice_den hq hv
      exact ⟨goInt q.2.2.1, by simp [Builtin.len_, ht, hvs, run_underlying' hu], lit64_ok h⟩
    | none =>
      change Option.rec (ob (lenS x) fun n => ow (Nat.beq (nilS x) 1) (lit64 n)) _ (svSlice x) = some r at h
      rw [hq] at h
      obtain ⟨n, hn, h⟩ := ob_some h
      obtain ⟨h1, h⟩ := ow_some h
      cases hv <;> first | (cases hn; done) | (cases h1; done) | skip
      cases hn
      exact ⟨goInt 0, by simp [Builtin.len_, ht, hvs, run_underlying' hu], lit64_ok h⟩
  | none =>
    rw [hs] at h
    cases ha : arrOf P t with
    | some ne =>
      change Option.rec _ (fun ne => lit64 ne.1) (arrOf P t) = some r at h
      rw [ha] at h
      have hu := arrOf_some ha
      exact ⟨goInt ne.1, by simp [Builtin.len_, ht, hvs, run_underlying' hu], lit64_ok h⟩
    | none =>
      change Option.rec (ow (isStrT P t) (ob (svStr x) fun b => lit64 b.size)) _ (arrOf P t) = some r at h
      rw [ha] at h
      obtain ⟨h1, h⟩ := ow_some h
      obtain ⟨b, hb, h⟩ := ob_some h
      rw [svStr_some hb] at hv
      cases hv
      exact ⟨goInt b.size, by simp [Builtin.len_, ht, hvs, run_underlying' (isStrT_some h1)], lit64_ok h⟩

theorem opV_ok {P : Program} {σ β} {F : Fr} {a : Act} (hF : RepF σ β F a) {pc : PC} (hp : pc.ok σ) {o : Oper} {r : SV} (h : opV P o.op F pc = some r) (w : World) :
    ∃ v, (execOp a.eval o).run P w = .ok (.value v) w ∧ Den σ β r v := by
  obtain ⟨dst, op, ty, pos, af, g⟩ := o
  have ho : ∀ x s, opnd F x = some s → Den σ β s (a.eval x) := fun x s hs => opnd_ok hF hs
  cases op <;> first | (cases h; done) | skip
  case move x => exact ⟨_, rfl, ho x r h⟩
  case assign x => exact ⟨_, rfl, ho x r h⟩
  case pick c x y =>
    obtain ⟨t, h1, h2⟩ := opPick_ok (P := P) hp (ho c) (ho x) (ho y) h w
    exact ⟨_, by simp [execOp, h1], h2⟩
  case build t ps =>
    obtain ⟨u, h1, h2⟩ := opBuild_ok hF h w
    exact ⟨u, by simp [execOp, h1], h2⟩
  case nilCheck x =>
    obtain ⟨s, hs, h⟩ := ob_some h
    have hd := ho x s hs
    generalize hv : a.eval x = v at hd
    cases hd <;> first | (cases h; done) | skip
    · cases h
      rename_i b c hb
      exact ⟨_, by simp only [execOp, hv]; rfl, .ptr hb⟩
    · cases h
      rename_i hl
      exact ⟨_, by simp only [execOp, hv]; rfl, .func hl⟩
  case binOp op t x y yt =>
    obtain ⟨u, h1, h2⟩ := opBin_ok (P := P) (ox := x) (oy := y) hp (ho x) (ho y) h w
    refine ⟨u, ?_, h2⟩
    simp only [execOp, Sem.run_bind] at h1 ⊢
    simp [h1]
  case unOp op t x =>
    obtain ⟨u, h1, h2⟩ := opUn_ok (P := P) (ho x) h w
    exact ⟨u, by simp [execOp, h1], h2⟩
  case convert s d x =>
    obtain ⟨u, h1, h2⟩ := opConvert_ok (P := P) (ho x) h w
    exact ⟨u, by simp [execOp, h1], h2⟩
  case makeFunc fn first captured =>
    obtain ⟨f, hf, h⟩ := ob_some h
    obtain ⟨h0, h⟩ := ow_some h
    obtain ⟨cs, hc, h⟩ := ob_some h
    cases h
    have e0 : first = #[] := Array.eq_empty_of_size_eq_zero (of_nbeq h0)
    have hl := opnds_ok hF hc
    refine ⟨.func fn (first.map a.eval) (captured.map a.eval), by simp [execOp, Instr.makeFunc], ?_⟩
    rw [fnOf_some hf, e0]
    have := Den.func (f := f) hl
    have e1 : (List.map a.eval captured.toList).toArray = Array.map a.eval captured := by
      apply Array.ext'; simp
    rw [e1] at this
    have e2 : Array.map a.eval (#[] : Array Operand) = #[] := by simp
    rw [e2]
    exact this
  case fieldAddr t x f =>
    obtain ⟨u, h1, h2⟩ := opFieldAddr_ok (P := P) (ho x) h w
    exact ⟨u, by simp [execOp, h1], h2⟩
  case field t x f =>
    obtain ⟨u, h1, h2⟩ := opField_ok (P := P) (ho x) h w
    exact ⟨u, by simp [execOp, h1], h2⟩
  case indexAddr t x i =>
    obtain ⟨u, h1, h2⟩ := opIndexAddr_ok (P := P) (ho x) (ho i) h w
    exact ⟨u, by simp [execOp, h1], h2⟩
  case index t x i =>
    obtain ⟨u, h1, h2⟩ := opIndex_ok (P := P) (ho x) (ho i) h w
    exact ⟨u, by simp [execOp, h1], h2⟩
  case extract x i =>
    obtain ⟨u, h1, h2⟩ := opExtract_ok (P := P) (ho x) h w
    exact ⟨u, by simp [execOp, h1], h2⟩
  case call c =>
    obtain ⟨callee, args, argTypes⟩ := c
    change Callee.casesOn (motive := fun _ => Option SV) callee (fun _ => none) (fun _ _ => none)
      (fun b => ow (isLen b) (ob (argTypes[0]?) fun t => ob (opnds F args.toList) fun xs => List.rec none (fun x _ _ => opLen P t x) xs)) = some r at h
    cases callee <;> first | (cases h; done) | skip
    rename_i b
    obtain ⟨hb, h⟩ := ow_some h
    obtain ⟨t, ht, h⟩ := ob_some h
    obtain ⟨xs, hxs, h⟩ := ob_some h
    have hbl : b = .len := by
      have hb' : b.ctorIdx = Builtin.len.ctorIdx := of_nbeq hb
      cases b <;> first | rfl | (cases hb'; done)
    subst hbl
    have hl := opnds_ok hF hxs
    cases xs with
    | nil => cases h
    | cons x xs =>
      change opLen P t x = some r at h
      cases hargs : args.toList with
      | nil => rw [hargs] at hl; cases hl
      | cons y ys =>
        rw [hargs] at hl
        cases hl with
        | cons hd tl =>
          obtain ⟨u, h1, h2⟩ := opLen_ok (P := P) hd h argTypes ht ty (args.map a.eval) (by rw [Array.getElem?_map, ← Array.getElem?_toList, hargs]; rfl) w
          exact ⟨u, by simp [execOp, resolve, invoke, builtin, h1], h2⟩

/-- One value for all worlds. -/
theorem opV_yields {P : Program} {σ β} {F : Fr} {a : Act} (hF : RepF σ β F a) {pc : PC} (hp : pc.ok σ) {o : Oper} {r : SV} (h : opV P o.op F pc = some r) :
    ∃ v, YieldsV P o a v ∧ Den σ β r v := by
  obtain ⟨v, h1, h2⟩ := opV_ok hF hp h default
  refine ⟨v, fun w => ?_, h2⟩
  obtain ⟨v', h3, h4⟩ := opV_ok hF hp h w
  rw [h3, Den.det h2 h4]

end Go.Sx
end
