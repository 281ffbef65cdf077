/- A symbolic run of the program: code, calls, a law and its row from one run. -/
import Derived.Test.YthbdkghbkoibdaaSyD2
import Derived.Scope
import Derived.LoopN
import Derived.Defers
import Derived.WalkKit
import Derived.ProofKit
import Derived.OpenShut
import Derived.ChangeOld
import Derived.Carry
import Derived.Lib.LaidTab

section
/- A map's literal: whatever order its entries are put in. -/
namespace Go.Sy
open Go.RowKit

section
variable {P : Program} {L : (Nat → Nat) → SV → Prop} {M : Md}

theorem wpOp_tmps {ops : Array Oper} {Q : Exit → Act → World → Prop} (hQ : ∀ c a w, ¬ Q (.panic c) a w) {j : Nat} {oj : Oper} (hj : ops[j]? = some oj) {K : Act → World → Prop} {a : Act} {w : World}
    (h : wpOp P ops Q j K a w) : wpOp P ops Q j (fun a' w' => K a' w' ∧ ∃ v, a'.tmps = (a.put oj.dst v).tmps) a w := by
  have keepD : ∀ d v, (({ a with defers := d :: a.defers } : Act).put oj.dst v).tmps = (a.put oj.dst v).tmps := fun d v => by cases oj.dst <;> rfl
  unfold wpOp at *
  simp only [hj] at *
  split
  · rename_i hw
    simp only [hw, if_true] at h
    rcases h with h | h
    case inr => exact .inr h
    refine .inl ?_
    unfold Oper.wp at *
    generalize (execOp a.eval oj).run P w = r at *
    cases r with
    | ok n w' =>
      cases n <;> simp only [Oper.upon] at h ⊢
      case value u => exact ⟨h, u, rfl⟩
      case skip => exact ⟨h, undef, rfl⟩
      case defer d => exact ⟨h, undef, keepD _ _⟩
      case enter f args =>
        refine Calls.mono h fun e w'' he => ?_
        cases e with
        | returned u => exact ⟨he, u, rfl⟩
        | panicked c => exact absurd he (hQ _ _ _)
        | outgrown => exact he
      case row row args => exact Rows.mono h fun u w'' he => ⟨he, u, rfl⟩
    | halt x w' =>
      cases x <;> simp only [Oper.upon] at h ⊢
      case panic u => exact absurd h (hQ _ _ _)
  · rename_i hw
    simp only [hw] at h
    exact ⟨h, undef, rfl⟩

/-! ### The world beside what is known of it -/
def Unk (st : St) (β : Nat → Option (Nat × Nat)) (b : Nat) : Prop := ∀ o he c, st.hp.get o = some he → β o ≠ some (b, c)
theorem Rep.pushU {σ w0 β} {st : St} {w : World} (h : Rep M σ w0 β st w) (x : Obj) : Rep M σ w0 β st { w with heap := w.heap.push x } := by
  refine ⟨h.kept.push x, h.rdlt, h.fresh, fun o he ho => ?_, h.inj, h.glob⟩
  obtain ⟨b, c, y, h1, h2, h3, h4⟩ := h.heap o he ho
  have hlt : b < w.heap.size := (Array.getElem?_eq_some_iff.1 h2).1
  exact ⟨b, c, y, h1, by show (w.heap.push x)[b]? = _; rw [Array.getElem?_push, if_neg (by omega)]; exact h2, h3, h4⟩
theorem Rep.setU {σ w0 β} {st : St} {w : World} (h : Rep M σ w0 β st w) {b : Nat} (hb : w0.heap.size ≤ b) (hu : Unk st β b) (x : Obj) : Rep M σ w0 β st { w with heap := w.heap.setIfInBounds b x } := by
  refine ⟨⟨h.kept.os, h.kept.tape, h.kept.output, by simpa using h.kept.size, fun k hk hm => ?_⟩, h.rdlt, h.fresh, fun o he ho => ?_, h.inj, h.glob⟩
  · show (w.heap.setIfInBounds b x)[k]? = _
    rw [Array.getElem?_setIfInBounds_ne (by omega)]; exact h.kept.block k hk hm
  · obtain ⟨b', c, y, h1, h2, h3, h4⟩ := h.heap o he ho
    have hne : b ≠ b' := by rintro rfl; exact hu o he c ho h1
    exact ⟨b', c, y, h1, by show (w.heap.setIfInBounds b x)[b']? = _; rw [Array.getElem?_setIfInBounds_ne hne]; exact h2, h3, h4⟩
theorem Rep.adopt {σ w0 β} {st : St} {w : World} (h : Rep M σ w0 β st w) {b : Nat} (hb : w0.heap.size ≤ b) (hu : Unk st β b) {x : Obj} (hx : w.heap[b]? = some x) {ob : SObj} (hd : ObjDen σ β 0 ob x) :
    Rep M σ w0 (bUpd β st.nn b 0) (st.new ob) w := by
  have hext : Ext β (bUpd β st.nn b 0) := bUpd_ext (h.fresh _ (Nat.le_refl _))
  have hself : bUpd β st.nn b 0 st.nn = some (b, 0) := by simp [bUpd]
  have old : ∀ o, o ≠ st.nn → bUpd β st.nn b 0 o = β o := fun o e => by simp [bUpd, e]
  refine ⟨h.kept, h.rdlt, ?_, ?_, ?_, fun g hg => hext _ _ (h.glob g hg)⟩
  · intro o ho
    have h1 : st.nn ≤ o := Nat.le_of_succ_le ho
    have h2 : ¬ o = st.nn := fun e => by subst e; exact absurd ho (Nat.not_succ_le_self _)
    rw [old o h2]; exact h.fresh o h1
  · intro o he ho
    change (st.hp.set st.nn (some ⟨ob, false⟩)).get o = some he at ho
    by_cases e : o = st.nn
    · subst e
      rw [Tr.get_set_eq] at ho; cases ho
      exact ⟨_, _, x, hself, hx, hd.mono hext, fun _ => .inl hb, fun h => by cases h⟩
    · rw [Tr.get_set_ne _ _ e] at ho
      obtain ⟨b', c', y, h1, h2, h3, h4⟩ := h.heap o he ho
      exact ⟨b', c', y, hext _ _ h1, h2, h3.mono hext, h4⟩
  · intro o o' he he' b' c1 c2 ho ho' hro hb1 hb2
    change (st.hp.set st.nn (some ⟨ob, false⟩)).get o = some he at ho
    change (st.hp.set st.nn (some ⟨ob, false⟩)).get o' = some he' at ho'
    by_cases e : o = st.nn
    · by_cases e' : o' = st.nn
      · rw [e, e']
      · exfalso
        rw [Tr.get_set_ne _ _ e'] at ho'
        subst e; rw [hself] at hb1; rw [old o' e'] at hb2
        simp at hb1
        exact hu o' he' c2 ho' (by rw [hb2, hb1.1])
    · rw [Tr.get_set_ne _ _ e] at ho
      by_cases e' : o' = st.nn
      · exfalso
        subst e'; rw [hself] at hb2; rw [old o e] at hb1
        simp at hb2
        exact hu o he c1 ho (by rw [hb1, hb2.1])
      · rw [Tr.get_set_ne _ _ e'] at ho'
        rw [old o e] at hb1; rw [old o' e'] at hb2
        exact h.inj o o' he he' b' c1 c2 ho ho' hro hb1 hb2

/-- What a state may write, of what is there now. -/
def own (M : Md) (st : St) (β : Nat → Option (Nat × Nat)) : Md := ⟨fun b => ∃ o he c, st.hp.get o = some he ∧ he.ro = false ∧ β o = some (b, c), M.rd⟩
theorem Rep.frame {σ w0 β} {st : St} {w : World} (h : Rep M σ w0 β st w) : Rep (own M st β) σ w β st w := by
  refine ⟨Kept.refl _ _, fun b hb => Nat.lt_of_lt_of_le (h.rdlt b hb) h.kept.size, h.fresh, fun o he ho => ?_, h.inj, h.glob⟩
  obtain ⟨b, c, y, h1, h2, h3, h4⟩ := h.heap o he ho
  exact ⟨b, c, y, h1, h2, h3, fun hr => .inr ⟨o, he, c, ho, hr, h1⟩, h4.2⟩
theorem own_wr {σ w0 β} {st : St} {w : World} (h : Rep M σ w0 β st w) {b : Nat} (hb : (own M st β).wr b) : w0.heap.size ≤ b ∨ M.wr b := by
  obtain ⟨o, he, c, h1, h2, h3⟩ := hb
  obtain ⟨b', c', y, k1, _, _, k4⟩ := h.heap o he h1
  rw [h3] at k1; cases k1
  exact k4.1 h2
theorem Rep.unframe {σ σ' w0 β β'} {st st' : St} {w w' : World} (h : Rep M σ w0 β st w) (h' : Rep (own M st β) σ' w β' st' w') : Rep M σ' w0 β' st' w' := by
  refine ⟨⟨h'.kept.os.trans h.kept.os, h'.kept.tape.trans h.kept.tape, h'.kept.output.trans h.kept.output, Nat.le_trans h.kept.size h'.kept.size, fun k hk hm => ?_⟩, h.rdlt, h'.fresh, fun o he ho => ?_, h'.inj, h'.glob⟩
  · rw [h'.kept.block k (Nat.lt_of_lt_of_le hk h.kept.size) (fun hw => (own_wr h hw).elim (by omega) hm)]
    exact h.kept.block k hk hm
  · obtain ⟨b, c, y, h1, h2, h3, h4⟩ := h'.heap o he ho
    refine ⟨b, c, y, h1, h2, h3, fun hr => ?_, h4.2⟩
    rcases h4.1 hr with hh | hh
    · exact .inl (Nat.le_trans h.kept.size hh)
    · exact own_wr h hh
theorem frame_keeps {σ σ' w0 β β'} {st st' : St} {w w' : World} (h : Rep M σ w0 β st w) (h' : Rep (own M st β) σ' w β' st' w') {b : Nat} (hb : w0.heap.size ≤ b) (hlt : b < w.heap.size) (hu : Unk st β b) :
    w'.heap[b]? = w.heap[b]? ∧ Unk st' β' b := by
  have hnw : ¬ (own M st β).wr b := fun ⟨o, he, c, h1, _, h3⟩ => hu o he c h1 h3
  refine ⟨h'.kept.block b hlt hnw, fun o he c ho hc => ?_⟩
  obtain ⟨b', c', y, k1, _, _, k4⟩ := h'.heap o he ho
  rw [hc] at k1; cases k1
  cases hr : he.ro
  · rcases k4.1 hr with hh | hh
    · omega
    · exact hnw hh
  · have := h.rdlt b (k4.2 hr)
    omega

theorem RepF.putU {σ β N F a} (h : RepF σ β N F a) {d : Tmp} (hd : d < N) (hd' : d < 511) (hu : (getF d F).1 = 19) {v : Value} : RepF σ β N F (a.put (some d) v) := by
  refine ⟨by simpa [Act.put] using h.size, h.defers, fun i hi => ?_, h.glob⟩
  by_cases e : i = d
  · subst e; exact .inl hu
  · refine (h.tmp i hi).imp id fun ⟨x, h3, h4⟩ => ⟨x, ?_, h4⟩
    simp only [Act.put]; rw [Array.getElem?_setIfInBounds_ne (Ne.symm e)]; exact h3
theorem unkAt_sat {d : Nat} {F : F3} {k : Ans} {σ} (hd : d < 511) (h : (unkAt d F k).sat L σ) : (getF d F).1 = 19 ∧ k.sat L σ := by
  obtain ⟨h1, h2⟩ := wa_sat h
  refine ⟨?_, h2⟩
  have h1 := of_nbeq h1
  change (((bc (Nat.blt d 511) (mkG d) gunk : GO)).g F).1 = 19 at h1
  rw [nblt_t hd] at h1
  change ((mkG d).g F).1 = 19 at h1
  rwa [mkG_eq] at h1

/-! ### What the form of the region says -/
structure LOK (P : Program) (N : Nat) (ops : Array Oper) (lm : LM) : Prop where
  make : ∃ o t, ops[lm.im]? = some o ∧ o.op = .makeMap t none ∧ o.dst = some lm.dm ∧ o.guard = none ∧ o.after = #[]
  ty : ∃ e, P.underlying lm.t = some (.map lm.kt e)
  flat : flatT P lm.kt = true
  kd : P.underlying lm.kt = some lm.kind
  ok : lmOK N ops lm = true
theorem lateOf_ok {N : Nat} {ops : Array Oper} {lm : LM} (h : lateOf P N ops = some lm) : LOK P N ops lm := by
  obtain ⟨i, _, h⟩ := List.exists_of_findSome?_eq_some h
  unfold lmAt at h
  cases ho : ops[i]? with
  | none => rw [ho] at h; cases h
  | some o =>
    rw [ho] at h
    simp only [Option.bind_some] at h
    cases hm : makeAt o with
    | none => rw [hm] at h; cases h
    | some d =>
      rw [hm] at h
      simp only [Option.bind_some] at h
      cases ht : insT d ops.toList with
      | none => rw [ht] at h; cases h
      | some t =>
        rw [ht] at h
        simp only [Option.bind_some] at h
        cases hk : lmAt.mapTyD P t with
        | none => rw [hk] at h; cases h
        | some kt =>
          rw [hk] at h
          simp only [Option.bind_some] at h
          cases hf : lmAt.flatTD P kt
          · rw [hf] at h; cases h
          · rw [hf] at h
            change ((P.underlying kt).bind fun kind => if lmOK N ops ⟨i, d, t, kt, kind⟩ then some ⟨i, d, t, kt, kind⟩ else none) = some lm at h
            cases hu : P.underlying kt with
            | none => rw [hu] at h; cases h
            | some kind =>
              rw [hu] at h
              simp only [Option.bind_some] at h
              split at h
              · rename_i hok
                cases h
                refine ⟨?_, ?_, hf, hu, hok⟩
                · unfold makeAt at hm
                  split at hm
                  · rename_i t' d' h1 h2 h3
                    split at hm
                    · rename_i he
                      cases hm
                      exact ⟨o, t', ho, h1, h2, h3, by simpa using he⟩
                    · cases hm
                  · cases hm
                · unfold lmAt.mapTyD at hk
                  split at hk
                  · rename_i k e hh; cases hk; exact ⟨e, hh⟩
                  · cases hk
              · cases h

theorem liAt_some {ops : Array Oper} {lm : LM} {i : Nat} {x : LI} (h : liAt ops lm i = some x) : x.i = i ∧ ∃ o, ops[i]? = some o ∧ o.op = .insert lm.t (.tmp lm.dm) (.const x.key) x.y ∧ o.dst = none ∧ o.guard = none ∧ edgeTo o lm.im = true := by
  unfold liAt at h
  split at h
  · rename_i o ho
    split at h
    · rename_i t m key y hop
      split at h
      · rename_i hc
        cases h
        simp only [Bool.and_eq_true, beq_iff_eq, Option.isNone_iff_eq_none] at hc
        obtain ⟨⟨⟨⟨rfl, rfl⟩, h3⟩, h4⟩, h5⟩ := hc
        exact ⟨rfl, o, ho, hop, h3, h4, h5⟩
      · cases h
    · cases h
  · cases h
theorem edgeTo_iff {o : Oper} {j : Nat} : edgeTo o j = true ↔ ∃ e ∈ o.after, Region.binds .any e = true ∧ e.on = j := by
  unfold edgeTo
  rw [Array.any_eq_true']
  simp
theorem mem_insOf {ops : Array Oper} {lm : LM} {x : LI} : x ∈ insOf ops lm ↔ liAt ops lm x.i = some x := by
  unfold insOf
  rw [List.mem_filterMap]
  constructor
  · rintro ⟨i, _, h⟩
    obtain ⟨h1, _⟩ := liAt_some h
    rw [h1]; exact h
  · intro h
    obtain ⟨_, o, ho, _⟩ := liAt_some h
    exact ⟨x.i, List.mem_range.2 (Array.getElem?_eq_some_iff.1 ho).1, h⟩
theorem insOf_nodup (ops : Array Oper) (lm : LM) : ((insOf ops lm).map (·.i)).Nodup := by
  unfold insOf
  have key : ∀ l : List Nat, l.Nodup → ((l.filterMap (liAt ops lm)).map (·.i)).Nodup ∧ ∀ x ∈ (l.filterMap (liAt ops lm)).map (·.i), x ∈ l := by
    intro l
    induction l with
    | nil => intro _; exact ⟨List.nodup_nil, fun x h => by cases h⟩
    | cons i l ih =>
      intro hn
      obtain ⟨h1, h2⟩ := ih (List.nodup_cons.1 hn).2
      cases hi : liAt ops lm i with
      | none => rw [List.filterMap_cons_none hi]; exact ⟨h1, fun x hx => List.mem_cons_of_mem _ (h2 x hx)⟩
      | some x =>
        rw [List.filterMap_cons_some hi, List.map_cons, (liAt_some hi).1]
        refine ⟨List.nodup_cons.2 ⟨fun hm => (List.nodup_cons.1 hn).1 (h2 _ hm), h1⟩, fun y hy => ?_⟩
        rcases List.mem_cons.1 hy with rfl | hy
        · exact List.mem_cons_self
        · exact List.mem_cons_of_mem _ (h2 y hy)
  exact (key _ List.nodup_range).1

theorem LOK.parts {N : Nat} {ops : Array Oper} {lm : LM} (h : LOK P N ops lm) : lm.dm < N ∧ lm.dm < 511 ∧ pwB lm.kind (insOf ops lm) = true ∧ (∀ x ∈ insOf ops lm, insB ops lm x = true) ∧
    ∀ j o, ops[j]? = some o → isCore ops lm j = true → besideB ops lm (insOf ops lm) j o = true := by
  have := h.ok
  unfold lmOK at this
  simp only [Bool.and_eq_true, decide_eq_true_eq, List.all_eq_true] at this
  obtain ⟨⟨⟨⟨h1, h2⟩, h3⟩, h4⟩, h5⟩ := this
  refine ⟨h1, h2, h3, h4, fun j o ho hj => ?_⟩
  have := h5 j (List.mem_range.2 (Array.getElem?_eq_some_iff.1 ho).1)
  rw [hj, ho] at this
  simpa using this
theorem LOK.edges {N : Nat} {ops : Array Oper} {lm : LM} (h : LOK P N ops lm) {j : Nat} {o : Oper} (ho : ops[j]? = some o) (hj : isCore ops lm j = true) : (∀ e ∈ o.after, Region.binds .any e = true → isCore ops lm e.on = true) ∧ o.dst ≠ some lm.dm ∧
    ∀ x ∈ insOf ops lm, ∀ t, x.y = .tmp t → o.dst = some t → ∃ ox, ops[x.i]? = some ox ∧ edgeTo ox j = true := by
  have := h.parts.2.2.2.2 j o ho hj
  unfold besideB at this
  simp only [Bool.and_eq_true, List.all_eq_true, bne_iff_ne, ne_eq] at this
  obtain ⟨⟨h1, h2⟩, h3⟩ := this
  refine ⟨fun e he hb => ?_, h2, fun x hx t ht hd => ?_⟩
  · have := Array.all_eq_true_iff_forall_mem.1 h1 e he
    simpa [hb] using this
  · have := h3 x hx
    rw [ht] at this
    simp only [Bool.or_eq_true, bne_iff_ne, ne_eq] at this
    rcases this with hh | hh
    · exact absurd hd hh
    · split at hh
      · rename_i ox hox; exact ⟨ox, hox, hh⟩
      · cases hh
theorem core_not {ops : Array Oper} {lm : LM} {j : Nat} (h : isCore ops lm j = true) : isLate ops lm j = false := by
  unfold isCore at h
  rw [Bool.and_eq_true] at h
  simpa using h.1
theorem isLate_iff {ops : Array Oper} {lm : LM} {i : Nat} : isLate ops lm i = true ↔ i = lm.im ∨ ∃ x ∈ insOf ops lm, x.i = i := by
  unfold isLate isIns
  rw [Bool.or_eq_true, beq_iff_eq, Option.isSome_iff_exists]
  constructor
  · rintro (h | ⟨x, h⟩)
    · exact .inl h
    · refine .inr ⟨x, mem_insOf.2 ?_, (liAt_some h).1⟩
      rw [(liAt_some h).1]; exact h
  · rintro (h | ⟨x, hx, rfl⟩)
    · exact .inl h
    · exact .inr ⟨x, mem_insOf.1 hx⟩

def kvD (ops : Array Oper) (lm : LM) (la : Array Bool) (a : Act) : List (Value × Value) := ((insOf ops lm).filter fun x => la.getD x.i false).map fun x => (x.key, a.eval x.y)
/-- What holds of what is late. -/
structure LInv (ops : Array Oper) (lm : LM) (la : Array Bool) (a : Act) (w0 w : World) (β : Nat → Option (Nat × Nat)) (st : St) : Prop where
  deps : ∀ i o, isLate ops lm i = true → la.getD i false = true → ops[i]? = some o → ∀ e ∈ o.after, Region.binds .any e = true → la.getD e.on false = true
  map : la.getD lm.im false = true → ∃ b ms clock, a.tmps[lm.dm]? = some (.map (some b)) ∧ w0.heap.size ≤ b ∧ w.heap[b]? = some (.map ms.toArray clock) ∧ Unk st β b ∧ (ms.map kvOf).Perm (kvD ops lm la a) ∧ Stamps ms clock

theorem getD_tf {la : Array Bool} {j : Nat} (h : j < la.size) (hu : la.getD j true = false) : la.getD j false = false := by
  simp [h] at hu ⊢; exact hu
theorem getD_ft {la : Array Bool} {j : Nat} (hu : la.getD j false = true) : la.getD j true = true := by
  rcases Nat.lt_or_ge j la.size with h | h
  · simp [h] at hu ⊢; exact hu
  · simp [Array.getElem?_eq_none h]
theorem getD_set_self {la : Array Bool} {j : Nat} (h : j < la.size) (d : Bool) : (la.setIfInBounds j true).getD j d = true := by simp [h]
theorem deps_set {ops : Array Oper} {lm : LM} {la : Array Bool} {i : Nat} (hi : i ∈ Region.ready .any ops la)
    (h : ∀ i o, isLate ops lm i = true → la.getD i false = true → ops[i]? = some o → ∀ e ∈ o.after, Region.binds .any e = true → la.getD e.on false = true) :
    ∀ j o, isLate ops lm j = true → (la.setIfInBounds i true).getD j false = true → ops[j]? = some o → ∀ e ∈ o.after, Region.binds .any e = true → (la.setIfInBounds i true).getD e.on false = true := by
  intro j o hj hl ho e he hb
  by_cases hij : i = j
  · subst hij
    obtain ⟨_, o', ho', hall⟩ := mem_ready.1 hi
    rw [ho] at ho'; cases ho'
    exact getD_set_true (hall e he hb)
  · rw [getD_set_ne false hij] at hl
    exact getD_set_true (h j o hj hl ho e he hb)

theorem filter_new {l : List LI} {la : Array Bool} {x : LI} (hx : x ∈ l) (hn : (l.map (·.i)).Nodup) (hu : la.getD x.i false = false) (hs : x.i < la.size) :
    (l.filter fun y => (la.setIfInBounds x.i true).getD y.i false).Perm ((l.filter fun y => la.getD y.i false) ++ [x]) := by
  induction l with
  | nil => cases hx
  | cons y l ih =>
    obtain ⟨hn1, hn2⟩ := List.nodup_cons.1 (by rw [List.map_cons] at hn; exact hn)
    rcases List.mem_cons.1 hx with rfl | hx
    · have same : (l.filter fun y => (la.setIfInBounds x.i true).getD y.i false) = l.filter fun y => la.getD y.i false := by
        apply List.filter_congr
        intro z hz
        have : x.i ≠ z.i := fun e => hn1 (by rw [e]; exact List.mem_map.2 ⟨z, hz, rfl⟩)
        rw [getD_set_ne false this]
      rw [List.filter_cons, List.filter_cons, getD_set_self hs, hu, if_pos rfl, if_neg (by simp), same]
      exact (List.perm_append_singleton _ _).symm
    · have hne : x.i ≠ y.i := fun e => hn1 (by rw [← e]; exact List.mem_map.2 ⟨x, hx, rfl⟩)
      rw [List.filter_cons, List.filter_cons, getD_set_ne false hne]
      cases la.getD y.i false
      · exact ih hx hn2
      · exact (List.perm_cons _).2 (ih hx hn2)

theorem same_ne {P : Program} {kt : TypeId} {kind : TypeDesc} (hu : P.underlying kt = some kind) {a b : Value} (h : Instr.sameNow kind a b = some false) : EqAt P kt a b false := fun w => sameNow_equal hu h w
theorem pwB_ok {kind : TypeDesc} : ∀ {l : List LI}, pwB kind l = true → (∀ x ∈ l, Instr.sameNow kind x.key x.key = some true) ∧ l.Pairwise fun x y => Instr.sameNow kind x.key y.key = some false ∧ Instr.sameNow kind y.key x.key = some false
  | [], _ => ⟨(fun _ h => by cases h), List.Pairwise.nil⟩
  | x :: l, h => by
    unfold pwB at h
    simp only [Bool.and_eq_true, List.all_eq_true] at h
    obtain ⟨⟨h1, h2⟩, h3⟩ := h
    obtain ⟨k1, k2⟩ := pwB_ok h3
    have hx : Instr.sameNow kind x.key x.key = some true := by split at h1 <;> first | assumption | cases h1
    refine ⟨fun y hy => ?_, .cons (fun y hy => ?_) k2⟩
    · rcases List.mem_cons.1 hy with rfl | hy
      · exact hx
      · exact k1 y hy
    · obtain ⟨g1, g2⟩ := h2 y hy
      constructor
      · split at g1 <;> first | assumption | cases g1
      · split at g2 <;> first | assumption | cases g2
theorem keys_apart {kind : TypeDesc} {l : List LI} (h : pwB kind l = true) (hn : (l.map (·.i)).Nodup) {x y : LI} (hx : x ∈ l) (hy : y ∈ l) (hne : x.i ≠ y.i) : Instr.sameNow kind x.key y.key = some false := by
  have hp := (pwB_ok h).2
  clear h
  induction hp with
  | nil => cases hx
  | cons h1 h2 ih =>
    rcases List.mem_cons.1 hx with rfl | hx'
    · rcases List.mem_cons.1 hy with rfl | hy'
      · exact absurd rfl hne
      · exact (h1 y hy').1
    · rcases List.mem_cons.1 hy with rfl | hy'
      · exact (h1 x hx').2
      · exact ih (List.nodup_cons.1 (by rw [List.map_cons] at hn; exact hn)).2 hx' hy'
theorem keys_nodup {kind : TypeDesc} {l : List LI} (h : pwB kind l = true) (f : LI → Value) : ((l.map fun x => (x.key, f x)).map Prod.fst).Nodup := by
  obtain ⟨h1, h2⟩ := pwB_ok h
  clear h
  induction h2 with
  | nil => exact List.nodup_nil
  | cons g1 _ ih =>
    rename_i x l _
    rw [List.map_cons, List.map_cons, List.nodup_cons]
    refine ⟨fun hm => ?_, ih fun y hy => h1 y (List.mem_cons_of_mem _ hy)⟩
    obtain ⟨z, hz, e⟩ := List.mem_map.1 hm
    obtain ⟨y, hy, rfl⟩ := List.mem_map.1 hz
    have e : y.key = x.key := e
    have g := (g1 y hy).1
    rw [e, h1 x List.mem_cons_self] at g
    cases g

theorem eval_put {a a' : Act} {d : Option Tmp} {v : Value} (h : a'.tmps = (a.put d v).tmps) {y : Operand} (hy : ∀ t, y = .tmp t → d ≠ some t) : a'.eval y = a.eval y := by
  cases y with
  | tmp t =>
    show a'.tmps.getD t undef = a.tmps.getD t undef
    rw [h]
    cases d with
    | none => rfl
    | some d =>
      have : d ≠ t := fun e => hy t rfl (by rw [e])
      simp [Act.put, Array.getD_eq_getD_getElem?, Array.getElem?_setIfInBounds_ne this]
  | const v => rfl
  | global g => rfl
  | func f => rfl

/-- What is late is done. -/
theorem lateStep {N : Nat} {ops : Array Oper} {lm : LM} (hl : LOK P N ops lm) {Q : Exit → Act → World → Prop} {G : Act → World → Prop} {la : Array Bool} {i : Nat} (hi : i ∈ Region.ready .any ops la) (hlate : isLate ops lm i = true) (hsz : la.size = ops.size)
    {σ w0 β} {st : St} {w : World} {F : F3} {a : Act} (hR : RepC M σ w0 β st w) (hF : RepFC st.pc.nv σ β N F a) (hu : (getF lm.dm F).1 = 19) (hI : LInv ops lm la a w0 w β st)
    (hG : ∀ a' w', RepC M σ w0 β st w' → RepFC st.pc.nv σ β N F a' → LInv ops lm (la.setIfInBounds i true) a' w0 w' β st → G a' w') : wpOp P ops Q i G a w := by
  obtain ⟨hun, o0, ho0, hall⟩ := mem_ready.1 hi
  have hlt : i < la.size := by rw [hsz]; exact (Array.getElem?_eq_some_iff.1 ho0).1
  have hun' := getD_tf hlt hun
  obtain ⟨hp1, hp2, hp3, hp4, hp5⟩ := hl.parts
  have hR0 := hR.2 σ (Ag.refl _ _)
  rcases isLate_iff.1 hlate with rfl | ⟨x, hx, rfl⟩
  · obtain ⟨o, t, ho, hop, hdst, hg, haf⟩ := hl.make
    refine wpOp_do ho (by simp [Region.wanted, hg]) ?_
    obtain ⟨dst, op, ty, pos, af, g⟩ := o
    dsimp only at hop hdst hg haf
    subst hop; subst hdst; subst hg; subst haf
    have hrun : (execOp a.eval ⟨some lm.dm, .makeMap t none, ty, pos, #[], none⟩).run P w = .ok (.value (.map (some w.heap.size))) { w with heap := w.heap.push (.map #[] 0) } := by
      simp [execOp, Instr.makeMap, newObj, Sem.run]
    unfold Oper.wp
    rw [hrun]
    show G (a.put (some lm.dm) _) _
    refine hG _ _ ⟨hR.1, fun σ' ha => (hR.2 σ' ha).pushU _⟩ (fun σ' ha => (hF σ' ha).putU hp1 hp2 hu) ⟨deps_set hi hI.deps, fun _ => ?_⟩
    have hasz : lm.dm < a.tmps.size := by rw [(hF σ (Ag.refl _ _)).size]; exact hp1
    have hnone : kvD ops lm (la.setIfInBounds lm.im true) (a.put (some lm.dm) (.map (some w.heap.size))) = [] := by
      unfold kvD
      rw [List.map_eq_nil_iff, List.filter_eq_nil_iff]
      intro y hy hc
      obtain ⟨_, oy, hoy, _, hyd, _, hye⟩ := liAt_some (mem_insOf.1 hy)
      have hne : lm.im ≠ y.i := fun e => by
        rw [← e, ho] at hoy; cases hoy; cases hyd
      rw [getD_set_ne false hne] at hc
      obtain ⟨e, he, hb, heq⟩ := edgeTo_iff.1 hye
      have := hI.deps y.i oy (isLate_iff.2 (.inr ⟨y, hy, rfl⟩)) hc hoy e he hb
      rw [heq, hun'] at this
      cases this
    refine ⟨w.heap.size, [], 0, by simp [Act.put, hasz], hR0.kept.size, by simp, fun o he c h1 h2 => ?_, by rw [hnone]; exact .refl _, (fun _ h => by cases h), List.nodup_nil⟩
    obtain ⟨b', c', y, k1, k2, _⟩ := hR0.heap o he h1
    rw [h2] at k1; cases k1
    have := (Array.getElem?_eq_some_iff.1 k2).1
    omega
  · obtain ⟨_, o, ho, hop, hdst, hg, hye⟩ := liAt_some (mem_insOf.1 hx)
    refine wpOp_do ho (by simp [Region.wanted, hg]) ?_
    have hall : ∀ e ∈ o.after, Region.binds .any e = true → la.getD e.on false = true := by have := Option.some.inj (ho0.symm.trans ho); rw [← this]; exact hall
    obtain ⟨e, he, hb, heq⟩ := edgeTo_iff.1 hye
    have him : la.getD lm.im false = true := by rw [← heq]; exact hall e he hb
    obtain ⟨b, ms, clock, h1, h2, h3, h4, h5, h6⟩ := hI.map him
    obtain ⟨el, hty⟩ := hl.ty
    obtain ⟨dst, op, ty, pos, af, g⟩ := o
    dsimp only at hop hdst hg
    subst hop; subst hdst; subst hg
    have hev : a.eval (.tmp lm.dm) = .map (some b) := by show a.tmps.getD lm.dm undef = _; rw [Array.getD_eq_getD_getElem?, h1]; rfl
    have hkn : ∀ m ∈ ms, EqAt P lm.kt x.key m.key false := by
      intro m hm
      have hmem : kvOf m ∈ kvD ops lm la a := h5.mem_iff.1 (List.mem_map.2 ⟨m, hm, rfl⟩)
      obtain ⟨y, hy, e1⟩ := List.mem_map.1 hmem
      obtain ⟨hy1, hy2⟩ := List.mem_filter.1 hy
      have e2 : y.key = m.key := congrArg Prod.fst e1
      rw [← e2]
      refine same_ne hl.kd (keys_apart hp3 (insOf_nodup ops lm) hx hy1 fun e => ?_)
      rw [← e, hun'] at hy2
      cases hy2
    have hfr := (found_none (i := 0) hl.kd hkn).run hl.kd w
    have hck := flatT_ck hl.flat false 9999 x.key w
    have hrun : (execOp a.eval ⟨none, .insert lm.t (.tmp lm.dm) (.const x.key) x.y, ty, pos, af, none⟩).run P w = .ok .skip { w with heap := w.heap.setIfInBounds b (.map (ms ++ [(⟨x.key, a.eval x.y, clock⟩ : MapEntry)]).toArray (clock + 1)) } := by
      have hc : a.eval (.const x.key) = x.key := rfl
      simp [execOp, hev, hc, Instr.mapUpdate, run_underlying' hty, run_getMap h3, hck, hfr, run_setMap _ h3]
    unfold Oper.wp
    rw [hrun]
    show G (a.put none undef) _
    have ea : a.put none undef = a := rfl
    rw [ea]
    refine hG _ _ ⟨hR.1, fun σ' ha => (hR.2 σ' ha).setU h2 h4 _⟩ hF ⟨deps_set hi hI.deps, fun _ => ?_⟩
    have hblt : b < w.heap.size := (Array.getElem?_eq_some_iff.1 h3).1
    refine ⟨b, ms ++ [⟨x.key, a.eval x.y, clock⟩], clock + 1, h1, h2, by simp [hblt], h4, ?_, h6.push _ _⟩
    rw [List.map_append]
    have hp := (filter_new hx (insOf_nodup ops lm) hun' hlt).map fun x => (x.key, a.eval x.y)
    rw [List.map_append] at hp
    exact (h5.append_right _).trans hp.symm

/-- The map, when all is done. -/
theorem entK_ok {N : Nat} {nv σ β F a} (hF : RepFC nv σ β N F a) : ∀ {l : List LI} {k : List ME → Ans}, ((entK l).f F k).sat L σ → ∃ es, DenKC nv σ β es (l.map fun x => (x.key, a.eval x.y)) ∧ (k es).sat L σ
  | [], k, h => ⟨[], fun _ _ => .nil, h⟩
  | x :: l, k, h => by
    obtain ⟨h1, h⟩ := kn_sat h
    obtain ⟨h2, h⟩ := kn_sat h
    obtain ⟨es, h3, h4⟩ := entK_ok hF (l := l) h
    exact ⟨⟨(cConst x.key).g F, (cO x.y).g F⟩ :: es, fun σ' ha => .cons (fun τ => (cConst_ok (σ := τ) (β := β) x.key F).resolve_left h1) ((cO_C hF x.y).of h2 σ' ha) (h3 σ' ha), h4⟩

theorem adopt_ok {N : Nat} {ops : Array Oper} {lm : LM} (hl : LOK P N ops lm) {la : Array Bool} (him : la.getD lm.im false = true) (hall : ∀ x ∈ insOf ops lm, la.getD x.i false = true)
    {σ w0 β} {st : St} {w : World} {F : F3} {a : Act} {k : F3 → St → Ans} {next : Act → World → Prop} (hR : RepC M σ w0 β st w) (hF : RepFC st.pc.nv σ β N F a) (hI : LInv ops lm la a w0 w β st)
    (hs : (adoptK lm.dm (entK (insOf ops lm)) F st k).sat L σ) (hn : FollF L M N σ w0 β st.pc.nv k next) : next a w := by
  obtain ⟨es, h1, hs⟩ := entK_ok hF hs
  rw [forceN_eq, stNew_eq, mkS_eq] at hs
  obtain ⟨hp1, hp2, hp3, hp4, hp5⟩ := hl.parts
  obtain ⟨b, ms, clock, g1, g2, g3, g4, g5, g6⟩ := hI.map him
  have hfull : kvD ops lm la a = (insOf ops lm).map fun x => (x.key, a.eval x.y) := by
    unfold kvD
    rw [List.filter_eq_self.2]
    intro x hx
    exact hall x hx
  rw [hfull] at g5
  have hob : ∀ σ', Ag st.pc.nv σ σ' → ObjDen σ' β 0 (.map es) (.map ms.toArray clock) := fun σ' ha => .map (h1 σ' ha) g5 (keys_nodup hp3 _) g6
  have hR0 := hR.2 σ (Ag.refl _ _)
  refine hn σ (bUpd β st.nn b 0) (st.new (.map es)) w (setF lm.dm (.map st.nn) F) a (Ag.refl _ _) (Nat.le_refl _) (bUpd_ext (hR0.fresh _ (Nat.le_refl _))) ⟨hR.1, fun σ' ha => (hR.2 σ' ha).adopt g2 g4 g3 (hob σ' ha)⟩ ?_ hs
  have hself : a.put (some lm.dm) (.map (some b)) = a := by
    unfold Act.put
    have : a.tmps.setIfInBounds lm.dm (.map (some b)) = a.tmps := by
      apply Array.ext_getElem?
      intro j
      have hasz : lm.dm < a.tmps.size := (Array.getElem?_eq_some_iff.1 g1).1
      rw [Array.getElem?_setIfInBounds]
      by_cases e : lm.dm = j
      · subst e; rw [if_pos rfl, if_pos hasz, g1]
      · rw [if_neg e]
    show ({ a with tmps := a.tmps.setIfInBounds lm.dm (.map (some b)) } : Act) = a
    rw [this]
  have := (hF.mono (bUpd_ext (hR0.fresh _ (Nat.le_refl _)))).put (s := .map st.nn) (v := .map (some b)) hp1 hp2 (fun σ' _ => .map (bUpd_self β st.nn b 0))
  rw [hself] at this
  exact this

/-! ### All of the region -/
def cnt (la : Array Bool) : Nat := (la.toList.filter (!·)).length
theorem cntL_set : ∀ (l : List Bool) (j : Nat), l[j]? = some false → ((l.set j true).filter (!·)).length + 1 = (l.filter (!·)).length
  | [], _, h => by simp at h
  | b :: l, 0, h => by simp at h; subst h; simp
  | b :: l, j + 1, h => by
    simp at h
    have := cntL_set l j h
    rw [List.set_cons_succ, List.filter_cons, List.filter_cons]
    cases b <;> simp <;> omega
theorem cnt_set {la : Array Bool} {j : Nat} (h : j < la.size) (hu : la.getD j true = false) : cnt (la.setIfInBounds j true) + 1 = cnt la := by
  unfold cnt
  rw [Array.toList_setIfInBounds]
  refine cntL_set _ _ ?_
  simp [h] at hu ⊢; exact hu
theorem cnt_pos {la : Array Bool} {j : Nat} (h : j < la.size) (hu : la.getD j true = false) : 0 < cnt la := by have := cnt_set h hu; omega

structure Rel (ops : Array Oper) (lm : LM) (lf la : Array Bool) : Prop where
  same : ∀ j, isCore ops lm j = true → ∀ d, la.getD j d = lf.getD j d
  late : ∀ j, j < ops.size → isCore ops lm j = false → lf.getD j true = false
  tail : ∀ j, j < ops.size → isTail ops lm j = true → la.getD j true = false
theorem getD_set_eq' {l m : Array Bool} {i j : Nat} {d : Bool} (hs : l.size = m.size) (h : l.getD j d = m.getD j d) : (l.setIfInBounds i true).getD j d = (m.setIfInBounds i true).getD j d := by
  by_cases e : i = j
  · subst e
    rcases Nat.lt_or_ge i l.size with hh | hh
    · rw [getD_set_self hh, getD_set_self (by omega)]
    · have h1 : ¬ i < l.size := by omega
      have h2 : ¬ i < m.size := by omega
      simp [h1, h2]
  · rw [getD_set_ne d e, getD_set_ne d e]; exact h
theorem core_tail {ops : Array Oper} {lm : LM} {j : Nat} (h : isCore ops lm j = true) : isTail ops lm j = false := by
  unfold isCore at h
  rw [Bool.and_eq_true] at h
  simpa using h.2
theorem late_tail {ops : Array Oper} {lm : LM} {j : Nat} (h : isLate ops lm j = true) : isTail ops lm j = false := by
  unfold isTail; rw [h]; rfl
theorem Rel.both {ops : Array Oper} {lm : LM} {lf la : Array Bool} (h : Rel ops lm lf la) (hs : la.size = lf.size) {i : Nat} (hi : isCore ops lm i = true) : Rel ops lm (lf.setIfInBounds i true) (la.setIfInBounds i true) :=
  ⟨fun j hj d => getD_set_eq' hs (h.same j hj d), fun j hlt hj => by
    have : i ≠ j := fun e => by rw [e, hj] at hi; cases hi
    rw [getD_set_ne true this]; exact h.late j hlt hj, fun j hlt hj => by
    have : i ≠ j := fun e => by have := core_tail hi; rw [e, hj] at this; cases this
    rw [getD_set_ne true this]; exact h.tail j hlt hj⟩
theorem Rel.one {ops : Array Oper} {lm : LM} {lf la : Array Bool} (h : Rel ops lm lf la) {i : Nat} (hi : isLate ops lm i = true) : Rel ops lm lf (la.setIfInBounds i true) :=
  ⟨fun j hj d => by
    have : i ≠ j := fun e => by have := core_not hj; rw [← e, hi] at this; cases this
    rw [getD_set_ne d this]; exact h.same j hj d, h.late, fun j hlt hj => by
    have : i ≠ j := fun e => by have := late_tail hi; rw [e, hj] at this; cases this
    rw [getD_set_ne true this]; exact h.tail j hlt hj⟩
theorem ready_iff {N : Nat} {ops : Array Oper} {lm : LM} (hl : LOK P N ops lm) {lf la : Array Bool} (h : Rel ops lm lf la) {j : Nat} (hj : isCore ops lm j = true) : j ∈ Region.ready .any ops la ↔ j ∈ Region.ready .any ops lf := by
  rw [mem_ready, mem_ready, h.same j hj true]
  constructor
  · rintro ⟨h1, o, ho, hall⟩
    refine ⟨h1, o, ho, fun e he hb => ?_⟩
    rw [← h.same _ ((hl.edges ho hj).1 e he hb) false]; exact hall e he hb
  · rintro ⟨h1, o, ho, hall⟩
    refine ⟨h1, o, ho, fun e he hb => ?_⟩
    rw [h.same _ ((hl.edges ho hj).1 e he hb) false]; exact hall e he hb

theorem LInv.next {N : Nat} {ops : Array Oper} {lm : LM} (hl : LOK P N ops lm) {la : Array Bool} {a : Act} {w0 w : World} {β st} (hI : LInv ops lm la a w0 w β st) {j : Nat} {oj : Oper} (hoj : ops[j]? = some oj) (hjc : isCore ops lm j = true) (hj : j ∈ Region.ready .any ops la)
    {a' : Act} {w' : World} {β' : Nat → Option (Nat × Nat)} {st' : St} (ht : ∃ v, a'.tmps = (a.put oj.dst v).tmps) (hk : ∀ b, w0.heap.size ≤ b → b < w.heap.size → Unk st β b → w'.heap[b]? = w.heap[b]? ∧ Unk st' β' b) : LInv ops lm (la.setIfInBounds j true) a' w0 w' β' st' := by
  obtain ⟨v, ht⟩ := ht
  have hjn := core_not hjc
  refine ⟨deps_set hj hI.deps, fun him => ?_⟩
  have hjm : j ≠ lm.im := fun e => by rw [isLate_iff.2 (.inl e)] at hjn; cases hjn
  rw [getD_set_ne false hjm] at him
  obtain ⟨b, ms, clock, h1, h2, h3, h4, h5, h6⟩ := hI.map him
  have hblt : b < w.heap.size := (Array.getElem?_eq_some_iff.1 h3).1
  obtain ⟨k1, k2⟩ := hk b h2 hblt h4
  obtain ⟨e1, e2, e3⟩ := hl.edges hoj hjc
  refine ⟨b, ms, clock, ?_, h2, by rw [k1]; exact h3, k2, ?_, h6⟩
  · rw [ht]
    cases hd : oj.dst with
    | none => exact h1
    | some d =>
      have hne : d ≠ lm.dm := fun e => e2 (by rw [hd, e])
      show (a.tmps.setIfInBounds d v)[lm.dm]? = _
      rw [Array.getElem?_setIfInBounds_ne hne]; exact h1
  · have heq : kvD ops lm (la.setIfInBounds j true) a' = kvD ops lm la a := by
      unfold kvD
      have hf : ((insOf ops lm).filter fun x => (la.setIfInBounds j true).getD x.i false) = (insOf ops lm).filter fun x => la.getD x.i false := by
        apply List.filter_congr
        intro x hx
        have : j ≠ x.i := fun e => by rw [isLate_iff.2 (.inr ⟨x, hx, e.symm⟩)] at hjn; cases hjn
        rw [getD_set_ne false this]
      rw [hf]
      apply List.map_congr_left
      intro x hx
      obtain ⟨hx1, hx2⟩ := List.mem_filter.1 hx
      rw [eval_put ht]
      intro t ht' hd
      obtain ⟨ox, hox, hed⟩ := e3 x hx1 t ht' hd
      obtain ⟨e, he, hb, heq⟩ := edgeTo_iff.1 hed
      have := hI.deps x.i ox (isLate_iff.2 (.inr ⟨x, hx1, rfl⟩)) hx2 hox e he hb
      rw [heq] at this
      have h0 := (mem_ready.1 hj).1
      rw [getD_ft this] at h0
      cases h0
    rw [heq]; exact h5

theorem allL_iff {core : Nat → Bool} {n : Nat} {lf : Array Bool} : allL core n lf = true ↔ ∀ j, j < n → core j = true → lf.getD j true = true := by
  unfold allL
  rw [List.all_eq_true]
  constructor
  · intro h j hj hl
    have := h j (List.mem_range.2 hj)
    rwa [hl, Bool.not_true, Bool.false_or] at this
  · intro h j hj
    cases hl : core j
    · rfl
    · rw [Bool.not_true, Bool.false_or]; exact h j (List.mem_range.1 hj) hl

/-- What comes after, one by one. -/
theorem tRun_ok {E : Env} (hE : EnvOk L E) {N : Nat} {ops : Array Oper} {Q : Exit → Act → World → Prop} {cf : CallF} (hcf : ∀ M, CallOk E.P L M cf) {w0 : World} :
    ∀ (m n : Nat) (la : Array Bool) {t : List Nat} {σ β} {st : St} {w : World} {F : F3} {a : Act} {k : F3 → St → Ans}, schedT ops m la = some t → la.size = ops.size → cnt la ≤ n → RepC M σ w0 β st w → RepFC st.pc.nv σ β N F a →
    ((tRun E N ops t).run cf F st k).sat L σ → FollF L M N σ w0 β st.pc.nv k (Q .normal) → wpAnyI E.P .any ops Q (fun _ _ => True) n la a w := by
  intro m
  induction m with
  | zero =>
    intro n la t σ β st w F a k hs hsz hc hR hF hk hn
    unfold schedT at hs
    split at hs
    · rename_i hr
      cases hs
      exact wpAnyI_done _ trivial hr (hn.now hR hF hk)
    · cases hs
  | succ m ih =>
    intro n la t σ β st w F a k hs hsz hc hR hF hk hn
    unfold schedT at hs
    split at hs
    · rename_i hr
      cases hs
      exact wpAnyI_done _ trivial hr (hn.now hR hF hk)
    · rename_i x hr
      cases hs' : schedT ops m (la.setIfInBounds x true) with
      | none => rw [hs'] at hs; cases hs
      | some t' =>
        rw [hs'] at hs
        cases hs
        have hx : x ∈ Region.ready .any ops la := by rw [hr]; exact List.mem_cons_self
        obtain ⟨h0, o, ho, _⟩ := mem_ready.1 hx
        have hlt : x < la.size := by rw [hsz]; exact (Array.getElem?_eq_some_iff.1 ho).1
        have hcs := cnt_set hlt h0
        cases n with
        | zero => omega
        | succ n =>
          refine ⟨trivial, (fun e => by rw [e] at hx; cases hx), fun i hi => ?_⟩
          have : i = x := by rw [hr] at hi; simpa using hi
          subst this
          refine sStep_ok hE cf hcf σ w0 β st w F a (fun F st => (tRun E N ops t').run cf F st k) _ hR hF hk ?_
          intro σ' β' st' w' F' a' g1 g2 g3 g4 g5 g6
          exact ih n _ hs' (by simpa using hsz) (by omega) g4 g5 g6 (hn.weaken g1 g2 g3)
    · cases hs

theorem tail_iff {ops : Array Oper} {lm : LM} {j : Nat} {o : Oper} (ho : ops[j]? = some o) (h : isTail ops lm j = true) : edgeTo o lm.im = true ∧ ∀ x ∈ insOf ops lm, edgeTo o x.i = true := by
  unfold isTail at h
  rw [ho] at h
  simp only [Bool.and_eq_true, List.all_eq_true] at h
  exact h.2
theorem core_or {ops : Array Oper} {lm : LM} (j : Nat) : isLate ops lm j = true ∨ isTail ops lm j = true ∨ isCore ops lm j = true := by
  cases h1 : isLate ops lm j
  · cases h2 : isTail ops lm j
    · exact .inr (.inr (by unfold isCore; rw [h1, h2]; rfl))
    · exact .inr (.inl rfl)
  · exact .inl rfl

theorem dSchL_ok {E : Env} (hE : EnvOk L E) {N : Nat} {ops : Array Oper} {lm : LM} (hl : LOK E.P N ops lm) {Q : Exit → Act → World → Prop} (hQ : ∀ c a w, ¬ Q (.panic c) a w) (hsel : noSel ops = true) {cf : CallF} (hcf : ∀ M, CallOk E.P L M cf) {w0 : World} :
    ∀ (n m : Nat) (lf la : Array Bool) {s : SchL} {σ β} {st : St} {w : World} {F : F3} {a : Act} {k : F3 → St → Ans},
    schedL ops lm m lf = some s → Closed .any ops la → la.size = ops.size → lf.size = ops.size → Rel ops lm lf la → cnt la ≤ n → RepC M σ w0 β st w → RepFC st.pc.nv σ β N F a → (getF lm.dm F).1 = 19 → LInv ops lm la a w0 w β st →
    ((dSchL E N ops lm s).run cf F st k).sat L σ → FollF L M N σ w0 β st.pc.nv k (Q .normal) → wpAnyI E.P .any ops Q (fun _ _ => True) n la a w := by
  intro n
  have hdm : lm.dm < 511 := hl.parts.2.1
  -- all that is late is done
  have fin : ∀ (n : Nat) (lf la : Array Bool) {t : List Nat} {σ β} {st : St} {w : World} {F : F3} {a : Act} {k : F3 → St → Ans}, (∀ j, j < ops.size → isCore ops lm j = true → lf.getD j true = true) → (∀ j, isLate ops lm j = true → la.getD j false = true) → schedT ops ops.size (fullOf ops lm) = some t →
      la.size = ops.size → lf.size = ops.size → Rel ops lm lf la → cnt la ≤ n →
      RepC M σ w0 β st w → RepFC st.pc.nv σ β N F a → LInv ops lm la a w0 w β st → ((dSchL E N ops lm (.adopt t)).run cf F st k).sat L σ → FollF L M N σ w0 β st.pc.nv k (Q .normal) → wpAnyI E.P .any ops Q (fun _ _ => True) n la a w := by
    intro n lf la t σ β st w F a k hall hlate ht hs1 hs2 hrel hc hR hF hI hk hn
    have hla : la = fullOf ops lm := by
      apply Array.ext (by rw [hs1]; simp [fullOf])
      intro j hj1 hj2
      have hj : j < ops.size := by omega
      have hr : (fullOf ops lm)[j] = !isTail ops lm j := by simp [fullOf]
      rw [hr]
      have hg : la.getD j true = la[j] := by simp [hj1]
      rcases core_or (ops := ops) (lm := lm) j with h | h | h
      · have h1 := getD_ft (hlate j h)
        rw [hg] at h1; rw [h1, late_tail h]; rfl
      · have h1 := hrel.tail j hj h
        rw [hg] at h1; rw [h1, h]; rfl
      · have h1 := hall j hj h
        rw [← hrel.same j h true, hg] at h1; rw [h1, core_tail h]; rfl
    have hall2 : ∀ x ∈ insOf ops lm, la.getD x.i false = true := fun x hx => hlate _ (isLate_iff.2 (.inr ⟨x, hx, rfl⟩))
    refine adopt_ok (k := fun F st => (tRun E N ops t).run cf F st k) (next := fun a w => wpAnyI E.P .any ops Q (fun _ _ => True) n la a w) hl (hlate _ (isLate_iff.2 (.inl rfl))) hall2 hR hF hI hk ?_
    intro σ' β' st' w' F' a' g1 g2 g3 g4 g5 g6
    exact tRun_ok hE hcf ops.size n la (by rw [hla]; exact ht) hs1 hc g4 g5 g6 (hn.weaken g1 g2 g3)
  have lateAll : ∀ (lf la : Array Bool) {a : Act} {w : World} {β st}, (∀ j, j < ops.size → isCore ops lm j = true → lf.getD j true = true) → la.size = ops.size → Rel ops lm lf la → LInv ops lm la a w0 w β st → Region.ready .any ops la = [] → ∀ j, isLate ops lm j = true → la.getD j false = true := by
    intro lf la a w β st hall hs1 hrel hI hr
    have non : ∀ j, j < ops.size → isCore ops lm j = true → la.getD j false = true := fun j hj hlj => by
      have h1 := hall j hj hlj
      rw [← hrel.same j hlj true] at h1
      simp [hs1, hj] at h1 ⊢; exact h1
    have listed : ∀ j, j < ops.size → (∀ o, ops[j]? = some o → ∀ e ∈ o.after, Region.binds .any e = true → la.getD e.on false = true) → la.getD j false = true := by
      intro j hj hd
      cases hc : la.getD j false
      · exfalso
        have : j ∈ Region.ready .any ops la := by
          rw [mem_ready]
          have hop : ops[j]? = some ops[j] := Array.getElem?_eq_getElem hj
          refine ⟨?_, ops[j], hop, hd _ hop⟩
          simp [hs1, hj] at hc ⊢; exact hc
        rw [hr] at this
        cases this
      · rfl
    have him : la.getD lm.im false = true := by
      obtain ⟨o, t, ho, _, _, _, haf⟩ := hl.make
      refine listed _ (Array.getElem?_eq_some_iff.1 ho).1 fun o' ho' e he => ?_
      rw [ho] at ho'; cases ho'; rw [haf] at he; exact absurd he (by simp)
    intro j hlj
    rcases isLate_iff.1 hlj with rfl | ⟨x, hx, rfl⟩
    · exact him
    · obtain ⟨_, ox, hox, _⟩ := liAt_some (mem_insOf.1 hx)
      refine listed _ (Array.getElem?_eq_some_iff.1 hox).1 fun o ho e he hb => ?_
      have := hl.parts.2.2.2.1 x hx
      unfold insB at this
      rw [ho] at this
      have := Array.all_eq_true_iff_forall_mem.1 this e he
      simp only [hb, Bool.not_true, Bool.false_or, Bool.or_eq_true, Bool.and_eq_true, beq_iff_eq, decide_eq_true_eq] at this
      rcases this with h | h
      · rw [h]; exact him
      · exact non e.on h.2 h.1
  induction n with
  | zero =>
    intro m lf la s σ β st w F a k hs hcl hs1 hs2 hrel hc hR hF hu hI hk hn
    have alll : ∀ j, j < ops.size → la.getD j true = true := fun j hj => by
      cases h : la.getD j true
      · have := cnt_pos (by rw [hs1]; exact hj) h; omega
      · rfl
    have hal : ∀ j, j < ops.size → isCore ops lm j = true → lf.getD j true = true := fun j hj hlj => by rw [← hrel.same j hlj true]; exact alll j hj
    have hsd : ∃ t, schedT ops ops.size (fullOf ops lm) = some t ∧ s = .adopt t := by
      cases m with
      | zero => unfold schedL at hs; rw [if_pos (allL_iff.2 hal)] at hs; obtain ⟨t, h1, h2⟩ := Option.map_eq_some_iff.1 hs; exact ⟨t, h1, h2.symm⟩
      | succ m => unfold schedL at hs; rw [if_pos (allL_iff.2 hal)] at hs; obtain ⟨t, h1, h2⟩ := Option.map_eq_some_iff.1 hs; exact ⟨t, h1, h2.symm⟩
    obtain ⟨t, ht, rfl⟩ := hsd
    refine fin 0 lf la hal (fun j hj => ?_) ht hs1 hs2 hrel hc hR hF hI hk hn
    have hjlt : j < ops.size := by
      rcases isLate_iff.1 hj with rfl | ⟨x, hx, rfl⟩
      · obtain ⟨o, t, ho, _⟩ := hl.make; exact (Array.getElem?_eq_some_iff.1 ho).1
      · obtain ⟨_, o, ho, _⟩ := liAt_some (mem_insOf.1 hx); exact (Array.getElem?_eq_some_iff.1 ho).1
    have := alll j hjlt
    simp [hs1, hjlt] at this ⊢; exact this
  | succ n ih =>
    intro m lf la s σ β st w F a k hs hcl hs1 hs2 hrel hc hR hF hu hI hk hn
    -- what is late may come at any time
    have lateI : ∀ i, i ∈ Region.ready .any ops la → isLate ops lm i = true → wpOp E.P ops Q i (wpAnyI E.P .any ops Q (fun _ _ => True) n (la.setIfInBounds i true)) a w := by
      intro i hi hlate
      obtain ⟨h0, o, ho, _⟩ := mem_ready.1 hi
      have hlt : i < la.size := by rw [hs1]; exact (Array.getElem?_eq_some_iff.1 ho).1
      have hcs := cnt_set hlt h0
      exact lateStep hl hi hlate hs1 hR hF hu hI fun a' w' h1 h2 h3 => ih m lf _ hs (hcl.set hi) (by simpa using hs1) hs2 (hrel.one hlate) (by omega) h1 h2 hu h3 hk hn
    by_cases hal : allL (isCore ops lm) ops.size lf = true
    · have hsd : ∃ t, schedT ops ops.size (fullOf ops lm) = some t ∧ s = .adopt t := by
        cases m with
        | zero => unfold schedL at hs; rw [if_pos hal] at hs; obtain ⟨t, h1, h2⟩ := Option.map_eq_some_iff.1 hs; exact ⟨t, h1, h2.symm⟩
        | succ m => unfold schedL at hs; rw [if_pos hal] at hs; obtain ⟨t, h1, h2⟩ := Option.map_eq_some_iff.1 hs; exact ⟨t, h1, h2.symm⟩
      obtain ⟨t, ht, rfl⟩ := hsd
      have hal' := allL_iff.1 hal
      by_cases hall : ∀ j, isLate ops lm j = true → la.getD j false = true
      · exact fin (n + 1) lf la hal' hall ht hs1 hs2 hrel hc hR hF hI hk hn
      · refine ⟨trivial, fun hr => absurd (lateAll lf la hal' hs1 hrel hI hr) hall, fun i hi => ?_⟩
        obtain ⟨h0, o, ho, hdep⟩ := mem_ready.1 hi
        rcases core_or (ops := ops) (lm := lm) i with h | h | h
        · exact lateI i hi h
        · exfalso
          obtain ⟨k1, k2⟩ := tail_iff ho h
          refine hall fun j hj => ?_
          rcases isLate_iff.1 hj with rfl | ⟨x, hx, rfl⟩
          · obtain ⟨e, he, hb, heq⟩ := edgeTo_iff.1 k1
            rw [← heq]; exact hdep e he hb
          · obtain ⟨e, he, hb, heq⟩ := edgeTo_iff.1 (k2 x hx)
            rw [← heq]; exact hdep e he hb
        · exfalso
          rw [hrel.same i h true, hal' i (Array.getElem?_eq_some_iff.1 ho).1 h] at h0
          cases h0
    · cases m with
      | zero => unfold schedL at hs; rw [if_neg hal] at hs; cases hs
      | succ m =>
        have hs0 := hs
        unfold schedL at hs
        rw [if_neg hal] at hs
        cases hr : (Region.ready .any ops lf).filter (isCore ops lm) with
        | nil => rw [hr] at hs; cases hs
        | cons x r =>
          rw [hr] at hs
          dsimp only at hs
          have mem : ∀ i, i ∈ x :: r → i ∈ Region.ready .any ops la ∧ isCore ops lm i = true := fun i hi => by
            rw [← hr] at hi
            obtain ⟨h1, h2⟩ := List.mem_filter.1 hi
            exact ⟨(ready_iff hl hrel h2).2 h1, h2⟩
          cases hf : (x :: r).find? (eagerOK ops lf) with
          | some i =>
            rw [hf] at hs
            dsimp only at hs
            cases hs' : schedL ops lm m (lf.setIfInBounds i true) with
            | none => rw [hs'] at hs; cases hs
            | some s' =>
              rw [hs'] at hs
              cases hs
              obtain ⟨hi, hli⟩ := mem i (List.mem_of_find?_eq_some hf)
              have hok := List.find?_some hf
              unfold eagerOK at hok
              rw [Bool.and_eq_true] at hok
              obtain ⟨o, h1, v, l', cs', F', st', h2, h3, h4, ⟨h5, h5'⟩, h6, h7, h9⟩ := dEager_ok (d := []) (l := []) (cs := []) hR hF .nil (fun e he => by cases he) (k := fun l F st => noSE l (unkAt lm.dm F ((dSchL E N ops lm s').run cf F st k))) hk
              cases l' with
              | cons _ _ => exact h9.elim
              | nil =>
                have : cs' = [] := by cases h2; rfl
                subst this
                obtain ⟨hu', h9⟩ := unkAt_sat hdm h9
                obtain ⟨h0, _⟩ := mem_ready.1 hi
                have hlt : i < la.size := by rw [hs1]; exact (Array.getElem?_eq_some_iff.1 h1).1
                have hcs := cnt_set hlt h0
                have hI' := hI.next hl h1 hli hi (a' := a.put o.dst v) (w' := w) (β' := β) (st' := st') ⟨v, rfl⟩ (fun b _ _ hub => ⟨rfl, fun o he c ho => hub o he c (by rw [← h5']; exact ho)⟩)
                have key := ih m _ (la.setIfInBounds i true) hs' (hcl.set hi) (by simpa using hs1) (by simpa using hs2) (hrel.both (hs1.trans hs2.symm) hli) (by omega) h6 (by rw [h5]; exact h7) hu' hI' h9 (by rw [h5]; exact hn)
                have hy : YieldsI E.P ops (fun _ => True) o v a := by
                  rcases h4 with ⟨_, hy⟩ | ⟨e, he, _⟩
                  · exact hy
                  · cases he
                refine wpAnyI_first (D := []) hQ h1 (noSel_spec hsel) (fun _ _ _ _ => trivial) (fun _ _ _ h => h) (fun _ h => by cases h) (fun h => by cases h) n la a w hcl (fun j oj hoj hji hun hno => freeAt_spec h1 hok.2 j oj hoj hji ?_ hno) hi hy key
                cases hlj : isCore ops lm j
                · exact hrel.late j (Array.getElem?_eq_some_iff.1 hoj).1 hlj
                · rw [← hrel.same j hlj true]; exact hun
          | none =>
            rw [hf] at hs
            dsimp only at hs
            cases r with
            | cons _ _ => cases hs
            | nil =>
              dsimp only at hs
              by_cases hbl : blocked ops lm lf = true
              · rw [if_pos hbl] at hs
                cases hs' : schedL ops lm m (lf.setIfInBounds x true) with
                | none => rw [hs'] at hs; cases hs
                | some s' =>
                  rw [hs'] at hs
                  cases hs
                  obtain ⟨hx, hlx⟩ := mem x List.mem_cons_self
                  refine ⟨trivial, (fun e => by rw [e] at hx; cases hx), fun j hj => ?_⟩
                  rcases core_or (ops := ops) (lm := lm) j with hlj | hlj | hlj
                  · exact lateI j hj hlj
                  · exfalso
                    obtain ⟨h0, o, ho, hdep⟩ := mem_ready.1 hj
                    unfold blocked at hbl
                    obtain ⟨y, hy, hyb⟩ := List.any_eq_true.1 hbl
                    obtain ⟨_, oy, hoy, _⟩ := liAt_some (mem_insOf.1 hy)
                    rw [hoy] at hyb
                    rw [Array.any_eq_true'] at hyb
                    obtain ⟨e, he, hbe⟩ := hyb
                    simp only [Bool.and_eq_true, Bool.not_eq_true'] at hbe
                    obtain ⟨⟨hb1, hb2⟩, hb3⟩ := hbe
                    obtain ⟨e', he', hb', heq'⟩ := edgeTo_iff.1 ((tail_iff ho hlj).2 y hy)
                    have h1 := hdep e' he' hb'
                    rw [heq'] at h1
                    have h2 := hI.deps y.i oy (isLate_iff.2 (.inr ⟨y, hy, rfl⟩)) h1 hoy e he hb1
                    rw [hrel.same _ hb2 false, hb3] at h2
                    cases h2
                  · have hjx : j = x := by
                      have : j ∈ (Region.ready .any ops lf).filter (isCore ops lm) := List.mem_filter.2 ⟨(ready_iff hl hrel hlj).1 hj, hlj⟩
                      rw [hr] at this
                      simpa using this
                    subst hjx
                    obtain ⟨h0, o, ho, _⟩ := mem_ready.1 hj
                    have hlt : j < la.size := by rw [hs1]; exact (Array.getElem?_eq_some_iff.1 ho).1
                    have hcs := cnt_set hlt h0
                    have hR0 := hR.2 σ (Ag.refl _ _)
                    have hRf : RepC (own M st β) σ w β st w := ⟨hR.1, fun σ' ha => (hR.2 σ' ha).frame⟩
                    have hstep := sStep_ok (M := own M st β) hE (Q := Q) (i := j) cf hcf σ w β st w F a (fun F st => unkAt lm.dm F ((dSchL E N ops lm s').run cf F st k))
                      (fun a' w' => (∃ v, a'.tmps = (a.put o.dst v).tmps) → wpAnyI E.P .any ops Q (fun _ _ => True) n (la.setIfInBounds j true) a' w') hRf hF hk (by
                        intro σ' β' st' w' F' a' g1 g2 g3 g4 g5 g6 hv
                        obtain ⟨hu', g6⟩ := unkAt_sat hdm g6
                        have g4' : RepC M σ' w0 β' st' w' := ⟨g4.1, fun σ'' ha => hR0.unframe (g4.2 σ'' ha)⟩
                        have hI' := hI.next hl ho hlx hj (a' := a') (w' := w') (β' := β') (st' := st') hv (fun b hb hlt hub => frame_keeps hR0 (g4.2 σ' (Ag.refl _ _)) hb hlt hub)
                        exact ih m _ (la.setIfInBounds j true) hs' (hcl.set hj) (by simpa using hs1) (by simpa using hs2) (hrel.both (hs1.trans hs2.symm) hlx) (by omega) g4' g5 hu' hI' g6 (hn.weaken g1 g2 g3))
                    exact wpOp_mono (fun a' w' h => h.1 h.2) (wpOp_tmps hQ ho hstep)
              · rw [if_neg hbl] at hs; cases hs

theorem cnt_replicate (n : Nat) : cnt (Array.replicate n false) ≤ n := by
  unfold cnt
  refine Nat.le_trans (List.length_filter_le _ _) ?_
  simp
/-- A region with a map's literal. -/
theorem sDrawL_ok {E : Env} (hE : EnvOk L E) {N : Nat} {ops : Array Oper} {id : Nat} {Q : Exit → Act → World → Prop} (cf : CallF) (hcf : ∀ M, CallOk E.P L M cf) {σ w0 β} {st : St} {w : World} {F : F3} {a : Act} {k : F3 → St → Ans}
    (hR : RepC M σ w0 β st w) (hF : RepFC st.pc.nv σ β N F a) (hk : ((sDrawL E N ops).run cf F st k).sat L σ) (hn : FollF L M N σ w0 β st.pc.nv k (Q .normal)) : (Code.region id ops true).wp E.P Q a w := by
  unfold sDrawL at hk
  cases hsel : noSel ops
  · rw [hsel] at hk; exact hk.elim
  · rw [hsel] at hk
    change ((Option.rec (rbad 208) (fun lm => Option.rec (rbad 209) (fun s => ⟨fun cf F st k => unkAt lm.dm F ((dSchL E N ops lm s).run cf F st k)⟩) (schedLX ops lm)) (lateOf E.P N ops) : RS).run cf F st k).sat L σ at hk
    cases hlm : lateOf E.P N ops with
    | none => rw [hlm] at hk; exact hk.elim
    | some lm =>
      rw [hlm] at hk
      have hl := lateOf_ok hlm
      change ((Option.rec (rbad 209) (fun s => ⟨fun cf F st k => unkAt lm.dm F ((dSchL E N ops lm s).run cf F st k)⟩) (schedLX ops lm) : RS).run cf F st k).sat L σ at hk
      rw [schedLX_eq] at hk
      cases hs : schedL ops lm ops.size (Array.replicate ops.size false) with
      | none => rw [hs] at hk; exact hk.elim
      | some s =>
        rw [hs] at hk
        obtain ⟨hu, hk⟩ := unkAt_sat hl.parts.2.1 hk
        have hnone : ∀ j, (Array.replicate ops.size false).getD j false = false := fun j => by
          rcases Nat.lt_or_ge j ops.size with h | h
          · simp [h]
          · simp [Array.getElem?_eq_none (show (Array.replicate ops.size false).size ≤ j by simpa using h)]
        have hw : (Code.region id ops true).wp E.P (fun e a w => match e with | .normal => Q .normal a w | _ => False) a w := by
          refine wp_region_any hE.mixed (wpAnyI_any (I := fun _ _ => True) _ _ _ _ ?_)
          refine dSchL_ok hE hl (fun _ _ _ h => h) hsel hcf (w0 := w0) ops.size ops.size _ (Array.replicate ops.size false) hs (fun j o _ h => by rw [hnone] at h; cases h) (by simp) (by simp) ⟨fun _ _ _ => rfl, fun j hj _ => by simp [hj], fun j hj _ => by simp [hj]⟩ (cnt_replicate _) hR.drew hF hu ?_ hk hn
          exact ⟨(fun i o _ h => by rw [hnone] at h; cases h), (fun h => by rw [hnone] at h; cases h)⟩
        refine wp_mono hw fun e a w he => ?_
        cases e <;> first | exact he | exact he.elim
end

end Go.Sy
end

section
/- A new variable in a region of any order: it is taken when all else is done. -/
namespace Go.Sy
open Go.RowKit

section
variable {P : Program} {L : (Nat → Nat) → SV → Prop} {M : Md}

structure AOK (P : Program) (N : Nat) (ops : Array Oper) (m : LA) : Prop where
  make : ∃ o, ops[m.ia]? = some o ∧ o.op = .alloc m.t ∧ o.dst = some m.da ∧ o.guard = none ∧ o.after = #[]
  zero : ∃ i z, P.info? m.t = some i ∧ i.zero = some z
  ok : laOK N ops m = true
theorem allocOf_ok {N : Nat} {ops : Array Oper} {m : LA} (h : allocOf P N ops = some m) : AOK P N ops m := by
  obtain ⟨i, _, h⟩ := List.exists_of_findSome?_eq_some h
  unfold laAt at h
  cases ho : ops[i]? with
  | none => rw [ho] at h; cases h
  | some o =>
    rw [ho] at h
    simp only [Option.bind_some] at h
    cases hm : allocAt o with
    | none => rw [hm] at h; cases h
    | some d =>
      rw [hm] at h
      simp only [Option.bind_some] at h
      cases hi : P.info? d.2 with
      | none => rw [hi] at h; cases h
      | some ti =>
        rw [hi] at h
        simp only [Option.bind_some] at h
        cases hz : ti.zero with
        | none => rw [hz] at h; cases h
        | some z =>
          rw [hz] at h
          simp only [Option.bind_some] at h
          split at h
          · rename_i hok
            cases h
            refine ⟨?_, ⟨ti, z, hi, hz⟩, hok⟩
            unfold allocAt at hm
            split at hm
            · rename_i e d' h1 h2 h3
              split at hm
              · rename_i he
                cases hm
                exact ⟨o, ho, h1, h2, h3, by simpa using he⟩
              · cases hm
            · cases hm
          · cases h
theorem AOK.parts {N : Nat} {ops : Array Oper} {m : LA} (h : AOK P N ops m) : m.da < N ∧ m.da < 511 ∧ ∀ j o, ops[j]? = some o → isCoreA ops m j = true → (∀ e ∈ o.after, Region.binds .any e = true → isCoreA ops m e.on = true) ∧ o.dst ≠ some m.da := by
  have := h.ok
  unfold laOK at this
  simp only [Bool.and_eq_true, decide_eq_true_eq, List.all_eq_true] at this
  obtain ⟨⟨h1, h2⟩, h5⟩ := this
  refine ⟨h1, h2, fun j o ho hj => ?_⟩
  have := h5 j (List.mem_range.2 (Array.getElem?_eq_some_iff.1 ho).1)
  rw [hj, ho] at this
  have this : besideA ops m o = true := by simpa using this
  unfold besideA at this
  simp only [Bool.and_eq_true, bne_iff_ne, ne_eq] at this
  obtain ⟨h3, h4⟩ := this
  refine ⟨fun e he hb => ?_, h4⟩
  have := Array.all_eq_true_iff_forall_mem.1 h3 e he
  simpa [hb] using this
theorem coreA_ne {ops : Array Oper} {m : LA} {j : Nat} (h : isCoreA ops m j = true) : j ≠ m.ia := by
  unfold isCoreA at h
  simp only [Bool.and_eq_true, bne_iff_ne, ne_eq] at h
  exact h.1
theorem coreA_tail {ops : Array Oper} {m : LA} {j : Nat} (h : isCoreA ops m j = true) : isTailA ops m j = false := by
  unfold isCoreA at h
  simp only [Bool.and_eq_true, Bool.not_eq_true'] at h
  exact h.2
theorem ia_tail {ops : Array Oper} {m : LA} : isTailA ops m m.ia = false := by unfold isTailA; simp
theorem coreA_or {ops : Array Oper} {m : LA} (j : Nat) : j = m.ia ∨ isTailA ops m j = true ∨ isCoreA ops m j = true := by
  by_cases e : j = m.ia
  · exact .inl e
  · cases h : isTailA ops m j
    · exact .inr (.inr (by unfold isCoreA; rw [h]; simp [e]))
    · exact .inr (.inl rfl)
theorem tailA_iff {ops : Array Oper} {m : LA} {j : Nat} {o : Oper} (ho : ops[j]? = some o) (h : isTailA ops m j = true) : edgeTo o m.ia = true := by
  unfold isTailA at h
  rw [ho] at h
  simp only [Bool.and_eq_true] at h
  exact h.2

/-- What holds of the variable. -/
structure AInv (P : Program) (m : LA) (la : Array Bool) (a : Act) (w0 w : World) (β : Nat → Option (Nat × Nat)) (st : St) : Prop where
  new : la.getD m.ia false = true → ∃ b i z, P.info? m.t = some i ∧ i.zero = some z ∧ a.tmps[m.da]? = some (.pointer (some ⟨b, 0, none⟩)) ∧ w0.heap.size ≤ b ∧ w.heap[b]? = some (.cells z.cells m.t (0, 0)) ∧ Unk st β b

theorem run_zero {t : TypeId} {i : TypeInfo} {z : Value} (hi : P.info? t = some i) (hz : i.zero = some z) (w : World) : (zeroValue t).run P w = .ok z w := by
  simp [zeroValue, run_typeInfo' hi, hz]
theorem lateStepA {N : Nat} {ops : Array Oper} {m : LA} (hl : AOK P N ops m) {Q : Exit → Act → World → Prop} {G : Act → World → Prop} {la : Array Bool}
    {σ w0 β} {st : St} {w : World} {F : F3} {a : Act} (hR : RepC M σ w0 β st w) (hF : RepFC st.pc.nv σ β N F a) (hu : (getF m.da F).1 = 19)
    (hG : ∀ a' w', RepC M σ w0 β st w' → RepFC st.pc.nv σ β N F a' → AInv P m (la.setIfInBounds m.ia true) a' w0 w' β st → G a' w') : wpOp P ops Q m.ia G a w := by
  obtain ⟨hp1, hp2, _⟩ := hl.parts
  have hR0 := hR.2 σ (Ag.refl _ _)
  obtain ⟨o, ho, hop, hdst, hg, haf⟩ := hl.make
  obtain ⟨ti, z, hi, hz⟩ := hl.zero
  refine wpOp_do ho (by simp [Region.wanted, hg]) ?_
  obtain ⟨dst, op, ty, pos, af, g⟩ := o
  dsimp only at hop hdst hg haf
  subst hop; subst hdst; subst hg; subst haf
  have hrun : (execOp a.eval ⟨some m.da, .alloc m.t, ty, pos, #[], none⟩).run P w = .ok (.value (.pointer (some ⟨w.heap.size, 0, none⟩))) { w with heap := w.heap.push (.cells z.cells m.t (0, 0)) } := by
    simp [execOp, Instr.alloc, run_zero hi hz, newVar, newRow]
  unfold Oper.wp
  rw [hrun]
  show G (a.put (some m.da) _) _
  refine hG _ _ ⟨hR.1, fun σ' ha => (hR.2 σ' ha).pushU _⟩ (fun σ' ha => (hF σ' ha).putU hp1 hp2 hu) ⟨fun _ => ?_⟩
  have hasz : m.da < a.tmps.size := by rw [(hF σ (Ag.refl _ _)).size]; exact hp1
  refine ⟨w.heap.size, ti, z, hi, hz, by simp [Act.put, hasz], hR0.kept.size, by simp, fun o he c h1 h2 => ?_⟩
  obtain ⟨b', c', y, k1, k2, _⟩ := hR0.heap o he h1
  rw [h2] at k1; cases k1
  have := (Array.getElem?_eq_some_iff.1 k2).1
  omega

theorem adoptA_ok {N : Nat} {ops : Array Oper} {m : LA} (hl : AOK P N ops m) {la : Array Bool} (him : la.getD m.ia false = true)
    {σ w0 β} {st : St} {w : World} {F : F3} {a : Act} {k : F3 → St → Ans} {next : Act → World → Prop} (hR : RepC M σ w0 β st w) (hF : RepFC st.pc.nv σ β N F a) (hI : AInv P m la a w0 w β st)
    (hs : (adoptA P m F st k).sat L σ) (hn : FollF L M N σ w0 β st.pc.nv k next) : next a w := by
  unfold adoptA at hs
  rcases zeroK_ok (bad := (.bad 254 : Ans)) (P := P) (t := m.t) (k := fun z => newK st z m.t fun n st' => (mkS m.da).s (.ptr n 0) F fun F => k F st') with he | ⟨z, he, zv, ⟨i, hi, hz⟩, _, hzd⟩
  · rw [he] at hs; exact hs.elim
  · rw [he, newK_eq, mkS_eq] at hs
    obtain ⟨hp1, hp2, _⟩ := hl.parts
    obtain ⟨b, i', z', hi', hz', g1, g2, g3, g4⟩ := hI.new him
    rw [hi] at hi'; cases hi'
    rw [hz] at hz'; cases hz'
    have hob : ∀ σ', Ag st.pc.nv σ σ' → ObjDen σ' β 0 (.cells z m.t) (.cells zv.cells m.t (0, 0)) := fun σ' _ => by
      have := ObjDen.cells (σ := σ') (β := β) (c := 0) (e := m.t) (hzd σ' β)
      simpa using this
    have hR0 := hR.2 σ (Ag.refl _ _)
    refine hn σ (bUpd β st.nn b 0) (st.new (.cells z m.t)) w (setF m.da (.ptr st.nn 0) F) a (Ag.refl _ _) (Nat.le_refl _) (bUpd_ext (hR0.fresh _ (Nat.le_refl _))) ⟨hR.1, fun σ' ha => (hR.2 σ' ha).adopt g2 g4 g3 (hob σ' ha)⟩ ?_ hs
    have hself : a.put (some m.da) (.pointer (some ⟨b, 0, none⟩)) = a := by
      unfold Act.put
      have : a.tmps.setIfInBounds m.da (.pointer (some ⟨b, 0, none⟩)) = a.tmps := by
        apply Array.ext_getElem?
        intro j
        have hasz : m.da < a.tmps.size := (Array.getElem?_eq_some_iff.1 g1).1
        rw [Array.getElem?_setIfInBounds]
        by_cases e : m.da = j
        · subst e; rw [if_pos rfl, if_pos hasz, g1]
        · rw [if_neg e]
      show ({ a with tmps := a.tmps.setIfInBounds m.da (.pointer (some ⟨b, 0, none⟩)) } : Act) = a
      rw [this]
    have := (hF.mono (bUpd_ext (hR0.fresh _ (Nat.le_refl _)))).put (s := .ptr st.nn 0) (v := .pointer (some ⟨b, 0, none⟩)) hp1 hp2 (fun σ' _ => .ptr (bUpd_self β st.nn b 0))
    rw [hself] at this
    exact this

structure RelA (ops : Array Oper) (m : LA) (lf la : Array Bool) : Prop where
  same : ∀ j, isCoreA ops m j = true → ∀ d, la.getD j d = lf.getD j d
  late : ∀ j, j < ops.size → isCoreA ops m j = false → lf.getD j true = false
  tail : ∀ j, j < ops.size → isTailA ops m j = true → la.getD j true = false
theorem RelA.both {ops : Array Oper} {m : LA} {lf la : Array Bool} (h : RelA ops m lf la) (hs : la.size = lf.size) {i : Nat} (hi : isCoreA ops m i = true) : RelA ops m (lf.setIfInBounds i true) (la.setIfInBounds i true) :=
  ⟨fun j hj d => getD_set_eq' hs (h.same j hj d), fun j hlt hj => by
    have : i ≠ j := fun e => by rw [e, hj] at hi; cases hi
    rw [getD_set_ne true this]; exact h.late j hlt hj, fun j hlt hj => by
    have : i ≠ j := fun e => by have := coreA_tail hi; rw [e, hj] at this; cases this
    rw [getD_set_ne true this]; exact h.tail j hlt hj⟩
theorem RelA.one {ops : Array Oper} {m : LA} {lf la : Array Bool} (h : RelA ops m lf la) : RelA ops m lf (la.setIfInBounds m.ia true) :=
  ⟨fun j hj d => by
    have : m.ia ≠ j := fun e => coreA_ne hj e.symm
    rw [getD_set_ne d this]; exact h.same j hj d, h.late, fun j hlt hj => by
    have : m.ia ≠ j := fun e => by rw [← e, ia_tail] at hj; cases hj
    rw [getD_set_ne true this]; exact h.tail j hlt hj⟩
theorem readyA_iff {N : Nat} {ops : Array Oper} {m : LA} (hl : AOK P N ops m) {lf la : Array Bool} (h : RelA ops m lf la) {j : Nat} (hj : isCoreA ops m j = true) : j ∈ Region.ready .any ops la ↔ j ∈ Region.ready .any ops lf := by
  rw [mem_ready, mem_ready, h.same j hj true]
  constructor
  · rintro ⟨h1, o, ho, hall⟩
    refine ⟨h1, o, ho, fun e he hb => ?_⟩
    rw [← h.same _ ((hl.parts.2.2 j o ho hj).1 e he hb) false]; exact hall e he hb
  · rintro ⟨h1, o, ho, hall⟩
    refine ⟨h1, o, ho, fun e he hb => ?_⟩
    rw [h.same _ ((hl.parts.2.2 j o ho hj).1 e he hb) false]; exact hall e he hb
theorem AInv.next {N : Nat} {ops : Array Oper} {m : LA} (hl : AOK P N ops m) {la : Array Bool} {a : Act} {w0 w : World} {β st} (hI : AInv P m la a w0 w β st) {j : Nat} {oj : Oper} (hoj : ops[j]? = some oj) (hjc : isCoreA ops m j = true)
    {a' : Act} {w' : World} {β' : Nat → Option (Nat × Nat)} {st' : St} (ht : ∃ v, a'.tmps = (a.put oj.dst v).tmps) (hk : ∀ b, w0.heap.size ≤ b → b < w.heap.size → Unk st β b → w'.heap[b]? = w.heap[b]? ∧ Unk st' β' b) : AInv P m (la.setIfInBounds j true) a' w0 w' β' st' := by
  obtain ⟨v, ht⟩ := ht
  refine ⟨fun him => ?_⟩
  rw [getD_set_ne false (coreA_ne hjc)] at him
  obtain ⟨b, i, z, hi, hz, h1, h2, h3, h4⟩ := hI.new him
  have hblt : b < w.heap.size := (Array.getElem?_eq_some_iff.1 h3).1
  obtain ⟨k1, k2⟩ := hk b h2 hblt h4
  have e2 := (hl.parts.2.2 j oj hoj hjc).2
  refine ⟨b, i, z, hi, hz, ?_, h2, by rw [k1]; exact h3, k2⟩
  rw [ht]
  cases hd : oj.dst with
  | none => exact h1
  | some d =>
    have hne : d ≠ m.da := fun e => e2 (by rw [hd, e])
    show (a.tmps.setIfInBounds d v)[m.da]? = _
    rw [Array.getElem?_setIfInBounds_ne hne]; exact h1

theorem sched_fuel {ops : Array Oper} : ∀ (a b : Nat) (la : Array Bool) (s : Sch), sched ops a la = some s → cnt la ≤ b → la.size = ops.size → sched ops b la = some s
  | 0, b, la, s, h, _, _ => by
    unfold sched at h
    split at h
    · rename_i he
      cases h
      have he : Region.ready .any ops la = [] := by simpa using he
      cases b with
      | zero => unfold sched; rw [he]; rfl
      | succ b => unfold sched; rw [he]
    · cases h
  | a + 1, b, la, s, h, hc, hs => by
    unfold sched at h
    cases hr : Region.ready .any ops la with
    | nil =>
      rw [hr] at h
      cases h
      cases b with
      | zero => unfold sched; rw [hr]; rfl
      | succ b => unfold sched; rw [hr]
    | cons x r =>
      rw [hr] at h
      dsimp only at h
      have lt : ∀ i ∈ x :: r, i < la.size ∧ la.getD i true = false := fun i hi => by
        rw [← hr] at hi
        obtain ⟨h0, o, ho, _⟩ := mem_ready.1 hi
        exact ⟨by rw [hs]; exact (Array.getElem?_eq_some_iff.1 ho).1, h0⟩
      have hpos := cnt_pos (lt x List.mem_cons_self).1 (lt x List.mem_cons_self).2
      cases b with
      | zero => omega
      | succ b =>
        have again : ∀ i ∈ x :: r, ∀ s', sched ops a (la.setIfInBounds i true) = some s' → sched ops b (la.setIfInBounds i true) = some s' := fun i hi s' hs' =>
          sched_fuel a b _ s' hs' (by have := cnt_set (lt i hi).1 (lt i hi).2; omega) (by simpa using hs)
        unfold sched
        rw [hr]
        dsimp only
        cases hf : (x :: r).find? (eagerOK ops la) with
        | some i =>
          rw [hf] at h
          dsimp only at h ⊢
          obtain ⟨s', h1, h2⟩ := Option.map_eq_some_iff.1 h
          rw [again i (List.mem_of_find?_eq_some hf) s' h1, ← h2]; rfl
        | none =>
          rw [hf] at h
          dsimp only at h ⊢
          cases r with
          | nil =>
            dsimp only at h ⊢
            obtain ⟨s', h1, h2⟩ := Option.map_eq_some_iff.1 h
            rw [again x List.mem_cons_self s' h1, ← h2]; rfl
          | cons y r =>
            cases r with
            | cons _ _ => cases h
            | nil =>
              dsimp only at h ⊢
              obtain ⟨s1, h1, h⟩ := Option.bind_eq_some_iff.1 h
              obtain ⟨s2, h2, h3⟩ := Option.map_eq_some_iff.1 h
              rw [again x List.mem_cons_self s1 h1, Option.bind_some, again y (by simp) s2 h2, ← h3]; rfl

theorem dSchA_ok {E : Env} (hE : EnvOk L E) {N : Nat} {ops : Array Oper} {m : LA} (hl : AOK E.P N ops m) {Q : Exit → Act → World → Prop} (hQ : ∀ c a w, ¬ Q (.panic c) a w) (hsel : noSel ops = true) {cf : CallF} (hcf : ∀ M, CallOk E.P L M cf) {w0 : World} :
    ∀ (n k0 : Nat) (lf la : Array Bool) {s : SchA} {σ β} {st : St} {w : World} {F : F3} {a : Act} {l : List SE} {cs : List CE} {k : F3 → St → Ans},
    schedA ops m k0 lf = some s → Closed .any ops la → la.size = ops.size → lf.size = ops.size → RelA ops m lf la → cnt la ≤ n → RepC M σ w0 β st w → RepFC st.pc.nv σ β N F a → (getF m.da F).1 = 19 → AInv E.P m la a w0 w β st →
    StabR st.pc.nv σ β l cs → (∀ e ∈ cs, ∀ j ∈ e.d, notEager ops j = true) →
    ((dSchA E N ops m s).run cf l F st k).sat L σ → FollF L M N σ w0 β st.pc.nv k (Q .normal) → wpAnyI E.P .any ops Q (CI E.P cs) n la a w := by
  intro n
  have hdm : m.da < 511 := hl.parts.2.1
  have fin : ∀ (n : Nat) (lf la : Array Bool) {t : Sch} {σ β} {st : St} {w : World} {F : F3} {a : Act} {l : List SE} {cs : List CE} {k : F3 → St → Ans}, (∀ j, j < ops.size → isCoreA ops m j = true → lf.getD j true = true) → la.getD m.ia false = true → sched ops ops.size (fullA ops m) = some t →
      Closed .any ops la → la.size = ops.size → lf.size = ops.size → RelA ops m lf la → cnt la ≤ n →
      RepC M σ w0 β st w → RepFC st.pc.nv σ β N F a → AInv E.P m la a w0 w β st → StabR st.pc.nv σ β l cs → (∀ e ∈ cs, ∀ j ∈ e.d, notEager ops j = true) → ((dSchA E N ops m (.adopt t)).run cf l F st k).sat L σ → FollF L M N σ w0 β st.pc.nv k (Q .normal) → wpAnyI E.P .any ops Q (CI E.P cs) n la a w := by
    intro n lf la t σ β st w F a l cs k hall him ht hcl hs1 hs2 hrel hc hR hF hI hst hne hk hn
    have hla : la = fullA ops m := by
      apply Array.ext (by rw [hs1]; simp [fullA])
      intro j hj1 hj2
      have hj : j < ops.size := by omega
      have hr : (fullA ops m)[j] = !isTailA ops m j := by simp [fullA]
      rw [hr]
      have hg : la.getD j true = la[j] := by simp [hj1]
      rcases coreA_or (ops := ops) (m := m) j with h | h | h
      · subst h
        have h1 := getD_ft him
        rw [hg] at h1; rw [h1, ia_tail]; rfl
      · have h1 := hrel.tail j hj h
        rw [hg] at h1; rw [h1, h]; rfl
      · have h1 := hall j hj h
        rw [← hrel.same j h true, hg] at h1; rw [h1, coreA_tail h]; rfl
    obtain ⟨_, hk⟩ := chk_ok hR hst (show (chk E.P l st (adoptA E.P m F st fun F st => chk E.P l st ((dSch E N ops t).run cf l F st fun _ F st => k F st))).sat L σ from hk)
    refine adoptA_ok (k := fun F st => chk E.P l st ((dSch E N ops t).run cf l F st fun _ F st => k F st)) (next := fun a w => wpAnyI E.P .any ops Q (CI E.P cs) n la a w) hl him hR hF hI hk ?_
    intro σ' β' st' w' F' a' g1 g2 g3 g4 g5 g6
    have hst' := (hst.mono g3).ag g2 g1
    obtain ⟨hca, g6⟩ := chk_ok g4 hst' g6
    exact dSch_ok hE hQ hsel hcf n la (sched_fuel _ n la t (by rw [hla]; exact ht) hc hs1) hcl g4 g5 hst' hca hne g6 (hn.weaken g1 g2 g3)
  have iaReady : ∀ (la : Array Bool), la.size = ops.size → Region.ready .any ops la = [] → la.getD m.ia false = true := by
    intro la hs1 hr
    obtain ⟨o, ho, _, _, _, haf⟩ := hl.make
    have hj := (Array.getElem?_eq_some_iff.1 ho).1
    cases hc : la.getD m.ia false
    · exfalso
      have : m.ia ∈ Region.ready .any ops la := by
        rw [mem_ready]
        refine ⟨?_, o, ho, fun e he => by rw [haf] at he; exact absurd he (by simp)⟩
        simp [hs1, hj] at hc ⊢; exact hc
      rw [hr] at this
      cases this
    · rfl
  induction n with
  | zero =>
    intro k0 lf la s σ β st w F a l cs k hs hcl hs1 hs2 hrel hc hR hF hu hI hst hne hk hn
    have alll : ∀ j, j < ops.size → la.getD j true = true := fun j hj => by
      cases h : la.getD j true
      · have := cnt_pos (by rw [hs1]; exact hj) h; omega
      · rfl
    have hal : ∀ j, j < ops.size → isCoreA ops m j = true → lf.getD j true = true := fun j hj hlj => by rw [← hrel.same j hlj true]; exact alll j hj
    have hsd : ∃ t, sched ops ops.size (fullA ops m) = some t ∧ s = .adopt t := by
      cases k0 with
      | zero => unfold schedA at hs; rw [if_pos (allL_iff.2 hal)] at hs; obtain ⟨t, h1, h2⟩ := Option.map_eq_some_iff.1 hs; exact ⟨t, h1, h2.symm⟩
      | succ k0 => unfold schedA at hs; rw [if_pos (allL_iff.2 hal)] at hs; obtain ⟨t, h1, h2⟩ := Option.map_eq_some_iff.1 hs; exact ⟨t, h1, h2.symm⟩
    obtain ⟨t, ht, rfl⟩ := hsd
    refine fin 0 lf la hal ?_ ht hcl hs1 hs2 hrel hc hR hF hI hst hne hk hn
    obtain ⟨o, ho, _⟩ := hl.make
    have hj := (Array.getElem?_eq_some_iff.1 ho).1
    have := alll m.ia hj
    simp [hs1, hj] at this ⊢; exact this
  | succ n ih =>
    intro k0 lf la s σ β st w F a l cs k hs hcl hs1 hs2 hrel hc hR hF hu hI hst hne hk hn
    have hchk : CA E.P cs w := by
      cases s with
      | adopt t => exact (chk_ok hR hst (show (chk E.P l st _).sat L σ from hk)).1
      | eager i d s => exact (chk_ok hR hst (show (chk E.P l st _).sat L σ from hk)).1
      | forced i s => exact (chk_ok hR hst (show (chk E.P l st _).sat L σ from hk)).1
    have lateI : m.ia ∈ Region.ready .any ops la → wpOp E.P ops Q m.ia (wpAnyI E.P .any ops Q (CI E.P cs) n (la.setIfInBounds m.ia true)) a w := by
      intro hi
      obtain ⟨h0, o, ho, _⟩ := mem_ready.1 hi
      have hlt : m.ia < la.size := by rw [hs1]; exact (Array.getElem?_eq_some_iff.1 ho).1
      have hcs := cnt_set hlt h0
      exact lateStepA hl hR hF hu fun a' w' h1 h2 h3 => ih k0 lf _ hs (hcl.set hi) (by simpa using hs1) hs2 hrel.one (by omega) h1 h2 hu h3 hst hne hk hn
    by_cases hal : allL (isCoreA ops m) ops.size lf = true
    · have hsd : ∃ t, sched ops ops.size (fullA ops m) = some t ∧ s = .adopt t := by
        cases k0 with
        | zero => unfold schedA at hs; rw [if_pos hal] at hs; obtain ⟨t, h1, h2⟩ := Option.map_eq_some_iff.1 hs; exact ⟨t, h1, h2.symm⟩
        | succ k0 => unfold schedA at hs; rw [if_pos hal] at hs; obtain ⟨t, h1, h2⟩ := Option.map_eq_some_iff.1 hs; exact ⟨t, h1, h2.symm⟩
      obtain ⟨t, ht, rfl⟩ := hsd
      have hal' := allL_iff.1 hal
      by_cases hall : la.getD m.ia false = true
      · exact fin (n + 1) lf la hal' hall ht hcl hs1 hs2 hrel hc hR hF hI hst hne hk hn
      · refine ⟨CI_of hchk, fun hr => absurd (iaReady la hs1 hr) hall, fun i hi => ?_⟩
        obtain ⟨h0, o, ho, hdep⟩ := mem_ready.1 hi
        rcases coreA_or (ops := ops) (m := m) i with h | h | h
        · subst h; exact lateI hi
        · exfalso
          obtain ⟨e, he, hb, heq⟩ := edgeTo_iff.1 (tailA_iff ho h)
          exact hall (by rw [← heq]; exact hdep e he hb)
        · exfalso
          rw [hrel.same i h true, hal' i (Array.getElem?_eq_some_iff.1 ho).1 h] at h0
          cases h0
    · cases k0 with
      | zero => unfold schedA at hs; rw [if_neg hal] at hs; cases hs
      | succ k0 =>
        have hs0 := hs
        unfold schedA at hs
        rw [if_neg hal] at hs
        cases hr : (Region.ready .any ops lf).filter (isCoreA ops m) with
        | nil => rw [hr] at hs; cases hs
        | cons x r =>
          rw [hr] at hs
          dsimp only at hs
          have mem : ∀ i, i ∈ x :: r → i ∈ Region.ready .any ops la ∧ isCoreA ops m i = true := fun i hi => by
            rw [← hr] at hi
            obtain ⟨h1, h2⟩ := List.mem_filter.1 hi
            exact ⟨(readyA_iff hl hrel h2).2 h1, h2⟩
          cases hf : (x :: r).find? (eagerOK ops lf) with
          | some i =>
            rw [hf] at hs
            dsimp only at hs
            cases hs' : schedA ops m k0 (lf.setIfInBounds i true) with
            | none => rw [hs'] at hs; cases hs
            | some s' =>
              rw [hs'] at hs
              cases hs
              obtain ⟨hi, hli⟩ := mem i (List.mem_of_find?_eq_some hf)
              have hok := List.find?_some hf
              unfold eagerOK at hok
              rw [Bool.and_eq_true] at hok
              obtain ⟨_, hk⟩ := chk_ok hR hst (show (chk E.P l st ((dEager E N ops i (dOf ops i)).run cf l F st fun l F st => unkAt m.da F ((dSchA E N ops m s').run cf l F st k))).sat L σ from hk)
              obtain ⟨o, h1, v, l', cs', F', st', h2, h3, h4, ⟨h5, h5'⟩, h6, h7, h9⟩ := dEager_ok hR hF hst hchk (k := fun l F st => unkAt m.da F ((dSchA E N ops m s').run cf l F st k)) hk
              obtain ⟨hu', h9⟩ := unkAt_sat hdm h9
              obtain ⟨hoe, hfr⟩ := hok
              rw [h1] at hoe
              obtain ⟨hd1, hd2⟩ := dOf_ok h1 hoe
              have hnecs : ∀ e' ∈ cs', ∀ j ∈ e'.d, notEager ops j = true := by
                rcases h4 with ⟨rfl, _⟩ | ⟨e, rfl, hed, _⟩
                · exact hne
                · intro e' he'
                  rcases List.mem_cons.1 he' with rfl | he'
                  · rw [hed]; exact hd2
                  · exact hne e' he'
              obtain ⟨h0, _⟩ := mem_ready.1 hi
              have hlt : i < la.size := by rw [hs1]; exact (Array.getElem?_eq_some_iff.1 h1).1
              have hcs := cnt_set hlt h0
              have hI' := hI.next hl h1 hli (a' := a.put o.dst v) (w' := w) (β' := β) (st' := st') ⟨v, rfl⟩ (fun b _ _ hub => ⟨rfl, fun o he c ho => hub o he c (by rw [← h5']; exact ho)⟩)
              have key := ih k0 _ (la.setIfInBounds i true) hs' (hcl.set hi) (by simpa using hs1) (by simpa using hs2) (hrel.both (hs1.trans hs2.symm) hli) (by omega) h6 (by rw [h5]; exact h7) hu' hI' (by rw [h5]; exact h2) hnecs h9 (by rw [h5]; exact hn)
              have hni : notEager ops i = false := by unfold notEager; rw [h1]; simp only [Bool.not_eq_false']; exact hoe
              have hsame : ∀ (cs0 : List CE), (∀ e ∈ cs0, ∀ j ∈ e.d, notEager ops j = true) → ∀ (l : Array Bool) w, l.getD i true = false → CI E.P cs0 (l.setIfInBounds i true) w → CI E.P cs0 l w := by
                intro cs0 hcs0 l w _ hI e he hreq
                refine hI e he fun j hj => ?_
                have hne : i ≠ j := fun e' => by have := hcs0 e he j hj; rw [← e', hni] at this; cases this
                rw [getD_set_ne false hne]; exact hreq j hj
              have hfree := fun j oj hoj hji (hun : la.getD j true = false) hno => freeAt_spec h1 hfr j oj hoj hji (by
                cases hlj : isCoreA ops m j
                · exact hrel.late j (Array.getElem?_eq_some_iff.1 hoj).1 hlj
                · rw [← hrel.same j hlj true]; exact hun) hno
              rcases h4 with ⟨rfl, hy⟩ | ⟨e, rfl, hed, hy⟩
              · exact wpAnyI_first (D := []) hQ h1 (noSel_spec hsel) (fun _ _ _ _ => trivial) (hsame _ hne) (fun _ h => by cases h) (fun h => by cases h) n la a w hcl hfree hi hy key
              · have hne' : ∀ e' ∈ e :: cs, ∀ j ∈ e'.d, notEager ops j = true := fun e' he' => by
                  rcases List.mem_cons.1 he' with rfl | he'
                  · rw [hed]; exact hd2
                  · exact hne e' he'
                refine wpAnyI_weaken (S := fun _ => True) (fun _ _ _ => trivial) (fun l w _ hI e' he' => hI e' (List.mem_cons_of_mem _ he')) _ _ _ _ trivial (wpAnyI_first (J := e.holds E.P) (D := dOf ops i) hQ h1 (noSel_spec hsel) (fun l w hj hI => hI e List.mem_cons_self (by rw [hed]; exact hj)) (hsame _ hne') hd1 (fun h => by have := hd2 i h; rw [hni] at this; cases this) n la a w hcl hfree hi hy key)
          | none =>
            rw [hf] at hs
            dsimp only at hs
            cases r with
            | cons _ _ => cases hs
            | nil =>
              dsimp only at hs
              by_cases hbl : waitA ops m lf = true
              · rw [if_pos hbl] at hs
                cases hs' : schedA ops m k0 (lf.setIfInBounds x true) with
                | none => rw [hs'] at hs; cases hs
                | some s' =>
                  rw [hs'] at hs
                  cases hs
                  obtain ⟨hx, hlx⟩ := mem x List.mem_cons_self
                  refine ⟨CI_of hchk, (fun e => by rw [e] at hx; cases hx), fun j hj => ?_⟩
                  rcases coreA_or (ops := ops) (m := m) j with hlj | hlj | hlj
                  · subst hlj; exact lateI hj
                  · exfalso
                    obtain ⟨h0, o, ho, hdep⟩ := mem_ready.1 hj
                    unfold waitA at hbl
                    have := List.all_eq_true.1 hbl j (List.mem_range.2 (Array.getElem?_eq_some_iff.1 ho).1)
                    rw [hlj, ho] at this
                    have this : (o.after.any fun e => Region.binds .any e && isCoreA ops m e.on && !lf.getD e.on false) = true := by simpa using this
                    rw [Array.any_eq_true'] at this
                    obtain ⟨e, he, hbe⟩ := this
                    simp only [Bool.and_eq_true, Bool.not_eq_true'] at hbe
                    obtain ⟨⟨hb1, hb2⟩, hb3⟩ := hbe
                    have h2 := hdep e he hb1
                    rw [hrel.same _ hb2 false, hb3] at h2
                    cases h2
                  · have hjx : j = x := by
                      have : j ∈ (Region.ready .any ops lf).filter (isCoreA ops m) := List.mem_filter.2 ⟨(readyA_iff hl hrel hlj).1 hj, hlj⟩
                      rw [hr] at this
                      simpa using this
                    subst hjx
                    obtain ⟨h0, o, ho, _⟩ := mem_ready.1 hj
                    have hlt : j < la.size := by rw [hs1]; exact (Array.getElem?_eq_some_iff.1 ho).1
                    have hcs := cnt_set hlt h0
                    have hR0 := hR.2 σ (Ag.refl _ _)
                    have hRf : RepC (own M st β) σ w β st w := ⟨hR.1, fun σ' ha => (hR.2 σ' ha).frame⟩
                    obtain ⟨_, hk⟩ := chk_ok hR hst (show (chk E.P l st (stillK j l fun l => (sStep E N ops j).run cf F st fun F st => unkAt m.da F ((dSchA E N ops m s').run cf l F st k))).sat L σ from hk)
                    rw [stillK_eq] at hk
                    obtain ⟨cs', hl', hsub, hor⟩ := still_ok j hst
                    have hself : (la.setIfInBounds j true).getD j false = true := by simp [hlt]
                    have hstep := sStep_ok (M := own M st β) hE (Q := Q) (i := j) cf hcf σ w β st w F a (fun F st => unkAt m.da F ((dSchA E N ops m s').run cf (stillR j l) F st k))
                      (fun a' w' => (∃ v, a'.tmps = (a.put o.dst v).tmps) → wpAnyI E.P .any ops Q (CI E.P cs) n (la.setIfInBounds j true) a' w') hRf hF hk (by
                        intro σ' β' st' w' F' a' g1 g2 g3 g4 g5 g6 hv
                        obtain ⟨hu', g6⟩ := unkAt_sat hdm g6
                        have g4' : RepC M σ' w0 β' st' w' := ⟨g4.1, fun σ'' ha => hR0.unframe (g4.2 σ'' ha)⟩
                        have hI' := hI.next hl ho hlx (a' := a') (w' := w') (β' := β') (st' := st') hv (fun b hb hlt hub => frame_keeps hR0 (g4.2 σ' (Ag.refl _ _)) hb hlt hub)
                        have key := ih k0 _ (la.setIfInBounds j true) hs' (hcl.set hj) (by simpa using hs1) (by simpa using hs2) (hrel.both (hs1.trans hs2.symm) hlx) (by omega) g4' g5 hu' hI' ((hl'.mono g3).ag g2 g1) (fun e he => hne e (hsub e he)) g6 (hn.weaken g1 g2 g3)
                        refine wpAnyI_weaken (S := fun l => l.getD j false = true) (fun l j hl => getD_set_true hl) (fun l w hS hI e he hreq => ?_) _ _ _ _ hself key
                        rcases hor e he with he' | he'
                        · exact hI e he' hreq
                        · have := hreq j he'
                          rw [hS] at this
                          cases this)
                    exact wpOp_mono (fun a' w' h => h.1 h.2) (wpOp_tmps hQ ho hstep)
              · rw [if_neg hbl] at hs; cases hs

theorem sDrawA_ok {E : Env} (hE : EnvOk L E) {N : Nat} {ops : Array Oper} {id : Nat} {Q : Exit → Act → World → Prop} {r : RS} (hr : sDrawA E N ops = some r) (cf : CallF) (hcf : ∀ M, CallOk E.P L M cf) {σ w0 β} {st : St} {w : World} {F : F3} {a : Act} {k : F3 → St → Ans}
    (hR : RepC M σ w0 β st w) (hF : RepFC st.pc.nv σ β N F a) (hk : (r.run cf F st k).sat L σ) (hn : FollF L M N σ w0 β st.pc.nv k (Q .normal)) : (Code.region id ops true).wp E.P Q a w := by
  unfold sDrawA at hr
  cases hsel : noSel ops
  · rw [hsel] at hr; cases hr
  · rw [hsel] at hr
    change Option.rec none (fun m => Option.rec none (fun s => some (⟨fun cf F st k => (mkS m.da).s .unk F fun F => (dSchA E N ops m s).run cf [] F st k⟩ : RS)) (schedA ops m ops.size (Array.replicate ops.size false))) (allocOf E.P N ops) = some r at hr
    cases hlm : allocOf E.P N ops with
    | none => rw [hlm] at hr; cases hr
    | some m =>
      rw [hlm] at hr
      have hl := allocOf_ok hlm
      change Option.rec none (fun s => some (⟨fun cf F st k => (mkS m.da).s .unk F fun F => (dSchA E N ops m s).run cf [] F st k⟩ : RS)) (schedA ops m ops.size (Array.replicate ops.size false)) = some r at hr
      cases hs : schedA ops m ops.size (Array.replicate ops.size false) with
      | none => rw [hs] at hr; cases hr
      | some s =>
        rw [hs] at hr
        cases hr
        have hk : ((mkS m.da).s .unk F fun F => (dSchA E N ops m s).run cf [] F st k).sat L σ := hk
        rw [mkS_eq] at hk
        have hF' : RepFC st.pc.nv σ β N (setF m.da .unk F) a := fun σ' ha => (hF σ' ha).drop hl.parts.2.1
        have hu : (getF m.da (setF m.da .unk F)).1 = 19 := by rw [getF_eq]
        have hnone : ∀ j, (Array.replicate ops.size false).getD j false = false := fun j => by
          rcases Nat.lt_or_ge j ops.size with h | h
          · simp [h]
          · simp [Array.getElem?_eq_none (show (Array.replicate ops.size false).size ≤ j by simpa using h)]
        have hw : (Code.region id ops true).wp E.P (fun e a w => match e with | .normal => Q .normal a w | _ => False) a w := by
          refine wp_region_any hE.mixed (wpAnyI_any (I := CI E.P []) _ _ _ _ ?_)
          refine dSchA_ok hE hl (fun _ _ _ h => h) hsel hcf (w0 := w0) ops.size ops.size _ (Array.replicate ops.size false) hs (fun j o _ h => by rw [hnone] at h; cases h) (by simp) (by simp) ⟨fun _ _ _ => rfl, fun j hj _ => by simp [hj], fun j hj _ => by simp [hj]⟩ (cnt_replicate _) hR.drew hF' hu ?_ .nil (fun e he => by cases he) hk hn
          exact ⟨fun h => by rw [hnone] at h; cases h⟩
        refine wp_mono hw fun e a w he => ?_
        cases e <;> first | exact he | exact he.elim
end
end Go.Sy
end

section
/- The symbolic run says what the program does: code and calls. -/
namespace Go.Sy
open Go.RowKit

section
variable {P : Program} {L : (Nat → Nat) → SV → Prop} {M : Md}

/-! ### Code -/
def Ex.to : Ex → Exit
  | .nrm => .normal
  | .ext id => .exit id
  | .ret => .ret
def FollX (L : (Nat → Nat) → SV → Prop) (M : Md) (N : Nat) (σ : Nat → Nat) (w0 : World) (β : Nat → Option (Nat × Nat)) (nv : Nat) (k : KC) (Q : Exit → Act → World → Prop) : Prop :=
  ∀ e, FollF L M N σ w0 β nv (k e) (Q e.to)
theorem FollX.weaken {N σ σ' w0 β β' nv nv' k Q} (h : FollX L M N σ w0 β nv k Q) (ha : Ag nv σ σ') (hle : nv ≤ nv') (he : Ext β β') : FollX L M N σ' w0 β' nv' k Q := fun e => (h e).weaken ha hle he
/-- A run of code that is to be trusted. -/
def HCok (L : (Nat → Nat) → SV → Prop) (M : Md) (P : Program) (N : Nat) (c : Code) (h : HC) : Prop :=
  ∀ cf, (∀ M, CallOk P L M cf) → ∀ σ w0 β st w F a k (Q : Exit → Act → World → Prop), RepC M σ w0 β st w → RepFC st.pc.nv σ β N F a → (h.run cf F st k).sat L σ → FollX L M N σ w0 β st.pc.nv k Q → c.wp P Q a w
theorem cbad_ok {N c n} : HCok L M P N c (cbad n) := fun _ _ _ _ _ _ _ _ _ _ _ _ _ h _ => h.elim

theorem rounds_ok {N : Nat} {body : Code} {h : HC} (hh : HCok L M P N body h) : ∀ (n : Nat) cf, (∀ M, CallOk P L M cf) → ∀ σ w0 β st w F a k (Q : Exit → Act → World → Prop), RepC M σ w0 β st w → RepFC st.pc.nv σ β N F a → (rounds h n cf F st k).sat L σ → FollX L M N σ w0 β st.pc.nv k Q → Code.rounds P body Q n a w
  | 0, _, _, _, _, _, _, _, _, _, _, _, _, _, hk, _ => hk.elim
  | n + 1, cf, hcf, σ, w0, β, st, w, F, a, k, Q, hR, hF, hk, hn => by
    rw [rounds_succ]
    refine hh cf hcf σ w0 β st w F a _ _ hR hF hk ?_
    intro e σ' β' st' w' F' a' h1 h2 h3 h4 h5 h6
    cases e with
    | nrm => exact rounds_ok hh n cf hcf σ' w0 β' st' w' F' a' k Q h4 h5 h6 (hn.weaken h1 h2 h3)
    | ext id => exact hn (.ext id) σ' β' st' w' F' a' h1 h2 h3 h4 h5 h6
    | ret => exact hn .ret σ' β' st' w' F' a' h1 h2 h3 h4 h5 h6

theorem bc4 {a b c d : Bool} (h : bc a (bc b (bc c d false) false) false = true) : a = true ∧ b = true ∧ c = true ∧ d = true := by
  obtain ⟨h1, h⟩ := bc_tf h
  obtain ⟨h2, h⟩ := bc_tf h
  obtain ⟨h3, h4⟩ := bc_tf h
  exact ⟨h1, h2, h3, h4⟩
/-- What a template knows has a name. -/
def KeyOk (T : LT) (nn : Nat) : Prop := ∀ o he, T.hp.get o = some he → o < nn + T.kn
/-- A state at the loop's head says what the template says. -/
theorem head_ok {T : LT} {nv nn : Nat} {σ : Nat → Nat} {w0 : World} {β : Nat → Option (Nat × Nat)} {pc : PC} (hpc : (pcL pc nv).okC σ) (hfr : ∀ o, nn ≤ o → β o = none) (hgl : ∀ g, g < 64 → β g = some (g, 0)) (hkey : KeyOk T nn)
    (hm : Nat.add nv T.m ≤ 4294967296) (hfs : allBelow (Nat.add nv T.m) T.fs = true)
    {σ1 : Nat → Nat} {β1 : Nat → Option (Nat × Nat)} {st1 : St} {w1 : World} {N : Nat} {F1 : F3} {a1 : Act} (ha : Ag nv σ σ1) (he : Ext β β1) (hR : RepC M σ1 w0 β1 st1 w1) (hF : RepFC st1.pc.nv σ1 β1 N F1 a1)
    {sub : List Tm} {ρ : List Nat} (hh : headB T nv nn F1 st1 sub ρ = true) :
    ∃ σ2 β2, Ag nv σ σ2 ∧ Ext β β2 ∧ RepC M σ2 w0 β2 ⟨T.hp, Nat.add nn T.kn, pcF (pcL pc (Nat.add nv T.m)) T.fs⟩ w1 ∧ RepFC (Nat.add nv T.m) σ2 β2 N T.F a1 ∧ (∀ j y, sub[j]? = some y → σ2 (nv + j) = y.ev σ1) ∧ Mt nv nn ρ sub σ1 β1 σ2 β2 := by
  obtain ⟨h1, h2, h3, h4⟩ := bc4 hh
  obtain ⟨h1, h1'⟩ := bc_tf h1
  obtain ⟨hrho, h4⟩ := bc_tf h4
  have hlen : sub.length = T.m := by rw [← lenR_eq]; exact of_nbeq h1
  have hlen' : ρ.length = T.kn := by rw [← lenR_eq]; exact of_nbeq h1'
  obtain ⟨hnd, hnone⟩ := rhoOk_ok hrho
  have hm' : nv + T.m ≤ 4294967296 := hm
  let σ2 : Nat → Nat := fun i => if nv ≤ i ∧ i < nv + T.m then (sub.getD (i - nv) (.lit 0)).ev σ1 else σ1 i
  let β2 : Nat → Option (Nat × Nat) := fun o => if o < nn then β1 o else if o < nn + ρ.length then β1 (ρ.getD (o - nn) 0) else none
  have hold : ∀ i, i < nv → σ2 i = σ1 i := fun i hi => by
    show (if nv ≤ i ∧ i < nv + T.m then _ else σ1 i) = _
    rw [if_neg (by omega)]
  have happ : ∀ f x, σ2 (appAt f x) = σ1 (appAt f x) := fun f x => by
    show (if nv ≤ appAt f x ∧ appAt f x < nv + T.m then _ else σ1 (appAt f x)) = _
    have : 2 ^ 40 ≤ appAt f x := Nat.le_add_right _ _
    rw [if_neg (by omega)]
  have hnew : ∀ j y, sub[j]? = some y → σ2 (nv + j) = y.ev σ1 := fun j y hy => by
    have hj : j < sub.length := by
      rcases Nat.lt_or_ge j sub.length with hh | hh
      · exact hh
      · rw [List.getElem?_eq_none hh] at hy; cases hy
    show (if nv ≤ nv + j ∧ nv + j < nv + T.m then (sub.getD (nv + j - nv) (.lit 0)).ev σ1 else σ1 (nv + j)) = _
    rw [if_pos (by omega), show nv + j - nv = j by omega, List.getD_eq_getElem?_getD, hy]; rfl
  have hag : Ag nv σ σ2 := ⟨fun i hi => (hold i hi).trans (ha.1 i hi), fun f x hf => (happ f x).trans (ha.2 f x hf)⟩
  have hβlo : ∀ o, o < nn → β2 o = β1 o := fun o ho => by
    show (if o < nn then β1 o else _) = _
    rw [if_pos ho]
  have hβhi : ∀ o, ¬ o < nn → o < nn + ρ.length → β2 o = β1 (ρ.getD (o - nn) 0) := fun o ho ho' => by
    show (if o < nn then β1 o else if o < nn + ρ.length then β1 (ρ.getD (o - nn) 0) else none) = _
    rw [if_neg ho, if_pos ho']
  have hext : Ext β β2 := fun o b hb => by
    have hlt : o < nn := by
      rcases Nat.lt_or_ge o nn with hh | hh
      · exact hh
      · rw [hfr o hh] at hb; cases hb
    rw [hβlo o hlt]; exact he o b hb
  have mt : ∀ σ3, Ag (nv + T.m) σ2 σ3 → Mt nv nn ρ sub σ1 β1 σ3 β2 := fun σ3 h3 => by
    refine ⟨fun i hi => (h3.1 i (by omega)).trans (hold i hi), fun f x hf => (h3.2 f x (.inr hf)).trans (happ f x), fun j y hy => ?_, fun o o' ho b hb => ?_⟩
    · have hj : j < sub.length := by
        rcases Nat.lt_or_ge j sub.length with hh | hh
        · exact hh
        · rw [List.getElem?_eq_none hh] at hy; cases hy
      exact (h3.1 (nv + j) (by omega)).trans (hnew j y hy)
    · unfold nmR at ho
      by_cases hlt : o < nn
      · rw [nblt_t hlt] at ho; cases ho
        rw [hβlo o hlt]; exact hb
      · rw [nblt_f hlt] at ho
        change nthR ρ (o - nn) = some o' at ho
        rw [nthR_eq] at ho
        have hj : o - nn < ρ.length := (List.getElem?_eq_some_iff.1 ho).1
        rw [hβhi o hlt (by omega), List.getD_eq_getElem?_getD, ho]; exact hb
  have hpc1 := hR.1.ok
  have hfacts := factsB_ok (mt σ2 (Ag.refl _ _)) hpc1 h4
  have hpc0 : (pcL pc (Nat.add nv T.m)).okC σ2 := fun σ' h' => hpc σ' (hag.trans (h'.mono (show nv ≤ nv + T.m by omega)))
  have hR1 := hR.2 σ1 (Ag.refl _ _)
  -- what the template knows, there
  have there : ∀ o he, T.hp.get o = some he → ∃ o' he', ((o < nn ∧ o' = o) ∨ (¬ o < nn ∧ ρ[o - nn]? = some o')) ∧ st1.hp.get o' = some he' ∧ matHE nv (matS st1.pc nv nn ρ sub 8) he he' = true ∧ β2 o = β1 o' := fun o he hg => by
    obtain ⟨he', g1, g2⟩ := matTr_get h3 hg
    rw [viewR_get] at g1
    have hk := hkey o he hg
    by_cases hlt : o < nn
    · rw [if_neg (by omega)] at g1
      exact ⟨o, he', .inl ⟨hlt, rfl⟩, g1, g2, hβlo o hlt⟩
    · rw [if_pos (by omega)] at g1
      have hj : o - nn < ρ.length := by omega
      have e : ρ[o - nn]? = some (ρ.getD (o - nn) 0) := by rw [List.getD_eq_getElem?_getD, List.getElem?_eq_getElem hj]; rfl
      exact ⟨_, he', .inr ⟨hlt, e⟩, g1, g2, hβhi o hlt (by omega)⟩
  refine ⟨σ2, β2, hag, hext, ⟨pcF_ok hpc0 hfs hfacts, fun σ3 h3' => ?_⟩, fun σ3 h3' => ?_, hnew, mt σ2 (Ag.refl _ _)⟩
  · have h3' : Ag (nv + T.m) σ2 σ3 := by
      have e : (pcF (pcL pc (Nat.add nv T.m)) T.fs).nv = nv + T.m := pcF_nv _ _
      rw [← e]; exact h3'
    have hmt := mt σ3 h3'
    refine ⟨hR1.kept, hR1.rdlt, fun o ho => ?_, fun o he0 hg => ?_, fun o o' he1 he2 b c c' g1 g2 hro b1 b2 => ?_, fun g hg => hext _ _ (hgl g hg)⟩
    · have ho : nn + T.kn ≤ o := ho
      show (if o < nn then β1 o else if o < nn + ρ.length then β1 (ρ.getD (o - nn) 0) else none) = none
      rw [if_neg (by omega), if_neg (by omega)]
    · obtain ⟨o', he', _, g1, g2, g3⟩ := there o he0 hg
      obtain ⟨e1, e2⟩ := matHE_ok g2
      obtain ⟨b, c, x, k1, k2, k3, k4, k5⟩ := hR1.heap o' he' g1
      exact ⟨b, c, x, g3.trans k1, k2, matOb_den hmt.old hmt.fix (fun h hd => matS_den hpc1 hmt 8 h hd) e2 k3, fun h => k4 (e1 ▸ h), fun h => k5 (e1 ▸ h)⟩
    · obtain ⟨p1, he1', w1', j1, m1, q1⟩ := there o he1 g1
      obtain ⟨p2, he2', w2', j2, m2, q2⟩ := there o' he2 g2
      have e := hR1.inj p1 p2 he1' he2' b c c' j1 j2 (by rw [← (matHE_ok m1).1, ← (matHE_ok m2).1]; exact hro) (q1 ▸ b1) (q2 ▸ b2)
      subst e
      rcases w1' with ⟨l1, e1⟩ | ⟨l1, e1⟩
      · rcases w2' with ⟨l2, e2⟩ | ⟨l2, e2⟩
        · exact e1.symm.trans e2
        · exfalso
          subst e1
          have := hnone p1 (List.mem_of_getElem? e2) l1
          rw [this] at g1; cases g1
      · rcases w2' with ⟨l2, e2⟩ | ⟨l2, e2⟩
        · exfalso
          subst e2
          have := hnone p1 (List.mem_of_getElem? e1) l2
          rw [this] at g2; cases g2
        · have a1 := (List.getElem?_eq_some_iff.1 e1)
          have a2 := (List.getElem?_eq_some_iff.1 e2)
          obtain ⟨u1, v1⟩ := a1
          obtain ⟨u2, v2⟩ := a2
          have := (List.getElem_inj hnd).1 (v1.trans v2.symm)
          omega
  · exact matF_rep hpc1 (mt σ3 h3') h2 (fun g hg => hext _ _ (hgl g hg)) (hF σ1 (Ag.refl _ _))

theorem meas_ok {T : LT} {nv nn : Nat} {ρ : List Nat} {pc : PC} {sub : List Tm} {σ1 σ2 : Nat → Nat} {β1 β2 : Nat → Option (Nat × Nat)} (hp : pc.ok σ1) (hok : muOk T nv = true) (hc : cntB T nv pc sub = true) (hm : Mt nv nn ρ sub σ1 β1 σ2 β2) :
    T.meas nv σ2 < T.meas nv σ1 := by
  unfold LT.meas
  unfold cntB at hc
  unfold muOk at hok
  cases hmu : T.mu with
  | none =>
    rw [hmu] at hc hok
    obtain ⟨_, hB⟩ := bc_tf hok
    have hB : T.B < 9223372036854775808 := of_nblt hB
    obtain ⟨h1, h2⟩ := bc_tf hc
    have e := hm.new _ _ (subIs_ok h1)
    have hr := (rng_ok hp.2.2.1 (.var (Nat.add nv T.jc) 64)).2
    have h2 := of_nblt h2
    change σ1 (nv + T.jc) % 2 ^ 64 ≤ _ at hr
    have hlt : σ1 (nv + T.jc) % 2 ^ 64 < T.B := Nat.lt_of_le_of_lt hr h2
    have e2 : σ2 (nv + T.jc) % 2 ^ 64 = σ1 (nv + T.jc) % 2 ^ 64 + 1 := by
      rw [e]
      show (σ1 (nv + T.jc) % 2 ^ 64 + 1) % 2 ^ 64 % 2 ^ 64 = _
      rw [Nat.mod_mod, Nat.mod_eq_of_lt (by omega)]
    show T.B - σ2 (nv + T.jc) % 2 ^ 64 < T.B - σ1 (nv + T.jc) % 2 ^ 64
    omega
  | some mu =>
    rw [hmu] at hc
    change (Option.rec false (fun m' => bc (Nat.beq (decT pc (.bin .ult 64 m' mu)) 1) true (ltSum pc m' mu)) (substT nv sub mu) : Bool) = true at hc
    cases hs : substT nv sub mu with
    | none => rw [hs] at hc; cases hc
    | some m' =>
      rw [hs] at hc
      change bc (Nat.beq (decT pc (.bin .ult 64 m' mu)) 1) true (ltSum pc m' mu) = true at hc
      show mu.ev σ2 < mu.ev σ1
      rw [← substT_ev hm hs]
      cases hb : Nat.beq (decT pc (.bin .ult 64 m' mu)) 1
      · rw [hb] at hc; exact ltSum_ok hp hc
      · have := (decT_ok hp (t := .bin .ult 64 m' mu)).1 (of_nbeq hb)
        change b2n (Nat.blt (m'.ev σ1) (mu.ev σ1)) ≠ 0 at this
        rcases Nat.lt_or_ge (m'.ev σ1) (mu.ev σ1) with hh | hh
        · exact hh
        · rw [nblt_f (Nat.not_lt.2 hh)] at this; exact absurd rfl this
theorem meas_ag {T : LT} {nv : Nat} {σ1 σ2 : Nat → Nat} (hok : muOk T nv = true) (ha : Ag (nv + T.m) σ1 σ2) : T.meas nv σ2 = T.meas nv σ1 := by
  unfold LT.meas
  unfold muOk at hok
  cases hmu : T.mu with
  | none =>
    rw [hmu] at hok
    obtain ⟨h1, _⟩ := bc_tf hok
    have h1 : T.jc < T.m := of_nblt h1
    show T.B - σ2 (nv + T.jc) % 2 ^ 64 = T.B - σ1 (nv + T.jc) % 2 ^ 64
    rw [ha.1 (nv + T.jc) (by omega)]
  | some mu =>
    rw [hmu] at hok
    obtain ⟨h1, _⟩ := bc_tf hok
    exact belowT_ok ha.1 ha.fx h1
/-- More rounds than any loop of ours has. -/
def manyR : Nat := 18446744073709551617
theorem meas_lt {T : LT} {nv : Nat} (hok : muOk T nv = true) (σ : Nat → Nat) : T.meas nv σ + 1 < manyR := by
  unfold LT.meas
  unfold muOk at hok
  cases hmu : T.mu with
  | none =>
    rw [hmu] at hok
    obtain ⟨_, hB⟩ := bc_tf hok
    have hB : T.B < 9223372036854775808 := of_nblt hB
    show T.B - _ + 1 < 18446744073709551617
    omega
  | some mu =>
    rw [hmu] at hok
    obtain ⟨_, h1⟩ := bc_tf hok
    have h1 := of_nblt h1
    have h2 := (rng_ok (σ := σ) (l := []) (by intro b hb; cases hb) mu).2
    show mu.ev σ + 1 < 18446744073709551617
    omega
theorem rounds_mono {P : Program} {c : Code} {Q : Exit → Act → World → Prop} : ∀ {n m : Nat}, n ≤ m → ∀ {a w}, Code.rounds P c Q n a w → Code.rounds P c Q m a w
  | 0, _, _, _, _, h => h.elim
  | n + 1, 0, h, _, _, _ => by omega
  | n + 1, m + 1, h, a, w, hr => by
    rw [rounds_succ] at hr ⊢
    refine wp_mono hr fun e a w he => ?_
    cases e with
    | normal => exact rounds_mono (Nat.le_of_succ_le_succ h) he
    | _ => exact he

theorem key_ok {T : LT} {σ : Nat → Nat} {w0 : World} {β : Nat → Option (Nat × Nat)} {st : St} {w : World} (hR : RepC M σ w0 β st w) {ρ : List Nat} (hl : Nat.beq (lenR ρ) T.kn = true) (hp : presTr T.hp (viewR st.hp ρ st.nn st.hp) = true) : KeyOk T st.nn := fun o he hg => by
  obtain ⟨he', g1⟩ := presTr_get hp hg
  rw [viewR_get] at g1
  have hl : ρ.length = T.kn := by rw [← lenR_eq]; exact of_nbeq hl
  by_cases h : st.nn ≤ o ∧ o < st.nn + ρ.length
  · omega
  · rw [if_neg h] at g1
    obtain ⟨b, c, x, k1, _⟩ := (hR.2 σ (Ag.refl _ _)).heap o he' g1
    rcases Nat.lt_or_ge o st.nn with hh | hh
    · omega
    · rw [(hR.2 σ (Ag.refl _ _)).fresh o hh] at k1; cases k1

/-- A run of a loop that says so in rounds. -/
def LRok (L : (Nat → Nat) → SV → Prop) (M : Md) (P : Program) (N : Nat) (c : Code) (n : Nat) (h : HC) : Prop :=
  ∀ cf, (∀ M, CallOk P L M cf) → ∀ σ w0 β st w F a k (Q : Exit → Act → World → Prop), RepC M σ w0 β st w → RepFC st.pc.nv σ β N F a → (h.run cf F st k).sat L σ → FollX L M N σ w0 β st.pc.nv k Q → Code.rounds P c Q n a w
theorem loopI_ok {N : Nat} {body : Code} {mk : F3 → St → Option LT} {wh : F3 → PC → Bool} {li h : HC} {m : Nat} (hli : LRok L M P N body m li) (hh : HCok L M P N body h) : LRok L M P N body (manyR + m) (loopI mk wh li h) := by
  intro cf hcf σ w0 β st w F a k Q hR hF hs hn
  obtain ⟨T, hT, hs⟩ := oa_sat hs
  rw [forceN_eq, forceN_eq] at hs
  obtain ⟨sub, hsub, hs⟩ := oa_sat hs
  obtain ⟨ρ, hρ, hs⟩ := oa_sat hs
  obtain ⟨hhead, hs⟩ := headW_sat hR.1.ok hs
  obtain ⟨hc, hs⟩ := wa_sat hs
  obtain ⟨c1, csp, c3, c4⟩ := bc4 hc
  obtain ⟨c4, cpre⟩ := bc_tf c4
  have c3 := of_nble c3
  have hsat : ∀ σ', Ag st.pc.nv σ σ' → (pcF (pcL st.pc (Nat.add st.pc.nv T.m)) T.fs).okC σ' → ∃ pc', pc'.okC σ' ∧ pc'.nv = (pcF (pcL st.pc (Nat.add st.pc.nv T.m)) T.fs).nv ∧ (h.run cf T.F ⟨T.hp, Nat.add st.nn T.kn, pc'⟩ fun e F1 st1 => Ex.rec (bc (wh F1 st1.pc) (li.run cf F1 st1 k) (backK T st.pc.nv st.nn F1 st1)) (fun id => k (.ext id) F1 st1) (k .ret F1 st1) e).sat L σ' := fun σ' ha hok => by
    have := hs σ' ha
    rw [forceN_eq, forcePC_eq] at this
    have hnv : (pcF (pcL st.pc (Nat.add st.pc.nv T.m)) T.fs).nv = Nat.add st.pc.nv T.m := pcF_nv _ _
    exact splitK_ok hok (hnv.symm ▸ csp) this
  have hpc : (pcL st.pc st.pc.nv).okC σ := hR.1
  have hfr := (hR.2 σ (Ag.refl _ _)).fresh
  have hkey : KeyOk T st.nn := key_ok hR (bc_tf (bc4 hhead).1).2 cpre
  -- what stays
  have key : ∀ n w a, (∃ σ2 β2, Ag st.pc.nv σ σ2 ∧ Ext β β2 ∧ RepC M σ2 w0 β2 ⟨T.hp, Nat.add st.nn T.kn, pcF (pcL st.pc (Nat.add st.pc.nv T.m)) T.fs⟩ w ∧ RepFC (Nat.add st.pc.nv T.m) σ2 β2 N T.F a ∧ T.meas st.pc.nv σ2 ≤ n) →
      Code.rounds P body Q (n + m + 1) a w := by
    intro n
    induction n with
    | zero =>
      rintro w a ⟨σ2, β2, g1, g2, g3, g4, g5⟩
      rw [rounds_succ]
      obtain ⟨pc', hpc', hnv', hsat'⟩ := hsat σ2 g1 g3.1
      have hnv : pc'.nv = Nat.add st.pc.nv T.m := hnv'.trans (pcF_nv _ _)
      refine hh cf hcf σ2 w0 β2 _ w T.F a _ _ (g3.assume hpc' hnv') (by show RepFC pc'.nv σ2 β2 N T.F a; rw [hnv]; exact g4) hsat' ?_
      intro e σ' β' st' w' F' a' h1 h2 h3 h4 h5 h6
      change Ag pc'.nv σ2 σ' at h1
      change pc'.nv ≤ st'.pc.nv at h2
      rw [hnv] at h1 h2
      have hle : st.pc.nv ≤ Nat.add st.pc.nv T.m := Nat.le_add_right _ _
      cases e with
      | nrm =>
        change (bc (wh F' st'.pc) (li.run cf F' st' k) (backK T st.pc.nv st.nn F' st')).sat L σ' at h6
        cases hw : wh F' st'.pc
        rotate_left
        · rw [hw] at h6
          exact rounds_mono (by omega) (hli cf hcf σ' w0 β' st' w' F' a' k Q h4 h5 h6 (hn.weaken (g1.trans (h1.mono hle)) (Nat.le_trans hle h2) (g2.trans h3)))
        rw [hw] at h6
        obtain ⟨sub', _, h6⟩ := oa_sat (show (backK T st.pc.nv st.nn F' st').sat L σ' from h6)
        obtain ⟨ρ', _, h6⟩ := oa_sat h6
        obtain ⟨hd', h6⟩ := headW_sat h4.1.ok h6
        obtain ⟨hct, _⟩ := wd_sat h4.1.ok h6
        obtain ⟨σ3, β3, _, _, _, _, _, hmt⟩ := head_ok hpc hfr (hR.2 σ (Ag.refl _ _)).glob hkey c3 c4 (g1.trans (h1.mono hle)) (g2.trans h3) h4 h5 hd'
        have r1 := meas_ok h4.1.ok c1 hct hmt
        have r2 := meas_ag c1 h1
        omega
      | ext id => exact hn (.ext id) σ' β' st' w' F' a' (g1.trans (h1.mono hle)) (Nat.le_trans hle h2) (g2.trans h3) h4 h5 h6
      | ret => exact hn .ret σ' β' st' w' F' a' (g1.trans (h1.mono hle)) (Nat.le_trans hle h2) (g2.trans h3) h4 h5 h6
    | succ n ih =>
      rintro w a ⟨σ2, β2, g1, g2, g3, g4, g5⟩
      rw [rounds_succ]
      obtain ⟨pc', hpc', hnv', hsat'⟩ := hsat σ2 g1 g3.1
      have hnv : pc'.nv = Nat.add st.pc.nv T.m := hnv'.trans (pcF_nv _ _)
      refine hh cf hcf σ2 w0 β2 _ w T.F a _ _ (g3.assume hpc' hnv') (by show RepFC pc'.nv σ2 β2 N T.F a; rw [hnv]; exact g4) hsat' ?_
      intro e σ' β' st' w' F' a' h1 h2 h3 h4 h5 h6
      change Ag pc'.nv σ2 σ' at h1
      change pc'.nv ≤ st'.pc.nv at h2
      rw [hnv] at h1 h2
      have hle : st.pc.nv ≤ Nat.add st.pc.nv T.m := Nat.le_add_right _ _
      cases e with
      | nrm =>
        change (bc (wh F' st'.pc) (li.run cf F' st' k) (backK T st.pc.nv st.nn F' st')).sat L σ' at h6
        cases hw : wh F' st'.pc
        rotate_left
        · rw [hw] at h6
          exact rounds_mono (by omega) (hli cf hcf σ' w0 β' st' w' F' a' k Q h4 h5 h6 (hn.weaken (g1.trans (h1.mono hle)) (Nat.le_trans hle h2) (g2.trans h3)))
        rw [hw] at h6
        obtain ⟨sub', _, h6⟩ := oa_sat (show (backK T st.pc.nv st.nn F' st').sat L σ' from h6)
        obtain ⟨ρ', _, h6⟩ := oa_sat h6
        obtain ⟨hd', h6⟩ := headW_sat h4.1.ok h6
        obtain ⟨hct, _⟩ := wd_sat h4.1.ok h6
        obtain ⟨σ3, β3, q1, q2, q3, q4, _, hmt⟩ := head_ok hpc hfr (hR.2 σ (Ag.refl _ _)).glob hkey c3 c4 (g1.trans (h1.mono hle)) (g2.trans h3) h4 h5 hd'
        have r1 := meas_ok h4.1.ok c1 hct hmt
        have r2 := meas_ag c1 h1
        exact rounds_mono (by omega) (ih w' a' ⟨σ3, β3, q1, q2, q3, q4, by omega⟩)
      | ext id => exact hn (.ext id) σ' β' st' w' F' a' (g1.trans (h1.mono hle)) (Nat.le_trans hle h2) (g2.trans h3) h4 h5 h6
      | ret => exact hn .ret σ' β' st' w' F' a' (g1.trans (h1.mono hle)) (Nat.le_trans hle h2) (g2.trans h3) h4 h5 h6
  obtain ⟨σ2, β2, g1, g2, g3, g4, _⟩ := head_ok hpc hfr (hR.2 σ (Ag.refl _ _)).glob hkey c3 c4 (Ag.refl _ _) (Ext.refl β) hR hF hhead
  exact rounds_mono (by have := meas_lt c1 σ2; omega) (key (T.meas st.pc.nv σ2) w a ⟨σ2, β2, g1, g2, g3, g4, Nat.le_refl _⟩)
theorem lisR_ok {N : Nat} {body : Code} {h : HC} (hh : HCok L M P N body h) : ∀ l : List HL, LRok L M P N body (manyR * l.length) (lisR h l).li
  | [] => fun cf _ σ w0 β st w F a k Q _ _ hs _ => hs.elim
  | x :: l => fun cf hcf σ w0 β st w F a k Q hR hF hs hn => by
    change (bc (x.wh F st.pc) ((loopI x.tpl (lisR h l).wh (lisR h l).li h).run cf F st k) ((lisR h l).li.run cf F st k)).sat L σ at hs
    have ih := lisR_ok hh l
    have e : manyR + manyR * l.length = manyR * (x :: l).length := by
      rw [List.length_cons, Nat.mul_succ, Nat.add_comm]
    cases hw : x.wh F st.pc
    · rw [hw] at hs
      exact rounds_mono (by rw [← e]; exact Nat.le_add_left _ _) (ih cf hcf σ w0 β st w F a k Q hR hF hs hn)
    · rw [hw] at hs
      rw [← e]
      exact loopI_ok ih hh cf hcf σ w0 β st w F a k Q hR hF hs hn
theorem loopD_ok {N : Nat} {body : Code} {wh : F3 → PC → Bool} {li h : HC} {m : Nat} (hli : LRok L M P N body m li) (hh : HCok L M P N body h) : ∀ n, LRok L M P N body (m + n) (loopD wh li h n)
  | 0 => fun cf _ σ w0 β st w F a k Q _ _ hs _ => hs.elim
  | n + 1 => fun cf hcf σ w0 β st w F a k Q hR hF hs hn => by
    change (bc (wh F st.pc) (li.run cf F st k) (h.run cf F st fun e F st => Ex.rec ((loopD wh li h n).run cf F st k) (fun id => k (.ext id) F st) (k .ret F st) e)).sat L σ at hs
    cases hw : wh F st.pc
    · rw [hw] at hs
      rw [show m + (n + 1) = (m + n) + 1 by omega, rounds_succ]
      refine hh cf hcf σ w0 β st w F a _ _ hR hF hs ?_
      intro e σ' β' st' w' F' a' h1 h2 h3 h4 h5 h6
      cases e with
      | nrm => exact loopD_ok hli hh n cf hcf σ' w0 β' st' w' F' a' k Q h4 h5 h6 (hn.weaken h1 h2 h3)
      | ext id => exact hn (.ext id) σ' β' st' w' F' a' h1 h2 h3 h4 h5 h6
      | ret => exact hn .ret σ' β' st' w' F' a' h1 h2 h3 h4 h5 h6
    · rw [hw] at hs
      exact rounds_mono (Nat.le_add_right _ _) (hli cf hcf σ w0 β st w F a k Q hR hF hs hn)

theorem seqI_ok {N : Nat} {x y : Code} {a b : HC} (hx : HCok L M P N x a) (hy : HCok L M P N y b) : HCok L M P N (.seq x y) (seqI a b) := by
  intro cf hcf σ w0 β st w F ac k Q hR hF hs hn
  refine wp_seq (hx cf hcf σ w0 β st w F ac _ _ hR hF hs ?_)
  intro e σ' β' st' w' F' a' h1 h2 h3 h4 h5 h6
  cases e with
  | nrm => exact hy cf hcf σ' w0 β' st' w' F' a' k Q h4 h5 h6 (hn.weaken h1 h2 h3)
  | ext id => exact hn (.ext id) σ' β' st' w' F' a' h1 h2 h3 h4 h5 h6
  | ret => exact hn .ret σ' β' st' w' F' a' h1 h2 h3 h4 h5 h6
theorem joinI_ok {N : Nat} {x y : Code} {mk : F3 → St → Option LT} {a b : HC} (hx : HCok L M P N x a) (hy : HCok L M P N y b) : HCok L M P N (.seq x y) (joinI mk a b) := by
  intro cf hcf σ w0 β st w F ac k Q hR hF hs hn
  change (Option.rec (motive := fun _ => Ans) ((seqI a b).run cf F st k) _ (mk F st)).sat L σ at hs
  cases hT : mk F st with
  | none => rw [hT] at hs; exact seqI_ok hx hy cf hcf σ w0 β st w F ac k Q hR hF hs hn
  | some T =>
  rw [hT] at hs
  change Ans.sat L (forceN st.pc.nv _) σ at hs
  rw [forceN_eq, forceN_eq] at hs
  obtain ⟨ρ, hρ, hs⟩ := oa_sat hs
  obtain ⟨hl, hs⟩ := wa_sat hs
  obtain ⟨hc, hs⟩ := wa_sat hs
  obtain ⟨c3, hc⟩ := bc_tf hc
  obtain ⟨c4, cpre⟩ := bc_tf hc
  have c3 := of_nble c3
  obtain ⟨hs1, hs2⟩ := hs
  have hsat : ∀ σ', Ag st.pc.nv σ σ' → (b.run cf T.F ⟨T.hp, Nat.add st.nn T.kn, pcF (pcL st.pc (Nat.add st.pc.nv T.m)) T.fs⟩ k).sat L σ' := fun σ' ha => by
    have := hs2 σ' ha
    rw [forceN_eq, forcePC_eq] at this
    exact this
  have hpc : (pcL st.pc st.pc.nv).okC σ := hR.1
  have hfr := (hR.2 σ (Ag.refl _ _)).fresh
  have hkey : KeyOk T st.nn := key_ok hR hl cpre
  refine wp_seq (hx cf hcf σ w0 β st w F ac _ _ hR hF hs1 ?_)
  intro e σ' β' st' w' F' a' h1 h2 h3 h4 h5 h6
  cases e with
  | nrm =>
    obtain ⟨sub', _, h6⟩ := oa_sat (show (meetK T st.pc.nv st.nn F' st').sat L σ' from h6)
    obtain ⟨ρ', _, h6⟩ := oa_sat h6
    obtain ⟨hd', _⟩ := headW_sat h4.1.ok h6
    obtain ⟨σ3, β3, q1, q2, q3, q4, _⟩ := head_ok hpc hfr (hR.2 σ (Ag.refl _ _)).glob hkey c3 c4 h1 h3 h4 h5 hd'
    have hnv : (pcF (pcL st.pc (Nat.add st.pc.nv T.m)) T.fs).nv = Nat.add st.pc.nv T.m := pcF_nv _ _
    refine hy cf hcf σ3 w0 β3 _ w' T.F a' k Q q3 (by rw [hnv]; exact q4) (hsat σ3 q1) (hn.weaken q1 ?_ q2)
    rw [hnv]; exact Nat.le_add_right _ _
  | ext id => exact hn (.ext id) σ' β' st' w' F' a' h1 h2 h3 h4 h5 h6
  | ret => exact hn .ret σ' β' st' w' F' a' h1 h2 h3 h4 h5 h6

/-- Operations one behind the other. -/
def wpK (P : Program) (ops : Array Oper) (Q : Exit → Act → World → Prop) (l : List Nat) (K : Act → World → Prop) : Act → World → Prop := l.foldr (fun i K => wpOp P ops Q i K) K
theorem wpOps_split {P : Program} {ops : Array Oper} {Q : Exit → Act → World → Prop} : ∀ (l m : List Nat) (a : Act) (w : World), wpOps P ops Q (l ++ m) a w = wpK P ops Q l (wpOps P ops Q m) a w
  | [], _, _, _ => rfl
  | i :: l, m, a, w => by
    show wpOps P ops Q (i :: (l ++ m)) a w = wpOp P ops Q i (wpK P ops Q l (wpOps P ops Q m)) a w
    rw [wpOps_cons]
    congr 1
    funext a w
    exact wpOps_split l m a w
theorem sListK_ok {E : Env} (hE : EnvOk L E) {N : Nat} {ops : Array Oper} {Q : Exit → Act → World → Prop} {K : Act → World → Prop} (l : List Nat) :
    ∀ cf, (∀ M, CallOk E.P L M cf) → ∀ σ w0 β st w F a k, RepC M σ w0 β st w → RepFC st.pc.nv σ β N F a → ((sList E N ops l).run cf F st k).sat L σ → FollF L M N σ w0 β st.pc.nv k K → wpK E.P ops Q l K a w := by
  induction l with
  | nil =>
    intro cf hcf σ w0 β st w F a k hR hF hs hk
    exact hk σ β st w F a (Ag.refl _ _) (Nat.le_refl _) (Ext.refl β) hR hF hs
  | cons i l ih =>
    intro cf hcf σ w0 β st w F a k hR hF hs hk
    show wpOp E.P ops Q i (wpK E.P ops Q l K) a w
    refine sStep_ok hE cf hcf σ w0 β st w F a (fun F st => (sList E N ops l).run cf F st k) _ hR hF hs ?_
    intro σ' β' st' w' F' a' h1 h2 h3 h4 h5 h6
    exact ih cf hcf σ' w0 β' st' w' F' a' k h4 h5 h6 (hk.weaken h1 h2 h3)
theorem joinS_ok {E : Env} (hE : EnvOk L E) {N : Nat} {ops : Array Oper} {Q : Exit → Act → World → Prop} {mk : F3 → St → Option LT} (l m : List Nat) :
    ∀ cf, (∀ M, CallOk E.P L M cf) → ∀ σ w0 β st w F a k, RepC M σ w0 β st w → RepFC st.pc.nv σ β N F a → ((joinS mk (sList E N ops l) (sList E N ops m)).run cf F st k).sat L σ → FollF L M N σ w0 β st.pc.nv k (Q .normal) → wpOps E.P ops Q (l ++ m) a w := by
  intro cf hcf σ w0 β st w F ac k hR hF hs hn
  obtain ⟨T, hT, hs⟩ := oa_sat hs
  rw [forceN_eq, forceN_eq] at hs
  obtain ⟨ρ, hρ, hs⟩ := oa_sat hs
  obtain ⟨hl, hs⟩ := wa_sat hs
  obtain ⟨hc, hs⟩ := wa_sat hs
  obtain ⟨c3, hc⟩ := bc_tf hc
  obtain ⟨c4, cpre⟩ := bc_tf hc
  have c3 := of_nble c3
  obtain ⟨hs1, hs2⟩ := hs
  have hsat : ∀ σ', Ag st.pc.nv σ σ' → ((sList E N ops m).run cf T.F ⟨T.hp, Nat.add st.nn T.kn, pcF (pcL st.pc (Nat.add st.pc.nv T.m)) T.fs⟩ k).sat L σ' := fun σ' ha => by
    have := hs2 σ' ha
    rw [forceN_eq, forcePC_eq] at this
    exact this
  have hpc : (pcL st.pc st.pc.nv).okC σ := hR.1
  have hfr := (hR.2 σ (Ag.refl _ _)).fresh
  have hkey : KeyOk T st.nn := key_ok hR hl cpre
  rw [wpOps_split]
  refine sListK_ok hE l cf hcf σ w0 β st w F ac _ hR hF hs1 ?_
  intro σ' β' st' w' F' a' h1 h2 h3 h4 h5 h6
  obtain ⟨sub', _, h6⟩ := oa_sat (show (meetK T st.pc.nv st.nn F' st').sat L σ' from h6)
  obtain ⟨ρ', _, h6⟩ := oa_sat h6
  obtain ⟨hd', _⟩ := headW_sat h4.1.ok h6
  obtain ⟨σ3, β3, q1, q2, q3, q4, _⟩ := head_ok hpc hfr (hR.2 σ (Ag.refl _ _)).glob hkey c3 c4 h1 h3 h4 h5 hd'
  have hnv : (pcF (pcL st.pc (Nat.add st.pc.nv T.m)) T.fs).nv = Nat.add st.pc.nv T.m := pcF_nv _ _
  refine sList_ok hE m cf hcf σ3 w0 β3 _ w' T.F a' k q3 (by rw [hnv]; exact q4) (hsat σ3 q1) (hn.weaken q1 ?_ q2)
  rw [hnv]; exact Nat.le_add_right _ _

theorem sNote_sat {E : Env} {n : Nat} {r : RS} {cf F st k σ} (h : ((sNote E n r).run cf F st k).sat L σ) : (r.run cf F st k).sat L σ := by
  unfold sNote at h
  cases hd : E.dbg <;> (rw [hd] at h; exact h)

theorem noY (E : Env) (N : Nat) : ∀ c : Code, tgtOf E c = none → ∀ cf F st k L σ, ((cAll E N c).Y.run cf F st k).sat L σ → False := by
  intro c
  induction c with
  | seq x y _ ih =>
    intro h cf F st k L σ hs
    change bc (E.tg y) (some y) (tgtOf E y) = none at h
    change ((bc (E.tg y) (cAll E N y).full (cAll E N y).Y).run cf F st k).sat L σ at hs
    cases ht : E.tg y
    · rw [ht] at h hs; exact ih h cf F st k L σ hs
    · rw [ht] at h; cases h
  | _ => intro _ cf F st k L σ hs; exact hs
/-- Code up to a place that is to be trusted. -/
def HCUok (L : (Nat → Nat) → SV → Prop) (M : Md) (P : Program) (N : Nat) (c y : Code) (u : HCU) : Prop :=
  ∀ cf, (∀ M, CallOk P L M cf) → ∀ σ w0 β st w F a kT k (Q : Exit → Act → World → Prop), RepC M σ w0 β st w → RepFC st.pc.nv σ β N F a → (u.run cf F st kT k).sat L σ → FollX L M N σ w0 β st.pc.nv k Q → FollF L M N σ w0 β st.pc.nv kT (y.wp P Q) → c.wp P Q a w
theorem joinW_ok {N : Nat} {c y : Code} {mk : F3 → St → Option LT} {u : HCU} {b : HC} (hx : HCUok L M P N c y u) (hy : HCok L M P N y b) : HCok L M P N c (joinW mk u b) := by
  intro cf hcf σ w0 β st w F ac k Q hR hF hs hn
  obtain ⟨T, hT, hs⟩ := oa_sat hs
  rw [forceN_eq, forceN_eq] at hs
  obtain ⟨ρ, hρ, hs⟩ := oa_sat hs
  obtain ⟨hl, hs⟩ := wa_sat hs
  obtain ⟨hc, hs⟩ := wa_sat hs
  obtain ⟨c3, hc⟩ := bc_tf hc
  obtain ⟨c4, cpre⟩ := bc_tf hc
  have c3 := of_nble c3
  obtain ⟨hs1, hs2⟩ := hs
  have hsat : ∀ σ', Ag st.pc.nv σ σ' → (b.run cf T.F ⟨T.hp, Nat.add st.nn T.kn, pcF (pcL st.pc (Nat.add st.pc.nv T.m)) T.fs⟩ k).sat L σ' := fun σ' ha => by
    have := hs2 σ' ha
    rw [forceN_eq, forcePC_eq] at this
    exact this
  have hpc : (pcL st.pc st.pc.nv).okC σ := hR.1
  have hfr := (hR.2 σ (Ag.refl _ _)).fresh
  have hkey : KeyOk T st.nn := key_ok hR hl cpre
  refine hx cf hcf σ w0 β st w F ac _ k Q hR hF hs1 hn ?_
  intro σ' β' st' w' F' a' h1 h2 h3 h4 h5 h6
  obtain ⟨sub', _, h6⟩ := oa_sat (show (meetK T st.pc.nv st.nn F' st').sat L σ' from h6)
  obtain ⟨ρ', _, h6⟩ := oa_sat h6
  obtain ⟨hd', _⟩ := headW_sat h4.1.ok h6
  obtain ⟨σ3, β3, q1, q2, q3, q4, _⟩ := head_ok hpc hfr (hR.2 σ (Ag.refl _ _)).glob hkey c3 c4 h1 h3 h4 h5 hd'
  have hnv : (pcF (pcL st.pc (Nat.add st.pc.nv T.m)) T.fs).nv = Nat.add st.pc.nv T.m := pcF_nv _ _
  refine hy cf hcf σ3 w0 β3 _ w' T.F a' k Q q3 (by rw [hnv]; exact q4) (hsat σ3 q1) (hn.weaken q1 ?_ q2)
  rw [hnv]; exact Nat.le_add_right _ _

theorem cAll_ok {E : Env} (hE : EnvOk L E) {N : Nat} (c : Code) : HCok L M E.P N c (cAll E N c).full ∧ ∀ y, tgtOf E c = some y → HCUok L M E.P N c y (cAll E N c).U ∧ HCok L M E.P N y (cAll E N c).Y := by
  have none' : ∀ {c : Code} {h : HC}, HCok L M E.P N c h → tgtOf E c = none → HCok L M E.P N c h ∧ ∀ y, tgtOf E c = some y → HCUok L M E.P N c y (cAll E N c).U ∧ HCok L M E.P N y (cAll E N c).Y := fun h e => ⟨h, fun y hy => by rw [e] at hy; cases hy⟩
  induction c with
  | skip =>
    refine none' ?_ rfl
    exact fun cf _ σ w0 β st w F a k Q hR hF hk hn => wp_skip ((hn .nrm).now hR hF hk)
  | region id ops draw =>
    refine none' ?_ rfl
    intro cf hcf σ w0 β st w F a k Q hR hF hk hn
    have hk := sNote_sat (k := fun F st => k .nrm F st) hk
    cases draw
    · change ((Option.rec (sList E N ops (List.range ops.size)) (fun p => joinS p.2 (sList E N ops ((List.range ops.size).take p.1)) (sList E N ops ((List.range ops.size).drop p.1))) (E.rj id ops.size) : RS).run cf F st fun F st => k .nrm F st).sat L σ at hk
      cases hj : E.rj id ops.size with
      | none => rw [hj] at hk; exact wp_region (sList_ok hE _ cf hcf σ w0 β st w F a _ hR hF hk (hn .nrm))
      | some p =>
        rw [hj] at hk
        refine wp_region ?_
        have := joinS_ok hE ((List.range ops.size).take p.1) ((List.range ops.size).drop p.1) cf hcf σ w0 β st w F a _ hR hF hk (hn .nrm)
        rw [List.take_append_drop] at this
        exact this
    · change ((Option.rec (sDraw0 E N ops) (fun r => r) (sDrawA E N ops) : RS).run cf F st fun F st => k .nrm F st).sat L σ at hk
      cases hA : sDrawA E N ops with
      | some r => rw [hA] at hk; exact sDrawA_ok hE hA cf hcf hR hF hk (hn .nrm)
      | none =>
      rw [hA] at hk
      change ((sDraw0 E N ops).run cf F st fun F st => k .nrm F st).sat L σ at hk
      unfold sDraw0 at hk
      rw [schedX_eq] at hk
      cases hs : schedOf ops with
      | none => rw [hs] at hk; exact sDrawL_ok hE cf hcf hR hF hk (hn .nrm)
      | some s =>
        rw [hs] at hk
        unfold schedOf at hs
        split at hs
        · rename_i hsel
          have hw : (Code.region id ops true).wp E.P (fun e a w => match e with | .normal => Q .normal a w | _ => False) a w := by
            refine wp_region_any hE.mixed (wpAnyI_any (I := CI E.P []) _ _ _ _ ?_)
            exact dSch_ok hE (fun _ _ _ h => h) hsel hcf ops.size _ hs (fun j o _ h => by exfalso; have : (Array.replicate ops.size false).getD j false = false := (by rcases Nat.lt_or_ge j ops.size with h | h <;> simp [h]); rw [this] at h; cases h) hR.drew hF .nil (fun e he => by cases he) (fun e he => by cases he) hk (hn .nrm)
          refine wp_mono hw fun e a w he => ?_
          cases e <;> first | exact he | exact he.elim
        · cases hs
  | seq x y ihx0 ihy0 =>
    obtain ⟨ihx, _⟩ := ihx0
    obtain ⟨ihy, ihT⟩ := ihy0
    have hU : ∀ z, tgtOf E (.seq x y) = some z → HCUok L M E.P N (.seq x y) z (cAll E N (.seq x y)).U ∧ HCok L M E.P N z (cAll E N (.seq x y)).Y := fun z hz => by
      change bc (E.tg y) (some y) (tgtOf E y) = some z at hz
      cases ht : E.tg y
      · rw [ht] at hz
        obtain ⟨t1, t2⟩ := ihT z hz
        refine ⟨?_, ?_⟩
        · intro cf hcf σ w0 β st w F a kT k Q hR hF hk hn hT
          refine wp_seq (ihx cf hcf σ w0 β st w F a _ _ hR hF hk ?_)
          intro e σ' β' st' w' F' a' h1 h2 h3 h4 h5 h6
          cases e with
          | nrm =>
            change (bc (E.tg y) (kT F' st') ((cAll E N y).U.run cf F' st' kT k)).sat L σ' at h6
            rw [ht] at h6
            exact t1 cf hcf σ' w0 β' st' w' F' a' kT k Q h4 h5 h6 (hn.weaken h1 h2 h3) (hT.weaken h1 h2 h3)
          | ext id => exact hn (.ext id) σ' β' st' w' F' a' h1 h2 h3 h4 h5 h6
          | ret => exact hn .ret σ' β' st' w' F' a' h1 h2 h3 h4 h5 h6
        · show HCok L M E.P N z (bc (E.tg y) (cAll E N y).full (cAll E N y).Y)
          rw [ht]; exact t2
      · rw [ht] at hz
        cases hz
        refine ⟨?_, ?_⟩
        · intro cf hcf σ w0 β st w F a kT k Q hR hF hk hn hT
          refine wp_seq (ihx cf hcf σ w0 β st w F a _ _ hR hF hk ?_)
          intro e σ' β' st' w' F' a' h1 h2 h3 h4 h5 h6
          cases e with
          | nrm =>
            change (bc (E.tg y) (kT F' st') ((cAll E N y).U.run cf F' st' kT k)).sat L σ' at h6
            rw [ht] at h6
            exact hT σ' β' st' w' F' a' h1 h2 h3 h4 h5 h6
          | ext id => exact hn (.ext id) σ' β' st' w' F' a' h1 h2 h3 h4 h5 h6
          | ret => exact hn .ret σ' β' st' w' F' a' h1 h2 h3 h4 h5 h6
        · show HCok L M E.P N y (bc (E.tg y) (cAll E N y).full (cAll E N y).Y)
          rw [ht]; exact ihy
    refine ⟨?_, hU⟩
    have key : HCok L M E.P N (.seq x y) (Option.rec (Option.rec ⟨fun cf F st k => (cAll E N x).full.run cf F st fun e F st => Ex.rec ((cAll E N y).full.run cf F st k) (fun id => k (.ext id) F st) (k .ret F st) e⟩ (fun mk => joinI mk (cAll E N x).full (cAll E N y).full) (E.ji y))
        (fun mk => joinW mk (cAll E N (.seq x y)).U (cAll E N (.seq x y)).Y) (E.jw (.seq x y))) := ?_
    · exact key
    cases hw : E.jw (.seq x y) with
    | some mk =>
      cases ht : tgtOf E (.seq x y) with
      | some z => exact joinW_ok (hU z ht).1 (hU z ht).2
      | none =>
        -- no place: then nothing is behind it
        intro cf hcf σ w0 β st w F a k Q hR hF hs hn
        exfalso
        obtain ⟨T, hT, hs⟩ := oa_sat hs
        rw [forceN_eq, forceN_eq] at hs
        obtain ⟨ρ, hρ, hs⟩ := oa_sat hs
        obtain ⟨_, hs⟩ := wa_sat hs
        obtain ⟨_, hs⟩ := wa_sat hs
        have := hs.2 σ (Ag.refl _ _)
        rw [forceN_eq, forcePC_eq] at this
        exact noY E N (.seq x y) ht cf _ _ _ L σ this
    | none =>
    cases hj : E.ji y with
    | some mk => exact joinI_ok ihx ihy
    | none =>
    intro cf hcf σ w0 β st w F a k Q hR hF hk hn
    refine wp_seq (ihx cf hcf σ w0 β st w F a _ _ hR hF hk ?_)
    intro e σ' β' st' w' F' a' h1 h2 h3 h4 h5 h6
    cases e with
    | nrm => exact ihy cf hcf σ' w0 β' st' w' F' a' k Q h4 h5 h6 (hn.weaken h1 h2 h3)
    | ext id => exact hn (.ext id) σ' β' st' w' F' a' h1 h2 h3 h4 h5 h6
    | ret => exact hn .ret σ' β' st' w' F' a' h1 h2 h3 h4 h5 h6
  | cond x thn els iht0 ihe0 =>
    obtain ⟨iht, _⟩ := iht0
    obtain ⟨ihe, _⟩ := ihe0
    refine none' ?_ rfl
    intro cf hcf σ w0 β st w F a k Q hR hF hk hn
    obtain ⟨t, ht, hk⟩ := oa_sat hk
    obtain ⟨h1, h2⟩ := bool_TS ht (cO_C hF x)
    rcases br_ok hR.1 h1 hk with ⟨e, pc', hp, hnv, hs'⟩ | ⟨e, pc', hp, hnv, hs'⟩
    · have e1 : (t.ev σ != 0) = true := by simpa using e
      rw [e1] at h2
      exact wp_cond_true h2 (iht cf hcf σ w0 β _ w F a k Q (hR.assume hp hnv) (by simpa [hnv] using hF) hs' (by simpa [hnv] using hn))
    · have e1 : (t.ev σ != 0) = false := by simpa using e
      rw [e1] at h2
      exact wp_cond_false h2 (ihe cf hcf σ w0 β _ w F a k Q (hR.assume hp hnv) (by simpa [hnv] using hF) hs' (by simpa [hnv] using hn))
  | block id body ih0 =>
    obtain ⟨ih, _⟩ := ih0
    refine none' ?_ rfl
    intro cf hcf σ w0 β st w F a k Q hR hF hk hn
    refine wp_block (ih cf hcf σ w0 β st w F a _ _ hR hF hk ?_)
    intro e σ' β' st' w' F' a' h1 h2 h3 h4 h5 h6
    cases e with
    | nrm => exact hn .nrm σ' β' st' w' F' a' h1 h2 h3 h4 h5 h6
    | ext id' =>
      change (bc (Nat.beq id' id) (k .nrm F' st') (k (.ext id') F' st')).sat L σ' at h6
      show (if id' = id then _ else _)
      by_cases e : id' = id
      · rw [if_pos e]; rw [nbeq_t e] at h6; exact hn .nrm σ' β' st' w' F' a' h1 h2 h3 h4 h5 h6
      · rw [if_neg e]; rw [nbeq_f e] at h6; exact hn (.ext id') σ' β' st' w' F' a' h1 h2 h3 h4 h5 h6
    | ret => exact hn .ret σ' β' st' w' F' a' h1 h2 h3 h4 h5 h6
  | loop body ih0 =>
    obtain ⟨ih, _⟩ := ih0
    refine none' ?_ rfl
    show HCok L M E.P N (.loop body) (List.rec ⟨fun cf F st k => rounds ((cAll E N body).full) E.LF cf F st k⟩ (fun x l _ => loopD (lisR ((cAll E N body).full) (x :: l)).wh (lisR ((cAll E N body).full) (x :: l)).li ((cAll E N body).full) E.LF) (E.li body))
    cases E.li body with
    | nil => exact fun cf hcf σ w0 β st w F a k Q hR hF hk hn => wp_loop_rounds E.LF (rounds_ok ih E.LF cf hcf σ w0 β st w F a k Q hR hF hk hn)
    | cons x l => exact fun cf hcf σ w0 β st w F a k Q hR hF hk hn => wp_loop_rounds _ (loopD_ok (lisR_ok ih (x :: l)) ih E.LF cf hcf σ w0 β st w F a k Q hR hF hk hn)
  | rangeFunc =>
    refine none' ?_ rfl
    exact cbad_ok
  | exit id =>
    refine none' ?_ rfl
    exact fun cf hcf σ w0 β st w F a k Q hR hF hk hn => wp_exit ((hn (.ext id)).now hR hF hk)
  | scope body ih0 =>
    obtain ⟨ih, _⟩ := ih0
    refine none' ?_ rfl
    intro cf hcf σ w0 β st w F a k Q hR hF hk hn
    refine wp_scope_straight (ih cf hcf σ w0 β st w F a _ _ hR hF hk ?_)
    intro e σ' β' st' w' F' a' h1 h2 h3 h4 h5 h6
    cases e with
    | nrm => exact hn .nrm σ' β' st' w' F' a' h1 h2 h3 h4 h5 h6
    | ext id' => exact hn (.ext id') σ' β' st' w' F' a' h1 h2 h3 h4 h5 h6
    | ret => exact hn .ret σ' β' st' w' F' a' h1 h2 h3 h4 h5 h6
  | label l =>
    refine none' ?_ rfl
    exact fun cf hcf σ w0 β st w F a k Q hR hF hk hn => wp_label ((hn .nrm).now hR hF hk)
  | goto _ =>
    refine none' ?_ rfl
    exact cbad_ok
  | ret =>
    refine none' ?_ rfl
    exact fun cf hcf σ w0 β st w F a k Q hR hF hk hn => wp_ret ((hn .ret).now hR hF hk)
  | refuse _ =>
    refine none' ?_ rfl
    exact cbad_ok
theorem cCode_ok {E : Env} (hE : EnvOk L E) {N : Nat} (c : Code) : HCok L M E.P N c (cCode E N c) := (cAll_ok hE c).1


/-! ### Calls -/
theorem bodyOf_some {f : Nat} {b : Func × Code} (h : bodyOf P f = some b) : P.funcs[f]? = some b.1 ∧ b.1.body = some b.2 ∧ (b.1.name == "runtime.NumGoroutine") = false := by
  unfold bodyOf at h
  split at h
  · rename_i fn hfn
    split at h
    · cases h
    · rename_i hn
      cases hb : fn.body with
      | none => rw [hb] at h; cases h
      | some c => rw [hb] at h; cases h; exact ⟨hfn, hb, by simpa using hn⟩
  · cases h

theorem asAddr_of_load {t : TypeId} {v u : Value} {w w' : World} (h : (Instr.loadAt t v).run P w = .ok u w') : (do loadVar t (← asAddr v) : Sem Value).run P w = .ok u w' := by
  unfold Instr.loadAt at h
  cases v <;> first | (simp [Instr.sureAddr] at h; done) | skip
  rename_i p
  cases p with
  | none => simp [Instr.sureAddr] at h
  | some p => simpa [Instr.sureAddr, asAddr] using h

theorem cRess_ok {N : Nat} {σ w0 β} {st : St} {w : World} (h : RepC M σ w0 β st w) {F : F3} {a : Act} (hF : RepFC st.pc.nv σ β N F a) : ∀ {rs : List ResultVar} {k : List SV → Ans}, ((cRess P rs).f F st k).sat L σ →
    ∃ l vs, DenLC st.pc.nv σ β l vs ∧ (rs.mapM (fun r => match r with | .tmp t => pure (a.tmps.getD t undef) | .cell x t => do loadVar t (← asAddr (a.tmps.getD x undef)) : ResultVar → Sem Value)).run P w = .ok vs w ∧ (k l).sat L σ
  | [], k, hk => ⟨[], [], .nil, by simp, hk⟩
  | r :: rs, k, hk => by
    change ((cRes P r).f F st fun s => (cRess P rs).f F st fun l => k (s :: l)).sat L σ at hk
    have key : ∃ s v, ((match r with | .tmp t => pure (a.tmps.getD t undef) | .cell x t => do loadVar t (← asAddr (a.tmps.getD x undef)) : Sem Value)).run P w = .ok v w ∧ DenC st.pc.nv σ β s v ∧ ((cRess P rs).f F st fun l => k (s :: l)).sat L σ := by
      cases r with
      | tmp t =>
        obtain ⟨hne, hk⟩ := kn_sat hk
        obtain ⟨v, h1, h2⟩ := tmp_get hF rfl hne
        exact ⟨_, v, by simp [Array.getD_eq_getD_getElem?, h1], h2, hk⟩
      | cell x t =>
        obtain ⟨hne, hk⟩ := kn_sat hk
        obtain ⟨q, h1, h2⟩ := tmp_get hF rfl hne
        obtain ⟨r, hr, hk⟩ := (cLoad_ok P t st _ _).sat hk
        obtain ⟨v, h3, h4⟩ := classify (P := P) (fun σ' ha => hr M σ' w0 β q w (h.2 σ' ha) (h.1 σ' ha) (.inr (h2 σ' ha)))
        refine ⟨_, v, ?_, h4, hk⟩
        have := asAddr_of_load h3
        simpa [Array.getD_eq_getD_getElem?, h1] using this
    obtain ⟨s, v, h3, h4, hk⟩ := key
    obtain ⟨l, vs, h1, h2, hk⟩ := cRess_ok h hF hk
    exact ⟨s :: l, v :: vs, DenLC.cons h4 h1, by rw [List.mapM_cons]; simp only [Sem.run_bind, h3, h2, Result.andThen_ok, Sem.run_pure], hk⟩

theorem oneK_eq (l : List SV) (k : SV → Ans) : oneK l k = k (oneOr l) := by
  cases l with
  | nil => rfl
  | cons x t => cases t <;> rfl
theorem oneOr_ok {nv σ β} {l : List SV} {vs : List Value} (h : DenLC nv σ β l vs) : DenC nv σ β (oneOr l) (if h : vs.toArray.size = 1 then vs.toArray[0] else .tuple vs.toArray) := by
  intro σ' ha
  have := h σ' ha
  cases this with
  | nil => exact .tuple .nil
  | cons hd tl =>
    cases tl with
    | nil => exact hd
    | cons hd2 tl2 =>
      rw [dif_neg (by simp)]
      exact .tuple (.cons hd (.cons hd2 tl2))
theorem results_ok {N : Nat} {σ w0 β} {st : St} {w : World} (h : RepC M σ w0 β st w) {F : F3} {a : Act} (hF : RepFC st.pc.nv σ β N F a) {fn : Func} {k : SV → Ans} (hk : ((cRess P fn.results.toList).f F st fun l => oneK l k).sat L σ) :
    ∃ s v, (results fn a.tmps).run P w = .ok v w ∧ DenC st.pc.nv σ β s v ∧ (k s).sat L σ := by
  obtain ⟨l, vs, h1, h2, hk⟩ := cRess_ok h hF hk
  rw [oneK_eq] at hk
  have hm : (fn.results.mapM (fun r => match r with | .tmp t => pure (a.tmps.getD t undef) | .cell x t => do loadVar t (← asAddr (a.tmps.getD x undef)) : ResultVar → Sem Value)).run P w = .ok vs.toArray w := by
    rw [Array.mapM_eq_mapM_toList, Sem.run_map, h2]; rfl
  have hr : (results fn a.tmps).run P w = .ok (if h : vs.toArray.size = 1 then vs.toArray[0] else .tuple vs.toArray) w := by
    have e : results fn a.tmps = ((fn.results.mapM (fun r => match r with | .tmp t => pure (a.tmps.getD t undef) | .cell x t => do loadVar t (← asAddr (a.tmps.getD x undef)) : ResultVar → Sem Value)) >>= fun vs => pure (if h : vs.size = 1 then vs[0] else .tuple vs)) := rfl
    rw [e, Sem.run_bind, hm]; rfl
  exact ⟨_, _, hr, oneOr_ok h1, hk⟩

noncomputable def setAllP (l : List SV) : Nat → F3 → F3 := List.rec (motive := fun _ => Nat → F3 → F3) (fun _ F => F) (fun s _ ih i F => ih (Nat.succ i) (setF i s F)) l
theorem setAll_eq (l : List SV) : ∀ (i : Nat) (F : F3) (k : F3 → Ans), setAll l i F k = k (setAllP l i F) := by
  induction l with
  | nil => intro i F k; rfl
  | cons s l ih =>
    intro i F k
    show (forceN i fun i => (mkS i).s s F fun F => setAll l (Nat.succ i) F k) = _
    rw [forceN_eq, mkS_eq, ih]; rfl
theorem setAllP_get (l : List SV) : ∀ (i : Nat) (F : F3) (j : Nat), i + l.length ≤ 512 → j < 512 → (i ≤ j ∧ l[j - i]? = some (getF j (setAllP l i F))) ∨ getF j (setAllP l i F) = getF j F := by
  induction l with
  | nil => intro i F j _ _; exact .inr rfl
  | cons x l ih =>
    intro i F j hl hj
    rw [List.length_cons] at hl
    rcases ih (i + 1) (setF i x F) j (by omega) hj with ⟨h1, h2⟩ | h1
    · left
      refine ⟨by omega, ?_⟩
      rw [show j - i = (j - (i + 1)) + 1 by omega, List.getElem?_cons_succ]; exact h2
    · by_cases e : j = i
      · subst e
        left
        refine ⟨Nat.le_refl _, ?_⟩
        rw [Nat.sub_self, List.getElem?_cons_zero]
        show some x = some (getF j (setAllP l (j + 1) (setF j x F)))
        rw [h1, getF_eq]
      · right
        show getF j (setAllP l (i + 1) (setF i x F)) = _
        rw [h1, getF_ne (by omega) hj e]

theorem args_ok {nv σ β} (hgl : ∀ g, g < 64 → β g = some (g, 0)) {l : List SV} {vs : List Value} (h : DenLC nv σ β l vs) {n : Nat} (h1 : lenR l ≤ n) (h2 : lenR l ≤ 511) :
    RepFC nv σ β n (setAllP l 0 blank) { tmps := vs.toArray ++ Array.replicate (n - vs.toArray.size) undef, defers := [] } := by
  intro σ' ha
  have hl := h σ' ha
  rw [lenR_eq] at h1 h2
  refine ⟨by have := hl.length; simp; omega, .inl ⟨?_, rfl⟩, fun i hi => ?_, hgl⟩
  · rcases setAllP_get l 0 blank 511 (by omega) (by omega) with ⟨_, h4⟩ | h4
    · exfalso
      rw [Nat.sub_zero, List.getElem?_eq_none (by omega)] at h4
      cases h4
    · rw [h4, getF_blank]
  rcases setAllP_get l 0 blank i (by omega) (by omega) with ⟨_, h4⟩ | h4
  · right
    obtain ⟨v, h5, h6⟩ := hl.get h4
    simp only [Nat.sub_zero] at h5
    have hlt : i < vs.length := by
      rcases Nat.lt_or_ge i vs.length with hh | hh
      · exact hh
      · rw [List.getElem?_eq_none hh] at h5; cases h5
    exact ⟨v, by rw [Array.getElem?_append_left (by simpa using hlt)]; simpa using h5, h6⟩
  · left
    rw [h4, getF_blank]

theorem cEnter_ok {E : Env} (hE : EnvOk L E) {cf : CallF} (hcf : ∀ M, CallOk E.P L M cf) {f : Nat} {b : Func × Code} {σ : Nat → Nat} {w0 : World} {β : Nat → Option (Nat × Nat)} {st : St} {w : World} {args : List SV} {vs : List Value} {kk : KC} {Q : Exit → Act → World → Prop}
    (hR : RepC M σ w0 β st w) (hv : DenLC st.pc.nv σ β args vs) (hs : ((cEnter E f b).run cf args st kk).sat L σ) (hn : FollX L M b.1.ntmps σ w0 β st.pc.nv kk Q) :
    b.2.wp E.P Q { tmps := vs.toArray ++ Array.replicate (b.1.ntmps - vs.toArray.size) undef, defers := [] } w := by
  obtain ⟨hlen, hs⟩ := wa_sat (show (wa 221 _ _).sat L σ from hs)
  obtain ⟨hl1, hl2⟩ := band_eq hlen
  rw [setAll_eq] at hs
  have hs2 : ((cCode E b.1.ntmps b.2).run cf (setAllP args 0 blank) st kk).sat L σ := by
    cases hd : E.dbg
    · rw [hd] at hs; exact hs
    · rw [hd] at hs; exact hs
  exact cCode_ok hE b.2 cf hcf σ w0 β st w _ _ _ _ hR (args_ok (hR.2 σ (Ag.refl _ _)).glob hv (of_nble hl1) (of_nble hl2)) hs2 hn
theorem bodyOf_call {f : Nat} {b : Func × Code} (hb : bodyOf P f = some b) (vs : Array Value) (w : World) : (callFunc f vs).run P w = .ok (.enter f vs) w := by
  obtain ⟨h1, h2, h3⟩ := bodyOf_some hb
  have h3' : ¬ b.1.name = "runtime.NumGoroutine" := by simpa using h3
  simp [callFunc, h1, h2, h3']
/-- What is handed back, when nothing is left to be done. -/
theorem cEnd_ok {E : Env} {N : Nat} {σ : Nat → Nat} {w0 : World} {β : Nat → Option (Nat × Nat)} {st : St} {w : World} {F : F3} {a : Act} {fn : Func} {k : SV → St → Ans} {next : Value → World → Prop}
    (hR : RepC M σ w0 β st w) (hF : RepFC st.pc.nv σ β N F a) (hs : ((cEnd E fn).f F st k).sat L σ) (hn : Foll L M σ w0 β st.pc.nv k next) : ∃ v, (results fn a.tmps).run E.P w = .ok v w ∧ next v w := by
  obtain ⟨s, v, h5, h6, h7⟩ := results_ok hR hF hs
  exact ⟨v, h5, hn.step rfl (Ext.refl β) hR h6 h7⟩
theorem DefS.none {σ β s ds} (h : DefS σ β s ds) (hu : s.1 = 19) : ds = [] := by
  rcases h with ⟨_, hd⟩ | hd
  · exact hd
  · exfalso; cases hd <;> cases hu
/-- A function that defers nothing, as one that was deferred. -/
theorem cFunB_ok {E : Env} (hE : EnvOk L E) {cf : CallF} (hcf : ∀ M, CallOk E.P L M cf) {f : Nat} {σ : Nat → Nat} {w0 : World} {β : Nat → Option (Nat × Nat)} {st : St} {w : World} {args : List SV} {vs : List Value} {k : SV → St → Ans} {next : Value → World → Prop}
    (hR : RepC M σ w0 β st w) (hv : DenLC st.pc.nv σ β args vs) (hs : ((cFunB E f).run cf args st k).sat L σ) (hn : Foll L M σ w0 β st.pc.nv k next) (u : FrameMode) :
    CallsD E.P f vs.toArray u w (fun e u' w' => u' = u ∧ ∃ v, e = .returned v ∧ next v w') ∧ (callFunc f vs.toArray).run E.P w = .ok (.enter f vs.toArray) w := by
  unfold cFunB at hs
  cases hb : bodyOf E.P f with
  | none => rw [hb] at hs; exact hs.elim
  | some b =>
    rw [hb] at hs
    obtain ⟨h1, h2, _⟩ := bodyOf_some hb
    refine ⟨callsD_of_wp h1 h2 (cEnter_ok hE hcf hR hv hs ?_), bodyOf_call hb _ _⟩
    intro e σ' β' st' w' F' a' g1 g2 g3 g4 g5 g6
    obtain ⟨hu, g6⟩ := wa_sat g6
    rw [mkG_eq] at hu
    have hdf := (g5 σ' (Ag.refl _ _)).defers.none (of_nbeq hu)
    have key : ((cEnd E b.1).f F' st' k).sat L σ' → a'.defers = [] ∧ ∃ v, (results b.1 a'.tmps).run E.P w' = .ok v w' ∧ ∃ v', Ending.returned v = .returned v' ∧ next v' w' := by
      intro hk2
      obtain ⟨v, h5, h6⟩ := cEnd_ok g4 g5 hk2 (fun σ2 β2 st2 w2 s2 v2 a1 a2 a3 => hn σ2 β2 st2 w2 s2 v2 (g1.trans (a1.mono g2)) (Nat.le_trans g2 a2) (g3.trans a3))
      exact ⟨hdf, v, h5, v, rfl, h6⟩
    cases e with
    | nrm => exact key g6
    | ret => exact key g6
    | ext id => exact g6.elim
theorem two2_sat {σ : Nat → Nat} {n : Nat} {l : List SV} {k : SV → SV → Ans} (h : (two2 n l k).sat L σ) : ∃ x y, l = [x, y] ∧ (k x y).sat L σ := by
  match l, h with
  | [], h => exact h.elim
  | [_], h => exact h.elim
  | [x, y], h => exact ⟨x, y, rfl, h⟩
  | _ :: _ :: _ :: _, h => exact h.elim
theorem tup_inv {nv : Nat} {σ : Nat → Nat} {β : Nat → Option (Nat × Nat)} {l : List SV} {vs : List Value} (h : DenC nv σ β (.tuple l) (.tuple vs.toArray)) : DenLC nv σ β l vs := fun σ' ha => by
  have := h σ' ha
  generalize hvv : Value.tuple vs.toArray = vv at this
  cases this with
  | tuple h' => injection hvv with h3; have := congrArg Array.toList h3; simp at this; rw [this]; exact h'
/-- What was deferred is done. -/
theorem runDefs_ok {E : Env} (hE : EnvOk L E) {cf : CallF} (hcf : ∀ M, CallOk E.P L M cf) {fn : Func} {tmps : Array Value} {R : Ending → World → Prop} :
    ∀ (l : List SV) (ds : List Deferred) (σ : Nat → Nat) (w0 : World) (β : Nat → Option (Nat × Nat)) (st : St) (w : World) (k : St → Ans), RepC M σ w0 β st w → DenLC st.pc.nv σ β l (ds.map defEnc) → (runDefs E cf l st k).sat L σ →
      (∀ σ' β' st' w', Ag st.pc.nv σ σ' → st.pc.nv ≤ st'.pc.nv → Ext β β' → RepC M σ' w0 β' st' w' → (k st').sat L σ' → Leaves E.P fn tmps R [] .returning w') → Leaves E.P fn tmps R ds .returning w := by
  intro l
  induction l with
  | nil =>
    intro ds σ w0 β st w k hR hl hs hn
    have h0 := hl σ (Ag.refl _ _)
    cases ds with
    | cons _ _ => cases h0
    | nil => exact hn σ β st w (Ag.refl _ _) (Nat.le_refl _) (Ext.refl β) hR hs
  | cons x l ih =>
    intro ds σ w0 β st w k hR hl hs hn
    cases ds with
    | nil => have h0 := hl σ (Ag.refl _ _); cases h0
    | cons d ds =>
      have hx : DenC st.pc.nv σ β x (defEnc d) := fun σ' ha => by cases hl σ' ha with | cons h _ => exact h
      have hl' : DenLC st.pc.nv σ β l (ds.map defEnc) := fun σ' ha => by cases hl σ' ha with | cons _ h => exact h
      obtain ⟨t, ht, hs⟩ := oa_sat (show (oa 226 (svTup x) fun x => two2 226 x fun g y => oa 156 (svFunc g) fun f => oa 226 (svTup y) fun args =>
        forceN f.1 fun n => (cFunB E n).run cf (appR args f.2) st fun _ st' => runDefs E cf l st' k).sat L σ from hs)
      obtain ⟨g, y, rfl, hs⟩ := two2_sat hs
      obtain ⟨f, hf, hs⟩ := oa_sat hs
      obtain ⟨args, hargs, hs⟩ := oa_sat hs
      rw [forceN_eq, appR_eq] at hs
      have hx1 : DenC st.pc.nv σ β (.tuple [g, y]) (defEnc d) := fun σ' ha => svTup_some ht (hx σ' ha)
      obtain ⟨tg, dargs⟩ := d
      cases tg with
      | fn fv cap =>
        have h2 : DenLC st.pc.nv σ β [g, y] [.func fv #[] cap, .tuple dargs] := tup_inv hx1
        have hg : DenC st.pc.nv σ β (.func f.1 f.2) (.func fv #[] cap) := fun σ' ha => by cases h2 σ' ha with | cons h _ => exact svFunc_o hf (.inr h)
        have hy : DenC st.pc.nv σ β (.tuple args) (.tuple dargs) := fun σ' ha => by
          cases h2 σ' ha with | cons _ t2 => cases t2 with | cons h _ => exact svTup_some hargs h
        have ha1 : DenLC st.pc.nv σ β args dargs.toList := tup_inv (by simpa using hy)
        have hg0 := hg σ (Ag.refl _ _)
        generalize hfv : Value.func fv #[] cap = fvv at hg0
        cases hg0 with
        | func hcap0 =>
          rename_i cvs
          injection hfv with e1 e2 e3
          subst e1 e3
          have hcap : DenLC st.pc.nv σ β f.2 cvs := fun σ' ha => by
            have := hg σ' ha
            generalize hvv : Value.func (.func f.1) #[] cvs.toArray = vv at this
            cases this with
            | func h' => injection hvv with _ _ h3; have := congrArg Array.toList h3; simp at this; rw [this]; exact h'
          obtain ⟨c1, c2⟩ := cFunB_ok hE hcf (next := fun _ w' => Leaves E.P fn tmps R ds .returning w') hR (ha1.append hcap) hs (fun σ' β' st' w' s v a1 a2 a3 a4 _ a6 =>
            ih ds σ' w0 β' st' w' k a4 ((hl'.mono a3).ag a2 a1) a6 (fun σ2 β2 st2 w2 b1 b2 b3 => hn σ2 β2 st2 w2 (a1.trans (b1.mono a2)) (Nat.le_trans a2 b2) (a3.trans b3))) .returning
          refine leaves_cons (by simp) ?_ (c1.mono ?_)
          · show (invoke (.fn (.func f.1) cvs.toArray) dargs).run E.P w = .ok (.enter f.1 _) w
            simp only [invoke]
            rw [show dargs ++ cvs.toArray = (dargs.toList ++ cvs).toArray from by apply Array.ext'; simp]
            exact c2
          · rintro e u' w' ⟨rfl, v, rfl, h⟩
            exact h
      | _ =>
        have h0 := hx1 σ (Ag.refl _ _)
        cases h0
theorem cFun_ok {E : Env} (hE : EnvOk L E) {cf : CallF} (hcf : ∀ M, CallOk E.P L M cf) : CallOk E.P L M (fun f args st k => (cFun E f).run cf args st k) := by
  intro σ w0 β st w f args vs k next hR hv hs hn
  change ((cFun E f).run cf args st k).sat L σ at hs
  unfold cFun at hs
  cases hb : bodyOf E.P f with
  | none => rw [hb] at hs; exact hs.elim
  | some b =>
    rw [hb] at hs
    obtain ⟨h1, h2, _⟩ := bodyOf_some hb
    refine ⟨calls_of_wp_defers h1 h2 (cEnter_ok hE hcf hR hv hs ?_), bodyOf_call hb _ _⟩
    intro e σ' β' st' w' F' a' g1 g2 g3 g4 g5 g6
    have key : ((cEndD E b.1 cf).f F' st' k).sat L σ' → Leaves E.P b.1 a'.tmps (fun e w' => ∃ v, e = .returned v ∧ next v w') a'.defers .returning w' := by
      intro hk2
      change (bc (Nat.beq ((mkG 511).g F').1 19) ((cEnd E b.1).f F' st' k) (oa 226 (svTup ((mkG 511).g F')) fun l => runDefs E cf l st' fun st => (cEnd E b.1).f F' st k)).sat L σ' at hk2
      rw [mkG_eq] at hk2
      have fin : ∀ σ2 β2 st2 w2, Ag st'.pc.nv σ' σ2 → st'.pc.nv ≤ st2.pc.nv → Ext β' β2 → RepC M σ2 w0 β2 st2 w2 → ((cEnd E b.1).f F' st2 k).sat L σ2 → Leaves E.P b.1 a'.tmps (fun e w' => ∃ v, e = .returned v ∧ next v w') [] .returning w2 := by
        intro σ2 β2 st2 w2 a1 a2 a3 a4 a5
        obtain ⟨v, h5, h6⟩ := cEnd_ok a4 ((g5.mono a3).ag a2 a1) a5 (fun σ3 β3 st3 w3 s3 v3 c1 c2 c3 => hn σ3 β3 st3 w3 s3 v3 (g1.trans ((a1.trans (c1.mono a2)).mono g2)) (Nat.le_trans g2 (Nat.le_trans a2 c2)) (g3.trans (a3.trans c3)))
        exact ⟨v, h5, v, rfl, h6⟩
      cases hu : Nat.beq (getF 511 F').1 19
      · rw [hu] at hk2
        obtain ⟨l, hl, hk2⟩ := oa_sat hk2
        refine runDefs_ok hE hcf l a'.defers σ' w0 β' st' w' _ g4 ?_ hk2 fin
        have hdc : DenC st'.pc.nv σ' β' (.tuple l) (.tuple (a'.defers.map defEnc).toArray) := fun σ2 ha => by
          rcases (g5 σ2 ha).defers with ⟨hh, _⟩ | hh
          · rw [nbeq_t hh] at hu; cases hu
          · exact svTup_some hl hh
        exact tup_inv hdc
      · rw [hu] at hk2
        have hdf := (g5 σ' (Ag.refl _ _)).defers.none (of_nbeq hu)
        rw [hdf]
        exact fin σ' β' st' w' (Ag.refl _ _) (Nat.le_refl _) (Ext.refl β') g4 hk2
    cases e with
    | nrm => exact key g6
    | ret => exact key g6
    | ext id => exact g6.elim

/-- A call that leaves what there was. -/
theorem below_rep {M : Md} {σ w0 β} {st : St} {w w' : World} (h : Rep M σ w0 β st w) (e2 : Below w.heap.size w w') : Rep M σ w0 β st w' := by
  refine ⟨⟨e2.os.trans h.kept.os, e2.tape.trans h.kept.tape, e2.output.trans h.kept.output, Nat.le_trans h.kept.size e2.size, fun j hj hm => ?_⟩, h.rdlt, h.fresh, fun o he ho => ?_, h.inj, h.glob⟩
  · rw [e2.block j (Nat.lt_of_lt_of_le hj h.kept.size)]; exact h.kept.block j hj hm
  · obtain ⟨b, c, x, g1, g2, g3, g4⟩ := h.heap o he ho
    exact ⟨b, c, x, g1, by rw [e2.block b (Array.getElem?_eq_some_iff.1 g2).1]; exact g2, g3, g4⟩
theorem callE_ok {E : Env} (hE : EnvOk L E) {ih : CallF} (hi : ∀ M, CallOk E.P L M ih) (M : Md) : CallOk E.P L M (callE E ih) := by
  intro σ w0 β st w f args vs k next hR hv hs hn
  change (bc (E.fr f) ((cFun E f).run ih args ⟨.nil, st.nn, st.pc⟩ fun s st2 => k s ⟨st.hp, st2.nn, st2.pc⟩) ((cFun E f).run ih args st k)).sat L σ at hs
  cases hf : E.fr f
  · rw [hf] at hs
    exact cFun_ok hE hi σ w0 β st w f args vs k next hR hv hs hn
  · rw [hf] at hs
    have hR1 : RepC ⟨fun _ => False, M.rd⟩ σ w β ⟨.nil, st.nn, st.pc⟩ w := ⟨hR.1, fun σ' ha => by
      have h := hR.2 σ' ha
      exact ⟨Kept.refl _ _, fun b hb => Nat.lt_of_lt_of_le (h.rdlt b hb) h.kept.size, h.fresh, (fun o he ho => by rw [Tr.get_nil] at ho; cases ho), (fun o o' he he' b c c' ho => by rw [Tr.get_nil] at ho; cases ho), h.glob⟩⟩
    refine cFun_ok hE hi (M := ⟨fun _ => False, M.rd⟩) σ w β ⟨.nil, st.nn, st.pc⟩ w f args vs _ next hR1 hv hs ?_
    intro σ' β' st' w' s v g1 g2 g3 g4 g5 g6
    refine hn σ' β' ⟨st.hp, st'.nn, st'.pc⟩ w' s v g1 g2 g3 ⟨g4.1, fun σ'' ha => ?_⟩ g5 g6
    have h := hR.2 σ'' (g1.trans (ha.mono g2))
    have h' := g4.2 σ'' ha
    have hsame : ∀ b : Nat, b < w.heap.size → w'.heap[b]? = w.heap[b]? := fun b hb => h'.kept.block b hb id
    refine ⟨⟨h'.kept.os.trans h.kept.os, h'.kept.tape.trans h.kept.tape, h'.kept.output.trans h.kept.output, Nat.le_trans h.kept.size h'.kept.size, fun j hj hm => ?_⟩, h.rdlt, h'.fresh, fun o he ho => ?_, fun o o' he he' b c c' ho ho' hr hb hb' => ?_, h'.glob⟩
    · rw [hsame j (Nat.lt_of_lt_of_le hj h.kept.size)]; exact h.kept.block j hj hm
    · obtain ⟨b, c, x, e1, e2, e3, e4⟩ := h.heap o he ho
      have hlt : b < w.heap.size := (Array.getElem?_eq_some_iff.1 e2).1
      exact ⟨b, c, x, g3 _ _ e1, by rw [hsame b hlt]; exact e2, e3.mono g3, e4⟩
    · obtain ⟨b1, c1, x1, e1, _⟩ := h.heap o he ho
      obtain ⟨b2, c2, x2, e2, _⟩ := h.heap o' he' ho'
      have k1 := g3 _ _ e1
      have k2 := g3 _ _ e2
      rw [hb] at k1; cases k1
      rw [hb'] at k2; cases k2
      exact h.inj o o' he he' b c c' ho ho' hr e1 e2
theorem callN_ok {E : Env} (hE : EnvOk L E) : ∀ n (M : Md), CallOk E.P L M (callN E n)
  | 0, _ => fun _ _ _ _ _ _ _ _ _ _ _ _ h _ => h.elim
  | n + 1, M => by
    intro σ w0 β st w f args vs k next hR hv hs hn
    change (bc (E.tr f) (wa 228 (hasTabs E.gt st.hp) (List.rec (motive := fun _ => Ans) (k (.bool (.lit 1)) st) (fun _ _ _ => .bad 224) args)) (memK E f args st k fun k => callE E (callN E n) f args st k)).sat L σ at hs
    cases ht : E.tr f
    rotate_left
    · rw [ht] at hs
      obtain ⟨htab, hs⟩ := wa_sat (show (wa 228 (hasTabs E.gt st.hp) _).sat L σ from hs)
      have htab := hasTabs_ok (hR.2 σ (Ag.refl _ _)) htab
      cases args with
      | cons _ _ => exact hs.elim
      | nil =>
        have hv0 := hv σ (Ag.refl _ _)
        cases hv0
        obtain ⟨c1, c2⟩ := hE.tru f ht w htab
        refine ⟨Calls.mono c1 fun e w' ⟨e1, e2⟩ => ⟨.bool true, e1, ?_⟩, c2⟩
        exact hn σ β st w' (.bool (.lit 1)) (.bool true) (Ag.refl _ _) (Nat.le_refl _) (Ext.refl β) ⟨hR.1, fun σ' ha => below_rep (hR.2 σ' ha) e2⟩ (fun σ' _ => bit_den (n := 1) (Nat.le_refl 1)) hs
    rw [ht] at hs
    change (memK E f args st k fun k => callE E (callN E n) f args st k).sat L σ at hs
    have plain : ∀ k, (callE E (callN E n) f args st k).sat L σ → Foll L M σ w0 β st.pc.nv k next → Calls E.P f vs.toArray w (fun e w' => ∃ v, e = .returned v ∧ next v w') ∧ (callFunc f vs.toArray).run E.P w = .ok (.enter f vs.toArray) w :=
      fun k hs hn => callE_ok hE (callN_ok hE n) M σ w0 β st w f args vs k next hR hv hs hn
    have noK' : ∀ f' args', (noK E f' args' k fun k => callE E (callN E n) f args st k).sat L σ → Calls E.P f vs.toArray w (fun e w' => ∃ v, e = .returned v ∧ next v w') ∧ (callFunc f vs.toArray).run E.P w = .ok (.enter f vs.toArray) w := by
      intro f' args' hs
      change (bc E.dbg (.note (enC f' args') (callE E (callN E n) f args st fun s st' => .note (enC 0 [s]) (k s st'))) (callE E (callN E n) f args st k)).sat L σ at hs
      cases hd : E.dbg
      · rw [hd] at hs; exact plain k hs hn
      · rw [hd] at hs
        exact plain _ hs fun σ' β' st' w' s v g1 g2 g3 g4 g5 g6 => hn σ' β' st' w' s v g1 g2 g3 g4 g5 g6
    unfold memK at hs
    cases hm : E.mf f
    · rw [hm] at hs; exact plain k hs hn
    rw [hm] at hs
    rw [show bc true (forceN f _) _ = _ from forceN_eq f _] at hs
    rcases qvL_ok args (fun args' => Option.rec (motive := fun _ => Ans) (noK E f args' k fun k => callE E (callN E n) f args st k) (fun s => k s st) (E.mm f args'))
      (Option.rec (motive := fun _ => Ans) (noK E f args k fun k => callE E (callN E n) f args st k) (fun s => deepS s fun s => k s st) (E.ms f st.pc args)) with e | ⟨args', e, ec⟩
    · rw [show qvL args _ _ = _ from e] at hs
      cases hms : E.ms f st.pc args with
      | none => rw [hms] at hs; exact noK' _ _ hs
      | some s =>
        rw [hms] at hs
        change (deepS s fun s => k s st).sat L σ at hs
        rw [deepS_eq] at hs
        obtain ⟨c1, c2⟩ := hE.sum f st.pc args s hms σ β w vs hR.1 hv
        refine ⟨Calls.mono c1 fun e w' ⟨v, e1, ev, e2⟩ => ⟨v, e1, ?_⟩, c2⟩
        exact hn σ β st w' s v (Ag.refl _ _) (Nat.le_refl _) (Ext.refl β) ⟨hR.1, fun σ' ha => below_rep (hR.2 σ' ha) e2⟩ ev hs
    · rw [show qvL args _ _ = _ from e] at hs
      cases hmm : E.mm f args' with
      | none => rw [hmm] at hs; exact noK' _ _ hs
      | some s =>
        rw [hmm] at hs
        obtain ⟨c1, c2⟩ := hE.mem f args' s hmm w vs (ec σ β vs (hv σ (Ag.refl _ _)))
        refine ⟨Calls.mono c1 fun e w' ⟨v, e1, ev, e2⟩ => ⟨v, e1, ?_⟩, c2⟩
        exact hn σ β st w' s v (Ag.refl _ _) (Nat.le_refl _) (Ext.refl β) ⟨hR.1, fun σ' ha => below_rep (hR.2 σ' ha) e2⟩ (fun σ' _ => ev σ' β) hs

theorem eff0_ok {N : Nat} {o : Oper} {h : HX} (he : eff0 P o.op = some h) : HXok P L M N o h := by
  obtain ⟨dst, op, ty, pos, af, g⟩ := o
  unfold eff0 at he
  split at he <;> rename_i hop <;> (try change op = _ at hop) <;> (try subst hop) <;> (try cases he)
  · exact hAlloc_ok
  · exact hBox_ok
  · exact hBuildSlice_ok
  · exact hLoad_ok
  · exact hStore_ok
  · rename_i b args ats
    cases hb : Nat.beq b.ctorIdx Builtin.append.ctorIdx
    · rw [hb] at he; cases he
    · rw [hb] at he; cases he
      have := builtin_idx (of_nbeq hb)
      subst this
      exact hAppend_ok
  · exact hCall_ok
end

end Go.Sy
end

section
/- A law from one symbolic run. -/
namespace Go.Sy
open Go.RowKit

abbrev Never : Md := ⟨fun _ => False, fun _ => False⟩
theorem st0_okC (σ : Nat → Nat) {nv : Nat} {lems : List Vc} (hl : ∀ σ, ∀ v ∈ lems, v.ok σ) : (st0 lems nv).pc.okC σ := by
  refine fun σ' _ => ⟨?_, ?_, ?_, ?_, hl σ'⟩
  · intro t h; cases h
  · intro t h; cases h
  · intro t h; cases h
  · intro t h; cases h

theorem endTrue_ok {L σ} {st : St} {nv β s v} (h : (endTrue s st).sat L σ) (hp : st.pc.okC σ) (hnv : nv = st.pc.nv) (hd : DenC nv σ β s v) : v = .bool true := by
  obtain ⟨t, ht, h⟩ := oa_sat h
  subst hnv
  obtain ⟨h1, rfl⟩ := bool_TS ht (fun σ' ha => .inr (hd σ' ha))
  rcases br_ok hp h1 h with ⟨e, _⟩ | ⟨_, pc', hp', _, h2⟩
  · congr 1
    simpa using e
  · change (bc (deadPC pc') .ok (.bad 231) : Ans).sat L σ at h2
    cases hd : deadPC pc'
    · rw [hd] at h2; exact h2.elim
    · exact (deadPC_ok hp'.ok hd).elim

/-! ### A law by parts: with facts assumed -/
/-- All variables are given ones. -/
noncomputable def varsLt (nv : Nat) (t : Tm) : Bool := Tm.rec (fun _ => true) (fun i _ => Nat.blt i nv) (fun _ _ _ x => x) (fun _ _ _ _ x y => bc x y false) (fun _ _ _ x y z => bc x (bc y z false) false) (fun _ _ _ _ => false) t
theorem varsLt_ok {nv : Nat} {σ σ' : Nat → Nat} (ha : Ag nv σ σ') : ∀ {t : Tm}, varsLt nv t = true → t.ev σ' = t.ev σ := by
  intro t
  induction t with
  | lit n => intro _; rfl
  | var i w => intro h; show σ' i % 2 ^ w = σ i % 2 ^ w; rw [ha.1 i (of_nblt h)]
  | un o w a ih => intro h; show o.ev w (a.ev σ') = o.ev w (a.ev σ); rw [ih h]
  | bin o w a b iha ihb =>
    intro h
    obtain ⟨h1, h2⟩ := bc_tf h
    show o.ev w (a.ev σ') (b.ev σ') = o.ev w (a.ev σ) (b.ev σ)
    rw [iha h1, ihb h2]
  | ite c a b ihc iha ihb =>
    intro h
    obtain ⟨h1, h2⟩ := bc_tf h
    obtain ⟨h2, h3⟩ := bc_tf h2
    show bc (Nat.beq (c.ev σ') 0) (b.ev σ') (a.ev σ') = bc (Nat.beq (c.ev σ) 0) (b.ev σ) (a.ev σ)
    rw [ihc h1, iha h2, ihb h3]
  | app f w a _ => intro h; cases h
noncomputable def pcA (pc : PC) (asm : List Tm) : PC := List.rec pc (fun t _ ih => PC.add ih t false) asm
theorem pcA_nv (pc : PC) : ∀ asm : List Tm, (pcA pc asm).nv = pc.nv
  | [] => rfl
  | _ :: asm => (PC.add_nv _ _ _).trans (pcA_nv pc asm)
noncomputable def allLt (nv : Nat) (asm : List Tm) : Bool := List.rec true (fun t _ ih => bc (varsLt nv t) ih false) asm
theorem pcA_ok {σ} {pc : PC} (h : pc.okC σ) : ∀ {asm : List Tm}, allLt pc.nv asm = true → (∀ t ∈ asm, t.ev σ ≠ 0) → (pcA pc asm).okC σ
  | [], _, _ => h
  | t :: asm, hv, ha => by
    obtain ⟨h1, h2⟩ := bc_tf hv
    refine PC.add_okC (pcA_ok h h2 fun x hx => ha x (List.mem_cons_of_mem _ hx)) (t := t) (neg := false) ⟨fun _ => ha t List.mem_cons_self, (fun h => by cases h)⟩ ?_
    intro σ' hg
    rw [pcA_nv] at hg
    rw [varsLt_ok hg h1]
/-- The effects all runs have. -/
noncomputable def effRest (P : Program) (o : Op) : Option HX := Option.rec (Option.rec (Option.rec (effIt P o) (fun h => some h) (Option.rec (effCv P o) (fun h => some h) (effStr P o))) (fun h => some h) (effMap P o)) (fun h => some h) (eff0 P o)
noncomputable def effAll (P : Program) (o : Op) : Option HX := Option.rec (effRest P o) (fun h => some h) (effSit P o)
theorem effRest_ok {P : Program} {L M N} {o : Oper} {h : HX} (he : effRest P o.op = some h) : HXok P L M N o h := by
  unfold effRest at he
  cases h0 : eff0 P o.op with
  | some h' => rw [h0] at he; cases he; exact eff0_ok h0
  | none =>
    rw [h0] at he
    cases h1 : effMap P o.op with
    | some h' => rw [h1] at he; cases he; exact effMap_ok h1
    | none =>
      rw [h1] at he
      cases h2 : effStr P o.op with
      | some h' => rw [h2] at he; cases he; exact effStr_ok h2
      | none =>
        rw [h2] at he
        cases h3 : effCv P o.op with
        | some h' => rw [h3] at he; cases he; exact effCv_ok h3
        | none => rw [h3] at he; exact effIt_ok he
theorem effAll_ok {P : Program} {L M N} {o : Oper} {h : HX} (he : effAll P o.op = some h) : HXok P L M N o h := by
  unfold effAll at he
  cases h1 : effSit P o.op with
  | some h' => rw [h1] at he; cases he; exact effSit_ok h1
  | none => rw [h1] at he; exact effRest_ok he
noncomputable def env0 (P : Program) (LF : Nat) (dbg : Bool) : Env := ⟨P, LF, dbg, effAll P, fun _ => [], fun _ => none, fun _ _ => none, fun _ => none, fun _ => false, fun _ => false, fun _ => false, [], fun _ => false, fun _ _ => none, fun _ _ _ => none⟩
/-- With what stays in loops. -/
noncomputable def envL (P : Program) (LF : Nat) (dbg : Bool) (l : List LK) (j : List LK := []) (r : List RJ := []) (w : List LK := []) (t : List (Nat × Nat) := []) (fr : List Nat := []) (tr : List Nat := []) (gt : List Tab := []) (mf : List Nat := []) (mt : List MT := []) (ms : List SM := []) : Env := ⟨P, LF, dbg, effAll P, hlOf l, liOf j, rjOf r, liOf w, tgOf t, fun f => memNat f fr, fun f => memNat f tr, gt, fun f => memNat f mf, lookM mt, lookS ms⟩
theorem memNat_t {o : Nat} : ∀ {l : List Nat}, memNat o l = true → o ∈ l
  | [], h => by cases h
  | x :: l, h => by
    change bc (Nat.beq x o) true (memNat o l) = true at h
    by_cases e : x = o
    · rw [e]; exact List.mem_cons_self
    · rw [nbeq_f e] at h; exact List.mem_cons_of_mem _ (memNat_t h)
/-- What is known over variables is known of terms. -/
theorem sum_at {P : Program} {ms : List SM} (hs : ∀ e ∈ ms, SumFn P e) {f : Nat} {pc : PC} {args : List SV} {s : SV} (h : lookS ms f pc args = some s) {σ : Nat → Nat} {β : Nat → Option (Nat × Nat)} (w : World) {vs : List Value} (hp : pc.okC σ) (hv : DenLC pc.nv σ β args vs) :
    (Calls P f vs.toArray w fun x w' => ∃ v, x = .returned v ∧ DenC pc.nv σ β s v ∧ Below w.heap.size w w') ∧ (callFunc f vs.toArray).run P w = .ok (.enter f vs.toArray) w := by
  obtain ⟨e, he, rfl, l, h1, rfl, rfl⟩ := lookS_some h
  obtain ⟨hok, hf⟩ := hs e he
  obtain ⟨k1, k2⟩ := bc_tf hok
  have hid : ∀ σ : Nat → Nat, ∀ t, cltT e.ws t = true → (subT (idL e.ws) t).ev (sgm l σ) = t.ev (sgm l σ) := fun σ t ht => idL_ev ht
  have fit : ∀ σ', Ag pc.nv σ σ' → Fit e.ws l σ' := fun σ' ha => fitB_fit h1 (hp σ' ha)
  have same : ∀ σ', Ag pc.nv σ σ' → ∀ i, i < e.ws.length → sgm l σ' i = sgm l σ i := fun σ' ha i hi => by
    have hil : i < l.length := (fitB_len h1) ▸ hi
    unfold sgm
    rw [List.getElem?_eq_getElem hil]
    exact vltT_ok ha (fitB_at h1 i _ _ (List.getElem?_eq_getElem hi) (List.getElem?_eq_getElem hil)).2
  obtain ⟨c1, c2⟩ := hf (sgm l σ) w vs fun β' => fl_denL (fun t ht => (subT_ev (fit σ (Ag.refl _ _)) ht).trans (hid σ t ht).symm) k1 β β' vs (hv σ (Ag.refl _ _))
  refine ⟨Calls.mono c1 fun x w' ⟨v, e1, e2, e3⟩ => ⟨v, e1, fun σ' ha => ?_, e3⟩, c2⟩
  exact fl_den (fun t ht => by rw [hid σ t ht, subT_ev (fit σ' ha) ht]; exact (cltT_ag (same σ' ha) ht).symm) e.s k2 β β v (e2 β)
theorem envL_okT {P : Program} (hm : P.follows .mixedOrders = true) {LF dbg l j r w t fr tr gt mf mt ms L} (ht : ∀ f ∈ tr, TrueFn P gt f) (hk : ∀ e ∈ mt, MemFn P e.f e.args e.s) (hs : ∀ e ∈ ms, SumFn P e) : EnvOk L (envL P LF dbg l j r w t fr tr gt mf mt ms) :=
  ⟨hm, fun _ _ _ _ h => effAll_ok h, fun f h => ht f (memNat_t h), (fun f args s h => by
    obtain ⟨e, he, rfl, rfl, rfl⟩ := lookM_some (show lookM mt f args = some s from h)
    exact hk e he), fun f pc args s h σ β w vs hp hv => sum_at hs h w hp hv⟩
theorem envL_ok {P : Program} (hm : P.follows .mixedOrders = true) {LF dbg l j r w t fr gt L} : EnvOk L (envL P LF dbg l j r w t fr [] gt) := envL_okT hm (fun _ h => by cases h) (fun _ h => by cases h) (fun _ h => by cases h)
theorem env0_ok {P : Program} (hm : P.follows .mixedOrders = true) {LF dbg L} : EnvOk L (env0 P LF dbg) := ⟨hm, fun _ _ _ _ h => effAll_ok h, (fun _ h => by cases h), (fun _ _ _ h => by cases h), (fun _ _ _ _ h => by cases h)⟩
/-! ### Calls that are known -/
noncomputable def memRun (E : Env) (n : Nat) (e : MT) : Ans := callN E n e.f e.args (st0 [] 0) (fun r _ => qvS r (fun r => wa 234 (sameS 8 r e.s) .ok) (.bad 235))
theorem memFn_of {E : Env} (hE : EnvOk (fun _ _ => True) E) {n : Nat} {e : MT} (h : (memRun E n e).good = true) : MemFn E.P e.f e.args e.s := by
  intro w vs hv
  let β : Nat → Option (Nat × Nat) := fun g => if g < 64 then some (g, 0) else none
  have hb : ∀ g, g < 64 → β g = some (g, 0) := fun g hg => if_pos hg
  have h0 : RepC ⟨fun _ => False, fun _ => False⟩ (fun _ => 0) w β (st0 [] 0) w := ⟨st0_okC (nv := 0) _ (fun _ v hv => by cases hv), fun σ' _ =>
    ⟨Kept.refl _ _, fun b hb => hb.elim, fun o ho => if_neg (Nat.not_lt.2 ho), (fun o he ho => by rw [show (st0 [] 0).hp = .nil from rfl, Tr.get_nil] at ho; cases ho), (fun o o' he he' b c c' ho => by rw [show (st0 [] 0).hp = .nil from rfl, Tr.get_nil] at ho; cases ho), hb⟩⟩
  obtain ⟨h1, h2⟩ := callN_ok hE n _ (fun _ => 0) w β _ w e.f e.args vs _ (fun v w' => Clo e.s v ∧ Below w.heap.size w w') h0 (fun σ' _ => hv σ' β) (Ans.good_sat h _ _) (by
    intro σ' β' st' w' s v g1 g2 g3 g4 g5 g6
    change (qvS s (fun r => wa 234 (sameS 8 r e.s) .ok) (.bad 235)).sat _ σ' at g6
    rcases qvS_ok s (fun r => wa 234 (sameS 8 r e.s) .ok) (.bad 235) with e1 | ⟨s', e1, ec⟩
    · rw [e1] at g6; exact g6.elim
    · rw [e1] at g6
      obtain ⟨g7, _⟩ := wa_sat g6
      refine ⟨?_, ?_⟩
      · rw [← sameS_eq 8 g7]; exact ec σ' β' v (g5 σ' (Ag.refl _ _))
      · exact (g4.2 σ' (Ag.refl _ _)).kept.below)
  exact ⟨Calls.mono h1 fun e w' ⟨v, e1, e2, e3⟩ => ⟨v, e1, e2, e3⟩, h2⟩

/-- A run over variables of its own. -/
noncomputable def sumRun (E : Env) (n : Nat) (e : SM) : Ans := wa 236 (okSM e) (forceN (lenR e.ws) fun nv => callN E n e.f (subW (idL e.ws) e.args) (st0 [] nv) (fun r _ => wa 234 (sameS 8 r (subV (idL e.ws) e.s)) .ok))
theorem sumFn_of {E : Env} (hE : EnvOk (fun _ _ => True) E) {n : Nat} {e : SM} (h : (sumRun E n e).good = true) : SumFn E.P e := by
  have h0 : ∀ σ, (sumRun E n e).sat (fun _ _ => True) σ := fun σ => Ans.good_sat h _ σ
  obtain ⟨hok, _⟩ := wa_sat (h0 fun _ => 0)
  obtain ⟨k1, k2⟩ := bc_tf hok
  refine ⟨hok, fun σ w vs hv => ?_⟩
  obtain ⟨_, hs⟩ := wa_sat (h0 σ)
  rw [forceN_eq] at hs
  let β : Nat → Option (Nat × Nat) := fun g => if g < 64 then some (g, 0) else none
  have hb : ∀ g, g < 64 → β g = some (g, 0) := fun g hg => if_pos hg
  have hlen : lenR e.ws = e.ws.length := lenR_eq e.ws
  have hR : RepC ⟨fun _ => False, fun _ => False⟩ σ w β (st0 [] (lenR e.ws)) w := ⟨st0_okC (nv := lenR e.ws) _ (fun _ v hv => by cases hv), fun σ' _ =>
    ⟨Kept.refl _ _, fun b hb => hb.elim, fun o ho => if_neg (Nat.not_lt.2 ho), (fun o he ho => by rw [show (st0 [] (lenR e.ws)).hp = .nil from rfl, Tr.get_nil] at ho; cases ho), (fun o o' he he' b c c' ho => by rw [show (st0 [] (lenR e.ws)).hp = .nil from rfl, Tr.get_nil] at ho; cases ho), hb⟩⟩
  have ag : ∀ σ', Ag (lenR e.ws) σ σ' → ∀ t, cltT e.ws t = true → (subT (idL e.ws) t).ev σ = (subT (idL e.ws) t).ev σ' := fun σ' ha t ht => by
    rw [idL_ev ht, idL_ev ht]
    exact (cltT_ag (fun i hi => ha.1 i (hlen.symm ▸ hi)) ht).symm
  obtain ⟨h1, h2⟩ := callN_ok hE n _ σ w β _ w e.f _ vs _ (fun v w' => (∀ β, Den σ β (subV (idL e.ws) e.s) v) ∧ Below w.heap.size w w') hR (fun σ' ha => fl_denL (ag σ' ha) k1 β β vs (hv β)) hs (by
    intro σ' β' st' w' s v g1 g2 g3 g4 g5 g6
    obtain ⟨g7, _⟩ := wa_sat (show (wa 234 (sameS 8 s (subV (idL e.ws) e.s)) .ok).sat _ σ' from g6)
    refine ⟨fun β'' => ?_, (g4.2 σ' (Ag.refl _ _)).kept.below⟩
    have hd := g5 σ' (Ag.refl _ _)
    rw [sameS_eq 8 g7] at hd
    exact fl_den (fun t ht => (ag σ' g1 t ht).symm) e.s k2 β' β'' v hd)
  exact ⟨Calls.mono h1 fun x w' ⟨v, e1, e2, e3⟩ => ⟨v, e1, e2, e3⟩, h2⟩
end Go.Sy
end

section
/- A row from one symbolic run: parameters that are numbers, truths, and structs and arrays of these. -/
namespace Go.Sy
open Go.RowKit Go.ChangeShapes Go.WideShapes

/-- The symbolic value of a cell's type; its variable's number. -/
noncomputable def symCellV (P : Program) (t : TypeId) (i : Nat) : Option SV :=
  match P.underlying t with
  | some (.int k) => some (.int k (.var i k.bits))
  | some .bool => some (.bool (.var i 1))
  | _ => none
noncomputable def symCells (P : Program) (ts : List TypeId) : Nat → Option (List SV) :=
  List.rec (motive := fun _ => Nat → Option (List SV)) (fun _ => some []) (fun t _ ih i => (symCellV P t i).bind fun s => (ih (Nat.succ i)).bind fun l => some (s :: l)) ts
noncomputable def symOne (P : Program) (t : TypeId) (i : Nat) : Option (SV × Nat) :=
  match P.underlying t with
  | some (.struct _) | some (.array _ _) => (P.cellTypes P.depth t).bind fun ts => bc (Nat.beq (P.cellsOf t) ts.length) ((symCells P ts i).bind fun l => some (.agg l, i + ts.length)) none
  | _ => (symCellV P t i).bind fun s => some (s, i + 1)
noncomputable def symArgs (P : Program) (ts : List TypeId) : Nat → Option (List SV × Nat) :=
  List.rec (motive := fun _ => Nat → Option (List SV × Nat)) (fun i => some ([], i)) (fun t _ ih i => (symOne P t i).bind fun s => (ih s.2).bind fun l => some (s.1 :: l.1, l.2)) ts

theorem wrap_has {k : IntKind} {n : Int} (h : k.has n) : k.wrap n = n := by
  obtain ⟨h1, h2⟩ := h
  have hp : (2 : Int) ^ k.bits = 2 * 2 ^ (k.bits - 1) := by
    have := bits_pos k
    conv => lhs; rw [show k.bits = (k.bits - 1) + 1 by omega, Int.pow_succ]
    omega
  have hpos : (0 : Int) < 2 ^ (k.bits - 1) := by exact_mod_cast Nat.two_pow_pos (k.bits - 1)
  unfold IntKind.min at h1
  unfold IntKind.max at h2
  unfold IntKind.wrap
  cases hs : k.signed
  · rw [hs] at h1 h2
    simp only [Bool.false_eq_true, if_false] at h1 h2
    have : n % 2 ^ k.bits = n := Int.emod_eq_of_lt (by omega) (by omega)
    simp [this]
  · rw [hs] at h1 h2
    simp only [if_true] at h1 h2
    by_cases h0 : 0 ≤ n
    · have : n % 2 ^ k.bits = n := Int.emod_eq_of_lt h0 (by omega)
      simp only [this, Bool.true_and]
      rw [if_neg (by simp; omega)]
    · have : n % 2 ^ k.bits = n + 2 ^ k.bits := by
        rw [← Int.add_emod_right, Int.emod_eq_of_lt (by omega) (by omega)]
      simp only [this, Bool.true_and]
      rw [if_pos (by simp; omega)]
      omega
theorem int_bits {k : IntKind} {n : Int} (h : k.has n) : ofB k ((n % 2 ^ k.bits).toNat) = n := by
  have hp : (0 : Int) < 2 ^ k.bits := by exact_mod_cast Nat.two_pow_pos k.bits
  have h0 : 0 ≤ n % 2 ^ k.bits := Int.emod_nonneg _ (by omega)
  have h1 : ((n % 2 ^ k.bits).toNat : Int) = n % 2 ^ k.bits := Int.toNat_of_nonneg h0
  have h2 : k.wrap n = n := wrap_has h
  unfold ofB
  rw [h1]
  conv => rhs; rw [← h2]
  exact wrap_congr (Int.emod_emod_of_dvd _ (Int.dvd_refl _))
theorem int_lt (k : IntKind) (n : Int) : (n % 2 ^ k.bits).toNat < 2 ^ k.bits := by
  have hp : (0 : Int) < 2 ^ k.bits := by exact_mod_cast Nat.two_pow_pos k.bits
  have h0 : 0 ≤ n % 2 ^ k.bits := Int.emod_nonneg _ (by omega)
  have h1 := Int.emod_lt_of_pos n hp
  have h2 : ((n % 2 ^ k.bits).toNat : Int) = n % 2 ^ k.bits := Int.toNat_of_nonneg h0
  have : ((n % 2 ^ k.bits).toNat : Int) < ((2 ^ k.bits : Nat) : Int) := by rw [h2]; exact_mod_cast h1
  exact_mod_cast this

theorem symCell_ok {P : Program} {W : World} {r : Reach} {b : Nat} {t : TypeId} {v : Value} {i : Nat} {s : SV} (hv : Cell.okWide P W r b t v) (hs : symCellV P t i = some s) :
    ∃ n : Nat, ∀ (σ : Nat → Nat) (β : Nat → Option (Nat × Nat)), σ i = n → Den σ β s v := by
  unfold symCellV at hs
  unfold Cell.okWide at hv
  cases hu : P.underlying t with
  | none => rw [hu] at hs; cases hs
  | some d =>
    rw [hu] at hs hv
    cases d <;> first | (cases hs; done) | skip
    · cases hs
      cases v <;> simp only [Cell.ok, hu] at hv
      rename_i x
      refine ⟨x.toNat, fun σ β h => ?_⟩
      have e : (Tm.var i 1).ev σ = x.toNat := by
        show σ i % 2 ^ 1 = _
        rw [h]; cases x <;> rfl
      have := Den.bool (σ := σ) (β := β) (k := .u8) (a := 0) (b := 0) (t := .var i 1) (u := .lit 0) (c := .lit 0) (l := []) (by rw [e]; cases x <;> decide)
      rw [e] at this
      have e2 : (x.toNat != 0) = x := by cases x <;> rfl
      rw [e2] at this; exact this
    · cases hs
      rename_i k
      cases v <;> simp only [Cell.ok, hu] at hv
      rename_i k' n
      obtain ⟨rfl, hn⟩ := hv
      refine ⟨(n % 2 ^ k'.bits).toNat, fun σ β h => ?_⟩
      have e : (Tm.var i k'.bits).ev σ = (n % 2 ^ k'.bits).toNat := by
        show σ i % 2 ^ k'.bits = _
        rw [h]; exact Nat.mod_eq_of_lt (int_lt k' n)
      have := Den.int (σ := σ) (β := β) (k := k') (a := 0) (b := 0) (t := .var i k'.bits) (u := .lit 0) (c := .lit 0) (l := []) (by rw [e]; exact int_lt k' n)
      rw [e, int_bits hn] at this; exact this

theorem symCells_ok {P : Program} {W : World} {r : Reach} {b : Nat} : ∀ {ts : List TypeId} {vs : List Value} {i : Nat} {l : List SV}, (∀ (j : Nat) (v : Value), vs[j]? = some v → ∃ u, ts[j]? = some u ∧ Cell.okWide P W r b u v) → vs.length = ts.length → symCells P ts i = some l →
    ∃ f : Nat → Nat, ∀ (σ : Nat → Nat) (β : Nat → Option (Nat × Nat)), (∀ j, i ≤ j → j < i + ts.length → σ j = f j) → DenL σ β l vs
  | [], [], i, l, _, _, hs => by
    cases hs
    exact ⟨fun _ => 0, fun _ _ _ => .nil⟩
  | [], _ :: _, _, _, _, hl, _ => by cases hl
  | _ :: _, [], _, _, _, hl, _ => by cases hl
  | t :: ts, v :: vs, i, l, hv, hl, hs => by
    change (symCellV P t i).bind (fun s => (symCells P ts (Nat.succ i)).bind fun l => some (s :: l)) = some l at hs
    cases h1 : symCellV P t i with
    | none => rw [h1] at hs; cases hs
    | some s =>
      rw [h1] at hs
      change (symCells P ts (Nat.succ i)).bind (fun l => some (s :: l)) = some l at hs
      cases h2 : symCells P ts (Nat.succ i) with
      | none => rw [h2] at hs; cases hs
      | some l' =>
        rw [h2] at hs
        cases hs
        obtain ⟨u, hu, hc⟩ := hv 0 v rfl
        cases hu
        obtain ⟨n, hn⟩ := symCell_ok hc h1
        obtain ⟨f, hf⟩ := symCells_ok (ts := ts) (vs := vs) (fun j v h => hv (j + 1) v h) (by simpa using hl) h2
        refine ⟨fun j => if j = i then n else f j, fun σ β h => ?_⟩
        refine .cons (hn σ β ?_) (hf σ β fun j h1 h2 => ?_)
        · rw [h i (Nat.le_refl _) (by simp)]; exact if_pos rfl
        · have : ¬ j = i := by intro e; subst e; exact absurd h1 (Nat.not_succ_le_self _)
          rw [h j (Nat.le_of_succ_le h1) (by simp only [List.length_cons]; rw [Nat.succ_eq_add_one] at h1 h2; omega)]; exact if_neg this

theorem symOne_ok {P : Program} {W : World} {r : Reach} {b : Nat} {t : TypeId} {v : Value} {i : Nat} {s : SV × Nat} (hv : Value.okWide P W r b t v) (hs : symOne P t i = some s) :
    i ≤ s.2 ∧ ∃ f : Nat → Nat, ∀ (σ : Nat → Nat) (β : Nat → Option (Nat × Nat)), (∀ j, i ≤ j → j < s.2 → σ j = f j) → Den σ β s.1 v := by
  have cell : ∀ {s : SV × Nat}, Cell.okWide P W r b t v → ((symCellV P t i).bind fun s => some (s, i + 1)) = some s →
      i ≤ s.2 ∧ ∃ f : Nat → Nat, ∀ (σ : Nat → Nat) (β : Nat → Option (Nat × Nat)), (∀ j, i ≤ j → j < s.2 → σ j = f j) → Den σ β s.1 v := by
    intro s hv hs
    cases h1 : symCellV P t i with
    | none => rw [h1] at hs; cases hs
    | some x =>
      rw [h1] at hs; cases hs
      obtain ⟨n, hn⟩ := symCell_ok hv h1
      exact ⟨Nat.le_succ i, fun _ => n, fun σ β h => hn σ β (h i (Nat.le_refl _) (Nat.lt_succ_self _))⟩
  have agg : ∀ {s : SV × Nat}, (∃ cs, v = .agg cs ∧ cs.size = P.cellsOf t ∧ Row.okWide P W r b t cs) →
      ((P.cellTypes P.depth t).bind fun ts => bc (Nat.beq (P.cellsOf t) ts.length) ((symCells P ts i).bind fun l => some (.agg l, i + ts.length)) none) = some s →
      i ≤ s.2 ∧ ∃ f : Nat → Nat, ∀ (σ : Nat → Nat) (β : Nat → Option (Nat × Nat)), (∀ j, i ≤ j → j < s.2 → σ j = f j) → Den σ β s.1 v := by
    rintro s ⟨cs, rfl, hsz, ts, hts, -, hrow⟩ hs
    rw [hts] at hs
    change bc (Nat.beq (P.cellsOf t) ts.length) ((symCells P ts i).bind fun l => some (SV.agg l, i + ts.length)) none = some s at hs
    cases hb : Nat.beq (P.cellsOf t) ts.length
    · rw [hb] at hs; cases hs
    · rw [hb] at hs
      change (symCells P ts i).bind (fun l => some (SV.agg l, i + ts.length)) = some s at hs
      cases h2 : symCells P ts i with
      | none => rw [h2] at hs; cases hs
      | some l =>
        rw [h2] at hs; cases hs
        have hlen : cs.toList.length = ts.length := by rw [Array.length_toList, hsz]; exact of_nbeq hb
        obtain ⟨f, hf⟩ := symCells_ok (ts := ts) (vs := cs.toList) (i := i) (l := l) (fun j x hx => by
          obtain ⟨u, hu, hc⟩ := hrow j x (by rw [← Array.getElem?_toList]; exact hx)
          have hj : j < ts.length := by
            rw [← hlen]
            exact (List.getElem?_eq_some_iff.1 hx).1
          rw [Nat.mod_eq_of_lt hj] at hu
          exact ⟨u, hu, hc⟩) hlen h2
        exact ⟨Nat.le_add_right _ _, f, fun σ β h => .agg (vs := cs.toList) (hf σ β h)⟩
  unfold symOne at hs
  unfold Value.okWide at hv
  cases hu : P.underlying t with
  | none => rw [hu] at hs hv; exact cell hv hs
  | some d =>
    rw [hu] at hs hv
    cases d <;> first | exact cell hv hs | exact agg hv hs

theorem symArgs_ok {P : Program} {W : World} {r : Reach} {b : Nat} : ∀ {ts : List TypeId} {vs : List Value} {i : Nat} {l : List SV × Nat}, (∀ (j : Nat) (t : TypeId) (v : Value), ts[j]? = some t → vs[j]? = some v → Value.okWide P W r b t v) → vs.length = ts.length → symArgs P ts i = some l →
    i ≤ l.2 ∧ ∃ f : Nat → Nat, ∀ (σ : Nat → Nat) (β : Nat → Option (Nat × Nat)), (∀ j, i ≤ j → j < l.2 → σ j = f j) → DenL σ β l.1 vs
  | [], [], i, l, _, _, hs => by
    cases hs
    exact ⟨Nat.le_refl _, fun _ => 0, fun _ _ _ => .nil⟩
  | [], _ :: _, _, _, _, hl, _ => by cases hl
  | _ :: _, [], _, _, _, hl, _ => by cases hl
  | t :: ts, v :: vs, i, l, hv, hl, hs => by
    change (symOne P t i).bind (fun s => (symArgs P ts s.2).bind fun l => some (s.1 :: l.1, l.2)) = some l at hs
    cases h1 : symOne P t i with
    | none => rw [h1] at hs; cases hs
    | some s =>
      rw [h1] at hs
      change (symArgs P ts s.2).bind (fun l => some (s.1 :: l.1, l.2)) = some l at hs
      cases h2 : symArgs P ts s.2 with
      | none => rw [h2] at hs; cases hs
      | some l' =>
        rw [h2] at hs
        cases hs
        obtain ⟨hle, g, hg⟩ := symOne_ok (hv 0 t v rfl rfl) h1
        obtain ⟨hle', f, hf⟩ := symArgs_ok (ts := ts) (vs := vs) (fun j t v h => hv (j + 1) t v h) (by simpa using hl) h2
        refine ⟨Nat.le_trans hle hle', fun j => if j < s.2 then g j else f j, fun σ β h => ?_⟩
        refine .cons (hg σ β fun j h1 h2 => ?_) (hf σ β fun j h1 h2 => ?_)
        · rw [h j h1 (Nat.lt_of_lt_of_le h2 hle')]; exact if_pos h2
        · rw [h j (Nat.le_trans hle h1) h2]; exact if_neg (Nat.not_lt.2 h1)

/-! ### The row -/
section
variable {H : Type} {enc : TypeId × Value → H} {P : Program}

theorem trodAll_len {w : World} {base : Nat} {sp : Nat → Bool} {held : Bool} : ∀ {ts : List TypeId} {vs : List Value} {ds : List (DataW H)} {ps : List MemPlace}, DataW.TrodAll enc P w base sp held ts vs ds ps → vs.length = ts.length ∧ ds.length = ts.length
  | [], vs, ds, ps, h => by obtain ⟨rfl, rfl, rfl⟩ := trodAll_nil h; exact ⟨rfl, rfl⟩
  | t :: ts, vs, ds, ps, h => by
    obtain ⟨v, vs', d, ds', p, q, rfl, rfl, rfl, _, hr⟩ := trodAll_cons h
    obtain ⟨h1, h2⟩ := trodAll_len hr
    exact ⟨by simp [h1], by simp [h2]⟩
theorem trodAll_below (hl : laidOutB P = true) {W W' : World} (hb : Below W.heap.size W W') : ∀ {ts : List TypeId} {vs : List Value} {ds : List (DataW H)} {ps : List MemPlace}, (ts.all fun t => P.readableRec t && decide (t < P.types.size)) = true →
    DataW.TrodAll enc P W 0 (fun _ => true) true ts vs ds ps → (∀ x ∈ ps, x.block < W.heap.size) → DataW.TrodAll enc P W' 0 (fun b => decide (b < W.heap.size)) true ts vs ds ps
  | [], vs, ds, ps, _, h, _ => by obtain ⟨rfl, rfl, rfl⟩ := trodAll_nil h; exact trodAll_mk0
  | t :: ts, vs, ds, ps, hr, h, hlt => by
    obtain ⟨v, vs', d, ds', p, q, rfl, rfl, rfl, h1, h2⟩ := trodAll_cons h
    simp only [List.all_cons, Bool.and_eq_true, decide_eq_true_eq] at hr
    exact trodAll_cons_mk (Below.trod hl hr.1.1 hr.1.2 h1 hb fun x hx => hlt x (List.mem_append_left _ hx)) (trodAll_below hl hb (by simpa using hr.2) h2 fun x hx => hlt x (List.mem_append_right _ hx))

theorem law_contract (hl : laidOutB P = true) {fn : Func} {s : ChangeSpec} {f : Nat} {svs : List SV × Nat} {tb : TypeId}
    (hsym : symArgs P fn.params.toList 0 = some svs)
    (hrun : ∀ (σ : Nat → Nat) (vs : List Value) (w : World), DenLC svs.2 σ (fun _ => none) svs.1 vs → Calls P f vs.toArray w fun e w' => e = .returned (.bool true) ∧ Below w.heap.size w w')
    (hrow : (fn.params.toList.all fun t => P.readableRec t && decide (t < P.types.size)) = true) (hvars : s.vars = []) (hres : fn.resultTypes = #[tb]) (htb : P.underlying tb = some .bool)
    (hfn : ∀ ds : List (DataW H), ds.length = fn.params.toList.length → s.fn H ds = { results := [.lit (.bool true)], args := ds })
    (W : World) (base : Nat) (args : Array Value) (ds gs : List (DataW H)) (before : List MemPlace)
    (hval : ∀ (j : Nat) t v, fn.params[j]? = some t → args[j]? = some v → Value.okWide P W .any base t v)
    (hW : DataW.Whole enc P fn.params.toList s.vars false W args.toList ds gs before) :
    Calls P f args W fun e W' => ∃ v, e = .returned v ∧ s.post enc P fn false true false false W args v W' := by
  have hW' := hW
  obtain ⟨p, q, hA, hV, rfl, hfz, hnd⟩ := hW
  obtain ⟨hlen, hdl⟩ := trodAll_len hA
  rw [hvars] at hV
  obtain ⟨rfl, rfl⟩ := trodVars_none hV
  obtain ⟨-, g, hg⟩ := symArgs_ok (ts := fn.params.toList) (vs := args.toList) (i := 0) (fun j t v ht hv => hval j t v (by rw [← Array.getElem?_toList]; exact ht) (by rw [← Array.getElem?_toList]; exact hv)) hlen hsym
  have hc := hrun g args.toList W (fun σ' ha => hg σ' _ fun j _ h2 => ha.1 j h2)
  refine Calls.mono hc fun e W' he => ?_
  obtain ⟨rfl, hb⟩ := he
  have hlt : ∀ x ∈ p, x.block < W.heap.size := fun x hx => by simpa using hW'.lt x (List.mem_append_left _ hx)
  refine ⟨_, rfl, ds, [], p ++ [], [], p, [], hW', ?_, ?_, ?_, ?_, fun h => by cases h⟩
  all_goals first
    | (rw [List.append_nil, hfn ds hdl]
       first
         | (rw [hres]; exact trodAll_mk1 (shut_bool htb true))
         | exact trodAll_below hl hb hrow hA hlt
         | (rw [hvars]; exact rfl)
         | exact hb.frame _)
    | exact hb.frame _

theorem not_ne {σ : Nat → Nat} {t : Tm} (h : ¬ t.ev σ ≠ 0) : (Tm.un .bnot 1 t).ev σ ≠ 0 := by
  have h : t.ev σ = 0 := Classical.not_not.1 h
  show O1.bnot.ev 1 (t.ev σ) ≠ 0
  rw [h]; decide
theorem all_cons {p : Tm → Prop} {t : Tm} {l : List Tm} (h : p t) (k : ∀ x ∈ l, p x) : ∀ x ∈ t :: l, p x := fun x hx => (List.mem_cons.1 hx).elim (fun e => e ▸ h) (k x)
theorem all_nil {p : Tm → Prop} : ∀ x ∈ ([] : List Tm), p x := fun _ h => by cases h
end

/-- A term lies within its bounds. -/
theorem in_rng {σ : Nat → Nat} {t : Tm} {lo hi : Nat} (h : band (Nat.beq (rng [] t).lo lo) (Nat.beq (rng [] t).hi hi) = true) : lo ≤ t.ev σ ∧ t.ev σ ≤ hi := by
  obtain ⟨h1, h2⟩ := band_eq h
  have hr := rng_ok (σ := σ) (l := []) (by intro b hb; cases hb) t
  unfold In at hr
  rw [of_nbeq h1, of_nbeq h2] at hr
  exact hr
theorem ne_of_eqT {σ : Nat → Nat} {t : Tm} {w k : Nat} (h : ¬ (Tm.bin .eq w t (.lit k)).ev σ ≠ 0) : t.ev σ ≠ k := fun e => h (by
  show b2n (Nat.beq (t.ev σ) k) ≠ 0
  rw [nbeq_t e]; exact Nat.one_ne_zero)

end Go.Sy
end

section
/- Parameters that are slices and strings, and structs with these. -/
namespace Go.Sy
open Go.RowKit Go.ChangeShapes Go.WideShapes

inductive LKd
  | int (k : IntKind)
  | bool
  | str
  | sl (fs : List (Option IntKind))
def LKd.flat : LKd → Option (Option IntKind)
  | .int k => some (some k)
  | .bool => some none
  | _ => none
def flats : List LKd → Option (List (Option IntKind))
  | [] => some []
  | k :: l => (k.flat).bind fun a => (flats l).bind fun r => some (a :: r)
def leafFs (leaf : TypeId → Option (List LKd)) (P : Program) : List Field → Nat → Option (List LKd)
  | [], _ => some []
  | f :: l, off => if f.offset = off then (leaf f.type).bind fun ks => if ks.length = P.cellsOf f.type then (leafFs leaf P l (off + ks.length)).bind fun r => some (ks ++ r) else none else none
/-- The cells of a type, each of which is a number, a truth, a string, or a slice of such rows. -/
def leafK (P : Program) : Nat → TypeId → Option (List LKd)
  | 0, _ => none
  | d + 1, t => match P.underlying t with
    | some .bool => some [.bool]
    | some (.int k) => some [.int k]
    | some .string => some [.str]
    | some (.slice e) => (leafK P d e).bind fun ks => (flats ks).bind fun fs => if fs.length = P.cellsOf e then some [.sl fs] else none
    | some (.struct fs) => (leafFs (leafK P d) P fs.toList 0).bind fun ks => if ks.length = P.cellsOf t then some ks else none
    | some (.array n e) => (leafK P d e).bind fun ks => if ks.length = P.cellsOf e ∧ n * ks.length = P.cellsOf t then some (List.replicate n ks).flatten else none
    | _ => none

inductive All2 (R : LKd → Value → Prop) : List LKd → List Value → Prop
  | nil : All2 R [] []
  | cons {k v ks vs} (h : R k v) (t : All2 R ks vs) : All2 R (k :: ks) (v :: vs)
theorem All2.length {R} : ∀ {ks : List LKd} {vs : List Value}, All2 R ks vs → ks.length = vs.length
  | _, _, .nil => rfl
  | _, _, .cons _ t => by simp [All2.length t]
theorem All2.append {R} : ∀ {a b : List LKd} {va vb : List Value}, All2 R a va → All2 R b vb → All2 R (a ++ b) (va ++ vb)
  | _, _, _, _, .nil, h => h
  | _, _, _, _, .cons h t, k => .cons h (All2.append t k)
theorem All2.imp {R S : LKd → Value → Prop} (h : ∀ k v, R k v → S k v) : ∀ {ks : List LKd} {vs : List Value}, All2 R ks vs → All2 S ks vs
  | _, _, .nil => .nil
  | _, _, .cons a t => .cons (h _ _ a) (All2.imp h t)

def FlatOk (k : Option IntKind) (v : Value) : Prop := match k with
  | some k => ∃ n, v = .int k n ∧ k.has n
  | none => ∃ b, v = .bool b
def LeafOk (w : World) : LKd → Value → Prop
  | .int k, v => ∃ n, v = .int k n ∧ k.has n
  | .bool, v => ∃ b, v = .bool b
  | .str, v => ∃ s : ByteArray, v = .string s ∧ s.size ≤ maxLen
  | .sl fs, v => v = .slice none 0 0 ∨ ∃ a len cap, v = .slice (some a) len cap ∧ len ≤ cap ∧ cap ≤ maxLen ∧ ∀ i, i < len → ∀ (f : Nat) (k : Option IntKind), fs[f]? = some k → ∃ x, w.cell? (a.add (i * fs.length + f)) = some x ∧ FlatOk k x

theorem flats_len : ∀ {ks : List LKd} {fs : List (Option IntKind)}, flats ks = some fs → fs.length = ks.length
  | [], fs, h => by cases h; rfl
  | k :: l, fs, h => by
    change (k.flat).bind (fun a => (flats l).bind fun r => some (a :: r)) = some fs at h
    cases h1 : k.flat with
    | none => rw [h1] at h; cases h
    | some a =>
      rw [h1] at h
      change (flats l).bind (fun r => some (a :: r)) = some fs at h
      cases h2 : flats l with
      | none => rw [h2] at h; cases h
      | some r => rw [h2] at h; cases h; simp [flats_len h2]
theorem flats_ok {w : World} : ∀ {ks : List LKd} {fs : List (Option IntKind)} {vs : List Value}, flats ks = some fs → All2 (LeafOk w) ks vs → ∀ (f : Nat) (k : Option IntKind), fs[f]? = some k → ∃ x, vs[f]? = some x ∧ FlatOk k x
  | [], fs, vs, h, ha => by cases h; intro f k hf; simp at hf
  | k :: l, fs, _, h, .cons (v := v) (vs := vs) hv t => by
    change (k.flat).bind (fun a => (flats l).bind fun r => some (a :: r)) = some fs at h
    cases h1 : k.flat with
    | none => rw [h1] at h; cases h
    | some a =>
      rw [h1] at h
      change (flats l).bind (fun r => some (a :: r)) = some fs at h
      cases h2 : flats l with
      | none => rw [h2] at h; cases h
      | some r =>
        rw [h2] at h; cases h
        intro f k' hf
        cases f with
        | zero =>
          simp at hf; subst hf
          refine ⟨v, rfl, ?_⟩
          cases k <;> cases h1 <;> exact hv
        | succ f => exact flats_ok h2 t f k' (by simpa using hf)

theorem bind_some {α β : Type} {x : Option α} {f : α → Option β} {y : β} (h : x.bind f = some y) : ∃ a, x = some a ∧ f a = some y := by
  cases x with
  | none => cases h
  | some a => exact ⟨a, rfl, h⟩
theorem ite_some {α : Type} {p : Prop} [Decidable p] {x : Option α} {y : α} (h : (if p then x else none) = some y) : p ∧ x = some y := by
  by_cases e : p
  · rw [if_pos e] at h; exact ⟨e, h⟩
  · rw [if_neg e] at h; cases h

section
variable {H : Type} {enc : TypeId × Value → H} {P : Program} {w : World} {base : Nat} {sp : Nat → Bool} {held : Bool}

theorem leafFs_ok {leaf : TypeId → Option (List LKd)} {fuel : Nat} (hleaf : ∀ {t : TypeId} {cs : List Value} {x : DataW H × List MemPlace} {ks : List LKd}, DataW.trod enc P w base sp held fuel t cs = some x → leaf t = some ks → All2 (LeafOk w) ks cs) (cs : List Value) :
    ∀ {l : List Field} {off : Nat} {ks : List LKd} {xs : List (DataW H × List MemPlace)}, leafFs leaf P l off = some ks → (l.mapM fun f => DataW.trod enc P w base sp held fuel f.type ((cs.drop f.offset).take (P.cellsOf f.type))) = some xs →
      All2 (LeafOk w) ks ((cs.drop off).take ks.length)
  | [], off, ks, xs, h, _ => by cases h; simpa using All2.nil
  | f :: l, off, ks, xs, h, hm => by
    obtain ⟨e, h⟩ := ite_some (show (if f.offset = off then _ else none) = some ks from h)
    obtain ⟨k1, h1, h⟩ := bind_some h
    obtain ⟨e2, h⟩ := ite_some h
    obtain ⟨r, h2, h⟩ := bind_some h
    cases h
    simp only [List.mapM_cons] at hm
    obtain ⟨x, hx, hm⟩ := bind_some (show (DataW.trod enc P w base sp held fuel f.type ((cs.drop f.offset).take (P.cellsOf f.type))).bind _ = some xs from hm)
    obtain ⟨ys, hy, _⟩ := bind_some (show Option.bind (l.mapM fun f => DataW.trod enc P w base sp held fuel f.type ((cs.drop f.offset).take (P.cellsOf f.type))) _ = some xs from hm)
    have a1 := hleaf hx h1
    have a2 := leafFs_ok hleaf cs h2 hy
    rw [e, ← e2] at a1
    have : (cs.drop off).take (k1 ++ r).length = (cs.drop off).take k1.length ++ (cs.drop (off + k1.length)).take r.length := by
      rw [List.length_append, List.take_add, List.drop_drop]
    rw [this]
    exact a1.append a2

theorem trod_leafs : ∀ {d fuel : Nat} {t : TypeId} {cs : List Value} {x : DataW H × List MemPlace} {ks : List LKd}, DataW.trod enc P w base sp held fuel t cs = some x → leafK P d t = some ks → All2 (LeafOk w) ks cs
  | 0, _, _, _, _, _, _, h => by cases h
  | d + 1, 0, _, _, _, _, h, _ => by cases h
  | d + 1, fuel + 1, t, cs, x, ks, h, hk => by
    have ih : ∀ {t : TypeId} {cs : List Value} {x : DataW H × List MemPlace} {ks : List LKd}, DataW.trod enc P w base sp held fuel t cs = some x → leafK P d t = some ks → All2 (LeafOk w) ks cs := fun h1 h2 => trod_leafs h1 h2
    unfold leafK at hk
    unfold DataW.trod at h
    cases hu : P.underlying t with
    | none => rw [hu] at hk; cases hk
    | some u =>
      rw [hu] at hk h
      cases u with
      | bool =>
        cases hk
        rcases cs with _ | ⟨v, _ | ⟨v2, l⟩⟩
        · cases h
        · cases v <;> first | (cases h; done) | skip
          rename_i b
          exact .cons ⟨b, rfl⟩ .nil
        · cases v <;> cases h
      | int k =>
        cases hk
        rcases cs with _ | ⟨v, _ | ⟨v2, l⟩⟩
        · cases h
        · cases v <;> first | (cases h; done) | skip
          rename_i k' n
          obtain ⟨⟨rfl, hw⟩, _⟩ := ite_some h
          refine .cons ⟨n, rfl, ?_⟩ .nil
          simp only [Lit.wf, Bool.and_eq_true, decide_eq_true_eq] at hw
          exact hw
        · cases v <;> cases h
      | string =>
        cases hk
        rcases cs with _ | ⟨v, _ | ⟨v2, l⟩⟩
        · cases h
        · cases v <;> first | (cases h; done) | skip
          rename_i s
          obtain ⟨hl, _⟩ := ite_some h
          exact .cons ⟨s, rfl, hl⟩ .nil
        · cases v <;> cases h
      | slice e =>
        obtain ⟨k1, h1, hk⟩ := bind_some (show (leafK P d e).bind _ = some ks from hk)
        obtain ⟨fs, h2, hk⟩ := bind_some hk
        obtain ⟨hlen, hk⟩ := ite_some hk
        cases hk
        rcases cs with _ | ⟨v, _ | ⟨v2, l⟩⟩
        · cases h
        · cases v <;> first | (cases h; done) | skip
          rename_i a len cap
          cases a with
          | none =>
            cases len with
            | zero => cases cap with
              | zero => exact .cons (.inl rfl) .nil
              | succ _ => cases h
            | succ _ => cases h
          | some a =>
          obtain ⟨⟨_, hle, hcap⟩, h⟩ := ite_some h
          obtain ⟨elems, he, _⟩ := bind_some h
          refine .cons (.inr ⟨a, len, cap, rfl, hle, hcap, fun i hi f k hf => ?_⟩) .nil
          have hel := mapM_some_get he i i (by simp [hi])
          obtain ⟨z, hz⟩ : ∃ z, elems[i]? = some z := by
            have := mapM_some_length he
            simp at this
            exact ⟨elems[i]'(by omega), List.getElem?_eq_getElem (by omega)⟩
          rw [hz] at hel
          obtain ⟨row, hrow, htr⟩ := bind_some hel
          obtain ⟨_, hl1, hcell⟩ := World.cells?_some hrow
          have hall := ih htr h1
          obtain ⟨v, hv, hfl⟩ := flats_ok h2 hall f k hf
          have hfl' : f < P.cellsOf e := by rw [← hlen]; exact (List.getElem?_eq_some_iff.1 hf).1
          refine ⟨v, ?_, hfl⟩
          have := hcell f hfl'
          rw [hv] at this
          rw [← this, hlen]
          congr 1
          unfold Addr.add
          by_cases e1 : i * P.cellsOf e = 0
          · rw [e1, Nat.zero_add]; simp
          · by_cases e2 : f = 0
            · subst e2; simp [e1]
            · rw [if_neg (by omega), if_neg e1, if_neg e2]; simp [Nat.add_assoc]
        · cases v <;> first | (cases h; done) | skip
          rename_i a len cap
          cases a with
          | none => cases len <;> cases cap <;> cases h
          | some a => cases h
      | struct fs =>
        obtain ⟨k1, h1, hk⟩ := bind_some (show (leafFs (leafK P d) P fs.toList 0).bind _ = some ks from hk)
        obtain ⟨hlen, hk⟩ := ite_some hk
        cases hk
        obtain ⟨hcl, h⟩ := ite_some (show (if cs.length = P.cellsOf t then _ else none) = some x from h)
        rw [Option.map_eq_some_iff] at h
        obtain ⟨xs, hm, _⟩ := h
        have := leafFs_ok (fun h1 h2 => ih h1 h2) cs h1 hm
        rw [List.drop_zero, List.take_of_length_le (by omega)] at this
        exact this
      | array n e =>
        obtain ⟨k1, h1, hk⟩ := bind_some (show (leafK P d e).bind _ = some ks from hk)
        obtain ⟨⟨hlen, htot⟩, hk⟩ := ite_some hk
        cases hk
        obtain ⟨hcl, h⟩ := ite_some (show (if cs.length = P.cellsOf t then _ else none) = some x from h)
        rw [Option.map_eq_some_iff] at h
        obtain ⟨xs, hm, _⟩ := h
        have el : ∀ i, i < n → All2 (LeafOk w) k1 ((cs.drop (i * k1.length)).take k1.length) := fun i hi => by
          have hel := mapM_some_get hm i i (by simp [hi])
          obtain ⟨z, hz⟩ : ∃ z, xs[i]? = some z := by
            have := mapM_some_length hm
            simp at this
            exact ⟨xs[i]'(by omega), List.getElem?_eq_getElem (by omega)⟩
          rw [hz] at hel
          have := ih hel h1
          rw [← hlen] at this; exact this
        have key : ∀ m, m ≤ n → All2 (LeafOk w) (List.replicate m k1).flatten (cs.take (m * k1.length)) := fun m => by
          induction m with
          | zero => intro _; simpa using All2.nil
          | succ m ihm =>
            intro hm'
            have a := (ihm (by omega)).append (el m (by omega))
            rw [← List.take_add, ← Nat.succ_mul] at a
            rw [List.replicate_succ', List.flatten_append]
            simpa using a
        have := key n (Nat.le_refl _)
        rw [List.take_of_length_le (by rw [htot]; omega)] at this
        exact this
      | _ => cases hk
end
/-! ### Symbolic values for these -/
/-- What stands for them: values, objects, choices that are left; the next variable, function of cells, name. -/
structure SA where
  l : List SV
  obs : List SObj
  nl : List Bool
  i : Nat
  b : Nat
  o : Nat
/-- A slice is nil, or not, as the list says. -/
def symK : List LKd → List Bool → Nat → Nat → Nat → Option SA
  | [], nl, i, b, o => some ⟨[], [], nl, i, b, o⟩
  | .int k :: r, nl, i, b, o => (symK r nl (i + 1) b o).map fun s => ⟨.int k (.var i k.bits) :: s.l, s.obs, s.nl, s.i, s.b, s.o⟩
  | .bool :: r, nl, i, b, o => (symK r nl (i + 1) b o).map fun s => ⟨.bool (.var i 1) :: s.l, s.obs, s.nl, s.i, s.b, s.o⟩
  | .str :: r, nl, i, b, o => (symK r nl (i + 1) (b + 1) o).map fun s => ⟨.strT b (.var i 63) :: s.l, s.obs, s.nl, s.i, s.b, s.o⟩
  | .sl fs :: r, nl, i, b, o => match nl with
    | [] => none
    | true :: nl => (symK r nl i b o).map fun s => ⟨.snil :: s.l, s.obs, s.nl, s.i, s.b, s.o⟩
    | false :: nl => (symK r nl (i + 2) (b + fs.length) (o + 1)).map fun s => ⟨.sliceT o fs.length (.lit 0) (.var i 63) (.var (i + 1) 63) [.pnil] :: s.l, .sym (.lit 0) fs b (.var i 63) :: s.obs, s.nl, s.i, s.b, s.o⟩
def nsl : List LKd → Nat
  | [] => 0
  | .sl _ :: r => nsl r + 1
  | _ :: r => nsl r

/-- A slice lies in a block of cells. -/
def TopOk (w : World) (v : Value) : Prop := ∀ a len cap, v = .slice (some a) len cap → a.spot = none ∧ ∃ cs e fr, w.heap[a.block]? = some (.cells cs e fr)

theorem appAt_inj {f x f' x' : Nat} (h : appAt f x = appAt f' x') : f = f' ∧ x = x' := by
  have h : (f + x) * (f + x) + x = (f' + x') * (f' + x') + x' := Nat.add_left_cancel (show 2 ^ 40 + ((f + x) * (f + x) + x) = 2 ^ 40 + ((f' + x') * (f' + x') + x') from h)
  have key : ∀ s x s' x' : Nat, x ≤ s → x' ≤ s' → s * s + x = s' * s' + x' → ¬ s < s' := fun s x s' x' hx hx' he hlt => by
    have h1 : (s + 1) * (s + 1) ≤ s' * s' := Nat.mul_le_mul hlt hlt
    have h2 : (s + 1) * (s + 1) = s * s + 2 * s + 1 := by
      rw [Nat.add_mul, Nat.mul_add]; omega
    omega
  have e : f + x = f' + x' := by
    rcases Nat.lt_trichotomy (f + x) (f' + x') with hh | hh | hh
    · exact absurd hh (key _ _ _ _ (Nat.le_add_left _ _) (Nat.le_add_left _ _) h)
    · exact hh
    · exact absurd hh (key _ _ _ _ (Nat.le_add_left _ _) (Nat.le_add_left _ _) h.symm)
  rw [e] at h
  omega
/-- An assignment with given numbers, and functions. -/
theorem sigma_of (f : Nat → Nat) (g : Nat → Nat → Nat) : ∃ σ : Nat → Nat, (∀ i, i < 2 ^ 40 → σ i = f i) ∧ ∀ h x, σ (appAt h x) = g h x := by
  classical
  refine ⟨fun n => if n < 2 ^ 40 then f n else if hh : ∃ p : Nat × Nat, appAt p.1 p.2 = n then g hh.choose.1 hh.choose.2 else 0, fun i hi => if_pos hi, fun h x => ?_⟩
  have h1 : ¬ appAt h x < 2 ^ 40 := Nat.not_lt.2 (Nat.le_add_right _ _)
  show (if appAt h x < 2 ^ 40 then f (appAt h x) else if hh : ∃ p : Nat × Nat, appAt p.1 p.2 = appAt h x then g hh.choose.1 hh.choose.2 else 0) = _
  rw [if_neg h1]
  have h2 : ∃ p : Nat × Nat, appAt p.1 p.2 = appAt h x := ⟨(h, x), rfl⟩
  rw [dif_pos h2]
  obtain ⟨e1, e2⟩ := appAt_inj h2.choose_spec
  rw [e1, e2]

/-- What the symbolic values and objects denote, given what is chosen. -/
def SAok (w : World) (s : SA) (i b o : Nat) (vs : List Value) (f : Nat → Nat) (g : Nat → Nat → Nat) (bl : List (Nat × Nat)) : Prop :=
  bl.length = s.obs.length ∧ s.o = o + s.obs.length ∧ i ≤ s.i ∧ b ≤ s.b ∧ ∀ σ β, (∀ j, i ≤ j → j < s.i → σ j = f j) → (∀ h x, b ≤ h → h < s.b → σ (appAt h x) = g h x) → (∀ (j : Nat) (p : Nat × Nat), bl[j]? = some p → β (o + j) = some p) →
    DenL σ β s.l vs ∧ ∀ (j : Nat) ob (p : Nat × Nat), s.obs[j]? = some ob → bl[j]? = some p → ∃ x, w.heap[p.1]? = some x ∧ ObjDen σ β p.2 ob x

theorem cell_int {σ β} {k : IntKind} {n : Int} (hn : k.has n) {t : Tm} (h : t.ev σ = (n % 2 ^ k.bits).toNat) : Den σ β (.int k t) (.int k n) := by
  have := Den.int (σ := σ) (β := β) (k := k) (a := 0) (b := 0) (t := t) (u := .lit 0) (c := .lit 0) (l := []) (by rw [h]; exact int_lt k n)
  rw [h, int_bits hn] at this; exact this
theorem cell_bool {σ β} {b : Bool} {t : Tm} (h : t.ev σ = b.toNat) : Den σ β (.bool t) (.bool b) := by
  have := Den.bool (σ := σ) (β := β) (k := .u8) (a := 0) (b := 0) (t := t) (u := .lit 0) (c := .lit 0) (l := []) (by rw [h]; cases b <;> decide)
  rw [h] at this
  have e : (b.toNat != 0) = b := by cases b <;> rfl
  rw [e] at this; exact this

noncomputable def bitsV (v : Value) : Nat := match v with
  | .int k n => (n % 2 ^ k.bits).toNat
  | .bool b => b.toNat
  | _ => 0
theorem symCell_of {σ : Nat → Nat} {f i : Nat} {k : Option IntKind} {v : Value} (h : FlatOk k v) (hs : σ (appAt f i) = bitsV v) : symCell σ f i k = v := by
  cases k with
  | some k =>
    obtain ⟨n, rfl, hn⟩ := h
    show Value.int k (ofB k (σ (appAt f i) % 2 ^ k.bits)) = _
    rw [hs]
    show Value.int k (ofB k ((n % 2 ^ k.bits).toNat % 2 ^ k.bits)) = _
    rw [Nat.mod_eq_of_lt (int_lt k n), int_bits hn]
  | none =>
    obtain ⟨b, rfl⟩ := h
    show Value.bool (σ (appAt f i) % 2 ^ 1 != 0) = _
    rw [hs]
    cases b <;> rfl

theorem symK_ok {w : World} : ∀ {ks : List LKd} {vs : List Value}, All2 (LeafOk w) ks vs → (∀ v ∈ vs, TopOk w v) → ∃ nl0 : List Bool, nl0.length = nsl ks ∧ ∀ rest i b o s, symK ks (nl0 ++ rest) i b o = some s →
    s.nl = rest ∧ ∃ f g bl, SAok w s i b o vs f g bl
  | _, _, .nil, _ => ⟨[], rfl, fun rest i b o s h => by
    cases h
    refine ⟨rfl, fun _ => 0, fun _ _ => 0, [], rfl, rfl, Nat.le_refl _, Nat.le_refl _, fun σ β _ _ _ => ⟨.nil, fun j ob p h => ?_⟩⟩
    simp at h⟩
  | _, _, .cons (k := k) (v := v) (ks := ks) (vs := vs) hv t, htop => by
    obtain ⟨nl0, hl, ih⟩ := symK_ok t (fun v hv => htop v (List.mem_cons_of_mem _ hv))
    -- a cell that is one variable
    have one : ∀ (sv : Nat → Nat → SV) (m q : Nat), m = 1 → (q = 0 ∨ q = 1) →
        (∀ i b, ∃ n : Nat, ∃ g0 : Nat → Nat, ∀ (σ : Nat → Nat) β, σ i = n → (q = 1 → ∀ x, σ (appAt b x) = g0 x) → Den σ β (sv i b) v) →
        ∀ rest i b o s, ((symK ks (nl0 ++ rest) (i + 1) (b + q) o).map fun s => (⟨sv i b :: s.l, s.obs, s.nl, s.i, s.b, s.o⟩ : SA)) = some s → s.nl = rest ∧ ∃ f g bl, SAok w s i b o (v :: vs) f g bl := by
      intro sv m q _ hq hd rest i b o s hs
      rw [Option.map_eq_some_iff] at hs
      obtain ⟨s', hs', rfl⟩ := hs
      obtain ⟨h1, f, g, bl, h2, h3, h4, h5, h6⟩ := ih rest (i + 1) (b + q) o s' hs'
      obtain ⟨n, g0, hn⟩ := hd i b
      refine ⟨h1, fun j => if j = i then n else f j, fun h x => if q = 1 ∧ h = b then g0 x else g h x, bl, h2, h3, (by show i ≤ s'.i; omega), (by show b ≤ s'.b; omega), fun σ β a1 a2 a3 => ?_⟩
      obtain ⟨c1, c2⟩ := h6 σ β (fun j j1 j2 => (a1 j (by omega) j2).trans (if_neg (by omega))) (fun h x j1 j2 => (a2 h x (by omega) j2).trans (if_neg (by omega))) a3
      refine ⟨.cons (hn σ β ?_ fun hq1 x => ?_) c1, c2⟩
      · exact (a1 i (Nat.le_refl _) (by show i < s'.i; omega)).trans (if_pos rfl)
      · exact (a2 b x (Nat.le_refl _) (by show b < s'.b; omega)).trans (if_pos ⟨hq1, rfl⟩)
    cases k with
    | int k =>
      obtain ⟨n, rfl, hn⟩ := hv
      exact ⟨nl0, hl, one (fun i _ => .int k (.var i k.bits)) 1 0 rfl (.inl rfl) fun i b => ⟨(n % 2 ^ k.bits).toNat, fun _ => 0, fun σ β h _ => cell_int hn (by
        show σ i % 2 ^ k.bits = _
        rw [h]; exact Nat.mod_eq_of_lt (int_lt k n))⟩⟩
    | bool =>
      obtain ⟨x, rfl⟩ := hv
      exact ⟨nl0, hl, one (fun i _ => .bool (.var i 1)) 1 0 rfl (.inl rfl) fun i b => ⟨x.toNat, fun _ => 0, fun σ β h _ => cell_bool (by
        show σ i % 2 ^ 1 = _
        rw [h]; cases x <;> rfl)⟩⟩
    | str =>
      obtain ⟨x, rfl, hx⟩ := hv
      refine ⟨nl0, hl, one (fun i b => .strT b (.var i 63)) 1 1 rfl (.inr rfl) fun i b => ⟨x.size, fun j => match (byteVals x)[j]? with | some (.int _ n) => n.toNat | _ => 0, fun σ β h hg => ?_⟩⟩
      have hg := hg rfl
      refine .strT ?_ fun j v hj => ?_
      · show x.size = σ i % 2 ^ 63
        rw [h, Nat.mod_eq_of_lt (by unfold maxLen at hx; omega)]
      · rw [hg]
        show v = Value.int .u8 (ofB .u8 ((match (byteVals x)[j]? with | some (.int _ n) => n.toNat | _ => 0) % 2 ^ 8))
        rw [hj]
        unfold byteVals at hj
        rw [List.getElem?_map] at hj
        cases hb : x.data.toList[j]? with
        | none => rw [hb] at hj; cases hj
        | some y =>
          rw [hb] at hj
          cases hj
          show Value.int .u8 (y.toNat : Int) = Value.int .u8 (ofB .u8 ((y.toNat : Int).toNat % 2 ^ 8))
          have : y.toNat < 2 ^ 8 := y.toNat_lt
          rw [Int.toNat_natCast, Nat.mod_eq_of_lt this, ofB_unsigned rfl this]
    | sl fs =>
      rcases hv with rfl | ⟨a, len, cap, rfl, hle, hcap, hcell⟩
      · refine ⟨true :: nl0, by simp [nsl, hl], fun rest i b o s hs => ?_⟩
        change (symK ks (nl0 ++ rest) i b o).map _ = some s at hs
        rw [Option.map_eq_some_iff] at hs
        obtain ⟨s', hs', rfl⟩ := hs
        obtain ⟨h1, f, g, bl, h2, h3, h4, h5, h6⟩ := ih rest i b o s' hs'
        refine ⟨h1, f, g, bl, h2, h3, h4, h5, fun σ β a1 a2 a3 => ?_⟩
        obtain ⟨c1, c2⟩ := h6 σ β a1 a2 a3
        exact ⟨.cons .snil c1, c2⟩
      · refine ⟨false :: nl0, by simp [nsl, hl], fun rest i b o s hs => ?_⟩
        change (symK ks (nl0 ++ rest) (i + 2) (b + fs.length) (o + 1)).map _ = some s at hs
        rw [Option.map_eq_some_iff] at hs
        obtain ⟨s', hs', rfl⟩ := hs
        obtain ⟨h1, f, g, bl, h2, h3, h4, h5, h6⟩ := ih rest (i + 2) (b + fs.length) (o + 1) s' hs'
        obtain ⟨hspot, cs, e, fr, hblk⟩ := htop _ List.mem_cons_self a len cap rfl
        obtain ⟨ab, ao, asp⟩ := a
        dsimp only at hspot hblk
        subst hspot
        refine ⟨h1, fun j => if j = i then len else if j = i + 1 then cap else f j, fun h x => if h < b + fs.length then (match cs[ao + (x * fs.length + (h - b))]? with | some v => bitsV v | none => 0) else g h x, (ab, ao) :: bl,
          by simp [h2], (by show s'.o = o + (s'.obs.length + 1); omega), (by show i ≤ s'.i; omega), (by show b ≤ s'.b; omega), fun σ β a1 a2 a3 => ?_⟩
        have hlen : (Tm.var i 63).ev σ = len := by
          show σ i % 2 ^ 63 = len
          rw [(a1 i (Nat.le_refl _) (by show i < s'.i; omega)).trans (if_pos rfl), Nat.mod_eq_of_lt (by unfold maxLen at hcap; omega)]
        have hcap' : (Tm.var (i + 1) 63).ev σ = cap := by
          show σ (i + 1) % 2 ^ 63 = cap
          rw [(a1 (i + 1) (by omega) (by show i + 1 < s'.i; omega)).trans ((if_neg (by omega)).trans (if_pos rfl)), Nat.mod_eq_of_lt (by unfold maxLen at hcap; omega)]
        obtain ⟨c1, c2⟩ := h6 σ β (fun j j1 j2 => (a1 j (by omega) j2).trans ((if_neg (by omega)).trans (if_neg (by omega)))) (fun h x j1 j2 => (a2 h x (by omega) j2).trans (if_neg (by omega))) (fun j p hj => by
          have := a3 (j + 1) p (by simpa using hj)
          rw [show o + 1 + j = o + (j + 1) by omega]; exact this)
        have hβ : β o = some (ab, ao) := a3 0 _ rfl
        refine ⟨.cons ?_ c1, fun j ob p hob hp => ?_⟩
        · have := Den.sliceT (σ := σ) (β := β) (k := .u8) (o := o) (z := fs.length) (t := .lit 0) (u := .var i 63) (c := .var (i + 1) 63) (l := [.pnil]) hβ (by rw [hlen, hcap']; exact hle) (by rw [hcap']; unfold maxLen at hcap; omega)
          rw [hlen, hcap'] at this
          exact this
        · cases j with
          | succ j => exact c2 j ob p (by simpa using hob) (by simpa using hp)
          | zero =>
            cases hob; cases hp
            refine ⟨_, hblk, .sym fun i' f' k hi hf => ?_⟩
            rw [hlen] at hi
            obtain ⟨x, hx, hfl⟩ := hcell i' hi f' k hf
            have hf' : f' < fs.length := (List.getElem?_eq_some_iff.1 hf).1
            have hx' : cs[ao + (i' * fs.length + f')]? = some x := by
              rw [add_off] at hx
              simpa [World.cell?, hblk] using hx
            show cs[ao + (0 + i' * fs.length + f')]? = _
            rw [Nat.zero_add, hx']
            congr 1
            refine (symCell_of hfl ?_).symm
            rw [(a2 (b + f') i' (by omega) (by show b + f' < s'.b; omega)).trans (if_pos (by omega)), show b + f' - b = f' by omega, hx']
/-! ### The state at the beginning -/
noncomputable def hpOf (obs : List SObj) : Nat → Tr HE → Tr HE := List.rec (motive := fun _ => Nat → Tr HE → Tr HE) (fun _ h => h) (fun ob _ ih i h => ih (Nat.succ i) (h.set i (some ⟨ob, true⟩))) obs
theorem hpOf_get : ∀ (obs : List SObj) (i : Nat) (h : Tr HE) (o : Nat), (hpOf obs i h).get o = if i ≤ o ∧ o < i + obs.length then (obs[o - i]?).map (fun ob => ⟨ob, true⟩) else h.get o
  | [], i, h, o => by
    show h.get o = _
    rw [if_neg (by simp)]
  | x :: l, i, h, o => by
    show (hpOf l (i + 1) (h.set i (some ⟨x, true⟩))).get o = _
    rw [hpOf_get l (i + 1) _ o]
    by_cases e : o = i
    · subst e
      rw [if_neg (by omega), Tr.get_set_eq, if_pos (by simp)]
      simp
    · rw [Tr.get_set_ne _ _ e]
      by_cases h1 : i ≤ o ∧ o < i + (x :: l).length
      · rw [if_pos h1, if_pos (by simp only [List.length_cons] at h1; omega), show o - i = (o - (i + 1)) + 1 by omega]
        simp
      · rw [if_neg h1, if_neg (by simp only [List.length_cons] at h1; omega)]
/-- Parameters out of cells: an aggregate of so many, or one. -/
def groupS : List (Option Nat) → List SV → List SV
  | [], _ => []
  | none :: gs, l => match l with
    | x :: l => x :: groupS gs l
    | [] => []
  | some n :: gs, l => .agg (l.take n) :: groupS gs (l.drop n)
def isAggT (P : Program) (t : TypeId) : Bool := match P.underlying t with
  | some (.struct _) | some (.array _ _) => true
  | _ => false
def argK (P : Program) (d : Nat) : List TypeId → Option (List (Option Nat) × List LKd)
  | [] => some ([], [])
  | t :: ts => (leafK P d t).bind fun ks => (argK P d ts).bind fun r => if isAggT P t = true then some (some ks.length :: r.1, ks ++ r.2) else if ks.length = 1 then some (none :: r.1, ks ++ r.2) else none
def flatV (vs : List Value) : List Value := vs.flatMap fun v => v.cells.toList

theorem topOk_of_cell {P : Program} {w : World} {r : Reach} {b : Nat} {u : TypeId} {v : Value} (h : Cell.okWide P w r b u v) : TopOk w v := by
  rintro a len cap rfl
  unfold Cell.okWide at h
  cases hu : P.underlying u with
  | none => simp [hu, Cell.ok] at h
  | some d =>
    cases d <;> simp [hu, Cell.ok] at h
    obtain ⟨_, _, _, h2, row, cells, h3, _⟩ := h
    refine ⟨h2, ?_⟩
    unfold World.shape? at h3
    split at h3
    · rename_i c e fr hb
      exact ⟨c, e, fr, hb⟩
    · cases h3

section
variable {H : Type} {enc : TypeId × Value → H} {P : Program} {w : World}

theorem argsA_ok {r : Reach} {b : Nat} {base : Nat} {sp : Nat → Bool} {held : Bool} {d : Nat} : ∀ {ts : List TypeId} {vs : List Value} {ds : List (DataW H)} {ps : List MemPlace} {gs : List (Option Nat)} {ks : List LKd},
    (∀ (j : Nat) (t : TypeId) (v : Value), ts[j]? = some t → vs[j]? = some v → Value.okWide P w r b t v) → DataW.TrodAll enc P w base sp held ts vs ds ps → argK P d ts = some (gs, ks) →
    All2 (LeafOk w) ks (flatV vs) ∧ (∀ v ∈ flatV vs, TopOk w v) ∧ ∀ σ β l, DenL σ β l (flatV vs) → DenL σ β (groupS gs l) vs
  | [], vs, ds, ps, gs, ks, _, ht, hk => by
    cases hk
    obtain ⟨rfl, _, _⟩ := trodAll_nil ht
    exact ⟨.nil, (fun v h => by cases h), fun σ β l h => .nil⟩
  | t :: ts, vs, ds, ps, gs, ks, hval, ht, hk => by
    obtain ⟨v, vs', d0, ds', p, q, rfl, rfl, rfl, ⟨fuel, h1⟩, h2⟩ := trodAll_cons ht
    obtain ⟨k1, hk1, hk⟩ := bind_some (show (leafK P d t).bind _ = some (gs, ks) from hk)
    obtain ⟨rr, hk2, hk⟩ := bind_some hk
    obtain ⟨g1, g2, g3⟩ := argsA_ok (gs := rr.1) (ks := rr.2) (fun j t v h1 h2 => hval (j + 1) t v h1 h2) h2 hk2
    have hv := hval 0 t v rfl rfl
    have hall := trod_leafs h1 hk1
    have hf : flatV (v :: vs') = v.cells.toList ++ flatV vs' := rfl
    rw [hf]
    have fin : ∀ (gs0 : List (Option Nat)), (gs0 = gs ∧ ks = k1 ++ rr.2) → (∀ x ∈ v.cells.toList, TopOk w x) → (∀ σ β l, DenL σ β l (v.cells.toList ++ flatV vs') → DenL σ β (groupS gs0 l) (v :: vs')) →
        All2 (LeafOk w) ks (v.cells.toList ++ flatV vs') ∧ (∀ x ∈ v.cells.toList ++ flatV vs', TopOk w x) ∧ ∀ σ β l, DenL σ β l (v.cells.toList ++ flatV vs') → DenL σ β (groupS gs l) (v :: vs') := by
      rintro gs0 ⟨rfl, rfl⟩ k2 k3
      exact ⟨hall.append g1, fun x hx => (List.mem_append.1 hx).elim (k2 x) (g2 x), k3⟩
    by_cases ha : isAggT P t = true
    · rw [if_pos ha] at hk; cases hk
      have hagg : ∃ cs, v = .agg cs ∧ Row.okWide P w r b t cs := by
        unfold isAggT at ha
        unfold Value.okWide at hv
        split at ha
        · rename_i hu; rw [hu] at hv; obtain ⟨cs, e, _, h⟩ := hv; exact ⟨cs, e, h⟩
        · rename_i hu; rw [hu] at hv; obtain ⟨cs, e, _, h⟩ := hv; exact ⟨cs, e, h⟩
        · cases ha
      obtain ⟨cs, rfl, ts', _, _, hrow⟩ := hagg
      refine fin _ ⟨rfl, rfl⟩ (fun x hx => ?_) fun σ β l hl => ?_
      · obtain ⟨j, hj⟩ := List.mem_iff_getElem?.1 hx
        change cs.toList[j]? = some x at hj
        rw [Array.getElem?_toList] at hj
        obtain ⟨u, _, hc⟩ := hrow j x hj
        exact topOk_of_cell hc
      · have hlen : k1.length = cs.toList.length := hall.length
        have e1 : (cs.toList ++ flatV vs').take k1.length = cs.toList := by rw [hlen]; exact List.take_left ..
        have e2 : (cs.toList ++ flatV vs').drop k1.length = flatV vs' := by rw [hlen]; exact List.drop_left ..
        have a1 := hl.take k1.length
        have a2 := hl.drop k1.length
        change DenL σ β _ ((cs.toList ++ flatV vs').take k1.length) at a1
        change DenL σ β _ ((cs.toList ++ flatV vs').drop k1.length) at a2
        rw [e1] at a1
        rw [e2] at a2
        exact .cons (.agg (vs := cs.toList) a1) (g3 σ β _ a2)
    · rw [if_neg ha] at hk
      obtain ⟨h1l, hk⟩ := ite_some hk
      cases hk
      have hcell : Cell.okWide P w r b t v := by
        unfold isAggT at ha
        unfold Value.okWide at hv
        split at ha
        · exact absurd rfl ha
        · exact absurd rfl ha
        · rename_i hn1 hn2
          split at hv
          · rename_i hu; exact absurd hu (hn1 _)
          · rename_i hu; exact absurd hu (hn2 _ _)
          · exact hv
      have hvc : v.cells.toList = [v] := by
        cases v <;> first | rfl | skip
        exfalso
        unfold Cell.okWide at hcell
        cases hu : P.underlying t with
        | none => simp [hu, Cell.ok] at hcell
        | some dd => cases dd <;> simp [hu, Cell.ok] at hcell
      refine fin _ ⟨rfl, rfl⟩ (fun x hx => ?_) fun σ β l hl => ?_
      · rw [hvc] at hx
        rw [List.mem_singleton.1 hx]; exact topOk_of_cell hcell
      · rw [hvc] at hl
        cases hl with
        | cons hx tl => exact .cons hx (g3 σ β _ tl)

/-- The names of a run's beginning: the program's own variables, and rows. -/
def gb (bl : List (Nat × Nat)) : Nat → Option (Nat × Nat) := fun o => if o < 64 then some (o, 0) else bl[o - 64]?
/-- What a run begins with. -/
def EntryOk (gt : List Tab) (w : World) (s : SA) (gs : List (Option Nat)) (σ : Nat → Nat) (vs : List Value) (bl : List (Nat × Nat)) : Prop :=
  TabsIn gt w ∧ bl.length = s.obs.length ∧ s.i ≤ 2 ^ 40 ∧ ∀ σ', Ag s.i σ σ' → DenL σ' (gb bl) (groupS gs s.l) vs ∧ ∀ (j : Nat) ob (p : Nat × Nat), s.obs[j]? = some ob → bl[j]? = some p → ∃ x, w.heap[p.1]? = some x ∧ ObjDen σ' (gb bl) p.2 ob x

noncomputable def tabOk (t : Tab) : Bool := bc (Nat.blt t.g 64) (List.rec true (fun n _ ih => bc (Nat.blt n (p2 t.k.bits)) ih false) t.ns) false
noncomputable def tabsOk (l : List Tab) : Bool := List.rec true (fun t _ ih => bc (tabOk t) ih false) l
noncomputable def tabsTr (l : List Tab) (hp : Tr HE) : Tr HE := List.rec hp (fun t _ ih => ih.set t.g (some ⟨.tab (tabS t.k t.ns), true⟩)) l
theorem tabS_ok {σ β} {k : IntKind} : ∀ {ns : List Nat}, (List.rec true (fun n _ ih => bc (Nat.blt n (p2 k.bits)) ih false) ns : Bool) = true → DenL σ β (tabS k ns) (ns.map fun n => .int k (ofB k n))
  | [], _ => .nil
  | n :: ns, h => by
    obtain ⟨h1, h2⟩ := bc_tf (show bc (Nat.blt n (p2 k.bits)) (List.rec true (fun n _ ih => bc (Nat.blt n (p2 k.bits)) ih false) ns) false = true from h)
    refine .cons ?_ (tabS_ok h2)
    have := Den.int (σ := σ) (β := β) (k := k) (a := 0) (b := 0) (t := .lit n) (u := .lit 0) (c := .lit 0) (l := []) (by rw [ev_lit]; exact of_nblt h1)
    rwa [ev_lit] at this
theorem tabsOk_at : ∀ {l : List Tab}, tabsOk l = true → ∀ t ∈ l, t.g < 64 ∧ (List.rec true (fun n _ ih => bc (Nat.blt n (p2 t.k.bits)) ih false) t.ns : Bool) = true
  | [], _, t, ht => by cases ht
  | t0 :: l, h, t, ht => by
    obtain ⟨h1, h2⟩ := bc_tf (show bc (tabOk t0) (tabsOk l) false = true from h)
    rcases List.mem_cons.1 ht with rfl | ht
    · obtain ⟨h3, h4⟩ := bc_tf h1
      exact ⟨of_nblt h3, h4⟩
    · exact tabsOk_at h2 t ht
theorem tabsTr_get : ∀ {l : List Tab} {hp : Tr HE} {o : Nat} {he : HE}, (tabsTr l hp).get o = some he → hp.get o = some he ∨ ∃ t ∈ l, o = t.g ∧ he = ⟨.tab (tabS t.k t.ns), true⟩
  | [], _, _, _, h => .inl h
  | t :: l, hp, o, he, h => by
    change ((tabsTr l hp).set t.g (some ⟨.tab (tabS t.k t.ns), true⟩)).get o = some he at h
    by_cases e : o = t.g
    · subst e
      rw [Tr.get_set_eq] at h; cases h
      exact .inr ⟨t, List.mem_cons_self, rfl, rfl⟩
    · rw [Tr.get_set_ne _ _ e] at h
      exact (tabsTr_get h).imp id fun ⟨t', h1, h2⟩ => ⟨t', List.mem_cons_of_mem _ h1, h2⟩

noncomputable def lawRunB (E : Env) (n f : Nat) (lems : List Vc) (asm : List Tm) (nv : Nat) (obs : List SObj) (args : List SV) : Ans :=
  wa 233 (tabsOk E.gt) (wa 232 (allLt nv asm) (forcePC (pcA (st0 lems nv).pc asm) fun pc => forceN (Nat.add 64 (lenR obs)) fun m => forceTr (tabsTr E.gt (hpOf obs 64 .nil)) fun hp => callN E n f args ⟨hp, m, pc⟩ endTrue))

theorem lawRunB_ok {E : Env} {L : (Nat → Nat) → SV → Prop} (hE : EnvOk L E) {n f : Nat} {lems : List Vc} {asm : List Tm} {s : SA} {gs : List (Option Nat)} (σ : Nat → Nat) (h : (lawRunB E n f lems asm s.i s.obs (groupS gs s.l)).sat L σ) (hl : ∀ σ, ∀ v ∈ lems, v.ok σ) (ha : ∀ t ∈ asm, t.ev σ ≠ 0)
    {vs : List Value} {bl : List (Nat × Nat)} {w : World} (hv : EntryOk E.gt w s gs σ vs bl) :
    Calls E.P f vs.toArray w (fun e w' => e = .returned (.bool true) ∧ Below w.heap.size w w') ∧ (callFunc f vs.toArray).run E.P w = .ok (.enter f vs.toArray) w := by
  obtain ⟨htab, h⟩ := wa_sat h
  obtain ⟨hv', h⟩ := wa_sat h
  rw [forcePC_eq, forceN_eq, forceTr_eq] at h
  obtain ⟨hT, hbl, hle, hent⟩ := hv
  have htab := tabsOk_at htab
  have hpc : (pcA (st0 lems s.i).pc asm).okC σ := pcA_ok (st0_okC (nv := s.i) σ hl) hv' ha
  have hnv : (pcA (st0 lems s.i).pc asm).nv = s.i := pcA_nv _ _
  have hget : ∀ o he, (tabsTr E.gt (hpOf s.obs 64 .nil)).get o = some he → (∃ ob, s.obs[o - 64]? = some ob ∧ he = ⟨ob, true⟩ ∧ 64 ≤ o ∧ o - 64 < s.obs.length) ∨ ∃ t ∈ E.gt, o = t.g ∧ he = ⟨.tab (tabS t.k t.ns), true⟩ := fun o he hg => by
    rcases tabsTr_get hg with hg | hg
    · left
      rw [hpOf_get] at hg
      by_cases e : 64 ≤ o ∧ o < 64 + s.obs.length
      · rw [if_pos e] at hg
        rw [Option.map_eq_some_iff] at hg
        obtain ⟨ob, h1, rfl⟩ := hg
        exact ⟨ob, h1, rfl, e.1, by omega⟩
      · rw [if_neg e, Tr.get_nil] at hg; cases hg
    · exact .inr hg
  have gbt : ∀ g, g < 64 → gb bl g = some (g, 0) := fun g hg => by unfold gb; rw [if_pos hg]
  have gbo : ∀ o, 64 ≤ o → gb bl o = bl[o - 64]? := fun o ho => by unfold gb; rw [if_neg (by omega)]
  have h0 : RepC ⟨fun _ => False, fun b => (∃ p ∈ bl, p.1 = b) ∨ ∃ t ∈ E.gt, t.g = b⟩ σ w (gb bl) ⟨tabsTr E.gt (hpOf s.obs 64 .nil), Nat.add 64 (lenR s.obs), pcA (st0 lems s.i).pc asm⟩ w := by
    refine ⟨hpc, fun σ' hag => ?_⟩
    rw [show (⟨tabsTr E.gt (hpOf s.obs 64 .nil), Nat.add 64 (lenR s.obs), pcA (st0 lems s.i).pc asm⟩ : St).pc.nv = s.i from hnv] at hag
    obtain ⟨_, hob⟩ := hent σ' hag
    have obat : ∀ (j : Nat) (p : Nat × Nat), bl[j]? = some p → ∃ ob x, s.obs[j]? = some ob ∧ w.heap[p.1]? = some x ∧ ObjDen σ' (gb bl) p.2 ob x := fun j p hj => by
      have hlt : j < s.obs.length := by rw [← hbl]; exact (List.getElem?_eq_some_iff.1 hj).1
      obtain ⟨x, h1, h2⟩ := hob j _ p (List.getElem?_eq_getElem hlt) hj
      exact ⟨_, x, List.getElem?_eq_getElem hlt, h1, h2⟩
    refine ⟨Kept.refl _ _, fun b hb => ?_, fun o ho => ?_, fun o he hg => ?_, fun o o' he he' b c c' hg hg' hro _ _ => ?_, gbt⟩
    · rcases hb with hb | hb
      · obtain ⟨p, hp, rfl⟩ := hb
        obtain ⟨j, hj⟩ := List.mem_iff_getElem?.1 hp
        obtain ⟨ob, x, _, h1, _⟩ := obat j p hj
        exact (Array.getElem?_eq_some_iff.1 h1).1
      · obtain ⟨t, ht, rfl⟩ := hb
        obtain ⟨_, _, _, h1, _⟩ := hT t ht
        exact (Array.getElem?_eq_some_iff.1 h1).1
    · have ho : 64 + lenR s.obs ≤ o := ho
      rw [lenR_eq, ← hbl] at ho
      rw [gbo o (by omega)]
      exact List.getElem?_eq_none (by omega)
    · rcases hget o he hg with ⟨ob, h1, rfl, ho, hlt⟩ | ⟨t, ht, rfl, rfl⟩
      · have hlt' : o - 64 < bl.length := by omega
        obtain ⟨ob', x, k1, k2, k3⟩ := obat (o - 64) _ (List.getElem?_eq_getElem hlt')
        rw [h1] at k1; cases k1
        exact ⟨bl[o - 64].1, bl[o - 64].2, x, by rw [gbo o ho]; exact List.getElem?_eq_getElem hlt', k2, k3, (fun h => by cases h), fun _ => .inl ⟨_, List.getElem_mem hlt', rfl⟩⟩
      · obtain ⟨arr, e, fr, k1, k2⟩ := hT t ht
        obtain ⟨t1, t2⟩ := htab t ht
        refine ⟨t.g, 0, _, gbt _ t1, k1, .tab (tabS_ok t2) (fun j v hj => ?_), (fun h => by cases h), fun _ => .inr ⟨t, ht, rfl⟩⟩
        rw [List.getElem?_map, Option.map_eq_some_iff] at hj
        obtain ⟨n, hn, rfl⟩ := hj
        exact k2 j n hn
    · have r1 : he.ro = true := by rcases hget o he hg with ⟨_, _, rfl, _⟩ | ⟨_, _, _, rfl⟩ <;> rfl
      have r2 : he'.ro = true := by rcases hget o' he' hg' with ⟨_, _, rfl, _⟩ | ⟨_, _, _, rfl⟩ <;> rfl
      rw [r1, r2] at hro
      exact absurd hro (by simp)
  have hv2 : DenLC (pcA (st0 lems s.i).pc asm).nv σ (gb bl) (groupS gs s.l) vs := fun σ' hag => (hent σ' (hnv ▸ hag)).1
  obtain ⟨h1, h2⟩ := callN_ok hE n _ σ w (gb bl) _ w f _ vs endTrue (fun v w' => v = .bool true ∧ Below w.heap.size w w') h0 hv2 h (by
    intro σ' β' st' w' s' v g1 g2 g3 g4 g5 g6
    refine ⟨endTrue_ok g6 g4.1 rfl g5, ?_⟩
    have hk := (g4.2 σ' (Ag.refl _ _)).kept
    exact Kept.below ⟨hk.os, hk.tape, hk.output, hk.size, fun k hk' hm => hk.block k hk' hm⟩)
  exact ⟨Calls.mono h1 fun e w' ⟨v, e1, e2, e3⟩ => ⟨by rw [e1, e2], e3⟩, h2⟩
/-- A run of a function without parameters. -/
theorem trueFn_of {E : Env} (hE : EnvOk (fun _ _ => True) E) {n f : Nat} (h : (lawRunB E n f [] [] 0 [] []).good = true) : TrueFn E.P E.gt f := fun w hT =>
  lawRunB_ok (s := ⟨[], [], [], 0, 0, 0⟩) (gs := []) (vs := []) (bl := []) hE (fun _ => 0) (Ans.good_sat h (fun _ _ => True) (fun _ => 0)) (fun _ v hv => by cases hv) (fun t ht => by cases ht) ⟨hT, rfl, Nat.zero_le _, fun _ _ => ⟨.nil, fun j ob p hj => by cases hj⟩⟩

theorem law_contractA (hl : laidOutB P = true) {gt : List Tab} {fn : Func} {s : ChangeSpec} {f : Nat} {tb : TypeId} {d : Nat} {gs : List (Option Nat)} {ks : List LKd}
    (hk : argK P d fn.params.toList = some (gs, ks))
    (hrun : ∀ nl : List Bool, nl.length = nsl ks → ∃ sa, symK ks nl 0 4294967296 64 = some sa ∧ sa.i ≤ 2 ^ 40 ∧ ∀ (σ : Nat → Nat) (vs : List Value) (w : World) (bl : List (Nat × Nat)), EntryOk gt w sa gs σ vs bl → Calls P f vs.toArray w fun e w' => e = .returned (.bool true) ∧ Below w.heap.size w w')
    (hrow : (fn.params.toList.all fun t => P.readableRec t && decide (t < P.types.size)) = true) (hvars : s.vars = []) (hres : fn.resultTypes = #[tb]) (htb : P.underlying tb = some .bool)
    (hfn : ∀ ds : List (DataW H), ds.length = fn.params.toList.length → s.fn H ds = { results := [.lit (.bool true)], args := ds })
    (W : World) (base : Nat) (args : Array Value) (ds gs' : List (DataW H)) (before : List MemPlace)
    (hval : ∀ (j : Nat) t v, fn.params[j]? = some t → args[j]? = some v → Value.okWide P W .any base t v)
    (hW : DataW.Whole enc P fn.params.toList s.vars false W args.toList ds gs' before) (hT : TabsIn gt W) :
    Calls P f args W fun e W' => ∃ v, e = .returned v ∧ s.post enc P fn false true false false W args v W' := by
  have hW' := hW
  obtain ⟨p, q, hA, hV, rfl, hfz, hnd⟩ := hW
  obtain ⟨hlen, hdl⟩ := trodAll_len hA
  rw [hvars] at hV
  obtain ⟨rfl, rfl⟩ := trodVars_none hV
  obtain ⟨g1, g2, g3⟩ := argsA_ok (ts := fn.params.toList) (vs := args.toList) (gs := gs) (ks := ks) (fun j t v ht hv => hval j t v (by rw [← Array.getElem?_toList]; exact ht) (by rw [← Array.getElem?_toList]; exact hv)) hA hk
  obtain ⟨nl, hnl, hsym⟩ := symK_ok g1 g2
  obtain ⟨sa, hsa, hsi, hr⟩ := hrun nl hnl
  obtain ⟨_, vf, vg, bl, hbl, _, _, _, hok⟩ := hsym [] 0 4294967296 64 sa (by rw [List.append_nil]; exact hsa)
  obtain ⟨σ, s1, s2⟩ := sigma_of vf vg
  have hc := hr σ args.toList W bl ⟨hT, hbl, hsi, fun σ' ha => by
    obtain ⟨c1, c2⟩ := hok σ' (gb bl) (fun j _ h2 => (ha.1 j h2).trans (s1 j (Nat.lt_of_lt_of_le h2 hsi))) (fun h x h1 _ => (ha.2 h x (.inr h1)).trans (s2 h x)) (fun j p hj => by unfold gb; rw [if_neg (by omega), Nat.add_sub_cancel_left]; exact hj)
    exact ⟨g3 _ _ _ c1, c2⟩⟩
  refine Calls.mono hc fun e W' he => ?_
  obtain ⟨rfl, hb⟩ := he
  have hlt : ∀ x ∈ p, x.block < W.heap.size := fun x hx => by simpa using hW'.lt x (List.mem_append_left _ hx)
  refine ⟨_, rfl, ds, [], p ++ [], [], p, [], hW', ?_, ?_, ?_, ?_, fun h => by cases h⟩
  all_goals first
    | (rw [List.append_nil, hfn ds hdl]
       first
         | (rw [hres]; exact trodAll_mk1 (shut_bool htb true))
         | exact trodAll_below hl hb hrow hA hlt
         | (rw [hvars]; exact rfl)
         | exact hb.frame _)
    | exact hb.frame _
/-- One good run of a part. -/
theorem part_runT {LF n f : Nat} {dbg : Bool} {lk jk : List LK} {rj : List RJ} {jw : List LK} {tg : List (Nat × Nat)} {fr tr : List Nat} {gt : List Tab} {mf : List Nat} {mt : List MT} {ms : List SM} {lems : List Vc} {asm : List Tm} {sa : SA} {gs : List (Option Nat)} (hm : P.follows .mixedOrders = true) (ht : ∀ f ∈ tr, TrueFn P gt f) (hk : ∀ e ∈ mt, MemFn P e.f e.args e.s) (hs : ∀ e ∈ ms, SumFn P e) (h : (lawRunB (envL P LF dbg lk jk rj jw tg fr tr gt mf mt ms) n f lems asm sa.i sa.obs (groupS gs sa.l)).good = true) (hl : ∀ σ, ∀ v ∈ lems, v.ok σ)
    (σ : Nat → Nat) (ha : ∀ t ∈ asm, t.ev σ ≠ 0) (vs : List Value) (w : World) (bl : List (Nat × Nat)) (hd : EntryOk gt w sa gs σ vs bl) : Calls P f vs.toArray w fun e w' => e = .returned (.bool true) ∧ Below w.heap.size w w' :=
  (lawRunB_ok (E := envL P LF dbg lk jk rj jw tg fr tr gt mf mt ms) (L := fun _ _ => True) (envL_okT hm ht hk hs) σ (Ans.good_sat h _ σ) hl ha hd).1
end

/-- A signed number between two. -/
theorem slt_range {σ : Nat → Nat} {i a b : Nat} (ha : a < 2 ^ 62) (hb : b < 2 ^ 62) (h1 : ¬ (Tm.bin .slt 64 (.var i 64) (.lit a)).ev σ ≠ 0) (h2 : (Tm.bin .slt 64 (.var i 64) (.lit b)).ev σ ≠ 0) : a ≤ (Tm.var i 64).ev σ ∧ (Tm.var i 64).ev σ < b := by
  have hx : (Tm.var i 64).ev σ < 2 ^ 64 := Nat.mod_lt _ (Nat.two_pow_pos _)
  have e : ∀ n, (Tm.bin .slt 64 (.var i 64) (.lit n)).ev σ = b2n (Nat.blt (((Tm.var i 64).ev σ + 2 ^ 63) % 2 ^ 64) ((n + 2 ^ 63) % 2 ^ 64)) := fun _ => rfl
  rw [e] at h1 h2
  generalize (Tm.var i 64).ev σ = x at *
  have g1 : ¬ (x + 2 ^ 63) % 2 ^ 64 < (a + 2 ^ 63) % 2 ^ 64 := fun h => h1 (by rw [nblt_t h]; exact Nat.one_ne_zero)
  have g2 : (x + 2 ^ 63) % 2 ^ 64 < (b + 2 ^ 63) % 2 ^ 64 := by
    rcases Nat.lt_or_ge ((x + 2 ^ 63) % 2 ^ 64) ((b + 2 ^ 63) % 2 ^ 64) with hh | hh
    · exact hh
    · rw [nblt_f (Nat.not_lt.2 hh)] at h2; exact absurd rfl h2
  rw [Nat.mod_eq_of_lt (show a + 2 ^ 63 < 2 ^ 64 by omega)] at g1
  rw [Nat.mod_eq_of_lt (show b + 2 ^ 63 < 2 ^ 64 by omega)] at g2
  omega
end Go.Sy
end

section
/- Tables of the program's own, as a row lists them. -/
namespace Go.Sy
open Go.RowKit

/-- What stands at a place of the list is so. -/
theorem laid_reads {P : Program} {w : World} : ∀ {l : List (String × DataW Unit)} {ps : List MemPlace}, DataW.LaidVars P w l ps → ∀ (i : Nat) n d, l[i]? = some (n, d) →
    ∃ g t cs fuel p, P.globalNamed n = some g ∧ (P.globals[g]?).map (·.type) = some t ∧ w.var? P n = some cs ∧ DataW.trod (fun _ => ()) P w 0 (fun _ => true) false fuel t cs.toList = some (d, p)
  | [], _, _, _, _, _, hm => by cases hm
  | (n', d') :: r, ps, h, i, n, d, hm => by
    obtain ⟨g, t, cs, fuel, p, q, h1, h2, h3, h4, h5, _⟩ := h
    cases i with
    | zero => cases hm; exact ⟨g, t, cs, fuel, p, h1, h2, h3, h4⟩
    | succ i => exact laid_reads h5 i n d hm
theorem heap_of_var {P : Program} {w : World} {n : String} {g : Nat} {cs : Array Value} (hg : P.globalNamed n = some g) (h : w.var? P n = some cs) : ∃ e fr, w.heap[g]? = some (.cells cs e fr) := by
  simp only [World.var?, hg, Option.bind_some] at h
  split at h
  · rename_i a b c hh
    injection h with h
    subst h
    exact ⟨_, _, hh⟩
  · cases h
/-- A table that is listed. -/
theorem tab_of_laid {P : Program} {laid : List (String × DataW Unit)} {W : World} (h : laidMet P laid W) {i : Nat} {name : String} {T : Tab} {zs : List Int} {t e : TypeId} {n : Nat} (hm : laid[i]? = some (name, Lib.tabData T.k zs))
    (hz : zs = T.ns.map (ofB T.k)) (hg : P.globalNamed name = some T.g) (hty : (P.globals[T.g]?).map (·.type) = some t) (ht : P.underlying t = some (.array n e)) (he : P.underlying e = some (.int T.k)) (hce : P.cellsOf e = 1) (hct : P.cellsOf t = n) :
    ∃ arr e fr, W.heap[T.g]? = some (.cells arr e fr) ∧ ∀ (j n : Nat), T.ns[j]? = some n → arr[j]? = some (.int T.k (ofB T.k n)) := by
  obtain ⟨ps, hv, _⟩ := h
  obtain ⟨g', t', cs, fuel, p, hg', ht', hvar, hd⟩ := laid_reads hv i _ _ hm
  obtain rfl := Option.some.inj (hg.symm.trans hg')
  obtain rfl := Option.some.inj (hty.symm.trans ht')
  have hcs := Lib.cells_of_tab ht he hce hct hd
  obtain ⟨e', fr, hh⟩ := heap_of_var hg hvar
  refine ⟨cs, e', fr, hh, fun j m hj => ?_⟩
  rw [← Array.getElem?_toList, hcs, hz, List.getElem?_map, List.getElem?_map, hj]
  rfl
theorem tabs_nil {W : World} : TabsIn [] W := fun _ h => by cases h
theorem tabs_cons {W : World} {t : Tab} {l : List Tab} (h : ∃ arr e fr, W.heap[t.g]? = some (.cells arr e fr) ∧ ∀ (j n : Nat), t.ns[j]? = some n → arr[j]? = some (.int t.k (ofB t.k n))) (k : TabsIn l W) : TabsIn (t :: l) W := fun x hx => (List.mem_cons.1 hx).elim (fun e => e ▸ h) (k x)
end Go.Sy
end
