/- A symbolic run of the program: maps, strings, functions without a body. -/
import Derived.Test.YthbdkghbkoibdaaSyD
import Derived.Maps.RangeRun
import Derived.Laws.BytesString
import Derived.Laws.LoneSync
import Derived.Lib.Builder
import Derived.Lib.MakeNoZero
import Derived.Lib.UnsafeStr
import Derived.Lib.Bytealg
import Derived.Laws.RangeString
import Derived.Laws.IdiomStrings

section
/- Maps: made, read, written. -/
namespace Go.Sy
open Go.RowKit

/-! ### Keys -/
/-- A type without depth. -/
noncomputable def flatT (P : Program) (t : TypeId) : Bool := match P.underlying t with | some (.int _) => true | some .string => true | some .bool => true | _ => false
theorem flatT_ck {P : Program} {t : TypeId} (h : flatT P t = true) (e : Bool) (n : Nat) (v : Value) (w : World) : (Instr.checkKey e (n + 1) t v).run P w = .ok () w := by
  unfold flatT at h
  split at h
  · rename_i hu; unfold Instr.checkKey; simp [run_underlying' hu]
  · rename_i hu; unfold Instr.checkKey; simp [run_underlying' hu]
  · rename_i hu; unfold Instr.checkKey; simp [run_underlying' hu]
  · cases h
noncomputable def isSomeR {α : Type} (x : Option α) : Bool := Option.rec false (fun _ => true) x
noncomputable def ckFs (P : Program) (cs : List SV) (fs : List Field) : Bool := List.rec true (fun f _ ih => bc (band (flatT P f.type) (isSomeR (partS P f.type cs f.offset))) ih false) fs
structure CK where
  f : SV → Bool
noncomputable def cCk (P : Program) (t : TypeId) : CK :=
  bc (flatT P t) ⟨fun _ => true⟩ (match P.underlying t with | some (.struct fs) => ⟨fun s => Option.rec false (fun cs => ckFs P cs fs.toList) (svAgg s)⟩ | _ => ⟨fun _ => false⟩)
theorem cCk_ok {P : Program} {t : TypeId} {s : SV} {v : Value} {σ β} (h : (cCk P t).f s = true) (hd : DenO σ β s v) (e : Bool) (w : World) : (Instr.checkKey e 10000 t v).run P w = .ok () w := by
  unfold cCk at h
  cases hf : flatT P t
  · rw [hf] at h
    change CK.f (match P.underlying t with | some (.struct fs) => ⟨fun s => Option.rec false (fun cs => ckFs P cs fs.toList) (svAgg s)⟩ | _ => ⟨fun _ => false⟩) s = true at h
    split at h
    · rename_i fs hu
      change (Option.rec false (fun cs => ckFs P cs fs.toList) (svAgg s) : Bool) = true at h
      cases ha : svAgg s with
      | none => rw [ha] at h; cases h
      | some cs =>
        have h' : ckFs P cs fs.toList = true := by rwa [ha] at h
        clear h
        cases svAgg_o ha hd with
        | agg hl =>
          show (Instr.checkKey e (9998 + 1 + 1) t _).run P w = _
          rw [Instr.checkKey]
          simp only [Sem.run_bind, run_underlying' hu, Result.andThen_ok]
          rw [← Array.forIn_toList]
          generalize fs.toList = l at h'
          induction l with
          | nil => simp
          | cons f l ih =>
            obtain ⟨h1, h2⟩ := bc_tf h'
            obtain ⟨h3, h4⟩ := band_eq h1
            cases hp : partS P f.type cs f.offset with
            | none => rw [hp] at h4; cases h4
            | some r =>
              obtain ⟨u, h5, _⟩ := partS_ok hl hp w
              by_cases hn : f.name = "_"
              · simp only [List.forIn_cons, Sem.run_bind, hn, ne_eq, not_true_eq_false, if_false, Result.andThen_ok, Sem.run_pure]
                exact ih h2
              · simp only [List.forIn_cons, Sem.run_bind, hn, ne_eq, not_false_eq_true, if_true, Result.andThen_ok, h5, flatT_ck h3, Sem.run_pure]
                exact ih h2
    · cases h
  · exact flatT_ck hf e 9999 v w

/-! ### Finding -/
noncomputable def hintF (hs : List Tm) : PC → (PC → Ans) → Ans :=
  List.rec (motive := fun _ => PC → (PC → Ans) → Ans) (fun pc k => k pc) (fun t _ ih pc k => br pc t (fun pc => ih pc k) k) hs
theorem hintF_ok {L σ} {k : PC → Ans} : ∀ {hs : List Tm} {pc : PC}, pc.okC σ → (∀ t ∈ hs, TS pc.nv σ t) → (hintF hs pc k).sat L σ → ∃ pc', pc'.okC σ ∧ pc'.nv = pc.nv ∧ (k pc').sat L σ
  | [], pc, h, _, hk => ⟨pc, h, rfl, hk⟩
  | t :: hs, pc, h, ht, hk => by
    rcases br_ok h (ht t List.mem_cons_self) hk with ⟨_, pc', h1, h2, h3⟩ | ⟨_, pc', h1, h2, h3⟩
    · obtain ⟨pc2, k1, k2, k3⟩ := hintF_ok (hs := hs) h1 (fun t hm => by rw [h2]; exact ht t (List.mem_cons_of_mem _ hm)) h3
      exact ⟨pc2, k1, k2.trans h2, k3⟩
    · exact ⟨pc', h1, h2, h3⟩
noncomputable def subS (s : SV) : List SV := bc (Nat.beq s.1 13) s.8 (bc (Nat.beq s.1 11) s.8 [])
noncomputable def hintsOf (xs : List SV) : List SV → List Tm :=
  List.rec (motive := fun _ => List SV → List Tm) (fun _ => []) (fun x _ ih ys => List.rec [] (fun y t _ => Option.rec (ih t) (fun a => Option.rec (ih t) (fun b => eqI a.1.bits a.2 b.2 :: ih t) (svInt y)) (svInt x)) ys) xs
theorem hintsOf_TS {nv σ β} : ∀ {xs ys : List SV} {vs us : List Value}, DenLC nv σ β xs vs → DenLC nv σ β ys us → ∀ t ∈ hintsOf xs ys, TS nv σ t
  | [], _, _, _, _, _, t, ht => by cases ht
  | x :: xs, [], _, _, _, _, t, ht => by cases ht
  | x :: xs, y :: ys, vs, us, hx, hy, t, ht => by
    have hx0 := hx σ (Ag.refl _ _)
    have hy0 := hy σ (Ag.refl _ _)
    cases vs with
    | nil => cases hx0
    | cons v vs =>
      cases us with
      | nil => cases hy0
      | cons u us =>
        have hxh : DenC nv σ β x v := fun σ' ha => by cases hx σ' ha; assumption
        have hyh : DenC nv σ β y u := fun σ' ha => by cases hy σ' ha; assumption
        have hxt : DenLC nv σ β xs vs := fun σ' ha => by cases hx σ' ha; assumption
        have hyt : DenLC nv σ β ys us := fun σ' ha => by cases hy σ' ha; assumption
        have rest := hintsOf_TS hxt hyt
        change t ∈ (Option.rec (hintsOf xs ys) (fun a => Option.rec (hintsOf xs ys) (fun b => eqI a.1.bits a.2 b.2 :: hintsOf xs ys) (svInt y)) (svInt x) : List Tm) at ht
        cases ha : svInt x with
        | none => rw [ha] at ht; exact rest t ht
        | some a =>
          rw [ha] at ht
          cases hb : svInt y with
          | none =>
            have ht' : t ∈ (Option.rec (hintsOf xs ys) (fun b => eqI a.1.bits a.2 b.2 :: hintsOf xs ys) (svInt y) : List Tm) := ht
            rw [hb] at ht'; exact rest t ht'
          | some b =>
            have ht' : t ∈ (Option.rec (hintsOf xs ys) (fun b => eqI a.1.bits a.2 b.2 :: hintsOf xs ys) (svInt y) : List Tm) := ht
            rw [hb] at ht'
            rcases List.mem_cons.1 ht' with rfl | ht'
            · obtain ⟨h1, _, _⟩ := int_VS ha (fun σ' hg => .inr (hxh σ' hg))
              obtain ⟨h2, _, _⟩ := int_VS hb (fun σ' hg => .inr (hyh σ' hg))
              intro σ' hg
              rw [eqI_ev, eqI_ev, h1 σ' hg, h2 σ' hg]
            · exact rest t ht'
theorem subS_ok {nv σ β s v} (h : DenC nv σ β s v) : ∃ vs, DenLC nv σ β (subS s) vs := by
  unfold subS
  have key : ∀ n, n = 13 ∨ n = 11 → s.1 = n → ∃ vs, DenLC nv σ β s.8 vs := by
    intro n hn hs
    have h0 := h σ (Ag.refl _ _)
    obtain ⟨tag, k, a, b, t, u, c, l⟩ := s
    change tag = n at hs
    subst hs
    rcases hn with rfl | rfl
    · cases h0 with
      | agg hl =>
        rename_i vs
        refine ⟨vs, fun σ' ha => ?_⟩
        have := h σ' ha
        generalize hv : Value.agg vs.toArray = vv at this
        cases this with
        | agg h' => injection hv with hv; have := congrArg Array.toList hv; simp at this; rw [this]; exact h'
    · cases h0 with
      | str hl =>
        rename_i bs
        refine ⟨byteVals bs, fun σ' ha => ?_⟩
        · have := h σ' ha
          generalize hv : Value.string bs = vv at this
          cases this with
          | str h' => injection hv with hv; rw [hv]; exact h'
  cases h1 : Nat.beq s.1 13
  · cases h2 : Nat.beq s.1 11
    · exact ⟨[], .nil⟩
    · exact key 11 (.inr rfl) (of_nbeq h2)
  · exact key 13 (.inl rfl) (of_nbeq h1)

/-- None of the rest is alike. -/
noncomputable def restK (q : EQ) (s : SV) (k : PC → Ans) (es : List ME) : PC → Ans :=
  List.rec (motive := fun _ => PC → Ans) k (fun e _ ih pc => oa 240 (q.f s e.key) fun t => forceT t fun t => Option.rec (motive := fun _ => Ans) (br pc t (fun _ => .bad 251) ih) (fun n => bc (Nat.beq n 0) (ih pc) (.bad 251)) (isLit t)) es
noncomputable def findK (q : EQ) (s : SV) (found : Nat → ME → PC → Ans) (none : PC → Ans) (es : List ME) : Nat → PC → Ans :=
  List.rec (motive := fun _ => Nat → PC → Ans) (fun _ pc => none pc)
    (fun e tl ih i pc => oa 240 (q.f s e.key) fun t => forceT t fun t => Option.rec (motive := fun _ => Ans)
      (hintF (hintsOf (subS s) (subS e.key)) pc fun pc => br pc t (fun pc => forceN i fun i => restK q s (fun pc => found i e pc) tl pc) (fun pc => ih (Nat.succ i) pc))
      (fun n => bc (Nat.beq n 0) (ih (Nat.succ i) pc) (forceN i fun i => restK q s (fun pc => found i e pc) tl pc)) (isLit t)) es

theorem sameNow_equal {P : Program} {kt : TypeId} {kind : TypeDesc} (hu : P.underlying kt = some kind) {a b : Value} {r : Bool} (h : Instr.sameNow kind a b = some r) (w : World) : (Op.equal kt a b).run P w = .ok r w := by
  unfold Instr.sameNow at h
  split at h
  · rename_i k x k' y
    split at h
    · rename_i hk; subst hk; cases h
      unfold Op.equal
      show (Op.equalIn (9999 + 1) kt _ _).run P w = _
      rw [Op.equalIn]
      simp [run_underlying' hu]
    · cases h
  · cases h
    unfold Op.equal
    show (Op.equalIn (9999 + 1) kt _ _).run P w = _
    rw [Op.equalIn]
    simp [run_underlying' hu]
  · cases h
    unfold Op.equal
    show (Op.equalIn (9999 + 1) kt _ _).run P w = _
    rw [Op.equalIn]
    simp [run_underlying' hu]
  · cases h


theorem DenK.get {σ β} : ∀ {es : List ME} {kvs : List (Value × Value)} {j : Nat} {e : ME} {x : Value × Value}, DenK σ β es kvs → es[j]? = some e → kvs[j]? = some x → Den σ β e.key x.1 ∧ Den σ β e.val x.2
  | _, _, _, _, _, .nil, he, _ => by simp at he
  | _, _, 0, _, _, .cons h1 h2 _, he, hm => by simp at he hm; subst he; subst hm; exact ⟨h1 σ, h2⟩
  | _, _, j + 1, _, _, .cons _ _ t, he, hm => by simp at he hm; exact DenK.get t he hm
def DenKC (nv : Nat) (σ : Nat → Nat) (β : Nat → Option (Nat × Nat)) (es : List ME) (kvs : List (Value × Value)) : Prop := ∀ σ', Ag nv σ σ' → DenK σ' β es kvs
theorem DenKC.inv {nv σ β e es kvs} (h : DenKC nv σ β (e :: es) kvs) : ∃ x kvs', kvs = x :: kvs' ∧ DenC nv σ β e.key x.1 ∧ DenC nv σ β e.val x.2 ∧ DenKC nv σ β es kvs' := by
  have h0 := h σ (Ag.refl _ _)
  cases h0 with
  | cons hk hv t =>
    rename_i x kvs'
    refine ⟨_, _, rfl, fun σ' _ => hk σ', fun σ' ha => ?_, fun σ' ha => ?_⟩ <;> (cases h σ' ha; assumption)

/-- Whether a key is the one. -/
def EqAt (P : Program) (kt : TypeId) (vk k : Value) (b : Bool) : Prop := ∀ w, (Op.equal kt vk k).run P w = .ok b w
/-- What is compared, for all that agree. -/
theorem eq_at {P : Program} {kt : TypeId} {q : EQ} (hq : EQok P 10000 kt q) {nv σ β s vk sk k} {t : Tm} (hs : DenC nv σ β s vk) (hk : DenC nv σ β sk k) (ht : q.f s sk = some t) : TS nv σ t ∧ EqAt P kt vk k (t.ev σ != 0) := by
  have hEq : ∀ σ', Ag nv σ σ' → ∀ w, (Op.equal kt vk k).run P w = .ok (t.ev σ' != 0) w := fun σ' ha w => (hq σ' β w s sk vk k t (.inr (hs σ' ha)) (.inr (hk σ' ha)) ht).1
  refine ⟨fun σ' ha => ?_, hEq σ (Ag.refl _ _)⟩
  have h1 := hEq σ' ha default
  rw [hEq σ (Ag.refl _ _) default] at h1
  simp at h1
  constructor
  · intro h0; by_cases hh : t.ev σ = 0
    · exact hh
    · rw [h0] at h1; simp [hh] at h1
  · intro h0; by_cases hh : t.ev σ' = 0
    · exact hh
    · rw [h0] at h1; simp [hh] at h1

theorem restK_ok {P : Program} {L} {kt : TypeId} {q : EQ} (hq : EQok P 10000 kt q) {σ β s vk} {k : PC → Ans} :
    ∀ {es : List ME} {kvs : List (Value × Value)} {pc : PC}, pc.okC σ → DenC pc.nv σ β s vk → DenKC pc.nv σ β es kvs → (restK q s k es pc).sat L σ →
    ∃ pc', pc'.okC σ ∧ pc'.nv = pc.nv ∧ (k pc').sat L σ ∧ ∀ x ∈ kvs, EqAt P kt vk x.1 false
  | [], kvs, pc, hp, hk, hm, hs => by
    have : kvs = [] := by have := hm σ (Ag.refl _ _); cases this; rfl
    subst this
    exact ⟨pc, hp, rfl, hs, fun _ h => by cases h⟩
  | e :: es, kvs, pc, hp, hk, hm, hs => by
    obtain ⟨x, kvs', rfl, hek, _, hrest⟩ := hm.inv
    obtain ⟨t, ht, hs⟩ := oa_sat hs
    rw [forceT_eq] at hs
    obtain ⟨hTS, hE⟩ := eq_at hq hk hek ht
    have goOn : ∀ pc', pc'.okC σ → pc'.nv = pc.nv → t.ev σ = 0 → (restK q s k es pc').sat L σ → ∃ pc', pc'.okC σ ∧ pc'.nv = pc.nv ∧ (k pc').sat L σ ∧ ∀ y ∈ x :: kvs', EqAt P kt vk y.1 false := by
      intro pc' h1 h2 h0 h3
      obtain ⟨pc2, g1, g2, g3, g4⟩ := restK_ok hq h1 (by rw [h2]; exact hk) (by rw [h2]; exact hrest) h3
      refine ⟨pc2, g1, g2.trans h2, g3, fun y hy => ?_⟩
      rcases List.mem_cons.1 hy with rfl | hy
      · rw [h0] at hE; exact hE
      · exact g4 y hy
    cases hl : isLit t with
    | some n =>
      rw [hl] at hs
      change (bc (Nat.beq n 0) (restK q s k es pc) (.bad 251)).sat L σ at hs
      by_cases h0 : n = 0
      · rw [nbeq_t h0] at hs; exact goOn pc hp rfl (by rw [isLit_some hl, ev_lit, h0]) hs
      · rw [nbeq_f h0] at hs; exact hs.elim
    | none =>
      rw [hl] at hs
      rcases br_ok hp hTS hs with ⟨_, _, _, _, h⟩ | ⟨h4, pc2, h5, h6, h7⟩
      · exact h.elim
      · exact goOn pc2 h5 h6 h4 h7

/-- Which one alone is alike. -/
def Only (P : Program) (kt : TypeId) (vk : Value) (kvs : List (Value × Value)) (j : Nat) : Prop := ∀ i x, kvs[i]? = some x → EqAt P kt vk x.1 (decide (i = j))
theorem findK_ok {P : Program} {L} {kt : TypeId} {q : EQ} (hq : EQok P 10000 kt q) {σ β s vk} {found : Nat → ME → PC → Ans} {none : PC → Ans} :
    ∀ {es : List ME} {kvs : List (Value × Value)} {i : Nat} {pc : PC}, pc.okC σ → DenC pc.nv σ β s vk → DenKC pc.nv σ β es kvs → (findK q s found none es i pc).sat L σ →
    (∃ j e x pc', es[j]? = some e ∧ kvs[j]? = some x ∧ pc'.okC σ ∧ pc'.nv = pc.nv ∧ (found (i + j) e pc').sat L σ ∧ Only P kt vk kvs j) ∨
    (∃ pc', pc'.okC σ ∧ pc'.nv = pc.nv ∧ (none pc').sat L σ ∧ ∀ x ∈ kvs, EqAt P kt vk x.1 false)
  | [], kvs, i, pc, hp, hk, hm, hs => by
    have : kvs = [] := by have := hm σ (Ag.refl _ _); cases this; rfl
    subst this
    exact .inr ⟨pc, hp, rfl, hs, fun _ h => by cases h⟩
  | e :: es, kvs, i, pc, hp, hk, hm, hs => by
    obtain ⟨x, kvs', rfl, hek, _, hrest⟩ := hm.inv
    obtain ⟨t, ht, hs⟩ := oa_sat hs
    rw [forceT_eq] at hs
    obtain ⟨hTS, hE⟩ := eq_at hq hk hek ht
    have goOn : ∀ pc', pc'.okC σ → pc'.nv = pc.nv → t.ev σ = 0 → (findK q s found none es (Nat.succ i) pc').sat L σ →
        (∃ j e' y pc', (e :: es)[j]? = some e' ∧ (x :: kvs')[j]? = some y ∧ pc'.okC σ ∧ pc'.nv = pc.nv ∧ (found (i + j) e' pc').sat L σ ∧ Only P kt vk (x :: kvs') j) ∨
        (∃ pc', pc'.okC σ ∧ pc'.nv = pc.nv ∧ (none pc').sat L σ ∧ ∀ y ∈ x :: kvs', EqAt P kt vk y.1 false) := by
      intro pc' h1 h2 h0 h3
      have hf : EqAt P kt vk x.1 false := by rw [h0] at hE; exact hE
      rcases findK_ok hq (i := Nat.succ i) h1 (by rw [h2]; exact hk) (by rw [h2]; exact hrest) h3 with ⟨j, e', y, pc2, g1, g2, g3, g4, g5, g6⟩ | ⟨pc2, g3, g4, g5, g6⟩
      · left
        have ej : Nat.succ i + j = i + (j + 1) := by omega
        rw [ej] at g5
        refine ⟨j + 1, e', y, pc2, by simpa using g1, by simpa using g2, g3, g4.trans h2, g5, fun i' z hz => ?_⟩
        cases i' with
        | zero => simp at hz; subst hz; simpa using hf
        | succ i' => simp at hz; have := g6 i' z hz; simpa using this
      · refine .inr ⟨pc2, g3, g4.trans h2, g5, fun y hy => ?_⟩
        rcases List.mem_cons.1 hy with rfl | hy
        · exact hf
        · exact g6 y hy
    have here : ∀ pc', pc'.okC σ → pc'.nv = pc.nv → t.ev σ ≠ 0 → (forceN i fun i => restK q s (fun pc => found i e pc) es pc').sat L σ →
        (∃ j e' y pc', (e :: es)[j]? = some e' ∧ (x :: kvs')[j]? = some y ∧ pc'.okC σ ∧ pc'.nv = pc.nv ∧ (found (i + j) e' pc').sat L σ ∧ Only P kt vk (x :: kvs') j) ∨
        (∃ pc', pc'.okC σ ∧ pc'.nv = pc.nv ∧ (none pc').sat L σ ∧ ∀ y ∈ x :: kvs', EqAt P kt vk y.1 false) := by
      intro pc' h1 h2 h0 h3
      rw [forceN_eq] at h3
      obtain ⟨pc2, g1, g2, g3, g4⟩ := restK_ok hq h1 (by rw [h2]; exact hk) (by rw [h2]; exact hrest) h3
      refine .inl ⟨0, e, x, pc2, rfl, rfl, g1, g2.trans h2, g3, fun i' z hz => ?_⟩
      cases i' with
      | zero =>
        simp at hz; subst hz
        have : (t.ev σ != 0) = true := by simpa using h0
        rw [this] at hE; simpa using hE
      | succ i' =>
        simp at hz
        simpa using g4 z (List.mem_of_getElem? hz)
    cases hl : isLit t with
    | some n =>
      rw [hl] at hs
      change (bc (Nat.beq n 0) (findK q s found none es (Nat.succ i) pc) (forceN i fun i => restK q s (fun pc => found i e pc) es pc)).sat L σ at hs
      have hev : t.ev σ = n := by rw [isLit_some hl, ev_lit]
      by_cases h0 : n = 0
      · rw [nbeq_t h0] at hs; exact goOn pc hp rfl (by rw [hev, h0]) hs
      · rw [nbeq_f h0] at hs; exact here pc hp rfl (by rw [hev]; exact h0) hs
    | none =>
      rw [hl] at hs
      obtain ⟨vs1, hv1⟩ := subS_ok hk
      obtain ⟨vs2, hv2⟩ := subS_ok hek
      obtain ⟨pc1, h1, h2, h3⟩ := hintF_ok hp (hintsOf_TS hv1 hv2) hs
      rcases br_ok h1 (by rw [h2]; exact hTS) h3 with ⟨h4, pc2, h5, h6, h7⟩ | ⟨h4, pc2, h5, h6, h7⟩
      · exact here pc2 h5 (h6.trans h2) h4 h7
      · exact goOn pc2 h5 (h6.trans h2) h4 h7

/-! ### Finding in the map itself, whatever its order -/
theorem now_cases {P : Program} {kt : TypeId} {kind : TypeDesc} (hu : P.underlying kt = some kind) {a b : Value} {r : Bool} (h : EqAt P kt a b r) : Instr.sameNow kind a b = none ∨ Instr.sameNow kind a b = some r := by
  cases hs : Instr.sameNow kind a b with
  | none => exact .inl rfl
  | some r' =>
    have := sameNow_equal hu hs default
    rw [h default] at this
    simp at this; subst this
    exact .inr rfl
def FoundAt (P : Program) (kt : TypeId) (kind : TypeDesc) (vk : Value) (ms : List MapEntry) (i : Nat) (r : Option (Nat × Value)) : Prop :=
  (∀ w, (Instr.findAsking kt vk ms i).run P w = .ok r w) ∧ (Instr.findNow kind vk ms i = none ∨ Instr.findNow kind vk ms i = some r)
theorem FoundAt.run {P : Program} {kt kind vk ms r} (hu : P.underlying kt = some kind) (h : FoundAt P kt kind vk ms 0 r) (w : World) : (Instr.findKey kt vk ms).run P w = .ok r w := by
  unfold Instr.findKey
  rcases h.2 with e | e
  · simp [run_underlying' hu, e, h.1 w]
  · simp [run_underlying' hu, e]
theorem found_none {P : Program} {kt kind vk} (hu : P.underlying kt = some kind) : ∀ {ms : List MapEntry} {i : Nat}, (∀ m ∈ ms, EqAt P kt vk m.key false) → FoundAt P kt kind vk ms i none
  | [], i, _ => ⟨fun w => by simp [Instr.findAsking], .inr rfl⟩
  | m :: ms, i, h => by
    have hm := h m List.mem_cons_self
    obtain ⟨h1, h2⟩ := found_none hu (ms := ms) (i := i + 1) (fun m hm => h m (List.mem_cons_of_mem _ hm))
    refine ⟨fun w => by simp [Instr.findAsking, hm w, h1 w], ?_⟩
    unfold Instr.findNow
    rcases now_cases hu hm with e | e
    · rw [e]; exact .inl rfl
    · rw [e]; exact h2
theorem found_some {P : Program} {kt kind vk} (hu : P.underlying kt = some kind) {m : MapEntry} (hm : EqAt P kt vk m.key true) {b : List MapEntry} : ∀ {a : List MapEntry} {i : Nat}, (∀ m ∈ a, EqAt P kt vk m.key false) → FoundAt P kt kind vk (a ++ m :: b) i (some (i + a.length, m.val))
  | [], i, _ => by
    refine ⟨fun w => by simp [Instr.findAsking, hm w], ?_⟩
    rcases now_cases hu hm with e | e
    · exact .inl (by simp [Instr.findNow, e])
    · exact .inr (by simp [Instr.findNow, e])
  | x :: a, i, h => by
    have hx := h x List.mem_cons_self
    obtain ⟨h1, h2⟩ := found_some hu hm (b := b) (a := a) (i := i + 1) (fun m hm => h m (List.mem_cons_of_mem _ hm))
    have ei : i + 1 + a.length = i + (x :: a).length := by simp; omega
    rw [ei] at h1 h2
    refine ⟨fun w => ?_, ?_⟩
    · have := h1 w
      simp only [List.cons_append, Instr.findAsking, Sem.run_bind, hx w, Result.andThen_ok]
      simpa using this
    · rcases now_cases hu hx with e | e
      · exact .inl (by simp [Instr.findNow, e])
      · rcases h2 with h2 | h2
        · exact .inl (by simp [Instr.findNow, e, h2])
        · exact .inr (by simp [Instr.findNow, e, h2])

/-- Where the one entry stands that is alike. -/
theorem perm_find {P : Program} {kt : TypeId} {vk : Value} {kvs : List (Value × Value)} {ms : List MapEntry} (hp : (ms.map kvOf).Perm kvs) {j : Nat} {x : Value × Value} (hx : kvs[j]? = some x) (ho : Only P kt vk kvs j) :
    ∃ a m b, ms = a ++ m :: b ∧ kvOf m = x ∧ EqAt P kt vk m.key true ∧ (∀ y ∈ a ++ b, EqAt P kt vk y.key false) ∧ ((a ++ b).map kvOf).Perm (kvs.take j ++ kvs.drop (j + 1)) := by
  have hlt : j < kvs.length := (List.getElem?_eq_some_iff.1 hx).1
  have hsplit : kvs = kvs.take j ++ x :: kvs.drop (j + 1) := by
    have h1 : kvs.drop j = x :: kvs.drop (j + 1) := by
      rw [List.drop_eq_getElem_cons hlt]
      congr 1
      exact (List.getElem?_eq_some_iff.1 hx).2
    rw [← h1, List.take_append_drop]
  have hmem : x ∈ ms.map kvOf := hp.mem_iff.2 (by rw [hsplit]; simp)
  obtain ⟨m, hm, rfl⟩ := List.mem_map.1 hmem
  obtain ⟨a, b, rfl⟩ := List.append_of_mem hm
  have hperm : ((a ++ b).map kvOf).Perm (kvs.take j ++ kvs.drop (j + 1)) := by
    rw [hsplit] at hp
    have h1 : ((a ++ m :: b).map kvOf).Perm (kvOf m :: (a ++ b).map kvOf) := by
      rw [List.map_append, List.map_cons, List.map_append]; exact List.perm_middle
    have h2 : (kvs.take j ++ kvOf m :: kvs.drop (j + 1)).Perm (kvOf m :: (kvs.take j ++ kvs.drop (j + 1))) := List.perm_middle
    exact (List.perm_cons _).1 (h1.symm.trans (hp.trans h2))
  have hothers : ∀ y ∈ kvs.take j ++ kvs.drop (j + 1), EqAt P kt vk y.1 false := by
    intro y hy
    rcases List.mem_append.1 hy with hy | hy
    · obtain ⟨i, hi⟩ := List.mem_iff_getElem?.1 hy
      have hij : i < j := by
        rcases Nat.lt_or_ge i j with h | h
        · exact h
        · rw [List.getElem?_take_eq_none h] at hi; cases hi
      rw [List.getElem?_take_of_lt hij] at hi
      have := ho i y hi
      rwa [decide_eq_false (by omega)] at this
    · obtain ⟨i, hi⟩ := List.mem_iff_getElem?.1 hy
      rw [List.getElem?_drop] at hi
      have := ho _ y hi
      rwa [decide_eq_false (by omega)] at this
  refine ⟨a, m, b, rfl, rfl, ?_, ?_, hperm⟩
  · have := ho j _ hx
    simpa [kvOf] using this
  · intro y hy
    have : kvOf y ∈ (a ++ b).map kvOf := List.mem_map.2 ⟨y, hy, rfl⟩
    exact hothers _ (hperm.mem_iff.1 this)

/-! ### A type's zero, as one value -/
noncomputable def isAggV (v : Value) : Bool := match v with | .agg _ => true | _ => false
noncomputable def zeroVK {α : Type} (bad : α) (P : Program) (t : TypeId) (k : SV → α) : α :=
  Option.rec bad (fun v => constsK bad v.cells.toList fun l => bc (isAggV v) (k (.agg l)) (List.rec bad (fun x t _ => List.rec (k x) (fun _ _ _ => bad) t) l)) ((P.info? t).bind fun i => i.zero)
theorem zeroVK_ok {α : Type} {bad : α} {P : Program} {t : TypeId} {k : SV → α} :
    zeroVK bad P t k = bad ∨ ∃ s v, zeroVK bad P t k = k s ∧ (∀ w, (zeroValue t).run P w = .ok v w) ∧ ∀ σ β, Den σ β s v := by
  unfold zeroVK
  cases hi : P.info? t with
  | none => exact .inl rfl
  | some i =>
    simp only [Option.bind_some]
    cases hz : i.zero with
    | none => exact .inl rfl
    | some v =>
      have hrun : ∀ w, (zeroValue t).run P w = .ok v w := fun w => by simp [zeroValue, run_typeInfo' hi, hz]
      rcases constsK_ok bad v.cells.toList (fun l => bc (isAggV v) (k (.agg l)) (List.rec bad (fun x t _ => List.rec (k x) (fun _ _ _ => bad) t) l)) with e | ⟨ss, e, h⟩
      · exact .inl e
      · show (constsK bad v.cells.toList _ = bad) ∨ ∃ s v', constsK bad v.cells.toList _ = k s ∧ _
        cases ha : isAggV v
        · rw [ha] at e
          have hc : v.cells = #[v] := by cases v <;> first | rfl | (cases ha)
          cases ss with
          | nil => have := (h (fun _ => 0) (fun _ => none)).length; rw [hc] at this; simp at this
          | cons x ss =>
            cases ss with
            | cons y ss => have := (h (fun _ => 0) (fun _ => none)).length; rw [hc] at this; simp at this
            | nil =>
              refine .inr ⟨x, v, e, hrun, fun σ β => ?_⟩
              have := h σ β
              rw [hc] at this
              cases this; assumption
        · rw [ha] at e
          cases v <;> first | (cases ha; done) | skip
          rename_i cs
          exact .inr ⟨.agg ss, _, e, hrun, fun σ β => .agg (vs := cs.toList) (h σ β)⟩

/-! ### Maps -/
structure MO where
  es : List ME
  ro : Bool
noncomputable def mapOb (st : St) (o : Nat) : Option MO := Option.rec none (fun he => SObj.rec (fun _ _ => none) (fun _ _ _ => none) (fun es => some ⟨es, he.ro⟩) (fun _ _ _ => none) (fun _ _ _ _ => none) (fun _ => none) (fun _ _ => none) (fun _ => none) he.ob) (st.hp.get o)
theorem mapOb_some {st : St} {o : Nat} {m : MO} (h : mapOb st o = some m) : st.hp.get o = some ⟨.map m.es, m.ro⟩ := by
  unfold mapOb at h
  cases hg : st.hp.get o with
  | none => rw [hg] at h; cases h
  | some he =>
    rw [hg] at h
    obtain ⟨ob, ro⟩ := he
    cases ob <;> first | (cases h; done) | skip
    cases h; rfl

/-- A map's pairs are the same for all that agree. -/
theorem DenK.keys {σ σ' β} : ∀ {es : List ME} {kvs kvs' : List (Value × Value)}, DenK σ β es kvs → DenK σ' β es kvs' → kvs.map Prod.fst = kvs'.map Prod.fst
  | _, _, _, .nil, .nil => rfl
  | _, _, _, .cons h1 _ t, .cons k1 _ t' => by
    rw [List.map_cons, List.map_cons, DenK.keys t t', Den.det (h1 σ) (k1 σ)]
theorem kvs_eq {kvs kvs' : List (Value × Value)} (hk : kvs.map Prod.fst = kvs'.map Prod.fst) (hp : kvs.Perm kvs') (hn : (kvs.map Prod.fst).Nodup) : kvs = kvs' := by
  apply List.ext_getElem?
  intro i
  have hlen : kvs.length = kvs'.length := hp.length_eq
  rcases Nat.lt_or_ge i kvs.length with h | h
  · have h' : i < kvs'.length := by omega
    have e1 := List.getElem?_eq_getElem h
    have e2 := List.getElem?_eq_getElem h'
    have hmem : kvs[i] ∈ kvs' := hp.mem_iff.1 (List.getElem_mem h)
    obtain ⟨j, hj⟩ := List.mem_iff_getElem?.1 hmem
    have hkj : (kvs'.map Prod.fst)[j]? = some kvs[i].1 := by rw [List.getElem?_map, hj]; rfl
    have hki : (kvs.map Prod.fst)[i]? = some kvs[i].1 := by rw [List.getElem?_map, e1]; rfl
    rw [← hk] at hkj
    have hij : i = j := by
      have hi2 : i < (kvs.map Prod.fst).length := by simpa using h
      have hj2 : j < (kvs.map Prod.fst).length := (List.getElem?_eq_some_iff.1 hkj).1
      have a1 := (List.getElem?_eq_some_iff.1 hki).2
      have a2 := (List.getElem?_eq_some_iff.1 hkj).2
      exact (List.getElem_inj hn).1 (a1.trans a2.symm)
    subst hij
    rw [e1, hj]
  · rw [List.getElem?_eq_none h, List.getElem?_eq_none (by omega)]
theorem mapOb_C {M σ w0 β} {st : St} {w : World} (h : RepC M σ w0 β st w) {o : Nat} {m : MO} (hm : mapOb st o = some m) {b c : Nat} (hb : β o = some (b, c)) :
    ∃ kvs ms clock, w.heap[b]? = some (.map ms.toArray clock) ∧ DenKC st.pc.nv σ β m.es kvs ∧ (ms.map kvOf).Perm kvs ∧ (kvs.map Prod.fst).Nodup ∧ Stamps ms clock := by
  have hg := mapOb_some hm
  obtain ⟨b0, c0, x, h1, h2, h3, _⟩ := (h.2 σ (Ag.refl _ _)).heap o _ hg
  rw [hb] at h1; cases h1
  cases h3 with
  | map hd hp hn hs =>
    rename_i kvs ms clock
    refine ⟨kvs, ms, clock, h2, fun σ' ha => ?_, hp, hn, hs⟩
    obtain ⟨b1, c1, x1, g1, g2, g3, _⟩ := (h.2 σ' ha).heap o _ hg
    rw [hb] at g1; cases g1
    rw [h2] at g2
    generalize hx : x1 = y at g3
    cases g3 with
    | map hd' hp' hn' hs' =>
      subst hx
      injection g2 with g2
      injection g2 with g2 _
      have := congrArg Array.toList g2
      simp at this
      subst this
      have : kvs = _ := kvs_eq (hd.keys hd') (hp.symm.trans hp') hn
      rw [this]; exact hd'
theorem run_getMap {P : Program} {w : World} {r : Nat} {es : Array MapEntry} {clock : Nat} (hb : w.heap[r]? = some (.map es clock)) : (getObj r).run P w = .ok (.map es clock) w := by
  simp [getObj, Sem.run, hb]
theorem run_setMap {P : Program} {w : World} {r : Nat} {es : Array MapEntry} {clock : Nat} (o : Obj) (hb : w.heap[r]? = some (.map es clock)) : (setObj r o).run P w = .ok () { w with heap := w.heap.setIfInBounds r o } := by
  simp [setObj, Sem.run, hb]

noncomputable def mapTy (P : Program) (t : TypeId) : Option (TypeId × TypeId) := match P.underlying t with | some (.map k e) => some (k, e) | _ => none
theorem mapTy_some {P : Program} {t : TypeId} {x : TypeId × TypeId} (h : mapTy P t = some x) : P.underlying t = some (.map x.1 x.2) := by
  unfold mapTy at h; split at h <;> first | (cases h; assumption) | (cases h)

noncomputable def hMakeMap (r : Option Operand) : HX := Option.rec ⟨fun _ _ st k => forceN st.nn fun n => stNew st (.map []) fun st' => k (.map n) st'⟩ (fun _ => hbad 241) r
theorem hMakeMap_ok {P L M N t r dst ty pos af g} : HXok P L M N ⟨dst, .makeMap t r, ty, pos, af, g⟩ (hMakeMap r) := by
  cases r with
  | some x => exact hbad_ok
  | none =>
    intro cf _ σ w0 β st w F a k next Q hR hF hs hn
    change (forceN st.nn fun n => stNew st (.map []) fun st' => k (.map n) st').sat L σ at hs
    rw [forceN_eq, stNew_eq] at hs
    obtain ⟨h1, h2, h3⟩ := hR.new (c := 0) (ob := .map []) (x := .map #[] 0) (fun σ' ha => .map (ms := []) .nil (.refl _) List.nodup_nil ⟨(fun _ h => by cases h), List.nodup_nil⟩)
    have hrun : (execOp a.eval ⟨dst, .makeMap t none, ty, pos, af, g⟩).run P w = .ok (.value (.map (some w.heap.size))) { w with heap := w.heap.push (.map #[] 0) } := by
      simp [execOp, Instr.makeMap, newObj, Sem.run]
    unfold Oper.wp
    rw [hrun]
    exact hn.step (st' := st.new _) rfl h1 h3 (fun _ _ => .map h2) hs

noncomputable def lkOut (ck : Bool) (s : SV) (n : Nat) (k : SV → Ans) : Ans := bc ck (k (.tuple [s, .bool (.lit n)])) (k s)
noncomputable def hLookup (P : Program) (t : TypeId) (x ix : Operand) (ck : Bool) : HX :=
  ho 242 (mapTy P t) fun ke => ho 242 (P.underlying ke.1) fun _ => zeroVK (hbad 243) P ke.2 fun z =>
    ⟨fun _ F st k => kn ((cO ix).g F) fun key => wa 244 ((cCk P ke.1).f key) (bc (Nat.beq ((cO x).g F).1 7) (lkOut ck z 0 fun s => k s st)
      (oa 245 (svMap ((cO x).g F)) fun o => oa 246 (mapOb st o) fun m => findK (eqC P 20 ke.1) key (fun _ e pc => lkOut ck e.val 1 fun s => k s ⟨st.hp, st.nn, pc⟩) (fun pc => lkOut ck z 0 fun s => k s ⟨st.hp, st.nn, pc⟩) m.es 0 st.pc))⟩
theorem lkOut_ok {L σ nv β} {ck : Bool} {s : SV} {n : Nat} {v : Value} {k : SV → Ans} (hd : DenC nv σ β s v) (hn : n ≤ 1) (h : (lkOut ck s n k).sat L σ) : ∃ r, DenC nv σ β r (if ck then .tuple #[v, .bool (n != 0)] else v) ∧ (k r).sat L σ := by
  unfold lkOut at h
  cases ck
  · exact ⟨s, hd, h⟩
  · refine ⟨_, fun σ' ha => ?_, h⟩
    have hb : Den σ' β (.bool (.lit n)) (.bool (n != 0)) := by
      have := Den.bool (σ := σ') (β := β) (k := .u8) (a := 0) (b := 0) (t := .lit n) (u := .lit 0) (c := .lit 0) (l := []) (by rw [ev_lit]; exact hn)
      rwa [ev_lit] at this
    exact .tuple (vs := [v, .bool (n != 0)]) (.cons (hd σ' ha) (.cons hb .nil))
theorem hLookup_ok {P L M N t x ix ck dst ty pos af g} : HXok P L M N ⟨dst, .lookup t x ix ck, ty, pos, af, g⟩ (hLookup P t x ix ck) := by
  refine ho_ok fun ke hke => ho_ok fun kind hu => ?_
  have hmt := mapTy_some hke
  rcases zeroVK_ok (bad := hbad 243) (P := P) (t := ke.2) (k := fun z => (⟨fun _ F st k => kn ((cO ix).g F) fun key => wa 244 ((cCk P ke.1).f key) (bc (Nat.beq ((cO x).g F).1 7) (lkOut ck z 0 fun s => k s st)
      (oa 245 (svMap ((cO x).g F)) fun o => oa 246 (mapOb st o) fun m => findK (eqC P 20 ke.1) key (fun _ e pc => lkOut ck e.val 1 fun s => k s ⟨st.hp, st.nn, pc⟩) (fun pc => lkOut ck z 0 fun s => k s ⟨st.hp, st.nn, pc⟩) m.es 0 st.pc))⟩ : HX)) with hz | ⟨z, zv, hz, hzr, hzd⟩
  · rw [hz]; exact hbad_ok
  · rw [hz]
    intro cf _ σ w0 β st w F a k next Q hR hF hs hn
    obtain ⟨hne, hs⟩ := kn_sat hs
    obtain ⟨hck, hs⟩ := wa_sat hs
    have hkey := (cO_C hF ix).of hne
    have hx := cO_C hF x
    have hckr : ∀ e w, (Instr.checkKey e 10000 ke.1 (a.eval ix)).run P w = .ok () w := fun e w => cCk_ok hck (.inr hkey.at) e w
    cases h7 : Nat.beq ((cO x).g F).1 7
    · rw [h7] at hs
      obtain ⟨o, ho, hs⟩ := oa_sat hs
      obtain ⟨m, hm, hs⟩ := oa_sat hs
      have hd := svMap_o ho hx.at0
      generalize hv : a.eval x = vx at hd
      cases hd with
      | map hb =>
        obtain ⟨kvs, ms, clock, g1, g2, g3, g4, g5⟩ := mapOb_C hR hm hb
        rcases findK_ok (eqC_ok 20 10000 (by omega) ke.1) hR.1 hkey g2 hs with ⟨j, e, y, pc', h1, h2, h3, h4, h5, h6⟩ | ⟨pc', h3, h4, h5, h6⟩
        · have hval : DenC st.pc.nv σ β e.val y.2 := fun σ' ha => ((g2 σ' ha).get h1 h2).2
          obtain ⟨ma, m', mb, rfl, rfl, f1, f2, _⟩ := perm_find g3 h2 h6
          have hfind := found_some (i := 0) hu f1 (b := mb) (a := ma) (fun z hz => f2 z (List.mem_append_left _ hz))
          obtain ⟨r, k1, k2⟩ := lkOut_ok hval (Nat.le_refl 1) h5
          have hrun : (execOp a.eval ⟨dst, .lookup t x ix ck, ty, pos, af, g⟩).run P w = .ok (.value (if ck then .tuple #[m'.val, .bool true] else m'.val)) w := by
            have hfr := hfind.run hu w
            simp [execOp, Instr.lookup, hv, run_underlying' hmt, run_getMap g1, hckr, hfr]
          unfold Oper.wp
          rw [hrun]
          exact hn.step (st' := ⟨st.hp, st.nn, pc'⟩) h4 (Ext.refl β) (hR.assume h3 h4) k1 k2
        · obtain ⟨r, k1, k2⟩ := lkOut_ok (nv := st.pc.nv) (β := β) (fun σ' _ => hzd σ' β) (Nat.zero_le 1) h5
          have hrun : (execOp a.eval ⟨dst, .lookup t x ix ck, ty, pos, af, g⟩).run P w = .ok (.value (if ck then .tuple #[zv, .bool false] else zv)) w := by
            have hfr := (found_none (i := 0) hu (ms := ms) (fun z hz => h6 _ (g3.mem_iff.1 (List.mem_map.2 ⟨z, hz, rfl⟩)))).run hu w
            simp [execOp, Instr.lookup, hv, run_underlying' hmt, run_getMap g1, hckr, hfr, hzr]
          unfold Oper.wp
          rw [hrun]
          exact hn.step (st' := ⟨st.hp, st.nn, pc'⟩) h4 (Ext.refl β) (hR.assume h3 h4) k1 k2
    · rw [h7] at hs
      obtain ⟨r, k1, k2⟩ := lkOut_ok (nv := st.pc.nv) (β := β) (fun σ' _ => hzd σ' β) (Nat.zero_le 1) hs
      have hnil : a.eval x = .map none := by
        obtain ⟨k', a', b', t', u', c', l', e, hd⟩ := DenO.tag hx.at0 (of_nbeq h7) (by decide)
        generalize a.eval x = vx at hd
        cases hd; rfl
      have hf : (Instr.findKey ke.1 (a.eval ix) []).run P w = .ok none w := by simp [Instr.findKey, Instr.findNow, run_underlying' hu]
      have hrun : (execOp a.eval ⟨dst, .lookup t x ix ck, ty, pos, af, g⟩).run P w = .ok (.value (if ck then .tuple #[zv, .bool false] else zv)) w := by
        simp [execOp, Instr.lookup, hnil, run_underlying' hmt, hckr, hf, hzr]
      unfold Oper.wp
      rw [hrun]
      exact hn.step rfl (Ext.refl β) hR k1 k2

/-! ### Writing -/
noncomputable def one1 (s : SV) : Bool := bc (Nat.beq s.1 0) true (bc (Nat.beq s.1 1) true (Nat.beq s.1 11))
noncomputable def oneL1 (l : List SV) : Bool := List.rec true (fun x _ ih => bc (one1 x) ih false) l
noncomputable def bitsOk (s : SV) : Bool := bc (one1 s) true (bc (Nat.beq s.1 13) (oneL1 s.8) false)
theorem bytes_self (a : ByteArray) : (a == a) = true := by
  obtain ⟨x⟩ := a
  show (x == x) = true
  simp
theorem one1_ok {σ β s v} (hd : Den σ β s v) (h : one1 s = true) (n : Nat) : Instr.sameBits n v v = true := by
  cases hd <;> first | (cases h; done) | (unfold Instr.sameBits; simp [bytes_self])
theorem oneL1_ok {σ β} : ∀ {ss : List SV} {vs : List Value}, DenL σ β ss vs → oneL1 ss = true → ∀ n, ∀ v ∈ vs, Instr.sameBits n v v = true
  | [], _, h, _, _, v, hv => by cases h; cases hv
  | s :: ss, _, h, hb, n, v, hv => by
    cases h with
    | cons h1 h2 =>
      obtain ⟨b1, b2⟩ := bc_tf hb
      rcases List.mem_cons.1 hv with rfl | hv
      · exact one1_ok h1 b1 n
      · exact oneL1_ok h2 b2 n v hv
theorem bitsOk_ok {σ β s v} (hd : Den σ β s v) (h : bitsOk s = true) : Instr.sameBits 10000 v v = true := by
  unfold bitsOk at h
  cases h1 : one1 s
  · rw [h1] at h
    obtain ⟨h2, h3⟩ := bc_tf h
    have h2 := of_nbeq h2
    obtain ⟨tag, k, a, b, t, u, c, l⟩ := s
    change tag = 13 at h2
    subst h2
    cases hd with
    | agg hl =>
      rename_i vs
      show Instr.sameBits (9999 + 1) _ _ = true
      unfold Instr.sameBits
      have hall := oneL1_ok hl h3 9999
      simp only [beq_self_eq_true, Bool.true_and]
      rw [List.all_eq_true]
      rintro ⟨x, y⟩ hxy
      have hz : x = y ∧ x ∈ vs := by
        have : (x, y) ∈ vs.zip vs := hxy
        clear hall h3 hl hxy h
        induction vs with
        | nil => cases this
        | cons z vs ih =>
          rw [List.zip_cons_cons] at this
          rcases List.mem_cons.1 this with e | e
          · cases e; exact ⟨rfl, List.mem_cons_self⟩
          · obtain ⟨e1, e2⟩ := ih e; exact ⟨e1, List.mem_cons_of_mem _ e2⟩
      rw [← hz.1]; exact hall x hz.2
  · exact one1_ok hd h1 _

noncomputable def forceG {α : Type} (l : List α) : (List α → Ans) → Ans := List.rec (motive := fun _ => (List α → Ans) → Ans) (fun k => k []) (fun x _ ih k => ih fun r => k (x :: r)) l
theorem forceG_eq {α : Type} (l : List α) (k : List α → Ans) : forceG l k = k l := by
  induction l generalizing k with
  | nil => rfl
  | cons x l ih => show forceG l (fun r => k (x :: r)) = _; rw [ih]
noncomputable def setME (v : SV) (l : List ME) : Nat → List ME :=
  List.rec (motive := fun _ => Nat → List ME) (fun _ => []) (fun x t ih n => Nat.rec (⟨x.key, v⟩ :: t) (fun m _ => x :: ih m) n) l
theorem setME_ok {σ β} {s : SV} {v : Value} (hv : Den σ β s v) : ∀ {es : List ME} {kvs : List (Value × Value)} {j : Nat} {x : Value × Value}, DenK σ β es kvs → kvs[j]? = some x → DenK σ β (setME s es j) (kvs.take j ++ (x.1, v) :: kvs.drop (j + 1))
  | _, _, _, _, .nil, hm => by simp at hm
  | e :: es, _, 0, x, .cons h1 h2 h3, hm => by
    simp at hm; subst hm
    exact .cons (m := ⟨e.key, s⟩) h1 hv (by simpa using h3)
  | e :: es, _, j + 1, x, .cons h1 h2 h3, hm => by
    simp at hm
    exact .cons h1 h2 (setME_ok hv h3 hm)
theorem DenK.snoc {σ β} {x : ME} {y : Value × Value} (hk : ∀ τ, Den τ β x.key y.1) (hv : Den σ β x.val y.2) : ∀ {es : List ME} {kvs : List (Value × Value)}, DenK σ β es kvs → DenK σ β (es ++ [x]) (kvs ++ [y])
  | _, _, .nil => .cons hk hv .nil
  | _, _, .cons h1 h2 t => .cons h1 h2 (DenK.snoc hk hv t)

/-- A value of numbers alone. -/
noncomputable def cl1 (s : SV) : Bool := bc (Nat.beq s.1 0) (isSomeR (isLit s.5)) (bc (Nat.beq s.1 1) (isSomeR (isLit s.5)) false)
noncomputable def clL (l : List SV) : Bool := List.rec true (fun x _ ih => bc (cl1 x) ih false) l
noncomputable def closedS (s : SV) : Bool := bc (cl1 s) true (bc (Nat.beq s.1 13) (clL s.8) (bc (Nat.beq s.1 11) (clL s.8) false))
theorem lit_of {t : Tm} (h : isSomeR (isLit t) = true) : ∃ n, t = .lit n := by
  cases hl : isLit t with
  | none => rw [hl] at h; cases h
  | some n => exact ⟨n, isLit_some hl⟩
theorem cl1_ok {σ β s v} (hd : Den σ β s v) (h : cl1 s = true) : ∀ τ, Den τ β s v := by
  intro τ
  cases hd <;> first | (cases h; done) | skip
  · rename_i k a b t u c l hlt
    obtain ⟨n, rfl⟩ := lit_of (t := t) h
    exact .int hlt
  · rename_i k a b t u c l hlt
    obtain ⟨n, rfl⟩ := lit_of (t := t) h
    exact .bool hlt
theorem clL_ok {σ β} : ∀ {l : List SV} {vs : List Value}, DenL σ β l vs → clL l = true → ∀ τ, DenL τ β l vs
  | _, _, .nil, _, _ => .nil
  | _, _, .cons h1 h2, h, τ => .cons (cl1_ok h1 (bc_tf h).1 τ) (clL_ok h2 (bc_tf h).2 τ)
theorem closedS_ok {σ β s v} (hd : Den σ β s v) (h : closedS s = true) : ∀ τ, Den τ β s v := by
  unfold closedS at h
  cases h1 : cl1 s
  · rw [h1] at h
    change bc (Nat.beq s.1 13) (clL s.8) (bc (Nat.beq s.1 11) (clL s.8) false) = true at h
    intro τ
    cases h13 : Nat.beq s.1 13
    · rw [h13] at h
      obtain ⟨h11, h⟩ := bc_tf h
      have h11 := of_nbeq h11
      obtain ⟨tag, k, a, b, t, u, c, l⟩ := s
      change tag = 11 at h11
      subst h11
      cases hd with
      | str hl => exact .str (clL_ok hl h τ)
    · rw [h13] at h
      have h13 := of_nbeq h13
      obtain ⟨tag, k, a, b, t, u, c, l⟩ := s
      change tag = 13 at h13
      subst h13
      cases hd with
      | agg hl => exact .agg (clL_ok hl h τ)
  · exact cl1_ok hd h1
/-- A key that is the same for all, and is alike itself. -/
noncomputable def keyGood (q : EQ) (s : SV) : Bool := band (closedS s) (Option.rec false (fun t => Option.rec false (fun n => Nat.beq n 1) (isLit t)) (q.f s s))
theorem keyGood_ok {P : Program} {kt : TypeId} {q : EQ} (hq : EQok P 10000 kt q) {nv σ β s v} (hd : DenC nv σ β s v) (h : keyGood q s = true) : (∀ τ, Den τ β s v) ∧ EqAt P kt v v true := by
  obtain ⟨h1, h2⟩ := band_eq h
  refine ⟨closedS_ok hd.at h1, ?_⟩
  cases ht : q.f s s with
  | none => rw [ht] at h2; cases h2
  | some t =>
    rw [ht] at h2
    obtain ⟨_, he⟩ := eq_at hq hd hd ht
    change (Option.rec false (fun n => Nat.beq n 1) (isLit t) : Bool) = true at h2
    cases hl : isLit t with
    | none => rw [hl] at h2; cases h2
    | some n =>
      rw [hl] at h2
      have hn : n = 1 := of_nbeq h2
      subst hn
      rw [isLit_some hl, ev_lit] at he
      exact he

theorem modify_at {α : Type} (f : α → α) (m : α) (b : List α) : ∀ a : List α, (a ++ m :: b).modify a.length f = a ++ f m :: b
  | [] => by simp
  | x :: a => by simp [modify_at f m b a]
theorem push_nodup {P : Program} {kt : TypeId} {vk v : Value} {kvs : List (Value × Value)} (hn : (kvs.map Prod.fst).Nodup) (he : EqAt P kt vk vk true) (ho : ∀ x ∈ kvs, EqAt P kt vk x.1 false) : ((kvs ++ [(vk, v)]).map Prod.fst).Nodup := by
  rw [List.map_append, List.nodup_append]
  refine ⟨hn, by simp, ?_⟩
  intro a ha b hb e
  simp at hb
  subst hb; subst e
  obtain ⟨x, hx, rfl⟩ := List.mem_map.1 ha
  have h1 := ho x hx default
  rw [he default] at h1
  simp at h1
theorem Stamps.push {ms : List MapEntry} {clock : Nat} (h : Stamps ms clock) (k v : Value) : Stamps (ms ++ [(⟨k, v, clock⟩ : MapEntry)]) (clock + 1) := by
  refine ⟨fun e he => ?_, ?_⟩
  · rcases List.mem_append.1 he with he | he
    · have := h.1 e he; omega
    · simp at he; subst he; exact Nat.lt_succ_self _
  · rw [List.map_append, List.nodup_append]
    refine ⟨h.2, by simp, ?_⟩
    intro a ha b hb e
    simp at hb
    subst hb; subst e
    obtain ⟨x, hx, e⟩ := List.mem_map.1 ha
    have := h.1 x hx
    omega

noncomputable def hMapSet (P : Program) (t : TypeId) (x ix y : Operand) : HX :=
  ho 247 (mapTy P t) fun ke => ho 247 (P.underlying ke.1) fun _ =>
    ⟨fun _ F st k => kn ((cO ix).g F) fun key => kn ((cO y).g F) fun val => wa 244 ((cCk P ke.1).f key) (wa 252 (keyGood (eqC P 20 ke.1) key) (oa 245 (svMap ((cO x).g F)) fun o => oa 246 (mapOb st o) fun m => wa 248 (Bool.not m.ro)
      (findK (eqC P 20 ke.1) key (fun i e pc => wa 249 (band (sameS 8 key e.key) (bitsOk key)) (forceG (setME val m.es i) fun es => stPut ⟨st.hp, st.nn, pc⟩ o (.map es) fun st' => k (.tuple []) st'))
        (fun pc => forceG (appR m.es [⟨key, val⟩]) fun es => stPut ⟨st.hp, st.nn, pc⟩ o (.map es) fun st' => k (.tuple []) st') m.es 0 st.pc)))⟩
theorem hMapSet_run {P : Program} {L M N t x ix y} {o : Oper} (he : ∀ ρ, execOp ρ o = (do Instr.mapUpdate t (ρ x) (ρ ix) (ρ y); pure .skip)) : HXok P L M N o (hMapSet P t x ix y) := by
  refine ho_ok fun ke hke => ho_ok fun kind hu => ?_
  have hmt := mapTy_some hke
  intro cf _ σ w0 β st w F a k next Q hR hF hs hn
  obtain ⟨hne, hs⟩ := kn_sat hs
  obtain ⟨hne2, hs⟩ := kn_sat hs
  obtain ⟨hck, hs⟩ := wa_sat hs
  obtain ⟨hkg, hs⟩ := wa_sat hs
  obtain ⟨o', ho, hs⟩ := oa_sat hs
  obtain ⟨m, hm, hs⟩ := oa_sat hs
  obtain ⟨hro, hs⟩ := wa_sat hs
  have hro : m.ro = false := by simpa using hro
  have hkey := (cO_C hF ix).of hne
  have hval := (cO_C hF y).of hne2
  have hx := cO_C hF x
  have hckr : ∀ e w, (Instr.checkKey e 10000 ke.1 (a.eval ix)).run P w = .ok () w := fun e w => cCk_ok hck (.inr hkey.at) e w
  have hq := eqC_ok (P := P) 20 10000 (by omega) ke.1
  obtain ⟨hkall, hkeq⟩ := keyGood_ok hq hkey hkg
  have hd := svMap_o ho hx.at0
  have hobj := mapOb_some hm
  rw [hro] at hobj
  generalize hv : a.eval x = vx at hd
  cases hd with
  | map hb =>
    rename_i bb cc
    obtain ⟨kvs, ms, clock, g1, g2, g3, g4, g5⟩ := mapOb_C hR hm hb
    rcases findK_ok hq hR.1 hkey g2 hs with ⟨j, e, y', pc', h1, h2, h3, h4, h5, h6⟩ | ⟨pc', h3, h4, h5, h6⟩
    · obtain ⟨hsm, h5⟩ := wa_sat h5
      obtain ⟨hs1, hs2⟩ := band_eq hsm
      rw [forceG_eq, stPut_eq] at h5
      rw [Nat.zero_add] at h5
      have hkk : DenC st.pc.nv σ β e.key y'.1 := fun σ' ha => ((g2 σ' ha).get h1 h2).1
      have hek : y'.1 = a.eval ix := by
        have := sameS_eq 8 hs1
        rw [← this] at hkk
        exact Den.det hkk.at hkey.at
      obtain ⟨ma, m', mb, rfl, rfl, f1, f2, f3⟩ := perm_find g3 h2 h6
      have hfind := found_some (i := 0) hu f1 (b := mb) (a := ma) (fun z hz => f2 z (List.mem_append_left _ hz))
      have hR' := hR.assume h3 h4
      have hmk : m'.key = a.eval ix := hek
      have hlt : j < kvs.length := (List.getElem?_eq_some_iff.1 h2).1
      have hkeys : (kvs.take j ++ (a.eval ix, a.eval y) :: kvs.drop (j + 1)).map Prod.fst = kvs.map Prod.fst := by
        have hsplit : kvs = kvs.take j ++ kvOf m' :: kvs.drop (j + 1) := by
          have h1 : kvs.drop j = kvOf m' :: kvs.drop (j + 1) := by
            rw [List.drop_eq_getElem_cons hlt]
            congr 1
            exact (List.getElem?_eq_some_iff.1 h2).2
          rw [← h1, List.take_append_drop]
        conv => rhs; rw [hsplit]
        simp [kvOf, hmk]
      have hnew := hR'.turn (o := o') (ob' := .map (setME ((cO y).g F) m.es j)) hobj hb (x := .map (ma ++ (⟨a.eval ix, a.eval y, m'.born⟩ : MapEntry) :: mb).toArray clock)
        (fun σ' ha => .map (kvs := kvs.take j ++ (a.eval ix, a.eval y) :: kvs.drop (j + 1))
          (by have := setME_ok (hval σ' (by rw [← h4]; exact ha)) (g2 σ' (by rw [← h4]; exact ha)) h2; rw [hek] at this; exact this)
          (by
            have e1 : (((ma ++ (⟨a.eval ix, a.eval y, m'.born⟩ : MapEntry) :: mb).map kvOf)).Perm ((a.eval ix, a.eval y) :: (ma ++ mb).map kvOf) := by
              rw [List.map_append, List.map_cons, List.map_append]; exact List.perm_middle
            exact e1.trans (((List.perm_cons _).2 f3).trans List.perm_middle.symm))
          (by rw [hkeys]; exact g4)
          ⟨fun z hz => by
            rcases List.mem_append.1 hz with hz | hz
            · exact g5.1 z (List.mem_append_left _ hz)
            · rcases List.mem_cons.1 hz with rfl | hz
              · exact g5.1 m' (by simp)
              · exact g5.1 z (List.mem_append_right _ (List.mem_cons_of_mem _ hz)),
           by have := g5.2; simpa using this⟩)
      have hmod : (ma ++ m' :: mb).toArray.modify ma.length (fun e => { e with key := a.eval ix, val := a.eval y }) = (ma ++ (⟨a.eval ix, a.eval y, m'.born⟩ : MapEntry) :: mb).toArray := by
        apply Array.ext'
        rw [Array.toList_modify]
        exact modify_at _ _ _ _
      have hbits := bitsOk_ok hkey.at hs2
      have hfr := hfind.run hu w
      rw [Nat.zero_add] at hfr
      have hrun : (execOp a.eval o).run P w = .ok .skip { w with heap := w.heap.setIfInBounds bb (.map (ma ++ (⟨a.eval ix, a.eval y, m'.born⟩ : MapEntry) :: mb).toArray clock) } := by
        rw [he, hv, ← hmod]
        simp [Instr.mapUpdate, run_underlying' hmt, run_getMap g1, hckr, hfr, Instr.keyThatStays, hmk, hbits, run_setMap _ g1]
      unfold Oper.wp
      rw [hrun]
      exact hn.step (s := .tuple []) (st' := St.put ⟨st.hp, st.nn, pc'⟩ _ _) h4 (Ext.refl β) hnew (fun _ _ => .tuple .nil) h5
    · rw [forceG_eq, stPut_eq, appR_eq] at h5
      have hR' := hR.assume h3 h4
      have hnew := hR'.turn (o := o') (ob' := .map (m.es ++ [⟨(cO ix).g F, (cO y).g F⟩])) hobj hb (x := .map (ms ++ [(⟨a.eval ix, a.eval y, clock⟩ : MapEntry)]).toArray (clock + 1))
        (fun σ' ha => .map (kvs := kvs ++ [(a.eval ix, a.eval y)])
          (DenK.snoc (x := ⟨(cO ix).g F, (cO y).g F⟩) hkall (hval σ' (by rw [← h4]; exact ha)) (g2 σ' (by rw [← h4]; exact ha)))
          (by rw [List.map_append]; exact g3.append_right _) (push_nodup g4 hkeq h6) (g5.push _ _))
      have hfr := (found_none (i := 0) hu (ms := ms) (fun z hz => h6 _ (g3.mem_iff.1 (List.mem_map.2 ⟨z, hz, rfl⟩)))).run hu w
      have hrun : (execOp a.eval o).run P w = .ok .skip { w with heap := w.heap.setIfInBounds bb (.map (ms ++ [(⟨a.eval ix, a.eval y, clock⟩ : MapEntry)]).toArray (clock + 1)) } := by
        rw [he, hv]
        simp [Instr.mapUpdate, run_underlying' hmt, run_getMap g1, hckr, hfr, run_setMap _ g1]
      unfold Oper.wp
      rw [hrun]
      exact hn.step (s := .tuple []) (st' := St.put ⟨st.hp, st.nn, pc'⟩ _ _) h4 (Ext.refl β) hnew (fun _ _ => .tuple .nil) h5

/-- The effects of maps. -/
noncomputable def effMap (P : Program) (o : Op) : Option HX :=
  match o with
  | .makeMap _ r => some (hMakeMap r)
  | .lookup t x ix ck => some (hLookup P t x ix ck)
  | .mapUpdate t x ix y => some (hMapSet P t x ix y)
  | .insert t x ix y => some (hMapSet P t x ix y)
  | _ => none
theorem effMap_ok {P : Program} {L M N} {o : Oper} {h : HX} (he : effMap P o.op = some h) : HXok P L M N o h := by
  obtain ⟨dst, op, ty, pos, af, g⟩ := o
  unfold effMap at he
  split at he <;> rename_i hop <;> (try change op = _ at hop) <;> (try subst hop) <;> (try cases he)
  · exact hMakeMap_ok
  · exact hLookup_ok
  · exact hMapSet_run fun ρ => rfl
  · exact hMapSet_run fun ρ => rfl

end Go.Sy
end

section
/- A map that is ranged over: its entries come in whatever order. -/
namespace Go.Sy
open Go.RowKit

theorem perm_lift {α γ : Type} {f : α → γ} : ∀ {kvs : List γ} {ms : List α}, (ms.map f).Perm kvs → ∃ l : List α, l.Perm ms ∧ l.map f = kvs
  | [], ms, h => by
    have := h.length_eq
    have h0 : ms = [] := by cases ms with
      | nil => rfl
      | cons _ _ => simp at this
    exact ⟨[], by rw [h0], rfl⟩
  | x :: t, ms, h => by
    have hx : x ∈ ms.map f := h.mem_iff.2 List.mem_cons_self
    obtain ⟨m, hm, rfl⟩ := List.mem_map.1 hx
    obtain ⟨a, b, rfl⟩ := List.append_of_mem hm
    have h1 : ((a ++ m :: b).map f).Perm (f m :: (a ++ b).map f) := by
      simp
    have h2 : ((a ++ b).map f).Perm t := (h1.symm.trans h).cons_inv
    obtain ⟨l, hl, rfl⟩ := perm_lift h2
    exact ⟨m :: l, (hl.cons m).trans List.perm_middle.symm, rfl⟩
theorem nodup_at {α : Type} {l : List α} (hn : l.Nodup) {i j : Nat} {x : α} (h1 : l[i]? = some x) (h2 : l[j]? = some x) : i = j := by
  obtain ⟨a1, b1⟩ := List.getElem?_eq_some_iff.1 h1
  obtain ⟨a2, b2⟩ := List.getElem?_eq_some_iff.1 h2
  exact (List.getElem_inj hn).1 (b1.trans b2.symm)
theorem map_inj_perm {α γ : Type} {f : α → γ} {l l' : List α} (he : l.map f = l'.map f) (hp : l.Perm l') (hn : (l.map f).Nodup) : l = l' := by
  apply List.ext_getElem?
  intro i
  rcases Nat.lt_or_ge i l.length with h | h
  · have e1 := List.getElem?_eq_getElem h
    obtain ⟨j, hj⟩ := List.mem_iff_getElem?.1 (hp.mem_iff.1 (List.getElem_mem h))
    have k1 : (l.map f)[i]? = some (f l[i]) := by rw [List.getElem?_map, e1]; rfl
    have k2 : (l.map f)[j]? = some (f l[i]) := by rw [he, List.getElem?_map, hj]; rfl
    have := nodup_at hn k1 k2
    subst this
    rw [e1, hj]
  · have := hp.length_eq
    rw [List.getElem?_eq_none h, List.getElem?_eq_none (by omega)]

theorem Rep.adoptC {M σ w0 β} {st : St} {w : World} (h : Rep M σ w0 β st w) {b : Nat} (hb : w0.heap.size ≤ b ∨ M.wr b) (hu : ∀ o he c, st.hp.get o = some he → β o ≠ some (b, c)) {x : Obj} (hx : w.heap[b]? = some x) {ob : SObj} {c : Nat} (hd : ObjDen σ β c ob x) :
    Rep M σ w0 (bUpd β st.nn b c) (st.new ob) w := by
  have hext : Ext β (bUpd β st.nn b c) := bUpd_ext (h.fresh _ (Nat.le_refl _))
  have hself : bUpd β st.nn b c st.nn = some (b, c) := by simp [bUpd]
  have old : ∀ o, o ≠ st.nn → bUpd β st.nn b c o = β o := fun o e => by simp [bUpd, e]
  refine ⟨h.kept, h.rdlt, ?_, ?_, ?_, fun g hg => hext _ _ (h.glob g hg)⟩
  · intro o ho
    have h1 : st.nn ≤ o := Nat.le_of_succ_le ho
    have h2 : ¬ o = st.nn := fun e => by subst e; exact absurd ho (Nat.not_succ_le_self _)
    rw [old o h2]; exact h.fresh o h1
  · intro o he ho
    change (st.hp.set st.nn (some ⟨ob, false⟩)).get o = some he at ho
    by_cases e : o = st.nn
    · subst e
      rw [Tr.get_set_eq] at ho; cases ho
      exact ⟨_, _, x, hself, hx, hd.mono hext, fun _ => hb, fun h => by cases h⟩
    · rw [Tr.get_set_ne _ _ e] at ho
      obtain ⟨b', c', y, h1, h2, h3, h4⟩ := h.heap o he ho
      exact ⟨b', c', y, hext _ _ h1, h2, h3.mono hext, h4⟩
  · intro o o' he he' b' c1 c2 ho ho' hro hb1 hb2
    change (st.hp.set st.nn (some ⟨ob, false⟩)).get o = some he at ho
    change (st.hp.set st.nn (some ⟨ob, false⟩)).get o' = some he' at ho'
    by_cases e : o = st.nn
    · by_cases e' : o' = st.nn
      · rw [e, e']
      · exfalso
        rw [Tr.get_set_ne _ _ e'] at ho'
        subst e; rw [hself] at hb1; rw [old o' e'] at hb2
        simp at hb1
        exact hu o' he' c2 ho' (by rw [hb2, hb1.1])
    · rw [Tr.get_set_ne _ _ e] at ho
      by_cases e' : o' = st.nn
      · exfalso
        subst e'; rw [hself] at hb2; rw [old o e] at hb1
        simp at hb2
        exact hu o he c1 ho (by rw [hb1, hb2.1])
      · rw [Tr.get_set_ne _ _ e'] at ho'
        rw [old o e] at hb1; rw [old o' e'] at hb2
        exact h.inj o o' he he' b' c1 c2 ho ho' hro hb1 hb2

/-! ### range -/
noncomputable def onesL (es : List ME) : List SV := List.rec [] (fun _ _ ih => .bool (.lit 1) :: ih) es
theorem onesL_eq (es : List ME) : onesL es = es.map fun _ => SV.bool (.lit 1) := by
  induction es with
  | nil => rfl
  | cons x l ih => show _ :: onesL l = _; rw [ih]; rfl
theorem bit_den {σ β} {n : Nat} (h : n ≤ 1) : Den σ β (.bool (.lit n)) (.bool (n != 0)) := by
  have := Den.bool (σ := σ) (β := β) (k := .u8) (a := 0) (b := 0) (t := .lit n) (u := .lit 0) (c := .lit 0) (l := []) (by rw [ev_lit]; exact h)
  rwa [ev_lit] at this
theorem onesL_den {σ β} (es : List ME) : DenL σ β (onesL es) ((List.replicate es.length true).map Value.bool) := by
  induction es with
  | nil => exact .nil
  | cons x l ih => exact .cons (bit_den (n := 1) (Nat.le_refl 1)) ih
theorem DenK.length {σ β} : ∀ {es : List ME} {kvs : List (Value × Value)}, DenK σ β es kvs → es.length = kvs.length
  | _, _, .nil => rfl
  | _, _, .cons _ _ t => by simp [DenK.length t]
noncomputable def hRange (P : Program) (t : TypeId) (x : Operand) : HX :=
  ho 260 (mapTy P t) fun _ => ⟨fun _ F st k => oa 261 (svMap ((cO x).g F)) fun o => oa 262 (mapOb st o) fun m => wa 263 (Bool.not m.ro)
    (forceN st.nn fun n => forceTr (st.hp.set o none) fun hp => stNew ⟨hp, st.nn, st.pc⟩ (.imap m.es) fun st1 => forceN st1.nn fun n1 => stNew st1 (.iter n (onesL m.es) 0) fun st2 => k (.ptr n1 0) st2)⟩
theorem hRange_ok {P L M N t x dst ty pos af g} : HXok P L M N ⟨dst, .range t x, ty, pos, af, g⟩ (hRange P t x) := by
  refine ho_ok fun ke hke => ?_
  have hmt := mapTy_some hke
  intro cf _ σ w0 β st w F a k next Q hR hF hs hn
  obtain ⟨o, ho, hs⟩ := oa_sat hs
  obtain ⟨m, hm, hs⟩ := oa_sat hs
  obtain ⟨hro, hs⟩ := wa_sat hs
  rw [forceN_eq, forceTr_eq, stNew_eq, forceN_eq, stNew_eq] at hs
  have hx := cO_C hF x
  have hd := svMap_o ho hx.at0
  generalize hv : a.eval x = vx at hd
  cases hd with
  | map hb =>
    rename_i b n
    obtain ⟨kvs, ms, clock, g1, g2, g3, g4, g5⟩ := mapOb_C hR hm hb
    obtain ⟨l, hl, hlk⟩ := perm_lift g3
    subst hlk
    have hg := mapOb_some hm
    have hro' : m.ro = false := by cases h : m.ro <;> rw [h] at hro <;> first | rfl | cases hro
    have hrun : (execOp a.eval ⟨dst, .range t x, ty, pos, af, g⟩).run P w = .ok (.value (.pointer (some ⟨w.heap.size, 0, none⟩))) { w with heap := w.heap.push (.mapIter (some b) clock #[] clock) } := by
      simp [execOp, Instr.range, hv, run_underlying' hmt, run_getMap g1, newObj, Sem.run]
    -- the map, frozen
    have hk := hR.kill o
    have step1 : ∀ σ', Ag st.pc.nv σ σ' → Rep M σ' w0 (bUpd β st.nn b (encL (clock :: l.map (·.born)))) (St.new ⟨st.hp.set o none, st.nn, st.pc⟩ (.imap m.es)) w := fun σ' ha => by
      have hR' := hR.2 σ' ha
      have hk' := hk.2 σ' ha
      obtain ⟨b0, c0, y, k1, k2, k3, k4, k5⟩ := hR'.heap o _ hg
      rw [hb] at k1; simp at k1; obtain ⟨rfl, rfl⟩ := k1
      refine hk'.adoptC (k4 hro') (fun o' he' c' ho' hbe => ?_) g1 (.imap (g2 σ' ha) hl g5 rfl)
      change (st.hp.set o none).get o' = some he' at ho'
      by_cases e : o' = o
      · subst e; rw [Tr.get_set_eq] at ho'; cases ho'
      · rw [Tr.get_set_ne _ _ e] at ho'
        exact e (hR'.inj o' o he' _ b c' n ho' hg (.inr hro') hbe hb)
    have hself1 : bUpd β st.nn b (encL (clock :: l.map (·.born))) st.nn = some (b, encL (clock :: l.map (·.born))) := bUpd_self _ _ _ _
    have hext1 : Ext β (bUpd β st.nn b (encL (clock :: l.map (·.born)))) := bUpd_ext ((hR.2 σ (Ag.refl _ _)).fresh _ (Nat.le_refl _))
    have hR1 : RepC M σ w0 (bUpd β st.nn b (encL (clock :: l.map (·.born)))) (St.new ⟨st.hp.set o none, st.nn, st.pc⟩ (.imap m.es)) w := ⟨hR.1, step1⟩
    have hlen : m.es.length = l.length := by have := (g2 σ (Ag.refl _ _)).length; simpa using this
    have hrep : ∀ j : Nat, (List.replicate m.es.length true)[j]? ≠ some false := fun j h => by
      rw [List.getElem?_replicate] at h
      split at h <;> simp at h
    obtain ⟨h1, h2, h3⟩ := hR1.new (c := 0) (ob := .iter st.nn (onesL m.es) 0) (x := .mapIter (some b) clock #[] clock) (fun σ' ha =>
      .iter hself1 rfl (onesL_den _) (by simp [hlen]) (fun x => ⟨fun h => (List.not_mem_nil h).elim, fun ⟨j, _, h⟩ => (hrep j h).elim⟩) (.inl rfl))
    unfold Oper.wp
    rw [hrun]
    exact hn.step (st' := St.new (St.new ⟨st.hp.set o none, st.nn, st.pc⟩ (.imap m.es)) (.iter st.nn (onesL m.es) 0)) rfl (hext1.trans h1) h3 (fun σ' _ => .ptr h2) hs

/-! ### next, entry -/
noncomputable def iterOb (st : St) (o : Nat) : Option (Nat × List SV × Nat) := ob (st.hp.get o) fun he => bc he.ro none (SObj.rec (fun _ _ => none) (fun _ _ _ => none) (fun _ => none) (fun m cs l => some (m, cs, l)) (fun _ _ _ _ => none) (fun _ => none) (fun _ _ => none) (fun _ => none) he.ob)
noncomputable def imapOb (st : St) (o : Nat) : Option (List ME) := ob (st.hp.get o) fun he => SObj.rec (fun _ _ => none) (fun _ _ _ => none) (fun _ => none) (fun _ _ _ => none) (fun _ _ _ _ => none) (fun es => some es) (fun _ _ => none) (fun _ => none) he.ob
theorem iterOb_some {st : St} {o : Nat} {x : Nat × List SV × Nat} (h : iterOb st o = some x) : st.hp.get o = some ⟨.iter x.1 x.2.1 x.2.2, false⟩ := by
  obtain ⟨he, hg, h⟩ := ob_some h
  obtain ⟨ob, ro⟩ := he
  cases ro with
  | true => cases h
  | false => cases ob <;> first | (cases h; done) | skip
             cases h; exact hg
theorem imapOb_some {st : St} {o : Nat} {es : List ME} (h : imapOb st o = some es) : ∃ ro, st.hp.get o = some ⟨.imap es, ro⟩ := by
  obtain ⟨he, hg, h⟩ := ob_some h
  obtain ⟨ob, ro⟩ := he
  cases ob <;> first | (cases h; done) | skip
  cases h; exact ⟨ro, hg⟩
structure ItC (nv : Nat) (σ : Nat → Nat) (β : Nat → Option (Nat × Nat)) (w : World) (r : Nat) (it : Nat × List SV × Nat) (es : List ME) (bm ck : Nat) (seen : Array Nat) (l ms : List MapEntry) (us : List Bool) : Prop where
  name : β it.1 = some (bm, encL (ck :: l.map (·.born)))
  itr : w.heap[r]? = some (.mapIter (some bm) ck seen ck)
  mp : w.heap[bm]? = some (.map ms.toArray ck)
  perm : l.Perm ms
  st : Stamps ms ck
  flags : ∀ σ', Ag nv σ σ' → DenL σ' β it.2.1 (us.map Value.bool)
  len : us.length = l.length
  sn : ∀ x : Nat, x ∈ seen.toList ↔ ∃ j : Nat, (l.map (·.born))[j]? = some x ∧ us[j]? = some false
  ents : DenKC nv σ β es (l.map kvOf)
  last : it.2.2 = 0 ∨ ∃ x : Nat, seen.back? = some x ∧ (l.map (·.born))[it.2.2 - 1]? = some x
theorem Stamps.nodup {l ms : List MapEntry} {ck : Nat} (h : Stamps ms ck) (hp : l.Perm ms) : (l.map (·.born)).Nodup := ((hp.map _).nodup_iff).2 h.2
theorem flags_eq {bs : List Nat} {us us' : List Bool} {seen : List Nat} (hn : bs.Nodup) (h1 : us.length = bs.length) (h2 : us'.length = bs.length) (k1 : ∀ x : Nat, x ∈ seen ↔ ∃ j : Nat, bs[j]? = some x ∧ us[j]? = some false) (k2 : ∀ x : Nat, x ∈ seen ↔ ∃ j : Nat, bs[j]? = some x ∧ us'[j]? = some false) : us = us' := by
  apply List.ext_getElem?
  intro i
  rcases Nat.lt_or_ge i bs.length with h | h
  · have e0 := List.getElem?_eq_getElem h
    have e1 := List.getElem?_eq_getElem (l := us) (i := i) (by omega)
    have e2 := List.getElem?_eq_getElem (l := us') (i := i) (by omega)
    have key : us[i]? = some false ↔ us'[i]? = some false := by
      constructor
      · intro hf
        obtain ⟨j, j1, j2⟩ := (k2 _).1 ((k1 _).2 ⟨i, e0, hf⟩)
        rw [nodup_at hn e0 j1]; exact j2
      · intro hf
        obtain ⟨j, j1, j2⟩ := (k1 _).1 ((k2 _).2 ⟨i, e0, hf⟩)
        rw [nodup_at hn e0 j1]; exact j2
    rw [e1, e2] at key ⊢
    cases hu : us[i]'(by omega) <;> cases hu' : us'[i]'(by omega) <;> rw [hu, hu'] at key <;> simp at key ⊢
  · rw [List.getElem?_eq_none (by omega), List.getElem?_eq_none (by omega)]
theorem it_C {M σ w0 β} {st : St} {w : World} (h : RepC M σ w0 β st w) {o : Nat} {it : Nat × List SV × Nat} (hi : iterOb st o = some it) {es : List ME} (he : imapOb st it.1 = some es) {r c : Nat} (hb : β o = some (r, c)) :
    ∃ bm ck seen l ms us, ItC st.pc.nv σ β w r it es bm ck seen l ms us := by
  have hg := iterOb_some hi
  obtain ⟨ro, hg'⟩ := imapOb_some he
  have both : ∀ σ', Ag st.pc.nv σ σ' → ∃ (bm ck : Nat) (seen : Array Nat) (l ms : List MapEntry) (us : List Bool), β it.1 = some (bm, encL (ck :: l.map (·.born))) ∧ w.heap[r]? = some (.mapIter (some bm) ck seen ck) ∧ w.heap[bm]? = some (.map ms.toArray ck) ∧ l.Perm ms ∧ Stamps ms ck ∧ DenL σ' β it.2.1 (us.map Value.bool) ∧ us.length = l.length ∧
      (∀ x : Nat, x ∈ seen.toList ↔ ∃ j : Nat, (l.map (·.born))[j]? = some x ∧ us[j]? = some false) ∧ DenK σ' β es (l.map kvOf) ∧ (it.2.2 = 0 ∨ ∃ x : Nat, seen.back? = some x ∧ (l.map (·.born))[it.2.2 - 1]? = some x) := fun σ' ha => by
    obtain ⟨b0, c0, y, k1, k2, k3, _⟩ := (h.2 σ' ha).heap o _ hg
    rw [hb] at k1; cases k1
    obtain ⟨b1, c1, z, j1, j2, j3, _⟩ := (h.2 σ' ha).heap it.1 _ hg'
    generalize hit : it.1 = m at *
    obtain ⟨m', cs, lst⟩ := it
    change m' = m at hit
    subst hit
    cases k3 with
    | iter g1 g2 g3 g4 g5 g6 =>
      rename_i bm n ck us bs seen
      rw [j1] at g1; cases g1
      cases j3 with
      | imap f1 f2 f3 f4 =>
        rename_i l ms ck'
        have hen := encL_inj (g2.symm.trans f4)
        injection hen with e1 e2
        subst e1; subst e2
        exact ⟨b1, ck, seen, l, ms, us, by rw [j1, f4], k2, j2, f2, f3, g3, by simpa using g4, g5, f1, g6⟩
  obtain ⟨bm, ck, seen, l, ms, us, a1, a2, a3, a4, a5, a6, a7, a8, a9, a10⟩ := both σ (Ag.refl _ _)
  have hn := a5.nodup a4
  have uniq : ∀ σ', Ag st.pc.nv σ σ' → DenL σ' β it.2.1 (us.map Value.bool) ∧ DenK σ' β es (l.map kvOf) := fun σ' ha => by
    obtain ⟨bm', ck', seen', l', ms', us', b1, b2, b3, b4, b5, b6, b7, b8, b9, _⟩ := both σ' ha
    rw [a2] at b2
    injection b2 with b2
    injection b2 with e1 e2 e3 _
    injection e1 with e1
    subst e1; subst e2; subst e3
    rw [a3] at b3
    injection b3 with b3
    injection b3 with b3 _
    have hms : ms = ms' := by have := congrArg Array.toList b3; simpa using this
    subst hms
    rw [a1] at b1
    injection b1 with b1
    injection b1 with _ b1
    have hen := encL_inj b1
    injection hen with _ e2
    have hl : l = l' := map_inj_perm e2 (a4.trans b4.symm) hn
    subst hl
    have hu : us = us' := flags_eq hn (by simpa using a7) (by simpa using b7) a8 b8
    subst hu
    exact ⟨b6, b9⟩
  exact ⟨bm, ck, seen, l, ms, us, a1, a2, a3, a4, a5, fun σ' ha => (uniq σ' ha).1, a7, a8, fun σ' ha => (uniq σ' ha).2, a10⟩

/-- All are gone. -/
noncomputable def overK (cs : List SV) : PC → (PC → Ans) → Ans := List.rec (motive := fun _ => PC → (PC → Ans) → Ans) (fun pc k => k pc) (fun c _ ih pc k => oa 266 (svBool c) fun t => br pc t (fun _ => .ok) (fun pc => ih pc k)) cs
theorem overK_ok {L σ β} {k : PC → Ans} : ∀ {cs : List SV} {us : List Bool} {pc : PC}, pc.okC σ → (∀ σ', Ag pc.nv σ σ' → DenL σ' β cs (us.map Value.bool)) → (∀ u ∈ us, u = false) → (overK cs pc k).sat L σ → ∃ pc', pc'.okC σ ∧ pc'.nv = pc.nv ∧ (k pc').sat L σ
  | [], us, pc, h, _, _, hk => ⟨pc, h, rfl, hk⟩
  | c :: cs, us, pc, h, hd, hu, hk => by
    obtain ⟨t, ht, hk⟩ := oa_sat hk
    cases us with
    | nil => have := (hd σ (Ag.refl _ _)).length; simp at this
    | cons u us =>
      have h1 : DenOC pc.nv σ β c (.bool u) := fun σ' ha => .inr (by cases hd σ' ha; assumption)
      obtain ⟨hts, hv⟩ := bool_TS ht h1
      have hu0 := hu u List.mem_cons_self
      subst hu0
      rcases br_ok h hts hk with ⟨e, _, _, _, _⟩ | ⟨_, pc', g1, g2, g3⟩
      · injection hv with hv
        simp at hv; exact absurd hv.symm (fun h => e h.symm)
      · obtain ⟨pc2, k1, k2, k3⟩ := overK_ok (cs := cs) (us := us) g1 (fun σ' ha => by cases hd σ' (by rw [← g2]; exact ha); assumption) (fun u hm => hu u (List.mem_cons_of_mem _ hm)) g3
        exact ⟨pc2, k1, k2.trans g2, k3⟩
noncomputable def wayK (pc : PC) (c : SV) (k : PC → Ans) : Ans := oa 267 (svBool c) fun t => br pc t k (fun _ => .ok)
noncomputable def waysK (f : Nat → ME → PC → Ans) (pc : PC) (es : List ME) : List SV → Nat → Ans :=
  List.rec (motive := fun _ => List SV → Nat → Ans) (fun _ _ => .ok) (fun e _ ih cs j => List.rec (motive := fun _ => Ans) .ok (fun c t _ => .both (wayK pc c (f j e)) (ih t (Nat.succ j))) cs) es
theorem waysK_sat {L σ} {f : Nat → ME → PC → Ans} {pc : PC} : ∀ {es : List ME} {cs : List SV} {i : Nat}, (waysK f pc es cs i).sat L σ → ∀ {j : Nat} {e : ME} {c : SV}, es[j]? = some e → cs[j]? = some c → (wayK pc c (f (i + j) e)).sat L σ
  | [], _, _, _, j, e, c, he, _ => by simp at he
  | x :: es, cs, i, h, j, e, c, he, hc => by
    cases cs with
    | nil => simp at hc
    | cons y cs =>
      obtain ⟨h1, h2⟩ := (show (wayK pc y (f i x)).sat L σ ∧ (waysK f pc es cs (i + 1)).sat L σ from h)
      cases j with
      | zero => simp at he hc; subst he; subst hc; exact h1
      | succ j =>
        have := waysK_sat h2 (j := j) (e := e) (c := c) (by simpa using he) (by simpa using hc)
        rw [show i + (j + 1) = i + 1 + j by omega]; exact this
theorem DenKC.at {nv σ β} {es : List ME} {kvs : List (Value × Value)} (h : DenKC nv σ β es kvs) {j : Nat} {e : ME} {x : Value × Value} (he : es[j]? = some e) (hx : kvs[j]? = some x) : DenC nv σ β e.key x.1 ∧ DenC nv σ β e.val x.2 := by
  have key : ∀ σ', Ag nv σ σ' → Den σ' β e.key x.1 ∧ Den σ' β e.val x.2 := fun σ' ha => by
    have hd := h σ' ha
    clear h
    induction hd generalizing j with
    | nil => simp at he
    | cons hk hv _ ih =>
      cases j with
      | zero => simp at he hx; subst he; subst hx; exact ⟨hk σ', hv⟩
      | succ j => exact ih (by simpa using he) (by simpa using hx)
  exact ⟨fun σ' ha => (key σ' ha).1, fun σ' ha => (key σ' ha).2⟩
noncomputable def hNext (x : Operand) (str : Bool) : HX :=
  hw 269 (Bool.not str) ⟨fun _ F st k => oa 261 (svPtr ((cO x).g F)) fun p => wa 262 (Nat.beq p.2 0) (oa 263 (iterOb st p.1) fun it => oa 264 (imapOb st it.1) fun es =>
    .both (overK it.2.1 st.pc fun pc => k (.tuple [.bool (.lit 0)]) ⟨st.hp, st.nn, pc⟩)
      (waysK (fun j e pc => forceN j fun j => oa 268 (layR it.2.1 [.bool (.lit 0)] j) fun cs => forceL cs fun cs => stPut ⟨st.hp, st.nn, pc⟩ p.1 (.iter it.1 cs (Nat.succ j)) fun st' => k (.tuple [.bool (.lit 1), e.key, e.val]) st') st.pc es it.2.1 0))⟩
theorem hNext_ok {P L M N x str dst ty pos af g} : HXok P L M N ⟨dst, .next x str, ty, pos, af, g⟩ (hNext x str) := by
  refine hw_ok fun hstr => ?_
  have hstr' : str = false := by cases str <;> first | rfl | cases hstr
  subst hstr'
  intro cf _ σ w0 β st w F a k next Q hR hF hs hn
  obtain ⟨p, hp, hs⟩ := oa_sat hs
  obtain ⟨hp2, hs⟩ := wa_sat hs
  have hp2 := of_nbeq hp2
  obtain ⟨it, hit, hs⟩ := oa_sat hs
  obtain ⟨es, hes, hs⟩ := oa_sat hs
  obtain ⟨hs1, hs2⟩ := hs
  have hd := svPtr_o hp (cO_C hF x).at0
  generalize hv : a.eval x = vx at hd
  cases hd with
  | ptr hb =>
    rename_i r c
    rw [hp2] at hv
    obtain ⟨bm, ck, seen, l, ms, us, I⟩ := it_C hR hit hes hb
    have hn' := I.st.nodup I.perm
    have hex : ∀ {v : Value} {w' : World}, (Instr.next (.pointer (some ⟨r, 0, none⟩)) false ty).run P w = .ok v w' → (execOp a.eval ⟨dst, .next x false, ty, pos, af, g⟩).run P w = .ok (.value v) w' := fun h => by
      simp only [execOp, hv, Sem.run_bind, h, Result.andThen_ok, Sem.run_pure]
    rcases run_next_at (P := P) w ty r bm ck ck seen ms.toArray ck I.itr I.mp (fun x hx => I.st.1 x (by simpa using hx)) (Nat.le_refl _) with ⟨h0, hrun⟩ | ⟨e, hel, w1, hw1, hrun⟩
    · have hall : ∀ u ∈ us, u = false := fun u hu => by
        obtain ⟨j, hj⟩ := List.mem_iff_getElem?.1 hu
        have hjl : j < l.length := by rw [← I.len]; exact (List.getElem?_eq_some_iff.1 hj).1
        have hm : l[j] ∈ ms := I.perm.mem_iff.1 (List.getElem_mem hjl)
        have hsn : l[j].born ∈ seen.toList := by
          rcases Classical.em (l[j].born ∈ seen.toList) with hh | hh
          · exact hh
          · exfalso
            have : l[j] ∈ (leftOf ms.toArray seen) := by
              unfold leftOf
              simp only [Array.mem_filter, List.mem_toArray]
              refine ⟨hm, ?_⟩
              simpa using hh
            have h1 := Array.eq_empty_of_size_eq_zero h0
            rw [h1] at this
            simp at this
        obtain ⟨j', j1, j2⟩ := (I.sn _).1 hsn
        have : j' = j := nodup_at hn' j1 (by rw [List.getElem?_map, List.getElem?_eq_getElem hjl]; rfl)
        subst this
        rw [hj] at j2; injection j2
      obtain ⟨pc', k1, k2, k3⟩ := overK_ok hR.1 I.flags hall hs1
      unfold Oper.wp
      rw [hex hrun]
      exact hn.step (st' := ⟨st.hp, st.nn, pc'⟩) k2 (Ext.refl β) (hR.assume k1 k2) (fun σ' _ => .tuple (vs := [.bool false]) (.cons (bit_den (n := 0) (Nat.zero_le 1)) .nil)) k3
    · have hm : e ∈ ms ∧ e.born ∉ seen.toList := by
        unfold leftOf at hel
        simp only [Array.mem_toList_iff, Array.mem_filter, List.mem_toArray] at hel
        exact ⟨hel.1, by simpa using hel.2⟩
      obtain ⟨j, hj⟩ := List.mem_iff_getElem?.1 (I.perm.mem_iff.2 hm.1)
      have hjl : j < l.length := (List.getElem?_eq_some_iff.1 hj).1
      have hjb : (l.map (·.born))[j]? = some e.born := by rw [List.getElem?_map, hj]; rfl
      have huj : us[j]? = some true := by
        have h1 := List.getElem?_eq_getElem (l := us) (i := j) (by rw [I.len]; exact hjl)
        cases hu : us[j]'(by rw [I.len]; exact hjl) with
        | true => rw [h1, hu]
        | false => exact (hm.2 ((I.sn _).2 ⟨j, hjb, by rw [h1, hu]⟩)).elim
      have hlen := (I.ents σ (Ag.refl _ _)).length
      simp at hlen
      obtain ⟨e', he'⟩ : ∃ e', es[j]? = some e' := ⟨_, List.getElem?_eq_getElem (by omega)⟩
      have hcl := (I.flags σ (Ag.refl _ _)).length
      simp at hcl
      obtain ⟨cj, hcj⟩ : ∃ cj, it.2.1[j]? = some cj := ⟨_, List.getElem?_eq_getElem (by rw [hcl, I.len]; exact hjl)⟩
      have hw := waysK_sat hs2 he' hcj
      obtain ⟨t, ht, hw⟩ := oa_sat hw
      have hcd : DenOC st.pc.nv σ β cj (.bool true) := fun σ' ha => .inr (by
        obtain ⟨v, hv1, hv2⟩ := (I.flags σ' ha).get hcj
        rw [List.getElem?_map, huj] at hv1
        injection hv1 with hv1
        subst hv1; exact hv2)
      obtain ⟨hts, hvt⟩ := bool_TS ht hcd
      rcases br_ok hR.1 hts hw with ⟨_, pc', g1, g2, g3⟩ | ⟨e0, _, _, _, _⟩
      · rw [Nat.zero_add, forceN_eq] at g3
        obtain ⟨cs', hcs, g3⟩ := oa_sat g3
        rw [forceL_eq, stPut_eq] at g3
        obtain ⟨hlay, _⟩ := layR_some hcs
        obtain ⟨hk1, hk2⟩ := I.ents.at he' (x := kvOf e) (by rw [List.getElem?_map, hj]; rfl)
        have hR1 : RepC M σ w0 β ⟨st.hp, st.nn, pc'⟩ w1 := by
          have h0 := hR.assume g1 g2
          rcases hw1 with rfl | rfl
          · exact h0
          · exact ⟨h0.1, fun σ' ha => (h0.2 σ' ha).drew⟩
        have hset : ∀ i : Nat, (us.set j false)[i]? = if i = j then some false else us[i]? := fun i => by
          rw [List.getElem?_set]
          by_cases e : j = i
          · subst e; simp [I.len, hjl]
          · rw [if_neg e, if_neg (fun h => e h.symm)]
        have hnew : RepC M σ w0 β (St.put ⟨st.hp, st.nn, pc'⟩ p.1 (.iter it.1 cs' (j + 1))) { w1 with heap := w1.heap.setIfInBounds r (.mapIter (some bm) ck (seen.push e.born) ck) } := by
          refine hR1.turn (iterOb_some hit) hb (fun σ' ha => ?_)
          have ha' : Ag st.pc.nv σ σ' := by rw [← g2]; exact ha
          refine .iter (us := us.set j false) I.name rfl ?_ (by simpa using I.len) (fun x => ?_) (.inr ⟨e.born, by simp, hjb⟩)
          · rw [hlay, List.map_set, List.set_eq_take_append_cons_drop, if_pos (by simp [I.len, hjl]), List.append_assoc]
            have hd := I.flags σ' ha'
            have h1 := hd.take j
            have h2 := hd.drop (j + 1)
            exact h1.append (.cons (bit_den (n := 0) (Nat.zero_le 1)) h2)
          · simp only [Array.toList_push, List.mem_append, List.mem_singleton]
            constructor
            · rintro (hx | rfl)
              · obtain ⟨i, i1, i2⟩ := (I.sn x).1 hx
                exact ⟨i, i1, by rw [hset]; split <;> simp_all⟩
              · exact ⟨j, hjb, by rw [hset, if_pos rfl]⟩
            · rintro ⟨i, i1, i2⟩
              by_cases ei : i = j
              · subst ei; rw [hjb] at i1; injection i1 with i1; exact .inr i1.symm
              · rw [hset, if_neg ei] at i2
                exact .inl ((I.sn x).2 ⟨i, i1, i2⟩)
        unfold Oper.wp
        rw [hex hrun]
        exact hn.step (st' := St.put ⟨st.hp, st.nn, pc'⟩ p.1 (.iter it.1 cs' (j + 1))) g2 (Ext.refl β) hnew
          (fun σ' ha => .tuple (vs := [.bool true, e.key, e.val]) (.cons (bit_den (n := 1) (Nat.le_refl 1)) (.cons (hk1 σ' ha) (.cons (hk2 σ' ha) .nil)))) g3
      · injection hvt with hvt
        simp [e0] at hvt

noncomputable def hEntry (x : Operand) : HX :=
  ⟨fun _ F st k => oa 261 (svPtr ((cO x).g F)) fun p => wa 262 (Nat.beq p.2 0) (oa 263 (iterOb st p.1) fun it => oa 264 (imapOb st it.1) fun es => wa 265 (Nat.blt 0 it.2.2) (oa 266 (nthR es (Nat.sub it.2.2 1)) fun e => k (.tuple [e.key, e.val]) st))⟩
theorem hEntry_ok {P L M N x dst ty pos af g} : HXok P L M N ⟨dst, .entry x, ty, pos, af, g⟩ (hEntry x) := by
  intro cf _ σ w0 β st w F a k next Q hR hF hs hn
  obtain ⟨p, hp, hs⟩ := oa_sat hs
  obtain ⟨hp2, hs⟩ := wa_sat hs
  have hp2 := of_nbeq hp2
  obtain ⟨it, hit, hs⟩ := oa_sat hs
  obtain ⟨es, hes, hs⟩ := oa_sat hs
  obtain ⟨hlt, hs⟩ := wa_sat hs
  have hlt := of_nblt hlt
  obtain ⟨e, he, hs⟩ := oa_sat hs
  rw [nthR_eq] at he
  have hd := svPtr_o hp (cO_C hF x).at0
  generalize hv : a.eval x = vx at hd
  cases hd with
  | ptr hb =>
    rename_i r c
    rw [hp2] at hv
    obtain ⟨bm, ck, seen, l, ms, us, I⟩ := it_C hR hit hes hb
    rcases I.last with h0 | ⟨x0, hx1, hx2⟩
    · omega
    · obtain ⟨ys, rfl⟩ := Array.back?_eq_some_iff.1 hx1
      rw [List.getElem?_map] at hx2
      have hle : ∃ m, l[it.2.2 - 1]? = some m ∧ m.born = x0 := by
        cases hl : l[it.2.2 - 1]? with
        | none => rw [hl] at hx2; cases hx2
        | some m => rw [hl] at hx2; injection hx2 with hx2; exact ⟨m, rfl, hx2⟩
      obtain ⟨m, hm1, rfl⟩ := hle
      have hmm : m ∈ ms := I.perm.mem_iff.1 (List.mem_of_getElem? hm1)
      have hrun := run_entry_at (P := P) w r bm ck ys ms.toArray ck m I.itr I.mp (by simpa using hmm) (by simpa using I.st.2)
      obtain ⟨hk1, hk2⟩ := I.ents.at he (x := kvOf m) (by rw [List.getElem?_map]; show Option.map kvOf l[it.2.2 - 1]? = _; rw [hm1]; rfl)
      have hrun' : (execOp a.eval ⟨dst, .entry x, ty, pos, af, g⟩).run P w = .ok (.value (.tuple #[m.key, m.val])) w := by
        simp only [execOp, hv, Sem.run_bind, hrun, Result.andThen_ok, Sem.run_pure]
      unfold Oper.wp
      rw [hrun']
      exact hn.step rfl (Ext.refl β) hR (fun σ' ha => .tuple (vs := [m.key, m.val]) (.cons (hk1 σ' ha) (.cons (hk2 σ' ha) .nil))) hs

/-- The effects of maps that are ranged over. -/
noncomputable def effIt (P : Program) (o : Op) : Option HX :=
  match o with
  | .range t x => some (hRange P t x)
  | .next x s => some (hNext x s)
  | .entry x => some (hEntry x)
  | _ => none
theorem effIt_ok {P : Program} {L M N} {o : Oper} {h : HX} (he : effIt P o.op = some h) : HXok P L M N o h := by
  obtain ⟨dst, op, ty, pos, af, g⟩ := o
  unfold effIt at he
  split at he <;> rename_i hop <;> (try change op = _ at hop) <;> (try subst hop) <;> (try cases he)
  · exact hRange_ok
  · exact hNext_ok
  · exact hEntry_ok

end Go.Sy
end

section
/- make of a slice. -/
namespace Go.Sy
open Go.RowKit

noncomputable def hMakeSlice (P : Program) (t : TypeId) (l c : Operand) : HX :=
  ho 260 (sliOf P t) fun e => ho 261 (P.info? e) fun i => zeroK (hbad 262) P e fun z => hw 263 (band (Nat.blt 0 i.size) (Nat.beq (lenR z) i.size))
    ⟨fun _ F st k => oa 264 (ixLit ((cO l).g F)) fun l => oa 264 (ixLit ((cO c).g F)) fun c => wa 265 (band (Nat.ble l c) (band (Nat.ble c 16777216) (Nat.ble (Nat.mul i.bytes c) 140737488355328)))
      (forceP (bc (Nat.ble c 64) (Nat.mul c (lenR z)) 0) (repl c z) fun cs => newK st cs e fun nn st' => k (.slice nn 0 l c) st')⟩
theorem hMakeSlice_ok {P L M N t l c dst ty pos af g} : HXok P L M N ⟨dst, .makeSlice t l c, ty, pos, af, g⟩ (hMakeSlice P t l c) := by
  refine ho_ok fun e he => ho_ok fun i hi => ?_
  unfold HXok
  rcases zeroK_ok (bad := hbad 262) (P := P) (t := e) (k := fun z => hw 263 (band (Nat.blt 0 i.size) (Nat.beq (lenR z) i.size))
    ⟨fun _ F st k => oa 264 (ixLit ((cO l).g F)) fun l => oa 264 (ixLit ((cO c).g F)) fun c => wa 265 (band (Nat.ble l c) (band (Nat.ble c 16777216) (Nat.ble (Nat.mul i.bytes c) 140737488355328)))
      (forceP (bc (Nat.ble c 64) (Nat.mul c (lenR z)) 0) (repl c z) fun cs => newK st cs e fun nn st' => k (.slice nn 0 l c) st')⟩) with hz | ⟨z, hz, zv, _, h1, hzd⟩
  · rw [hz]; exact hbad_ok
  · rw [hz]
    refine hw_ok fun hc => ?_
    obtain ⟨hc1, hc2⟩ := band_eq hc
    intro cf _ σ w0 β st w F a k next Q hR hF hs hn
    obtain ⟨l0, hl, hs⟩ := oa_sat hs
    obtain ⟨c0, hcc, hs⟩ := oa_sat hs
    obtain ⟨hb, hs⟩ := wa_sat hs
    obtain ⟨b1, b2⟩ := band_eq hb
    obtain ⟨b2, b3⟩ := band_eq b2
    rw [forceP_eq, newK_eq] at hs
    obtain ⟨kl, hvl⟩ := ixLit_ok hl (cO_C hF l).at0
    obtain ⟨kc, hvc⟩ := ixLit_ok hcc (cO_C hF c).at0
    have b1 := of_nble b1
    have b2 : c0 ≤ 16777216 := of_nble b2
    have b3 : i.bytes * c0 ≤ 140737488355328 := of_nble b3
    have hn0 := of_nblt hc1
    have hzl : zv.cells.toList.length = i.size := by rw [← (hzd σ β).length, ← lenR_eq]; exact of_nbeq hc2
    have hcells : ((Array.range (c0 * i.size)).map (fun j => zv.cells[j % zv.cells.size]!)).toList = (List.replicate c0 zv.cells.toList).flatten := by
      have := range_map_mod zv.cells.toList (by omega) c0
      rw [hzl] at this
      simpa using this
    have h4 : DenLC st.pc.nv σ β (repl c0 z) ((Array.range (c0 * i.size)).map (fun j => zv.cells[j % zv.cells.size]!)).toList := fun σ' ha => by
      rw [hcells]; exact repl_ok (hzd σ' β) c0
    obtain ⟨β', w', h5, h6, h7, h8⟩ := new_ok (P := P) hR h4 e
    simp only [Array.toArray_toList] at h5
    have wrapn : ∀ n : Nat, n ≤ 16777216 → IntKind.i64.wrap (n : Int) = n := fun n h => by
      have h1 : n < 2 ^ IntKind.i64.bits := by show n < 2 ^ 64; omega
      have h2 : ¬ 2 ^ (IntKind.i64.bits - 1) ≤ n := by show ¬ 2 ^ 63 ≤ n; omega
      have := ofB_signed (k := .i64) rfl h1
      rw [if_neg h2] at this
      exact this
    have hwl := wrapn l0 (by omega)
    have hwc := wrapn c0 b2
    have hsz : szOf P e = some i.size := by unfold szOf; rw [hi]; rfl
    have e48 : ((2 : Int) ^ 48) = 281474976710656 := by decide
    have hnl : decide ((i.bytes : Int) * (c0 : Int) > 2 ^ 48) = false := by
      refine decide_eq_false ?_
      rw [e48]
      have : ((i.bytes * c0 : Nat) : Int) ≤ ((140737488355328 : Nat) : Int) := Int.ofNat_le.2 b3
      rw [Int.natCast_mul] at this; omega
    have hroom : ¬ (c0 * i.bytes > roomBytes) := by
      have : roomBytes = 140737488355328 := by decide
      rw [Nat.mul_comm, this]; omega
    have hc0 : decide ((c0 : Int) < 0) = false := decide_eq_false (by omega)
    have hl0 : decide ((l0 : Int) < 0) = false := decide_eq_false (by omega)
    have hlc : decide ((l0 : Int) > (c0 : Int)) = false := decide_eq_false (by omega)
    have hms : (Instr.makeSlice t (.int kl l0) (.int kc c0)).run P w = .ok (.slice (some ⟨w.heap.size, 0, none⟩) l0 c0) w' := by
      unfold Instr.makeSlice
      simp only [Sem.run_bind, run_underlying' (sliOf_some he), Result.andThen_ok, asInt, asIntOf, Sem.run_pure, run_typeInfo' hi, hwl, hwc, hnl, hc0, hl0, hlc, Bool.or_false, Bool.false_or, Bool.false_eq_true, if_false,
        askRoom, Int.toNat_natCast, if_neg hroom, run_sizeOf' hsz, Sem.run_ite]
      by_cases h0 : c0 * i.size = 0
      · rw [if_pos h0]
        rw [h0] at h5 ⊢
        have er : Array.range 0 = #[] := rfl
        rw [er] at h5 ⊢
        simp only [List.map_toArray, List.map_nil] at h5 ⊢
        simp [h5]
      · rw [if_neg h0, h1, Result.andThen_ok, h5]; rfl
    have hrun : (execOp a.eval ⟨dst, .makeSlice t l c, ty, pos, af, g⟩).run P w = .ok (.value (.slice (some ⟨w.heap.size, 0, none⟩) l0 c0)) w' := by
      simp [execOp, hvl, hvc, hms]
    unfold Oper.wp
    rw [hrun]
    exact hn.step (st' := st.new _) rfl h6 h7 (fun _ _ => .slice h8) hs

/-- Effects beside. -/
noncomputable def effNew (P : Program) (o : Op) : Option HX :=
  match o with
  | .makeSlice t l c => some (hMakeSlice P t l c)
  | _ => none
theorem effNew_ok {P : Program} {L M N} {o : Oper} {h : HX} (he : effNew P o.op = some h) : HXok P L M N o h := by
  obtain ⟨dst, op, ty, pos, af, g⟩ := o
  unfold effNew at he
  split at he <;> rename_i hop <;> (try change op = _ at hop) <;> (try subst hop) <;> (try cases he)
  · exact hMakeSlice_ok

end Go.Sy
end

section
/- A slice of bytes as a string. -/
namespace Go.Sy
open Go.RowKit

/-- All are bytes. -/
noncomputable def allU8 (l : List SV) : Bool := List.rec true (fun s _ ih => Option.rec false (fun x => band (Nat.beq x.1.ctorIdx IntKind.u8.ctorIdx) ih) (svInt s)) l
theorem allU8_ok {σ β} : ∀ {l : List SV} {vs : List Value}, allU8 l = true → DenL σ β l vs → ∃ ns : List Nat, (∀ n ∈ ns, n < 256) ∧ vs = ns.map fun n : Nat => Value.int .u8 (n : Int)
  | [], _, _, .nil => ⟨[], (fun _ h => by cases h), rfl⟩
  | s :: l, _, h, .cons hd tl => by
    change (Option.rec false (fun x => band (Nat.beq x.1.ctorIdx IntKind.u8.ctorIdx) (allU8 l)) (svInt s) : Bool) = true at h
    cases hs : svInt s with
    | none => rw [hs] at h; cases h
    | some x =>
      rw [hs] at h
      obtain ⟨h1, h2⟩ := band_eq h
      obtain ⟨ns, g1, g2⟩ := allU8_ok h2 tl
      have hk := kind_idx (of_nbeq h1)
      obtain ⟨rfl, hl⟩ := (svInt_some hs hd).int_inv
      rw [hk] at hl ⊢
      refine ⟨x.2.ev σ :: ns, fun n hn => ?_, ?_⟩
      · rcases List.mem_cons.1 hn with rfl | hn
        · exact hl
        · exact g1 n hn
      · rw [List.map_cons, g2, ofB_unsigned rfl hl]
theorem byteVals_push (s : ByteArray) (b : UInt8) : byteVals (s.push b) = byteVals s ++ [Value.int .u8 b.toNat] := by
  unfold byteVals
  simp
theorem byteVals_fold : ∀ (ns : List Nat) (s : ByteArray), (∀ n ∈ ns, n < 256) →
    byteVals ((ns.map fun n : Nat => (n : Int)).foldl (fun r n => r.push (UInt8.ofNat n.toNat)) s) = byteVals s ++ ns.map fun n : Nat => Value.int .u8 (n : Int)
  | [], s, _ => by simp
  | n :: ns, s, h => by
    rw [List.map_cons, List.foldl_cons, byteVals_fold ns _ fun m hm => h m (List.mem_cons_of_mem _ hm), byteVals_push, List.map_cons, List.append_assoc]
    have := h n List.mem_cons_self
    simp [Nat.mod_eq_of_lt this]

noncomputable def u8T (P : Program) (e : TypeId) : Bool := match P.underlying e with | some (.int .u8) => true | _ => false
theorem u8T_ok {P : Program} {e : TypeId} (h : u8T P e = true) : P.underlying e = some (.int .u8) := by
  unfold u8T at h
  split at h
  · assumption
  · cases h
noncomputable def hBytesStr (P : Program) (s d : TypeId) (x : Operand) : HX :=
  ho 270 (sliOf P s) fun e => hw 271 (band (u8T P e) (isStrT P d)) ⟨fun _ F st k => oa 272 (svSl ((cO x).g F)) fun q => oa 273 (slCells st q q.len) fun cs => wa 274 (allU8 cs) (forceL cs fun cs => k (.str cs) st)⟩
theorem hBytesStr_ok {P L M N s d x dst ty pos af g} : HXok P L M N ⟨dst, .convert s d x, ty, pos, af, g⟩ (hBytesStr P s d x) := by
  refine ho_ok fun e he => hw_ok fun hc => ?_
  obtain ⟨hc1, hc2⟩ := band_eq hc
  intro cf _ σ w0 β st w F a k next Q hR hF hs hn
  obtain ⟨q, hq, hs⟩ := oa_sat hs
  obtain ⟨cs, hcs, hs⟩ := oa_sat hs
  obtain ⟨hu, hs⟩ := wa_sat hs
  rw [forceL_eq] at hs
  have hue := u8T_ok hc1
  have hus := sliOf_some he
  have hud := isStrT_some hc2
  unfold slCells at hcs
  have hden := svSl_o hq (cO_C hF x).at0
  rcases svSl_den hq hden with ⟨k1, k2, k3, k4⟩ | ⟨o, off, b, c, cap, k1, k2, k3, k4, k5⟩
  · rw [k1] at hcs
    obtain ⟨_, hcs⟩ := ow_some hcs
    cases hcs
    have hrun : (execOp a.eval ⟨dst, .convert s d x, ty, pos, af, g⟩).run P w = .ok (.value (.string .empty)) w := by
      simp [execOp, k4, run_convert_bytes_string w s d e none 0 0 hus hue hud, Conv.bytesToString]
    unfold Oper.wp
    rw [hrun]
    exact hn.step rfl (Ext.refl β) hR (fun σ' _ => .str (by exact .nil)) hs
  · rw [k1] at hcs
    obtain ⟨cs0, hc0, hcs⟩ := ob_some hcs
    obtain ⟨vs, j1, j2, j3⟩ := mid_C hR hc0 hcs k2
    obtain ⟨ns, n1, n2⟩ := allU8_ok hu (j1 σ (Ag.refl _ _))
    have hld := run_loadCells_list (P := P) w ⟨b, off, none⟩ vs fun j v hj => j3 j v hj
    rw [j2] at hld
    have hbv := byteVals_fold ns .empty n1
    rw [show byteVals .empty = [] from rfl, List.nil_append, ← n2] at hbv
    have hb := run_bytesToString (P := P) w ⟨b, off, none⟩ q.len cap (ns.map fun n : Nat => (n : Int)) (by rw [hld, n2, List.map_map]; rfl)
    have hrun : (execOp a.eval ⟨dst, .convert s d x, ty, pos, af, g⟩).run P w = .ok (.value (.string ((ns.map fun n : Nat => (n : Int)).foldl (fun r n => r.push (UInt8.ofNat n.toNat)) .empty))) w := by
      simp only [execOp, k3, Sem.run_bind, run_convert_bytes_string w s d e (some ⟨b, off, none⟩) q.len cap hus hue hud, hb]
      rfl
    unfold Oper.wp
    rw [hrun]
    exact hn.step rfl (Ext.refl β) hR (fun σ' ha => .str (by rw [hbv]; exact j1 σ' ha)) hs
/-- Effects beside, and these. -/
noncomputable def effCv (P : Program) (o : Op) : Option HX :=
  match o with
  | .convert s d x => some (hBytesStr P s d x)
  | o => effNew P o
theorem effCv_ok {P : Program} {L M N} {o : Oper} {h : HX} (he : effCv P o.op = some h) : HXok P L M N o h := by
  obtain ⟨dst, op, ty, pos, af, g⟩ := o
  unfold effCv at he
  split at he
  · rename_i hop
    change op = _ at hop
    subst hop
    cases he
    exact hBytesStr_ok
  · exact effNew_ok he

end Go.Sy
end

section
/- Calls of functions without a body: what sync/atomic loads and stores. -/
namespace Go.Sy
open Go.RowKit

/-- Which one it is: 0 LoadUint64, 1 StoreUint64. -/
noncomputable def extOf (P : Program) (f : Nat) : Option Nat :=
  match P.funcs[f]? with
  | some fn => if fn.body.isNone && fn.origin == "" then (if fn.name == "sync/atomic.LoadUint64" then some 0 else if fn.name == "sync/atomic.StoreUint64" then some 1 else none) else none
  | none => none
structure ExtIs (P : Program) (f : Nat) (n : String) (fn : Func) : Prop where
  at_ : P.funcs[f]? = some fn
  body : fn.body.isNone = true
  name : fn.name = n
  origin : fn.origin = ""
theorem extOf_some {P : Program} {f e : Nat} (h : extOf P f = some e) : ∃ fn, (e = 0 ∧ ExtIs P f "sync/atomic.LoadUint64" fn) ∨ (e = 1 ∧ ExtIs P f "sync/atomic.StoreUint64" fn) := by
  unfold extOf at h
  split at h
  · rename_i fn hfn
    split at h
    · rename_i hc
      obtain ⟨h1, h2⟩ := Bool.and_eq_true_iff.1 hc
      have h2 := eq_of_beq h2
      split at h
      · rename_i hn; cases h; exact ⟨fn, .inl ⟨rfl, hfn, h1, eq_of_beq hn, h2⟩⟩
      · split at h
        · rename_i hn; cases h; exact ⟨fn, .inr ⟨rfl, hfn, h1, eq_of_beq hn, h2⟩⟩
        · cases h
    · cases h
  · cases h
theorem noNext {fn : Func} {n : String} (hn : fn.name = n) (ho : fn.origin = "") (h1 : Extern.allNextRows.lookup n = none) : Extern.findNext fn = none := by
  have h0 : Extern.allNextRows.lookup "" = none := by kernel_rfl
  unfold Extern.findNext
  simp [hn, ho, h0, h1]
theorem find_load {fn : Func} (hn : fn.name = "sync/atomic.LoadUint64") (_ho : fn.origin = "") : Extern.find fn = some (Extern.Atomic.loadT (.int .u64)) := by
  have h1 : Extern.allGenericRows.lookup "sync/atomic.LoadUint64" = none := by kernel_rfl
  have h2 : Extern.allTypedRows.lookup "sync/atomic.LoadUint64" = none := by kernel_rfl
  have h3 : Extern.allRows.lookup "sync/atomic.LoadUint64" = some (Extern.Atomic.loadT (.int .u64)) := by kernel_rfl
  unfold Extern.find
  simp [hn, h1, h2, h3]
theorem find_store {fn : Func} (hn : fn.name = "sync/atomic.StoreUint64") (_ho : fn.origin = "") : Extern.find fn = some Extern.Atomic.storeT := by
  have h1 : Extern.allGenericRows.lookup "sync/atomic.StoreUint64" = none := by kernel_rfl
  have h2 : Extern.allTypedRows.lookup "sync/atomic.StoreUint64" = none := by kernel_rfl
  have h3 : Extern.allRows.lookup "sync/atomic.StoreUint64" = some Extern.Atomic.storeT := by kernel_rfl
  unfold Extern.find
  simp [hn, h1, h2, h3]

noncomputable def oneOf1 (l : List SV) (k : SV → Ans) : Ans := List.rec (motive := fun _ => Ans) (.bad 300) (fun x t _ => List.rec (motive := fun _ => Ans) (k x) (fun _ _ _ => .bad 300) t) l
theorem oneOf1_sat {L σ} {l : List SV} {k : SV → Ans} (h : (oneOf1 l k).sat L σ) : ∃ x, l = [x] ∧ (k x).sat L σ := by
  cases l with
  | nil => exact h.elim
  | cons x t => cases t with
    | nil => exact ⟨x, rfl, h⟩
    | cons _ _ => exact h.elim
noncomputable def extLoad (st : St) (xs : List SV) (k : SV → St → Ans) : Ans :=
  oneOf1 xs fun s => oa 301 (svPtr s) fun p => oa 302 (cellsOb st p.1) fun cs => oa 303 (midR cs p.2 1) fun m => oneOf1 m fun x => oa 304 (svInt x) fun i => wa 305 (Nat.beq i.1.ctorIdx IntKind.u64.ctorIdx) (k x st)
noncomputable def extStore (st : St) (xs : List SV) (k : SV → St → Ans) : Ans :=
  List.rec (motive := fun _ => Ans) (.bad 306) (fun s t _ => oneOf1 t fun v => oa 301 (svPtr s) fun p => oa 302 (cellsOb st p.1) fun cs => oa 303 (midR cs p.2 1) fun _ => oa 304 (svInt v) fun _ => storeCs st p.1 p.2 [v] fun st' => k (.tuple []) st') xs
noncomputable def hCallX (P : Program) (x : Operand) (args : List Operand) : HX :=
  ⟨fun cf F st k => oa 156 (svFunc ((cO x).g F)) fun f => forceN f.1 fun n => Option.rec (motive := fun _ => Ans) (knL (cOs args) F fun xs => cf n (appR xs f.2) st k)
    (fun e => knL (cOs args) F fun xs => bc (Nat.beq e 0) (extLoad st (appR xs f.2) k) (extStore st (appR xs f.2) k)) (extOf P n)⟩
theorem hCallX_ok {P L M N x args ats dst ty pos af g} : HXok P L M N ⟨dst, .call ⟨.value x, args, ats⟩, ty, pos, af, g⟩ (hCallX P x args.toList) := by
  intro cf hcf σ w0 β st w F a k next Q hR hF hs hn
  obtain ⟨f, hf, hs⟩ := oa_sat hs
  rw [forceN_eq] at hs
  cases hx : extOf P f.1 with
  | none =>
    rw [hx] at hs
    have hs : ((hCall x args.toList).run cf F st k).sat L σ := by
      show (oa 156 (svFunc ((cO x).g F)) fun f => knL (cOs args.toList) F fun xs => cf f.1 (appR xs f.2) st k).sat L σ
      rw [hf]; exact hs
    exact hCall_ok cf hcf σ w0 β st w F a k next Q hR hF hs hn
  | some e =>
    rw [hx] at hs
    obtain ⟨hkn, hs⟩ := knL_sat hs
    rw [cOs_eq] at hkn hs
    rw [appR_eq] at hs
    have hl := cOs_C hF args.toList hkn
    have hd : ∀ σ', Ag st.pc.nv σ σ' → Den σ' β (.func f.1 f.2) (a.eval x) := fun σ' ha => svFunc_o hf (cO_C hF x σ' ha)
    have hd0 := hd σ (Ag.refl _ _)
    generalize hv : a.eval x = v at hd hd0
    cases hd0 with
    | func hcap0 =>
      rename_i cvs
      have hcap : DenLC st.pc.nv σ β f.2 cvs := fun σ' ha => by
        have := hd σ' ha
        generalize hvv : Value.func (.func f.1) #[] cvs.toArray = vv at this
        cases this with
        | func h' => injection hvv with _ _ h3; have := congrArg Array.toList h3; simp at this; rw [this]; exact h'
      have hall := hl.append hcap
      generalize hxs : ((args.toList.map cO).map fun x => x.g F) ++ f.2 = xs at hs hall
      generalize hvs : List.map a.eval args.toList ++ cvs = vs at hall
      have hargs : (Array.map a.eval args ++ cvs.toArray) = vs.toArray := by
        rw [← hvs]; apply Array.ext'; simp
      have hin : ∀ {r : Value} {w' : World}, (callFunc f.1 vs.toArray).run P w = .ok (.value r) w' → (execOp a.eval ⟨dst, .call ⟨.value x, args, ats⟩, ty, pos, af, g⟩).run P w = .ok (.value r) w' := fun h => by
        simp only [execOp, resolve, hv, Deferred.ofValue, Sem.run_bind, Sem.run_pure, Result.andThen_ok, invoke]
        rw [show (#[] ++ Array.map a.eval args ++ cvs.toArray) = vs.toArray from by rw [← hargs]; simp]
        exact h
      obtain ⟨fn, ⟨rfl, he⟩ | ⟨rfl, he⟩⟩ := extOf_some hx
      · change (extLoad st xs k).sat L σ at hs
        obtain ⟨s, rfl, hs⟩ := oneOf1_sat hs
        obtain ⟨p, hp, hs⟩ := oa_sat hs
        obtain ⟨cs, hcs, hs⟩ := oa_sat hs
        obtain ⟨m, hm, hs⟩ := oa_sat hs
        obtain ⟨y, rfl, hs⟩ := oneOf1_sat hs
        obtain ⟨i, hi, hs⟩ := oa_sat hs
        obtain ⟨hk, hs⟩ := wa_sat hs
        have hk := kind_idx (of_nbeq hk)
        have h0 := hall σ (Ag.refl _ _)
        cases h0 with
        | cons hs0 tl =>
          cases tl with
          | nil =>
            rename_i v0
            have hp0 := svPtr_o hp (.inr hs0)
            cases hp0 with
            | ptr hb =>
              obtain ⟨us, j1, j2, j3⟩ := mid_C hR hcs hm hb
              have hu0 := j1 σ (Ag.refl _ _)
              cases hu0 with
              | cons hy ty' =>
                cases ty' with
                | nil =>
                  rename_i b c u
                  obtain ⟨hu, _⟩ := (svInt_some hi hy).int_inv
                  have hc := j3 0 u rfl
                  rw [hu, hk] at hc
                  have hrun := hin (run_call_load (w := w) he.at_ (by rw [he.name]; rfl) he.body (noNext he.name he.origin (by kernel_rfl)) .u64 (find_load he.name he.origin) (a := ⟨b, p.2, none⟩) (by simpa [Addr.add] using hc))
                  unfold Oper.wp
                  rw [hrun]
                  refine hn.step rfl (Ext.refl β) hR (fun σ' ha => ?_) hs
                  have := j1 σ' ha
                  cases this with
                  | cons hy' _ => rw [hu, hk] at hy'; exact hy'
      · change (extStore st xs k).sat L σ at hs
        cases xs with
        | nil => exact hs.elim
        | cons s t =>
          change (oneOf1 t fun v => oa 301 (svPtr s) fun p => oa 302 (cellsOb st p.1) fun cs => oa 303 (midR cs p.2 1) fun _ => oa 304 (svInt v) fun _ => storeCs st p.1 p.2 [v] fun st' => k (.tuple []) st').sat L σ at hs
          obtain ⟨y, rfl, hs⟩ := oneOf1_sat hs
          obtain ⟨p, hp, hs⟩ := oa_sat hs
          obtain ⟨cs, hcs, hs⟩ := oa_sat hs
          obtain ⟨m, hm, hs⟩ := oa_sat hs
          obtain ⟨i, hi, hs⟩ := oa_sat hs
          have h0 := hall σ (Ag.refl _ _)
          cases h0 with
          | cons hs0 tl =>
            cases tl with
            | cons hy tl2 =>
              cases tl2 with
              | nil =>
                rename_i v0 v1
                have hp0 := svPtr_o hp (.inr hs0)
                cases hp0 with
                | ptr hb =>
                  rename_i b c
                  obtain ⟨us, j1, j2, j3⟩ := mid_C hR hcs hm hb
                  match us, j2 with
                  | [u], _ =>
                    have hc := j3 0 u rfl
                    have hyC : DenLC st.pc.nv σ β [y] [v1] := fun σ' ha => by
                      have := hall σ' ha
                      cases this with
                      | cons _ t2 => exact t2
                    obtain ⟨hu, _⟩ := (svInt_some hi hy).int_inv
                    have hone : v1.oneCell' = true := by rw [hu]; rfl
                    obtain ⟨st', w', g1, g2, g3, g4, g5⟩ := storeCs_ok (P := P) hR hyC (fun v hv => by rw [List.mem_singleton.1 hv]; exact hone) hs hb
                    have hc' : w.cell? ⟨b, p.2, none⟩ = some u := by simpa [Addr.add] using hc
                    have hst := run_store P w ⟨b, p.2, none⟩ v1 .plain hone
                    rw [hc'] at hst
                    have hfz : w.frozen? ⟨b, p.2, none⟩ = false ∧ w' = w.setCell ⟨b, p.2, none⟩ v1 := by
                      have ha0 : (⟨b, p.2, none⟩ : Addr).add 0 = ⟨b, p.2, none⟩ := rfl
                      simp only [storeCells, ha0, Sem.run_bind] at g1
                      cases hz : w.frozen? ⟨b, p.2, none⟩ with
                      | true =>
                        exfalso
                        rw [hz] at hst
                        simp only [if_true] at hst
                        rw [hst] at g1
                        cases g1
                      | false =>
                        rw [hz] at hst
                        simp only [Bool.false_eq_true, if_false] at hst
                        rw [hst] at g1
                        simp only [Result.andThen_ok, Sem.run_pure] at g1
                        injection g1 with _ g1
                        exact ⟨rfl, g1.symm⟩
                    have hrun := hin (r := .tuple #[]) (w' := w') (by
                      rw [hu, hfz.2]
                      have := run_call_store (w := w) he.at_ (by rw [he.name]; rfl) he.body (noNext he.name he.origin (by kernel_rfl)) (find_store he.name he.origin) (a := ⟨b, p.2, none⟩) (k := i.1) (y := ofB i.1 (i.2.ev σ)) hc' hfz.1
                      rw [hu]
                      exact this)
                    unfold Oper.wp
                    rw [hrun]
                    exact hn.step (s := .tuple []) (by rw [g2]) (Ext.refl β) g4 (fun _ _ => .tuple .nil) g5

/-- Calls, with those that have no body. -/
noncomputable def effCall (P : Program) (o : Op) : Option HX :=
  match o with
  | .call ⟨.value x, args, _⟩ => some (hCallX P x args.toList)
  | _ => none
theorem effCall_ok {P : Program} {L M N} {o : Oper} {h : HX} (he : effCall P o.op = some h) : HXok P L M N o h := by
  obtain ⟨dst, op, ty, pos, af, g⟩ := o
  unfold effCall at he
  split at he
  · rename_i hop
    change op = _ at hop
    subst hop
    cases he
    exact hCallX_ok
  · cases he

end Go.Sy
end

section
/- What package strings' builder asks: copy, cap, unsafe's strings and slices; functions without a body. -/
namespace Go.Sy
open Go.RowKit

/-! ### A block that nothing speaks of -/
theorem Rep.touch {M σ w0 β} {st : St} {w w' : World} (h : Rep M σ w0 β st w) {b : Nat} (hb : w0.heap.size ≤ b ∨ M.wr b) (hu : ∀ o he c, st.hp.get o = some he → β o ≠ some (b, c))
    (e1 : w'.os = w.os) (e2 : w'.tape = w.tape) (e3 : w'.output = w.output) (e4 : w.heap.size ≤ w'.heap.size) (e5 : ∀ k, k ≠ b → k < w.heap.size → w'.heap[k]? = w.heap[k]?) : Rep M σ w0 β st w' := by
  refine ⟨⟨e1.trans h.kept.os, e2.trans h.kept.tape, e3.trans h.kept.output, Nat.le_trans h.kept.size e4, fun k hk hm => ?_⟩, h.rdlt, h.fresh, fun o he ho => ?_, h.inj, h.glob⟩
  · rw [e5 k (fun e => by subst e; exact hb.elim (by omega) hm) (Nat.lt_of_lt_of_le hk h.kept.size)]
    exact h.kept.block k hk hm
  · obtain ⟨b', c, x, h1, h2, h3, h4⟩ := h.heap o he ho
    have hlt : b' < w.heap.size := (Array.getElem?_eq_some_iff.1 h2).1
    have hne : b' ≠ b := fun e => by subst e; exact hu o he c ho h1
    exact ⟨b', c, x, h1, by rw [e5 b' hne hlt]; exact h2, h3, h4⟩
/-- Who writes an object, and knows nothing of it then. -/
theorem RepC.touch {M σ w0 β} {st : St} {w w' : World} (h : RepC M σ w0 β st w) {o : Nat} {ob : SObj} (ho : st.hp.get o = some ⟨ob, false⟩) {b c : Nat} (hb : β o = some (b, c))
    (e1 : w'.os = w.os) (e2 : w'.tape = w.tape) (e3 : w'.output = w.output) (e4 : w.heap.size ≤ w'.heap.size) (e5 : ∀ k, k ≠ b → k < w.heap.size → w'.heap[k]? = w.heap[k]?) :
    RepC M σ w0 β ⟨st.hp.set o none, st.nn, st.pc⟩ w' := by
  refine ⟨h.1, fun σ' ha => ?_⟩
  have hR := h.2 σ' ha
  obtain ⟨b0, c0, y, k1, k2, k3, k4, k5⟩ := hR.heap o _ ho
  rw [hb] at k1; simp at k1; obtain ⟨rfl, rfl⟩ := k1
  refine (hR.kill o).touch (k4 rfl) (fun o' he' c' ho' hbe => ?_) e1 e2 e3 e4 e5
  change (st.hp.set o none).get o' = some he' at ho'
  by_cases e : o' = o
  · subst e; rw [Tr.get_set_eq] at ho'; cases ho'
  · rw [Tr.get_set_ne _ _ e] at ho'
    exact e (hR.inj o' o he' _ b c' c ho' ho (.inr rfl) hbe hb)
/-- An object's type and how many cells of it are known. -/
noncomputable def rowAtO (st : St) (o : Nat) : Option (Nat × Nat × Bool) := ob (st.hp.get o) fun he => bc he.ro none (SObj.rec (fun cs e => some (e, lenR cs, true)) (fun cs e _ => some (e, lenR cs, false)) (fun _ => none) (fun _ _ _ => none) (fun _ _ _ _ => none) (fun _ => none) (fun _ _ => none) (fun _ => none) he.ob)
theorem rowAtO_C {M σ w0 β} {st : St} {w : World} (h : RepC M σ w0 β st w) {o : Nat} {r : Nat × Nat × Bool} (hr : rowAtO st o = some r) {b c : Nat} (hb : β o = some (b, c)) :
    ∃ ob, st.hp.get o = some ⟨ob, false⟩ ∧ ∃ n, w.shape? b = some (r.1, n) ∧ r.2.1 ≤ n ∧ (r.2.2 = true → n = r.2.1) := by
  obtain ⟨he, hg, hr⟩ := ob_some hr
  obtain ⟨obj, ro⟩ := he
  cases ro with
  | true => cases hr
  | false =>
    obtain ⟨b0, c0, y, k1, k2, k3, _⟩ := (h.2 σ (Ag.refl _ _)).heap o _ hg
    rw [hb] at k1; simp at k1; obtain ⟨rfl, rfl⟩ := k1
    cases obj with
    | cells cs e =>
      cases hr
      cases k3 with
      | cells hd =>
        rename_i vs
        exact ⟨_, hg, vs.length, by simp [World.shape?, k2], by simp [lenR_eq, hd.length], fun _ => by simp [lenR_eq, hd.length]⟩
    | grown cs e z =>
      cases hr
      cases k3 with
      | grown hd hc =>
        rename_i vs rest
        exact ⟨_, hg, vs.length + rest.length, by simp [World.shape?, k2], by simp [lenR_eq, hd.length], fun h => by cases h⟩
    | map _ => cases hr
    | iter _ _ _ => cases hr
    | sym _ _ _ _ => cases hr
    | imap _ => cases hr
    | siter _ _ => cases hr
    | tab _ => cases hr

/-! ### Builtins -/
noncomputable def two {α : Type} (l : List α) : Option (α × α) := List.rec none (fun x t _ => List.rec none (fun y u _ => List.rec (some (x, y)) (fun _ _ _ => none) u) t) l
theorem two_some {α : Type} {l : List α} {x : α × α} (h : two l = some x) : l = [x.1, x.2] := by
  match l with
  | [] => cases h
  | [_] => cases h
  | [a, b] => cases h; rfl
  | _ :: _ :: _ :: _ => cases h
noncomputable def one? {α : Type} (l : List α) : Option α := List.rec none (fun x t _ => List.rec (some x) (fun _ _ _ => none) t) l
theorem one?_some {α : Type} {l : List α} {x : α} (h : one? l = some x) : l = [x] := by
  match l with
  | [] => cases h
  | [_] => cases h; rfl
  | _ :: _ :: _ => cases h
theorem eval_two {a : Act} {args : Array Operand} {x y : Operand} (h : args.toList = [x, y]) : args.map a.eval = #[a.eval x, a.eval y] := by
  apply Array.ext'; simp [h]
theorem eval_one {a : Act} {args : Array Operand} {x : Operand} (h : args.toList = [x]) : args.map a.eval = #[a.eval x] := by
  apply Array.ext'; simp [h]
noncomputable def isSl (P : Program) (t : TypeId) : Bool := Option.rec false (fun _ => true) (sliOf P t)
theorem isSl_ok {P : Program} {t : TypeId} (h : isSl P t = true) : ∃ e, P.underlying t = some (.slice e) := by
  unfold isSl at h
  cases hs : sliOf P t with
  | none => rw [hs] at h; cases h
  | some e => exact ⟨e, sliOf_some hs⟩
theorem litInt {σ β} {n : Nat} (h : n < 9223372036854775808) : Den σ β (.int .i64 (.lit n)) (goInt n) := by
  have := goInt_ev (σ := σ) (β := β) (t := .lit n) (by rw [ev_lit]; exact h)
  rwa [ev_lit] at this
noncomputable def hCap (P : Program) (ats : List TypeId) (args : List Operand) : HX :=
  ho 400 (one? args) fun x => ho 400 (one? ats) fun t => hw 401 (isSl P t) ⟨fun _ F st k => oa 402 (svSl ((cO x).g F)) fun q => oa 403 q.cap fun c => forceN c fun c => wa 404 (Nat.blt c 9223372036854775808) (k (.int .i64 (.lit c)) st)⟩
theorem run_cap {P : Program} {t e : TypeId} (hu : P.underlying t = some (.slice e)) (p : Option Addr) (n c : Nat) (ty : TypeId) (w : World) : (Builtin.cap_ #[t] ty #[.slice p n c]).run P w = .ok (goInt c) w := by
  simp [Builtin.cap_, run_underlying' hu]

theorem hCap_ok {P L M N args ats dst ty pos af g} : HXok P L M N ⟨dst, .call ⟨.builtin .cap, args, ats⟩, ty, pos, af, g⟩ (hCap P ats.toList args.toList) := by
  refine ho_ok fun x hx => ho_ok fun t ht => hw_ok fun hsl => ?_
  obtain ⟨e, he⟩ := isSl_ok hsl
  intro cf _ σ w0 β st w F a k next Q hR hF hs hn
  obtain ⟨q, hq, hs⟩ := oa_sat hs
  obtain ⟨c, hc, hs⟩ := oa_sat hs
  rw [forceN_eq] at hs
  obtain ⟨hlt, hs⟩ := wa_sat hs
  have hden := svSl_o hq (cO_C hF x).at0
  have hcap : ∃ p n, a.eval x = .slice p n c := by
    rcases svSl_den hq hden with ⟨k1, k2, k3, k4⟩ | ⟨o, off, b, c', cap, k1, k2, k3, k4, k5⟩
    · rw [hc] at k3; cases k3; exact ⟨_, _, k4⟩
    · rw [k4 c hc] at k3; exact ⟨_, _, k3⟩
  obtain ⟨p, n, hv⟩ := hcap
  have hats : ats = #[t] := by apply Array.ext'; simpa using one?_some ht
  have hargs := eval_one (a := a) (one?_some hx)
  have hrun : (execOp a.eval ⟨dst, .call ⟨.builtin .cap, args, ats⟩, ty, pos, af, g⟩).run P w = .ok (.value (goInt c)) w := by
    simp [execOp, resolve, invoke, builtin, hargs, hats, hv, run_cap he]
  unfold Oper.wp
  rw [hrun]
  exact hn.step rfl (Ext.refl β) hR (fun _ _ => litInt (of_nblt hlt)) hs

noncomputable def hSlData (args : List Operand) : HX :=
  ho 405 (one? args) fun x => ⟨fun _ F st k => oa 406 (svSl ((cO x).g F)) fun q => Option.rec (motive := fun _ => Ans) (k .pnil st) (fun p => wa 407 (Option.rec (Nat.blt 0 q.len) (fun c => Nat.blt 0 c) q.cap) (k (.ptr p.1 p.2) st)) q.at_⟩
theorem hSlData_ok {P L M N args ats dst ty pos af g} : HXok P L M N ⟨dst, .call ⟨.builtin .unsafeSliceData, args, ats⟩, ty, pos, af, g⟩ (hSlData args.toList) := by
  refine ho_ok fun x hx => ?_
  intro cf _ σ w0 β st w F a k next Q hR hF hs hn
  obtain ⟨q, hq, hs⟩ := oa_sat hs
  have hden := svSl_o hq (cO_C hF x).at0
  have hargs := eval_one (a := a) (one?_some hx)
  have hex : ∀ {v : Value}, (Builtin.unsafeSliceData_ ats ty #[a.eval x]).run P w = .ok v w → (execOp a.eval ⟨dst, .call ⟨.builtin .unsafeSliceData, args, ats⟩, ty, pos, af, g⟩).run P w = .ok (.value v) w := fun h => by
    simp [execOp, resolve, invoke, builtin, hargs, h]
  rcases svSl_den hq hden with ⟨k1, k2, k3, k4⟩ | ⟨o, off, b, c', cap, k1, k2, k3, k4, k5⟩
  · rw [k1] at hs
    unfold Oper.wp
    rw [hex (by rw [k4]; exact Lib.run_unsafeSliceData_nil w ats ty 0 0)]
    exact hn.step rfl (Ext.refl β) hR (fun _ _ => .pnil) hs
  · rw [k1] at hs
    obtain ⟨hc, hs⟩ := wa_sat (show (wa 407 (Option.rec (Nat.blt 0 q.len) (fun c => Nat.blt 0 c) q.cap) (k (.ptr o off) st)).sat L σ from hs)
    have hne : cap ≠ 0 := by
      cases hcap : q.cap with
      | none => rw [hcap] at hc; obtain ⟨sh, _, _, e2, e3, _⟩ := k5 hcap; have := of_nblt hc; omega
      | some c => rw [hcap] at hc; have := k4 c hcap; have := of_nblt hc; omega
    unfold Oper.wp
    rw [hex (by rw [k3]; exact Lib.run_unsafeSliceData_row w ats ty ⟨b, off, none⟩ q.len cap hne)]
    exact hn.step rfl (Ext.refl β) hR (fun _ _ => .ptr k2) hs

noncomputable def ptrT? (P : Program) (t : TypeId) : Option TypeId := match P.underlying t with | some (.pointer e) => some e | _ => none
theorem ptrT?_some {P : Program} {t e : TypeId} (h : ptrT? P t = some e) : P.underlying t = some (.pointer e) := by
  unfold ptrT? at h; split at h <;> first | (cases h; assumption) | (cases h)
noncomputable def isPtrS (s : SV) : Bool := bc (Nat.beq s.1 2) true (Nat.beq s.1 3)
theorem isPtrS_ok {σ β} {s : SV} {v : Value} (h : isPtrS s = true) (hd : DenO σ β s v) : ∃ p, v = .pointer p := by
  obtain ⟨tag, k, a, b, t, u, c, l⟩ := s
  unfold isPtrS at h
  cases h2 : Nat.beq tag 2
  · change bc (Nat.beq tag 2) true (Nat.beq tag 3) = true at h
    rw [h2] at h
    have h3 : tag = 3 := of_nbeq h
    subst h3
    rcases hd with hd | hd
    · cases hd
    · cases hd; exact ⟨_, rfl⟩
  · have h2 : tag = 2 := of_nbeq h2
    subst h2
    rcases hd with hd | hd
    · cases hd
    · cases hd; exact ⟨_, rfl⟩
noncomputable def hUStr (P : Program) (ats : List TypeId) (args : List Operand) : HX :=
  ho 408 (two args) fun x => ho 409 (two ats) fun t => ho 410 (ptrT? P t.1) fun e => hw 411 (Nat.beq (P.cellsOf e) 1)
    ⟨fun _ F st k => oa 412 (svInt ((cO x.2).g F)) fun i => wa 413 (Nat.beq i.1.ctorIdx IntKind.i64.ctorIdx) (oa 414 (isLit i.2) fun n => bc (Nat.beq n 0) (wa 415 (isPtrS ((cO x.1).g F)) (k (.str []) st))
      (oa 416 (svPtr ((cO x.1).g F)) fun p => wa 417 (Nat.beq p.2 0) (oa 418 (rowAtO st p.1) fun r => wa 419 (bc (Nat.beq r.1 e) (bc (Nat.ble n r.2.1) (Nat.blt n 9223372036854775808) false) false)
        (oa 420 (cellsOb st p.1) fun cs => oa 421 (midR cs 0 n) fun bs => wa 422 (allU8 bs) (forceL bs fun bs => forceTr (st.hp.set p.1 none) fun hp => k (.str bs) ⟨hp, st.nn, st.pc⟩)))))⟩
theorem hUStr_ok {P L M N args ats dst ty pos af g} : HXok P L M N ⟨dst, .call ⟨.builtin .unsafeString, args, ats⟩, ty, pos, af, g⟩ (hUStr P ats.toList args.toList) := by
  refine ho_ok fun x hx => ho_ok fun t ht => ho_ok fun e he => hw_ok fun hc => ?_
  have hpt := ptrT?_some he
  have hc := of_nbeq hc
  intro cf _ σ w0 β st w F a k next Q hR hF hs hn
  obtain ⟨i, hi, hs⟩ := oa_sat hs
  obtain ⟨hk, hs⟩ := wa_sat hs
  have hk := kind_idx (of_nbeq hk)
  obtain ⟨n, hnl, hs⟩ := oa_sat hs
  have hnl := isLit_some hnl
  have hats : ats = #[t.1, t.2] := by apply Array.ext'; simpa using two_some ht
  have hargs := eval_two (a := a) (two_some hx)
  have hin := (svInt_o hi (cO_C hF x.2).at0).int_inv
  rw [hk, hnl] at hin
  obtain ⟨hv2, hlt⟩ := hin
  rw [ev_lit] at hv2 hlt
  have hex : ∀ {v : Value} {w' : World}, (Builtin.unsafeString_ #[t.1, t.2] ty #[a.eval x.1, a.eval x.2]).run P w = .ok v w' → (execOp a.eval ⟨dst, .call ⟨.builtin .unsafeString, args, ats⟩, ty, pos, af, g⟩).run P w = .ok (.value v) w' := fun h => by
    simp [execOp, resolve, invoke, builtin, hargs, hats, h]
  cases h0 : Nat.beq n 0
  · rw [h0] at hs
    obtain ⟨p, hp, hs⟩ := oa_sat hs
    obtain ⟨hp2, hs⟩ := wa_sat hs
    have hp2 := of_nbeq hp2
    obtain ⟨r, hr, hs⟩ := oa_sat hs
    obtain ⟨hcc, hs⟩ := wa_sat hs
    obtain ⟨c1, hcc⟩ := bc_tf hcc
    obtain ⟨c2, c3⟩ := bc_tf hcc
    have c1 := of_nbeq c1
    have c2 := of_nble c2
    have c3 := of_nblt c3
    obtain ⟨cs, hcs, hs⟩ := oa_sat hs
    obtain ⟨bs, hbs, hs⟩ := oa_sat hs
    obtain ⟨hu8, hs⟩ := wa_sat hs
    rw [forceL_eq, forceTr_eq] at hs
    have hd := svPtr_o hp (cO_C hF x.1).at0
    generalize hv : a.eval x.1 = vx at hd
    cases hd with
    | ptr hb =>
      rename_i b c
      rw [hp2] at hv
      obtain ⟨ob, hg, m, hsh, hm, _⟩ := rowAtO_C hR hr hb
      obtain ⟨vs, j1, j2, j3⟩ := mid_C hR hcs hbs hb
      obtain ⟨ns, n1, n2⟩ := allU8_ok hu8 (j1 σ (Ag.refl _ _))
      have hlen : ns.length = n := by rw [n2] at j2; simpa using j2
      have hl : (ns.map UInt8.ofNat).length = n := by simpa using hlen
      have hbv : byteVals ⟨(ns.map UInt8.ofNat).toArray⟩ = vs := by
        rw [n2]
        unfold byteVals
        simp only [List.map_map]
        apply List.map_congr_left
        intro y hy
        have := n1 y hy
        simp [Nat.mod_eq_of_lt this]
      have hi63 : (Value.int .i64 (ofB .i64 n)) = .int .i64 (n : Int) := by
        have := ofB_signed (k := .i64) rfl hlt
        rw [this, if_neg (by show ¬ 2 ^ 63 ≤ n; omega)]
      have hcellb : ∀ j y, (ns.map UInt8.ofNat)[j]? = some y → w.cell? ((⟨b, 0, none⟩ : Addr).add j) = some (.int .u8 y.toNat) := fun j y hj => by
        rw [List.getElem?_map] at hj
        cases hnj : ns[j]? with
        | none => rw [hnj] at hj; cases hj
        | some z =>
          rw [hnj] at hj; cases hj
          have hz := n1 z (List.mem_of_getElem? hnj)
          have := j3 j (Value.int .u8 (z : Int)) (by rw [n2, List.getElem?_map, hnj]; rfl)
          rw [this]
          simp [Nat.mod_eq_of_lt hz]
      have hn0 : n ≠ 0 := fun e => by rw [e] at h0; cases h0
      have hrun := Lib.run_unsafeString_row (P := P) w t.1 t.2 ty e hpt hc b m (by rw [hsh, c1]) (ns.map UInt8.ofNat) (fun e0 => by rw [e0] at hl; exact hn0 hl.symm) (by rw [hl]; omega) (by rw [hl]; omega) hcellb
      rw [hl] at hrun
      have hw := hR.touch (w' := w.freeze ⟨b, 0, none⟩ n) hg hb (by unfold World.freeze; rw [if_neg hn0]) (by unfold World.freeze; rw [if_neg hn0]) (by unfold World.freeze; rw [if_neg hn0]) (by unfold World.freeze; rw [if_neg hn0]; simp)
        (fun k hk _ => by
          unfold World.freeze
          rw [if_neg hn0]
          show (w.heap.modify b _)[k]? = _
          rw [Array.getElem?_modify, if_neg (fun e => hk e.symm)])
      unfold Oper.wp
      rw [hex (by rw [hv, hv2, hi63]; exact hrun)]
      exact hn.step (st' := ⟨st.hp.set p.1 none, st.nn, st.pc⟩) rfl (Ext.refl β) hw (fun σ' ha => .str (by rw [hbv]; exact j1 σ' ha)) hs
  · rw [h0] at hs
    obtain ⟨hp, hs2⟩ := wa_sat (show (wa 415 (isPtrS ((cO x.1).g F)) (k (.str []) st)).sat L σ from hs)
    obtain ⟨p, hv⟩ := isPtrS_ok hp (cO_C hF x.1).at0
    have hn0 := of_nbeq h0
    subst hn0
    have hi0 : (Value.int .i64 (ofB .i64 0)) = .int .i64 0 := rfl
    unfold Oper.wp
    rw [hex (by rw [hv, hv2, hi0]; exact Lib.run_unsafeString_none w t.1 t.2 ty p)]
    exact hn.step rfl (Ext.refl β) hR (fun _ _ => .str (by exact .nil)) hs2

noncomputable def hCopy (P : Program) (ats : List TypeId) (args : List Operand) : HX :=
  ho 423 (two args) fun x => ho 424 (two ats) fun t => ho 425 (sliOf P t.1) fun e => ho 426 (szOf P e) fun z =>
    ⟨fun _ F st k => kn ((cO x.2).g F) fun s => oa 427 (svSl ((cO x.1).g F)) fun q => oa 428 (srcS P st t.2 z s) fun r => wa 429 (bc (allOne r.2) (bc (Nat.ble r.1 q.len) (Nat.blt r.1 9223372036854775808) false) false) (forceN r.1 fun n =>
      Option.rec (motive := fun _ => Ans) (k (.int .i64 (.lit n)) st) (fun p => storeCs st p.1 p.2 r.2 fun st' => k (.int .i64 (.lit n)) st') q.at_)⟩
theorem hCopy_ok {P L M N args ats dst ty pos af g} : HXok P L M N ⟨dst, .call ⟨.builtin .copy, args, ats⟩, ty, pos, af, g⟩ (hCopy P ats.toList args.toList) := by
  refine ho_ok fun x hx => ho_ok fun t ht => ho_ok fun e he => ho_ok fun z hz => ?_
  have hu := sliOf_some he
  intro cf _ σ w0 β st w F a k next Q hR hF hs hn
  obtain ⟨hne, hs⟩ := kn_sat hs
  obtain ⟨q, hq, hs⟩ := oa_sat hs
  obtain ⟨r, hr, hs⟩ := oa_sat hs
  obtain ⟨hc, hs⟩ := wa_sat hs
  obtain ⟨c1, hc⟩ := bc_tf hc
  obtain ⟨c2, c3⟩ := bc_tf hc
  have c2 := of_nble c2
  have c3 := of_nblt c3
  rw [forceN_eq] at hs
  obtain ⟨news, hS, hN⟩ := srcS_ok (P := P) hR ((cO_C hF x.2).of hne) hr c1
  have hats : ats = #[t.1, t.2] := by apply Array.ext'; simpa using two_some ht
  have hargs := eval_two (a := a) (two_some hx)
  have hex : ∀ {v : Value} {w' : World}, (Builtin.copy_ #[t.1, t.2] ty #[a.eval x.1, a.eval x.2]).run P w = .ok v w' → (execOp a.eval ⟨dst, .call ⟨.builtin .copy, args, ats⟩, ty, pos, af, g⟩).run P w = .ok (.value v) w' := fun h => by
    simp [execOp, resolve, invoke, builtin, hargs, hats, h]
  have hden := svSl_o hq (cO_C hF x.1).at0
  have hdef : ∀ (b : Option Addr) (n c : Nat), Builtin.copy_ #[t.1, t.2] ty #[.slice b n c, a.eval x.2] = (do
      let .slice elem ← underlying t.1 | stuck "copy: slice type expected"
      let m := Nat.min (← Builtin.lenOf (a.eval x.2)) n
      let cells ← Builtin.firstCells (← sizeOf elem) m (a.eval x.2)
      if let some ad := b then storeCells ad cells.toList
      pure (goInt m)) := fun _ _ _ => rfl
  have hmin : ∀ n, r.1 ≤ n → Nat.min r.1 n = r.1 := fun n h => Nat.min_eq_left h
  rcases svSl_den hq hden with ⟨k1, k2, k3, k4⟩ | ⟨o, off, b, c', cap, k1, k2, k3, k4, k5⟩
  · rw [k1] at hs
    rw [k2] at c2
    have hrun : (Builtin.copy_ #[t.1, t.2] ty #[a.eval x.1, a.eval x.2]).run P w = .ok (goInt r.1) w := by
      rw [k4, hdef]
      simp only [Sem.run_bind, run_underlying' hu, Result.andThen_ok, hS.len, hmin 0 c2, run_sizeOf' hz, hS.cells, Sem.run_pure]
    unfold Oper.wp
    rw [hex hrun]
    exact hn.step rfl (Ext.refl β) hR (fun _ _ => litInt c3) hs
  · rw [k1] at hs
    obtain ⟨st', w', g1, g2, g3, g4, g5⟩ := storeCs_ok (P := P) hR hN hS.one (show (storeCs st o off r.2 fun st' => k (.int .i64 (.lit r.1)) st').sat L σ from hs) k2
    have hrun : (Builtin.copy_ #[t.1, t.2] ty #[a.eval x.1, a.eval x.2]).run P w = .ok (goInt r.1) w' := by
      rw [k3, hdef]
      simp only [Sem.run_bind, run_underlying' hu, Result.andThen_ok, hS.len, hmin q.len c2, run_sizeOf' hz, hS.cells, g1, Sem.run_pure]
    unfold Oper.wp
    rw [hex hrun]
    exact hn.step (by rw [g2]) (Ext.refl β) g4 (fun _ _ => litInt c3) g5

/-! ### Pointers, seen as such -/
noncomputable def isUns (P : Program) (t : TypeId) : Bool := match P.underlying t with | some .unsafePointer => true | _ => false
theorem isUns_ok {P : Program} {t : TypeId} (h : isUns P t = true) : P.underlying t = some .unsafePointer := by
  unfold isUns at h; split at h <;> first | assumption | cases h
noncomputable def hToUns (P : Program) (s d : TypeId) (x : Operand) : HX :=
  ho 430 (ptrT? P s) fun t => ho 431 (P.info? t) fun j => hw 432 (band (isUns P d) (Nat.blt 0 j.size)) ⟨fun _ F st k => oa 433 (svPtr ((cO x).g F)) fun p => oa 434 (rowAtO st p.1) fun r => wa 435 (Nat.blt p.2 r.2.1) (k (.ptr p.1 p.2) st)⟩
theorem hToUns_ok {P L M N s d x dst ty pos af g} : HXok P L M N ⟨dst, .convert s d x, ty, pos, af, g⟩ (hToUns P s d x) := by
  refine ho_ok fun t ht => ho_ok fun j hj => hw_ok fun hc => ?_
  obtain ⟨hc1, hc2⟩ := band_eq hc
  have h1 := ptrT?_some ht
  have h2 := isUns_ok hc1
  have h3 := of_nblt hc2
  intro cf _ σ w0 β st w F a k next Q hR hF hs hn
  obtain ⟨p, hp, hs⟩ := oa_sat hs
  obtain ⟨r, hr, hs⟩ := oa_sat hs
  obtain ⟨hlt, hs⟩ := wa_sat hs
  have hlt := of_nblt hlt
  have hd := svPtr_o hp (cO_C hF x).at0
  generalize hv : a.eval x = vx at hd
  cases hd with
  | ptr hb =>
    rename_i b c
    obtain ⟨ob, hg, m, hsh, hm, _⟩ := rowAtO_C hR hr hb
    have hrun := Lib.run_to_unsafe (P := P) w (src := s) (dst := d) ⟨b, p.2, none⟩ h1 h2 hj (by omega) hsh (by show p.2 < m; omega)
    unfold Oper.wp
    rw [show (execOp a.eval ⟨dst, .convert s d x, ty, pos, af, g⟩).run P w = .ok (.value (.pointer (some ⟨b, p.2, none⟩))) w from by simp [execOp, hv, hrun]]
    exact hn.step rfl (Ext.refl β) hR (fun _ _ => .ptr hb) hs
noncomputable def hFromUns (P : Program) (s d : TypeId) (x : Operand) : HX :=
  ho 436 (ptrT? P d) fun u => ho 437 (P.info? u) fun _ => hw 438 (isUns P s) ⟨fun _ F st k => oa 439 (svPtr ((cO x).g F)) fun p => oa 440 (rowAtO st p.1) fun r => wa 441 (bc r.2.2 (liesAt P P.depth r.1 (r.2.1 / P.cellsOf r.1) p.2 u 1) false) (k (.ptr p.1 p.2) st)⟩
theorem hFromUns_ok {P L M N s d x dst ty pos af g} : HXok P L M N ⟨dst, .convert s d x, ty, pos, af, g⟩ (hFromUns P s d x) := by
  refine ho_ok fun u hu => ho_ok fun j hj => hw_ok fun hc => ?_
  have h1 := ptrT?_some hu
  have h2 := isUns_ok hc
  intro cf _ σ w0 β st w F a k next Q hR hF hs hn
  obtain ⟨p, hp, hs⟩ := oa_sat hs
  obtain ⟨r, hr, hs⟩ := oa_sat hs
  obtain ⟨hl, hs⟩ := wa_sat hs
  obtain ⟨hl1, hl2⟩ := bc_tf hl
  have hd := svPtr_o hp (cO_C hF x).at0
  generalize hv : a.eval x = vx at hd
  cases hd with
  | ptr hb =>
    rename_i b c
    obtain ⟨ob, hg, m, hsh, hm, hm2⟩ := rowAtO_C hR hr hb
    have hm2 := hm2 hl1
    subst hm2
    have hrun := Lib.run_from_unsafe (P := P) w (src := s) (dst := d) ⟨b, p.2, none⟩ h2 h1 hj hsh hl2
    unfold Oper.wp
    rw [show (execOp a.eval ⟨dst, .convert s d x, ty, pos, af, g⟩).run P w = .ok (.value (.pointer (some ⟨b, p.2, none⟩))) w from by simp [execOp, hv, hrun]]
    exact hn.step rfl (Ext.refl β) hR (fun _ _ => .ptr hb) hs
noncomputable def hConv (P : Program) (s d : TypeId) (x : Operand) : Option HX := bc (isUns P d) (some (hToUns P s d x)) (bc (isUns P s) (some (hFromUns P s d x)) none)
theorem hConv_ok {P L M N s d x dst ty pos af g} {h : HX} (he : hConv P s d x = some h) : HXok P L M N ⟨dst, .convert s d x, ty, pos, af, g⟩ h := by
  unfold hConv at he
  cases h1 : isUns P d
  · rw [h1] at he
    cases h2 : isUns P s
    · rw [h2] at he; cases he
    · rw [h2] at he; cases he; exact hFromUns_ok
  · rw [h1] at he; cases he; exact hToUns_ok
/-- The effects of these. -/
noncomputable def effStr (P : Program) (o : Op) : Option HX :=
  match o with
  | .call ⟨.builtin .cap, args, ats⟩ => some (hCap P ats.toList args.toList)
  | .call ⟨.builtin .copy, args, ats⟩ => some (hCopy P ats.toList args.toList)
  | .call ⟨.builtin .unsafeSliceData, args, _⟩ => some (hSlData args.toList)
  | .call ⟨.builtin .unsafeString, args, ats⟩ => some (hUStr P ats.toList args.toList)
  | .convert s d x => hConv P s d x
  | _ => none
theorem effStr_ok {P : Program} {L M N} {o : Oper} {h : HX} (he : effStr P o.op = some h) : HXok P L M N o h := by
  obtain ⟨dst, op, ty, pos, af, g⟩ := o
  unfold effStr at he
  split at he <;> rename_i hop <;> (try change op = _ at hop) <;> (try subst hop)
  · cases he; exact hCap_ok
  · cases he; exact hCopy_ok
  · cases he; exact hSlData_ok
  · cases he; exact hUStr_ok
  · exact hConv_ok he
  · cases he


/-! ### Functions without a body -/
/-- A call of a function without a body: what it hands back, and what becomes of the world. -/
def NatOk (P : Program) (f : Nat) (run : St → List SV → (SV → St → Ans) → Ans) : Prop :=
  ∀ {L : (Nat → Nat) → SV → Prop} {M : Md} {σ w0 β} {st : St} {w : World} {xs : List SV} {vs : List Value} {k : SV → St → Ans}, RepC M σ w0 β st w → DenLC st.pc.nv σ β xs vs → (run st xs k).sat L σ →
    ∃ v w' β' st' r, (callFunc f vs.toArray).run P w = .ok (.value v) w' ∧ Ext β β' ∧ st'.pc = st.pc ∧ RepC M σ w0 β' st' w' ∧ DenC st.pc.nv σ β' r v ∧ (k r st').sat L σ
structure NatRow where
  name : String
  code : Nat
noncomputable def natName (n : String) : Nat := if n == "internal/abi.NoEscape" then 1 else if n == "internal/bytealg.CountString" then 2 else if n == "internal/bytealg.IndexByteString" then 3 else if n == "internal/bytealg.MakeNoZero" then 4 else 0
noncomputable def natOf (P : Program) (f : Nat) : Nat :=
  match P.funcs[f]? with
  | some fn => if fn.body.isNone && fn.origin == "" then natName fn.name else 0
  | none => 0
theorem natOf_some {P : Program} {f e : Nat} (h : natOf P f = e) (h0 : e ≠ 0) : ∃ fn, P.funcs[f]? = some fn ∧ fn.body.isNone = true ∧ fn.origin = "" ∧ natName fn.name = e := by
  unfold natOf at h
  split at h
  · rename_i fn hfn
    split at h
    · rename_i hc
      obtain ⟨h1, h2⟩ := Bool.and_eq_true_iff.1 hc
      exact ⟨fn, hfn, h1, eq_of_beq h2, h⟩
    · exact absurd h.symm h0
  · exact absurd h.symm h0
theorem run_nat {P : Program} {f : Nat} {fn : Func} {n : String} {e : Array Value → Sem Value} (hf : P.funcs[f]? = some fn) (hb : fn.body.isNone = true) (ho : fn.origin = "") (hn : fn.name = n)
    (h1 : (n == "runtime.NumGoroutine") = false) (h2 : Extern.allNextRows.lookup n = none) (h3 : Extern.find fn = some e) (args : Array Value) {w w' : World} {v : Value} (hr : (e args).run P w = .ok v w') : (callFunc f args).run P w = .ok (.value v) w' := by
  rw [run_callFunc_extern hf (by rw [hn]; exact h1) hb (noNext hn ho h2) h3 args w, hr]
  rfl
theorem find_plain {fn : Func} {n : String} {e : Array Value → Sem Value} (hn : fn.name = n) (h1 : Extern.allGenericRows.lookup n = none) (h2 : Extern.allTypedRows.lookup n = none) (h3 : Extern.allRows.lookup n = some e) : Extern.find fn = some e := by
  unfold Extern.find
  simp [hn, h1, h2, h3]

noncomputable def natSame (st : St) (xs : List SV) (k : SV → St → Ans) : Ans := oneOf1 xs fun s => k s st
theorem bc_none' {α : Type} {c : Bool} {x : Option α} {y : α} (h : bc c x none = some y) : c = true ∧ x = some y := by
  cases c
  · cases h
  · exact ⟨rfl, h⟩
/-- Bytes that are numbers. -/
noncomputable def litBs (l : List SV) : Option (List Nat) := List.rec (some []) (fun s _ ih => ob (svInt s) fun i => ob (isLit i.2) fun n => bc (band (Nat.beq i.1.ctorIdx IntKind.u8.ctorIdx) (Nat.blt n 256)) (ob ih fun r => some (n :: r)) none) l
theorem litBs_ok {σ β} : ∀ {l : List SV} {ns : List Nat} {bs : List UInt8}, litBs l = some ns → DenL σ β l (bs.map fun b => Value.int .u8 b.toNat) → bs = ns.map UInt8.ofNat ∧ ∀ n ∈ ns, n < 256
  | [], ns, bs, h, hd => by
    cases h
    cases bs with
    | nil => exact ⟨rfl, fun _ h => by cases h⟩
    | cons _ _ => cases hd
  | s :: l, ns, bs, h, hd => by
    obtain ⟨i, hi, h⟩ := ob_some h
    obtain ⟨n, hn, h⟩ := ob_some h
    obtain ⟨hc, h⟩ := bc_none' h
    obtain ⟨c1, c2⟩ := band_eq hc
    obtain ⟨r, hr, h⟩ := ob_some h
    cases h
    cases bs with
    | nil => cases hd
    | cons b bs =>
      cases hd with
      | cons h1 h2 =>
        obtain ⟨e1, e2⟩ := litBs_ok hr h2
        have hk := kind_idx (of_nbeq c1)
        have hl := isLit_some hn
        have c2 := of_nblt c2
        obtain ⟨hv, _⟩ := (svInt_some hi h1).int_inv
        rw [hk, hl, ev_lit, ofB_unsigned rfl (by exact c2)] at hv
        injection hv with _ hv
        have hb : b.toNat = n := by exact_mod_cast hv
        refine ⟨?_, fun m hm => ?_⟩
        · rw [List.map_cons, e1]
          congr 1
          rw [← hb]; simp
        · rcases List.mem_cons.1 hm with rfl | hm
          · exact c2
          · exact e2 m hm
noncomputable def cntN (c : Nat) (l : List Nat) : Nat := List.rec 0 (fun x _ ih => bc (Nat.beq x c) (Nat.succ ih) ih) l
theorem ofNat_inj {a b : Nat} (ha : a < 256) (hb : b < 256) : UInt8.ofNat a = UInt8.ofNat b ↔ a = b := by
  constructor
  · intro h
    have := congrArg UInt8.toNat h
    simpa [Nat.mod_eq_of_lt ha, Nat.mod_eq_of_lt hb] using this
  · rintro rfl; rfl
theorem cntN_ok {c : Nat} (hc : c < 256) : ∀ {l : List Nat}, (∀ n ∈ l, n < 256) → Lib.countByte (l.map UInt8.ofNat) (UInt8.ofNat c) = cntN c l
  | [], _ => rfl
  | x :: l, h => by
    have hx := h x List.mem_cons_self
    have ih := cntN_ok hc (l := l) fun n hn => h n (List.mem_cons_of_mem _ hn)
    unfold Lib.countByte at ih ⊢
    rw [List.map_cons, List.count_cons, ih]
    show _ = bc (Nat.beq x c) (Nat.succ (cntN c l)) (cntN c l)
    by_cases e : x = c
    · subst e; simp
    · rw [nbeq_f e]
      have : ¬ UInt8.ofNat x = UInt8.ofNat c := fun h => e ((ofNat_inj hx hc).1 h)
      simp [this]
/-- The place of a byte, or how many there are. -/
noncomputable def idxN (c : Nat) (l : List Nat) : Option Nat := List.rec none (fun x _ ih => bc (Nat.beq x c) (some 0) (Option.rec none (fun i => some (Nat.succ i)) ih)) l
theorem idxN_ok {c : Nat} (hc : c < 256) : ∀ {l : List Nat}, (∀ n ∈ l, n < 256) → Lib.indexByte (l.map UInt8.ofNat) (UInt8.ofNat c) = match idxN c l with | some i => (i : Int) | none => -1
  | [], _ => rfl
  | x :: l, h => by
    have hx := h x List.mem_cons_self
    have ih := idxN_ok hc (l := l) fun n hn => h n (List.mem_cons_of_mem _ hn)
    rw [List.map_cons, Lib.indexByte]
    show _ = match (bc (Nat.beq x c) (some 0) (Option.rec none (fun i => some (Nat.succ i)) (idxN c l)) : Option Nat) with | some i => (i : Int) | none => -1
    by_cases e : x = c
    · subst e; simp
    · rw [nbeq_f e]
      have : ¬ UInt8.ofNat x = UInt8.ofNat c := fun h => e ((ofNat_inj hx hc).1 h)
      rw [ih]
      cases idxN c l with
      | none => simp [this]
      | some i =>
        have hne : ((i : Int) == -1) = false := by rw [beq_eq_false_iff_ne]; omega
        simp [this, hne]
noncomputable def minus1 : SV := .int .i64 (.lit 18446744073709551615)
theorem minus1_den {σ β} : Den σ β minus1 (.int .i64 (-1)) := by
  have := Den.int (σ := σ) (β := β) (k := .i64) (a := 0) (b := 0) (t := .lit 18446744073709551615) (u := .lit 0) (c := .lit 0) (l := []) (by rw [ev_lit]; decide)
  rw [ev_lit] at this
  have e : ofB .i64 18446744073709551615 = -1 := by decide
  rw [e] at this; exact this
noncomputable def strByte (xs : List SV) (k : List Nat → Nat → Ans) : Ans := oa 450 (two xs) fun x => oa 451 (svStr x.1) fun b => oa 452 (litBs b) fun ns => oa 453 (svInt x.2) fun i => wa 454 (Nat.beq i.1.ctorIdx IntKind.u8.ctorIdx) (oa 455 (isLit i.2) fun c => wa 456 (band (Nat.blt c 256) (Nat.blt (lenR ns) 9223372036854775808)) (k ns c))
theorem strByte_sat {L σ nv β} {xs : List SV} {vs : List Value} {k : List Nat → Nat → Ans} (hd : DenLC nv σ β xs vs) (h : (strByte xs k).sat L σ) : ∃ (s : ByteArray) (ns : List Nat) (c : Nat), vs = [.string s, .int .u8 (c : Int)] ∧ s.data.toList = ns.map UInt8.ofNat ∧ (∀ n ∈ ns, n < 256) ∧ c < 256 ∧ ns.length < 9223372036854775808 ∧ (k ns c).sat L σ := by
  obtain ⟨x, hx, h⟩ := oa_sat h
  obtain ⟨b, hb, h⟩ := oa_sat h
  obtain ⟨ns, hns, h⟩ := oa_sat h
  obtain ⟨i, hi, h⟩ := oa_sat h
  obtain ⟨hk, h⟩ := wa_sat h
  obtain ⟨c, hc, h⟩ := oa_sat h
  obtain ⟨hc2, hfin⟩ := wa_sat h
  obtain ⟨hc2, hc3⟩ := band_eq hc2
  have hx := two_some hx
  subst hx
  have hd0 := hd σ (Ag.refl _ _)
  match vs, hd0 with
  | [v1, v2], .cons h1 (.cons h2 .nil) =>
    have hs := svStr_some hb h1
    generalize hv1 : v1 = vv at hs
    cases hs with
    | str hl =>
      rename_i bs
      obtain ⟨e1, e2⟩ := litBs_ok (bs := bs.data.toList) hns hl
      have hk := kind_idx (of_nbeq hk)
      have hcl := isLit_some hc
      have hc2 := of_nblt hc2
      have hc3 := of_nblt hc3
      rw [lenR_eq] at hc3
      obtain ⟨hv, _⟩ := (svInt_some hi h2).int_inv
      rw [hk, hcl, ev_lit, ofB_unsigned rfl (by exact hc2)] at hv
      exact ⟨bs, ns, c, by rw [hv], e1, e2, hc2, hc3, hfin⟩
noncomputable def natCount (st : St) (xs : List SV) (k : SV → St → Ans) : Ans := strByte xs fun ns c => forceN (cntN c ns) fun n => wa 457 (Nat.blt n 9223372036854775808) (k (.int .i64 (.lit n)) st)
noncomputable def natIndex (st : St) (xs : List SV) (k : SV → St → Ans) : Ans := strByte xs fun ns c => Option.rec (motive := fun _ => Ans) (k minus1 st) (fun i => forceN i fun n => wa 457 (Nat.blt n 9223372036854775808) (k (.int .i64 (.lit n)) st)) (idxN c ns)
noncomputable def natMake (P : Program) (f : Nat) (st : St) (xs : List SV) (k : SV → St → Ans) : Ans :=
  match P.funcs[f]? with
  | some fn => oa 464 (one? fn.resultTypes.toList) fun t => oa 458 (sliOf P t) fun e => oa 459 (one? xs) fun s => oa 460 (svInt s) fun i => wa 461 (Nat.beq i.1.ctorIdx IntKind.i64.ctorIdx) (oa 462 (isLit i.2) fun n => wa 463 (Nat.ble n 4294967296) (forceN st.nn fun o => stNew st (.grown [] e 1) fun st' => k (.sliceU o n) st'))
  | none => .bad 464
noncomputable def natRun (P : Program) (f : Nat) (e : Nat) (st : St) (xs : List SV) (k : SV → St → Ans) : Ans :=
  bc (Nat.beq e 1) (natSame st xs k) (bc (Nat.beq e 2) (natCount st xs k) (bc (Nat.beq e 3) (natIndex st xs k) (bc (Nat.beq e 4) (natMake P f st xs k) (.bad 465))))
theorem toInt_lit {n : Nat} : goInt n = .int .i64 (n : Int) := rfl
theorem natRun_ok {P : Program} {f e : Nat} (he : natOf P f = e) (h0 : e ≠ 0) : NatOk P f (natRun P f e) := by
  intro L M σ w0 β st w xs vs k hR hv hs
  obtain ⟨fn, hf, hb, ho, hnm⟩ := natOf_some he h0
  unfold natName at hnm
  unfold natRun at hs
  split at hnm
  · rename_i hn
    have hn := eq_of_beq hn
    subst hnm
    obtain ⟨s, rfl, hs⟩ := oneOf1_sat (show (natSame st xs k).sat L σ from hs)
    have hd0 := hv σ (Ag.refl _ _)
    match vs, hd0 with
    | [v], _ =>
      refine ⟨v, w, β, st, s, run_nat (e := Extern.AbiNoEscape.same) hf hb ho hn (by kernel_rfl) (by kernel_rfl) (find_plain hn (by kernel_rfl) (by kernel_rfl) (by kernel_rfl)) _ (Lib.run_noEscape w v), Ext.refl β, rfl, hR, fun σ' ha => ?_, hs⟩
      cases hv σ' ha with
      | cons h _ => exact h
  · split at hnm
    · rename_i hn
      have hn := eq_of_beq hn
      subst hnm
      obtain ⟨s, ns, c, rfl, g1, g2, g3, g4, hs⟩ := strByte_sat hv (show (natCount st xs k).sat L σ from hs)
      rw [forceN_eq] at hs
      obtain ⟨hlt, hs⟩ := wa_sat hs
      have hrun := Lib.run_countString (P := P) s (c : Int) w
      rw [g1, show ((c : Int).toNat.toUInt8) = UInt8.ofNat c from rfl, cntN_ok g3 g2] at hrun
      exact ⟨_, w, β, st, _, run_nat (e := Extern.BytealgCount.count) hf hb ho hn (by kernel_rfl) (by kernel_rfl) (find_plain hn (by kernel_rfl) (by kernel_rfl) (by kernel_rfl)) _ hrun, Ext.refl β, rfl, hR, fun _ _ => litInt (of_nblt hlt), hs⟩
    · split at hnm
      · rename_i hn
        have hn := eq_of_beq hn
        subst hnm
        obtain ⟨s, ns, c, rfl, g1, g2, g3, g4, hs⟩ := strByte_sat hv (show (natIndex st xs k).sat L σ from hs)
        have hrun := Lib.run_indexByteString (P := P) s (c : Int) w
        rw [g1, show ((c : Int).toNat.toUInt8) = UInt8.ofNat c from rfl, idxN_ok g3 g2] at hrun
        have hcall : ∀ {v w'}, (Extern.BytealgIndexByte.indexByte #[.string s, .int .u8 (c : Int)]).run P w = .ok v w' → (callFunc f [Value.string s, Value.int .u8 (c : Int)].toArray).run P w = .ok (.value v) w' := fun h =>
          run_nat (e := Extern.BytealgIndexByte.indexByte) hf hb ho hn (by kernel_rfl) (by kernel_rfl) (find_plain hn (by kernel_rfl) (by kernel_rfl) (by kernel_rfl)) _ h
        cases hi : idxN c ns with
        | none =>
          rw [hi] at hs hrun
          exact ⟨_, w, β, st, minus1, hcall hrun, Ext.refl β, rfl, hR, fun _ _ => minus1_den, hs⟩
        | some i =>
          rw [hi] at hs hrun
          have hs : (forceN i fun n => wa 457 (Nat.blt n 9223372036854775808) (k (.int .i64 (.lit n)) st)).sat L σ := hs
          rw [forceN_eq] at hs
          obtain ⟨hlt, hs⟩ := wa_sat hs
          exact ⟨_, w, β, st, _, hcall hrun, Ext.refl β, rfl, hR, fun _ _ => litInt (of_nblt hlt), hs⟩
      · split at hnm
        · rename_i hn
          have hn := eq_of_beq hn
          subst hnm
          have hs : (natMake P f st xs k).sat L σ := hs
          unfold natMake at hs
          rw [hf] at hs
          dsimp only at hs
          obtain ⟨t, hrt0, hs⟩ := oa_sat hs
          have hrt : fn.resultTypes = #[t] := by apply Array.ext'; simpa using one?_some hrt0
          obtain ⟨el, hel, hs⟩ := oa_sat hs
          obtain ⟨s, hs1, hs⟩ := oa_sat hs
          obtain ⟨i, hi, hs⟩ := oa_sat hs
          obtain ⟨hk, hs⟩ := wa_sat hs
          obtain ⟨n, hnl, hs⟩ := oa_sat hs
          obtain ⟨hle, hfin⟩ := wa_sat hs
          rw [forceN_eq, stNew_eq] at hfin
          have hs1 := one?_some hs1
          subst hs1
          have hle := of_nble hle
          have hd0 := hv σ (Ag.refl _ _)
          match vs, hd0 with
          | [v], .cons h1 .nil =>
            have hk := kind_idx (of_nbeq hk)
            obtain ⟨hvv, hlt⟩ := (svInt_some hi h1).int_inv
            rw [hk, isLit_some hnl, ev_lit] at hvv hlt
            have e1 : ofB .i64 n = (n : Int) := by
              rw [ofB_signed rfl hlt, if_neg (by show ¬ 2 ^ 63 ≤ n; omega)]
            rw [e1] at hvv
            subst hvv
            obtain ⟨cs, r1, r2, _⟩ := Lib.run_makeNoZero (P := P) w fn.params t el (sliOf_some hel) n (by omega)
            have hfind : Extern.find fn = some (Extern.BytealgMakeNoZero.makeNoZero fn.params fn.resultTypes) := by
              have a1 : Extern.allGenericRows.lookup "internal/bytealg.MakeNoZero" = none := by kernel_rfl
              have a2 : Extern.allTypedRows.lookup "internal/bytealg.MakeNoZero" = some Extern.BytealgMakeNoZero.makeNoZero := by kernel_rfl
              unfold Extern.find
              simp [hn, a1, a2]
            rw [hrt] at hfind
            obtain ⟨j1, j2, j3⟩ := (hR.drew.drew).new (c := cs.size) (ob := .grown [] el 1) (x := .cells cs el (0, 0)) (fun σ' ha => by
              have := ObjDen.grown (σ := σ') (β := β) (c := cs.size) (cs := []) (vs := []) (rest := cs.toList) (e := el) (z := 1) .nil (by simp)
              simpa using this)
            exact ⟨_, _, _, st.new (.grown [] el 1), .sliceU st.nn n, run_nat hf hb ho hn (by kernel_rfl) (by kernel_rfl) hfind _ r1, j1, rfl, j3, fun _ _ => .sliceU j2 r2 (fun _ => rfl), hfin⟩
        · exact absurd hnm.symm h0
/-- Calls, of these too. -/
noncomputable def hCallY (P : Program) (x : Operand) (args : List Operand) : HX :=
  ⟨fun cf F st k => oa 156 (svFunc ((cO x).g F)) fun f => forceN (natOf P f.1) fun e => bc (Nat.beq e 0) ((hCallX P x args).run cf F st k) (knL (cOs args) F fun xs => natRun P f.1 e st (appR xs f.2) k)⟩
theorem hCallY_ok {P L M N x args ats dst ty pos af g} : HXok P L M N ⟨dst, .call ⟨.value x, args, ats⟩, ty, pos, af, g⟩ (hCallY P x args.toList) := by
  intro cf hcf σ w0 β st w F a k next Q hR hF hs hn
  obtain ⟨f, hf, hs⟩ := oa_sat hs
  rw [forceN_eq] at hs
  cases h0 : Nat.beq (natOf P f.1) 0
  · rw [h0] at hs
    obtain ⟨hkn, hs⟩ := knL_sat (show (knL (cOs args.toList) F fun xs => natRun P f.1 (natOf P f.1) st (appR xs f.2) k).sat L σ from hs)
    rw [cOs_eq] at hkn hs
    rw [appR_eq] at hs
    have hl := cOs_C hF args.toList hkn
    have hd : ∀ σ', Ag st.pc.nv σ σ' → Den σ' β (.func f.1 f.2) (a.eval x) := fun σ' ha => svFunc_o hf (cO_C hF x σ' ha)
    have hd0 := hd σ (Ag.refl _ _)
    generalize hv : a.eval x = v at hd hd0
    cases hd0 with
    | func hcap0 =>
      rename_i cvs
      have hcap : DenLC st.pc.nv σ β f.2 cvs := fun σ' ha => by
        have := hd σ' ha
        generalize hvv : Value.func (.func f.1) #[] cvs.toArray = vv at this
        cases this with
        | func h' => injection hvv with _ _ h3; have := congrArg Array.toList h3; simp at this; rw [this]; exact h'
      have hall := hl.append hcap
      obtain ⟨r, w', β', st', s, g1, g2, g3, g4, g5, g6⟩ := natRun_ok rfl (fun e => by rw [e] at h0; cases h0) hR hall hs
      have hrun : (execOp a.eval ⟨dst, .call ⟨.value x, args, ats⟩, ty, pos, af, g⟩).run P w = .ok (.value r) w' := by
        simp only [execOp, resolve, hv, Deferred.ofValue, Sem.run_bind, Sem.run_pure, Result.andThen_ok, invoke]
        rw [show (#[] ++ Array.map a.eval args ++ cvs.toArray) = (List.map a.eval args.toList ++ cvs).toArray from by apply Array.ext'; simp]
        exact g1
      unfold Oper.wp
      rw [hrun]
      exact hn.step (by rw [g3]) g2 g4 g5 g6
  · rw [h0] at hs
    exact hCallX_ok cf hcf σ w0 β st w F a k next Q hR hF hs hn
noncomputable def effCall2 (P : Program) (o : Op) : Option HX :=
  match o with
  | .call ⟨.value x, args, _⟩ => some (hCallY P x args.toList)
  | _ => none
theorem effCall2_ok {P : Program} {L M N} {o : Oper} {h : HX} (he : effCall2 P o.op = some h) : HXok P L M N o h := by
  obtain ⟨dst, op, ty, pos, af, g⟩ := o
  unfold effCall2 at he
  split at he
  · rename_i hop
    change op = _ at hop
    subst hop
    cases he
    exact hCallY_ok
  · cases he

end Go.Sy
end

section
/- Calls of functions without a body: what else sync/atomic does, and marks. -/
namespace Go.Sy
open Go.RowKit

/-- 1 a load, 2 a store, 3 compare and swap, 4 add, 5 a mark, 6 a mark at an address. -/
noncomputable def atoName (n : String) : Nat × IntKind :=
  if n == "sync/atomic.LoadUint32" then (1, .u32) else if n == "sync/atomic.LoadInt32" then (1, .i32) else
  if n == "sync/atomic.StoreUint32" then (2, .u32) else if n == "sync/atomic.StoreInt32" then (2, .i32) else
  if n == "sync/atomic.CompareAndSwapInt32" then (3, .i32) else if n == "sync/atomic.CompareAndSwapUint32" then (3, .u32) else
  if n == "sync/atomic.AddInt32" then (4, .i32) else
  if n == "internal/race.Disable" then (5, .u8) else if n == "internal/race.Enable" then (5, .u8) else
  if n == "internal/race.Acquire" then (6, .u8) else if n == "internal/race.Release" then (6, .u8) else if n == "internal/race.ReleaseMerge" then (6, .u8) else (0, .u8)
/-- What is found for it. -/
def AtoIs (n : String) (c : Nat) (k : IntKind) : Prop :=
  (n == "runtime.NumGoroutine") = false ∧ Extern.allNextRows.lookup n = none ∧ ∀ fn : Func, fn.name = n →
    (c = 1 ∧ Extern.find fn = some (Extern.Atomic.loadT (.int k))) ∨ (c = 2 ∧ Extern.find fn = some Extern.Atomic.storeT) ∨ (c = 3 ∧ Extern.find fn = some (Extern.Atomic.casT (.int k))) ∨
    (c = 4 ∧ k = .i32 ∧ Extern.find fn = some (Extern.Atomic.update (Op.intArith .add) k true)) ∨ (c = 5 ∧ ∃ m, Extern.find fn = some (fun _ => do mark m; pure Extern.Race.none_)) ∨ (c = 6 ∧ ∃ m, Extern.find fn = some (Extern.Race.marked m))
theorem ato0 : AtoIs "sync/atomic.LoadUint32" 1 .u32 := ⟨by kernel_rfl, by kernel_rfl, fun fn hf => .inl ⟨rfl, find_plain hf (by kernel_rfl) (by kernel_rfl) (by kernel_rfl)⟩⟩
theorem ato1 : AtoIs "sync/atomic.LoadInt32" 1 .i32 := ⟨by kernel_rfl, by kernel_rfl, fun fn hf => .inl ⟨rfl, find_plain hf (by kernel_rfl) (by kernel_rfl) (by kernel_rfl)⟩⟩
theorem ato2 : AtoIs "sync/atomic.StoreUint32" 2 .u32 := ⟨by kernel_rfl, by kernel_rfl, fun fn hf => .inr (.inl ⟨rfl, find_plain hf (by kernel_rfl) (by kernel_rfl) (by kernel_rfl)⟩)⟩
theorem ato3 : AtoIs "sync/atomic.StoreInt32" 2 .i32 := ⟨by kernel_rfl, by kernel_rfl, fun fn hf => .inr (.inl ⟨rfl, find_plain hf (by kernel_rfl) (by kernel_rfl) (by kernel_rfl)⟩)⟩
theorem ato4 : AtoIs "sync/atomic.CompareAndSwapInt32" 3 .i32 := ⟨by kernel_rfl, by kernel_rfl, fun fn hf => .inr (.inr (.inl ⟨rfl, find_plain hf (by kernel_rfl) (by kernel_rfl) (by kernel_rfl)⟩))⟩
theorem ato5 : AtoIs "sync/atomic.CompareAndSwapUint32" 3 .u32 := ⟨by kernel_rfl, by kernel_rfl, fun fn hf => .inr (.inr (.inl ⟨rfl, find_plain hf (by kernel_rfl) (by kernel_rfl) (by kernel_rfl)⟩))⟩
theorem ato6 : AtoIs "sync/atomic.AddInt32" 4 .i32 := ⟨by kernel_rfl, by kernel_rfl, fun fn hf => .inr (.inr (.inr (.inl ⟨rfl, rfl, find_plain hf (by kernel_rfl) (by kernel_rfl) (by kernel_rfl)⟩)))⟩
theorem ato7 : AtoIs "internal/race.Disable" 5 .u8 := ⟨by kernel_rfl, by kernel_rfl, fun fn hf => .inr (.inr (.inr (.inr (.inl ⟨rfl, .disable, find_plain hf (by kernel_rfl) (by kernel_rfl) (by kernel_rfl)⟩))))⟩
theorem ato8 : AtoIs "internal/race.Enable" 5 .u8 := ⟨by kernel_rfl, by kernel_rfl, fun fn hf => .inr (.inr (.inr (.inr (.inl ⟨rfl, .enable, find_plain hf (by kernel_rfl) (by kernel_rfl) (by kernel_rfl)⟩))))⟩
theorem ato9 : AtoIs "internal/race.Acquire" 6 .u8 := ⟨by kernel_rfl, by kernel_rfl, fun fn hf => .inr (.inr (.inr (.inr (.inr ⟨rfl, .acquire, find_plain hf (by kernel_rfl) (by kernel_rfl) (by kernel_rfl)⟩))))⟩
theorem ato10 : AtoIs "internal/race.Release" 6 .u8 := ⟨by kernel_rfl, by kernel_rfl, fun fn hf => .inr (.inr (.inr (.inr (.inr ⟨rfl, .release, find_plain hf (by kernel_rfl) (by kernel_rfl) (by kernel_rfl)⟩))))⟩
theorem ato11 : AtoIs "internal/race.ReleaseMerge" 6 .u8 := ⟨by kernel_rfl, by kernel_rfl, fun fn hf => .inr (.inr (.inr (.inr (.inr ⟨rfl, .releaseMerge, find_plain hf (by kernel_rfl) (by kernel_rfl) (by kernel_rfl)⟩))))⟩
theorem pair_inj {c c2 : Nat} {k k2 : IntKind} (h : (c, k) = (c2, k2)) : c = c2 ∧ k = k2 := by cases h; exact ⟨rfl, rfl⟩
theorem ite_step {n s : String} {a b c : Nat × IntKind} (h : (if n == s then a else b) = c) : (n = s ∧ a = c) ∨ b = c := by
  by_cases e : n = s
  · rw [if_pos (by simpa using e)] at h; exact .inl ⟨e, h⟩
  · rw [if_neg (by simpa using e)] at h; exact .inr h
theorem ato_is {n : String} {c : Nat} {k : IntKind} (h : atoName n = (c, k)) (h0 : c ≠ 0) : AtoIs n c k := by
  unfold atoName at h
  rcases ite_step h with ⟨hn, e⟩ | h
  · rw [hn]; obtain ⟨e1, e2⟩ := pair_inj e; rw [← e1, ← e2]; exact ato0
  rcases ite_step h with ⟨hn, e⟩ | h
  · rw [hn]; obtain ⟨e1, e2⟩ := pair_inj e; rw [← e1, ← e2]; exact ato1
  rcases ite_step h with ⟨hn, e⟩ | h
  · rw [hn]; obtain ⟨e1, e2⟩ := pair_inj e; rw [← e1, ← e2]; exact ato2
  rcases ite_step h with ⟨hn, e⟩ | h
  · rw [hn]; obtain ⟨e1, e2⟩ := pair_inj e; rw [← e1, ← e2]; exact ato3
  rcases ite_step h with ⟨hn, e⟩ | h
  · rw [hn]; obtain ⟨e1, e2⟩ := pair_inj e; rw [← e1, ← e2]; exact ato4
  rcases ite_step h with ⟨hn, e⟩ | h
  · rw [hn]; obtain ⟨e1, e2⟩ := pair_inj e; rw [← e1, ← e2]; exact ato5
  rcases ite_step h with ⟨hn, e⟩ | h
  · rw [hn]; obtain ⟨e1, e2⟩ := pair_inj e; rw [← e1, ← e2]; exact ato6
  rcases ite_step h with ⟨hn, e⟩ | h
  · rw [hn]; obtain ⟨e1, e2⟩ := pair_inj e; rw [← e1, ← e2]; exact ato7
  rcases ite_step h with ⟨hn, e⟩ | h
  · rw [hn]; obtain ⟨e1, e2⟩ := pair_inj e; rw [← e1, ← e2]; exact ato8
  rcases ite_step h with ⟨hn, e⟩ | h
  · rw [hn]; obtain ⟨e1, e2⟩ := pair_inj e; rw [← e1, ← e2]; exact ato9
  rcases ite_step h with ⟨hn, e⟩ | h
  · rw [hn]; obtain ⟨e1, e2⟩ := pair_inj e; rw [← e1, ← e2]; exact ato10
  rcases ite_step h with ⟨hn, e⟩ | h
  · rw [hn]; obtain ⟨e1, e2⟩ := pair_inj e; rw [← e1, ← e2]; exact ato11
  obtain ⟨e1, e2⟩ := pair_inj h; exact absurd e1.symm h0
noncomputable def atoOf (P : Program) (f : Nat) : Nat × IntKind :=
  match P.funcs[f]? with
  | some fn => if fn.body.isNone && fn.origin == "" then atoName fn.name else (0, .u8)
  | none => (0, .u8)
theorem atoOf_some {P : Program} {f c : Nat} {k : IntKind} (h : atoOf P f = (c, k)) (h0 : c ≠ 0) : ∃ fn, P.funcs[f]? = some fn ∧ fn.body.isNone = true ∧ fn.origin = "" ∧ AtoIs fn.name c k := by
  unfold atoOf at h
  split at h
  · rename_i fn hfn
    split at h
    · rename_i hc
      obtain ⟨h1, h2⟩ := Bool.and_eq_true_iff.1 hc
      exact ⟨fn, hfn, h1, eq_of_beq h2, ato_is h h0⟩
    · obtain ⟨e1, e2⟩ := pair_inj h; exact absurd e1.symm h0
  · obtain ⟨e1, e2⟩ := pair_inj h; exact absurd e1.symm h0

/-- What stands at an address. -/
noncomputable def atCell (st : St) (s : SV) (k : Nat × Nat → SV → Ans) : Ans := oa 301 (svPtr s) fun p => oa 302 (cellsOb st p.1) fun cs => oa 303 (midR cs p.2 1) fun m => oneOf1 m fun x => k p x
theorem atCell_sat {L M σ w0 β} {st : St} {w : World} (hR : RepC M σ w0 β st w) {s : SV} {v : Value} (hd : DenC st.pc.nv σ β s v) {k : Nat × Nat → SV → Ans} (h : (atCell st s k).sat L σ) :
    ∃ p x b c u, v = .pointer (some ⟨b, p.2, none⟩) ∧ β p.1 = some (b, c) ∧ DenC st.pc.nv σ β x u ∧ w.cell? ⟨b, p.2, none⟩ = some u ∧ (k p x).sat L σ := by
  obtain ⟨p, hp, hs⟩ := oa_sat h
  obtain ⟨cs, hcs, hs⟩ := oa_sat hs
  obtain ⟨m, hm, hs⟩ := oa_sat hs
  obtain ⟨x, rfl, hs⟩ := oneOf1_sat hs
  have hp0 := svPtr_o hp (.inr (hd σ (Ag.refl _ _)))
  cases hp0 with
  | ptr hb =>
    rename_i b c
    obtain ⟨us, j1, j2, j3⟩ := mid_C hR hcs hm hb
    match us, j2 with
    | [u], _ =>
      have hc := j3 0 u rfl
      refine ⟨p, x, b, c, u, rfl, hb, fun σ' ha => ?_, by simpa [Addr.add] using hc, hs⟩
      cases j1 σ' ha with | cons h _ => exact h
/-- A cell is laid. -/
theorem atStore_sat {P : Program} {L M σ w0 β} {st : St} {w : World} (hR : RepC M σ w0 β st w) {o off b c : Nat} (hb : β o = some (b, c)) {u : Value} (hc : w.cell? ⟨b, off, none⟩ = some u) {y : SV} {v1 : Value} (hy : DenC st.pc.nv σ β y v1) (hone : v1.oneCell' = true)
    {k : St → Ans} (hs : (storeCs st o off [y] k).sat L σ) : ∃ st', w.frozen? ⟨b, off, none⟩ = false ∧ st'.pc = st.pc ∧ RepC M σ w0 β st' (w.setCell ⟨b, off, none⟩ v1) ∧ (k st').sat L σ := by
  have hyC : DenLC st.pc.nv σ β [y] [v1] := fun σ' ha => .cons (hy σ' ha) .nil
  obtain ⟨st', w', g1, g2, g3, g4, g5⟩ := storeCs_ok (P := P) hR hyC (fun v hv => by rw [List.mem_singleton.1 hv]; exact hone) hs hb
  have hst := run_store P w ⟨b, off, none⟩ v1 .plain hone
  rw [hc] at hst
  have hfz : w.frozen? ⟨b, off, none⟩ = false ∧ w' = w.setCell ⟨b, off, none⟩ v1 := by
    have ha0 : (⟨b, off, none⟩ : Addr).add 0 = ⟨b, off, none⟩ := rfl
    simp only [storeCells, ha0, Sem.run_bind] at g1
    cases hz : w.frozen? ⟨b, off, none⟩ with
    | true =>
      exfalso
      rw [hz] at hst
      simp only [if_true] at hst
      rw [hst] at g1
      cases g1
    | false =>
      rw [hz] at hst
      simp only [Bool.false_eq_true, if_false] at hst
      rw [hst] at g1
      simp only [Result.andThen_ok, Sem.run_pure] at g1
      injection g1 with _ g1
      exact ⟨rfl, g1.symm⟩
  exact ⟨st', hfz.1, g2, hfz.2 ▸ g4, g5⟩

noncomputable def atoLoad (kd : IntKind) (st : St) (xs : List SV) (k : SV → St → Ans) : Ans := oneOf1 xs fun s => atCell st s fun _ x => oa 304 (svInt x) fun i => wa 305 (Nat.beq i.1.ctorIdx kd.ctorIdx) (k x st)
noncomputable def atoStore (st : St) (xs : List SV) (k : SV → St → Ans) : Ans := oa 306 (two xs) fun x => atCell st x.1 fun p _ => oa 304 (svInt x.2) fun _ => storeCs st p.1 p.2 [x.2] fun st' => k (.tuple []) st'
noncomputable def three (l : List SV) : Option (SV × SV × SV) := match l with | [x, y, z] => some (x, y, z) | _ => none
/-- A number that is known. -/
noncomputable def litK (kd : IntKind) (s : SV) (k : Nat → Ans) : Ans := oa 304 (svInt s) fun i => wa 305 (Nat.beq i.1.ctorIdx kd.ctorIdx) (oa 307 (isLit i.2) fun n => k n)
theorem litK_sat {L σ nv β} {kd : IntKind} {s : SV} {v : Value} (hd : DenC nv σ β s v) {k : Nat → Ans} (h : (litK kd s k).sat L σ) : ∃ n, v = .int kd (ofB kd n) ∧ n < 2 ^ kd.bits ∧ (k n).sat L σ := by
  obtain ⟨i, hi, hs⟩ := oa_sat h
  obtain ⟨hk, hs⟩ := wa_sat hs
  obtain ⟨n, hn, hs⟩ := oa_sat hs
  obtain ⟨hv, hlt⟩ := (svInt_some hi (hd σ (Ag.refl _ _))).int_inv
  have hk := kind_idx (of_nbeq hk)
  rw [hk, isLit_some hn, ev_lit] at hv hlt
  exact ⟨n, hv, hlt, hs⟩
noncomputable def atoCas (kd : IntKind) (st : St) (xs : List SV) (k : SV → St → Ans) : Ans := oa 308 (three xs) fun x => atCell st x.1 fun p y => litK kd y fun m => litK kd x.2.1 fun n => oa 304 (svInt x.2.2) fun i => wa 309 (band (Nat.beq m n) (Nat.beq i.1.ctorIdx kd.ctorIdx)) (storeCs st p.1 p.2 [x.2.2] fun st' => k (.bool (.lit 1)) st')
noncomputable def atoAdd (st : St) (xs : List SV) (k : SV → St → Ans) : Ans := oa 306 (two xs) fun x => atCell st x.1 fun p y => litK .i32 y fun m => litK .i32 x.2 fun n => forceN (Nat.mod (Nat.add m n) 4294967296) fun s => storeCs st p.1 p.2 [.int .i32 (.lit s)] fun st' => k (.int .i32 (.lit s)) st'
noncomputable def atoRun (c : Nat) (kd : IntKind) (st : St) (xs : List SV) (k : SV → St → Ans) : Ans :=
  bc (Nat.beq c 1) (atoLoad kd st xs k) (bc (Nat.beq c 2) (atoStore st xs k) (bc (Nat.beq c 3) (atoCas kd st xs k) (bc (Nat.beq c 4) (atoAdd st xs k)
    (bc (Nat.beq c 5) (List.rec (motive := fun _ => Ans) (k (.tuple []) st) (fun _ _ _ => .bad 309) xs) (bc (Nat.beq c 6) (oneOf1 xs fun s => oa 301 (svPtr s) fun _ => k (.tuple []) st) (.bad 310))))))
theorem atoRun_ok {P : Program} {f c : Nat} {kd : IntKind} (he : atoOf P f = (c, kd)) (h0 : c ≠ 0) : NatOk P f (atoRun c kd) := by
  intro L M σ w0 β st w xs vs k hR hv hs
  obtain ⟨fn, hf, hb, ho, hng, hnext, hfind⟩ := atoOf_some he h0
  have hnn := noNext (fn := fn) rfl ho hnext
  clear he
  rcases hfind fn rfl with ⟨rfl, hx1⟩ | ⟨rfl, hx1⟩ | ⟨rfl, hx1⟩ | ⟨rfl, rfl, hx1⟩ | ⟨rfl, mk, hx1⟩ | ⟨rfl, mk, hx1⟩
  · obtain ⟨s, rfl, hs⟩ := oneOf1_sat (show (atoLoad kd st xs k).sat L σ from hs)
    have hd0 := hv σ (Ag.refl _ _)
    match vs, hd0 with
    | [v], _ =>
      have hd : DenC st.pc.nv σ β s v := fun σ' ha => by cases hv σ' ha with | cons h _ => exact h
      obtain ⟨p, x, b, c, u, rfl, hb', hx, hc, hs⟩ := atCell_sat hR hd hs
      obtain ⟨i, hi, hs2⟩ := oa_sat hs
      obtain ⟨hk0, hs3⟩ := wa_sat hs2
      have hk : i.1 = kd := kind_idx (of_nbeq hk0)
      obtain ⟨hu, _⟩ := (svInt_some hi (hx σ (Ag.refl _ _))).int_inv
      rw [hu, hk] at hc hx
      exact ⟨_, w, β, st, x, run_call_load hf hng hb hnn _ hx1 hc, Ext.refl β, rfl, hR, hx, hs3⟩
  · obtain ⟨x, hx, hs⟩ := oa_sat (show (atoStore st xs k).sat L σ from hs)
    have hx := two_some hx
    subst hx
    have hd0 := hv σ (Ag.refl _ _)
    match vs, hd0 with
    | [v, v1], _ =>
      have hd : DenC st.pc.nv σ β x.1 v := fun σ' ha => by cases hv σ' ha with | cons h _ => exact h
      have hd1 : DenC st.pc.nv σ β x.2 v1 := fun σ' ha => by cases hv σ' ha with | cons _ h => cases h with | cons h _ => exact h
      obtain ⟨p, y, b, c, u, rfl, hb', hy, hc, hs⟩ := atCell_sat hR hd hs
      obtain ⟨i, hi, hs⟩ := oa_sat hs
      obtain ⟨hu, _⟩ := (svInt_some hi (hd1 σ (Ag.refl _ _))).int_inv
      obtain ⟨st', g1, g2, g3, g4⟩ := atStore_sat (P := P) hR hb' hc hd1 (by rw [hu]; rfl) hs
      subst hu
      exact ⟨_, _, β, st', .tuple [], run_call_store hf hng hb hnn hx1 hc g1, Ext.refl β, g2, g3, fun _ _ => .tuple .nil, g4⟩
  · obtain ⟨x, hx, hs⟩ := oa_sat (show (atoCas kd st xs k).sat L σ from hs)
    have hx : xs = [x.1, x.2.1, x.2.2] := by
      unfold three at hx
      split at hx
      · cases hx; rfl
      · cases hx
    subst hx
    have hd0 := hv σ (Ag.refl _ _)
    match vs, hd0 with
    | [v, v1, v2], _ =>
      have hd : DenC st.pc.nv σ β x.1 v := fun σ' ha => by cases hv σ' ha with | cons h _ => exact h
      have hd1 : DenC st.pc.nv σ β x.2.1 v1 := fun σ' ha => by cases hv σ' ha with | cons _ h => cases h with | cons h _ => exact h
      have hd2 : DenC st.pc.nv σ β x.2.2 v2 := fun σ' ha => by cases hv σ' ha with | cons _ h => cases h with | cons _ h => cases h with | cons h _ => exact h
      obtain ⟨p, y, b, c, u, rfl, hb', hy, hc, hs⟩ := atCell_sat hR hd hs
      obtain ⟨m, rfl, _, hs⟩ := litK_sat hy hs
      obtain ⟨n, rfl, _, hs⟩ := litK_sat hd1 hs
      obtain ⟨i, hi, hs2⟩ := oa_sat hs
      obtain ⟨hq, hs3⟩ := wa_sat hs2
      obtain ⟨hmn0, hk0⟩ := band_eq hq
      have hmn : m = n := of_nbeq hmn0
      have hk : i.1 = kd := kind_idx (of_nbeq hk0)
      rw [hmn] at hc
      obtain ⟨hu, _⟩ := (svInt_some hi (hd2 σ (Ag.refl _ _))).int_inv
      rw [hk] at hu
      obtain ⟨st', g1, g2, g3, g4⟩ := atStore_sat (P := P) hR hb' hc hd2 (by rw [hu]; rfl) hs3
      rw [hu] at g3 ⊢
      exact ⟨_, _, β, st', .bool (.lit 1), run_call_cas_hit hf hng hb hnn _ hx1 hc g1, Ext.refl β, g2, g3, fun _ _ => bit_den (n := 1) (Nat.le_refl 1), g4⟩
  · obtain ⟨x, hx, hs⟩ := oa_sat (show (atoAdd st xs k).sat L σ from hs)
    have hx := two_some hx
    subst hx
    have hd0 := hv σ (Ag.refl _ _)
    match vs, hd0 with
    | [v, v1], _ =>
      have hd : DenC st.pc.nv σ β x.1 v := fun σ' ha => by cases hv σ' ha with | cons h _ => exact h
      have hd1 : DenC st.pc.nv σ β x.2 v1 := fun σ' ha => by cases hv σ' ha with | cons _ h => cases h with | cons h _ => exact h
      obtain ⟨p, y, b, c, u, rfl, hb', hy, hc, hs⟩ := atCell_sat hR hd hs
      obtain ⟨m, rfl, hm, hs⟩ := litK_sat hy hs
      obtain ⟨n, rfl, hn, hs⟩ := litK_sat hd1 hs
      rw [forceN_eq] at hs
      have hsd : DenC st.pc.nv σ β (.int .i32 (.lit (Nat.mod (Nat.add m n) 4294967296))) (.int .i32 (ofB .i32 (Nat.mod (Nat.add m n) 4294967296))) := fun σ' _ => by
        have := Den.int (σ := σ') (β := β) (k := .i32) (a := 0) (b := 0) (t := .lit (Nat.mod (Nat.add m n) 4294967296)) (u := .lit 0) (c := .lit 0) (l := []) (by rw [ev_lit]; exact Nat.mod_lt _ (by decide))
        rwa [ev_lit] at this
      obtain ⟨st', g1, g2, g3, g4⟩ := atStore_sat (P := P) hR hb' hc hsd rfl hs
      have hadd : (Op.intArith .add .i32 (ofB .i32 m) (ofB .i32 n)).run P w = .ok (.int .i32 (ofB .i32 (Nat.mod (Nat.add m n) 4294967296))) w := by
        simp only [Op.intArith, Sem.run_pure]
        have := add_ofB .i32 m n
        change _ = ofB .i32 ((m + n) % 4294967296) at this
        first | (rw [this]; rfl) | (simp only [this]; rfl)
      exact ⟨_, _, β, st', _, run_call_add hf hng hb hnn _ hx1 hc g1 hadd, Ext.refl β, g2, g3, hsd, g4⟩
  · cases xs with
    | cons _ _ => exact hs.elim
    | nil =>
      have hd0 := hv σ (Ag.refl _ _)
      cases vs with
      | cons _ _ => cases hd0
      | nil => exact ⟨_, w, β, st, .tuple [], run_call_mark0 hf hng hb hnn mk hx1 w, Ext.refl β, rfl, hR, fun _ _ => .tuple .nil, hs⟩
  · obtain ⟨s, rfl, hs⟩ := oneOf1_sat (show (oneOf1 xs fun s => oa 301 (svPtr s) fun _ => k (.tuple []) st).sat L σ from hs)
    obtain ⟨p, hp, hs⟩ := oa_sat hs
    have hd0 := hv σ (Ag.refl _ _)
    match vs, hd0 with
    | [v], .cons h1 .nil =>
      have hp0 := svPtr_o hp (.inr h1)
      cases hp0 with
      | ptr hb' => exact ⟨_, w, β, st, .tuple [], run_call_marked hf hng hb hnn mk hx1 _ w, Ext.refl β, rfl, hR, fun _ _ => .tuple .nil, hs⟩
theorem nbeq_ne {a b : Nat} (h : Nat.beq a b = false) : a ≠ b := fun e => by rw [nbeq_t e] at h; cases h
/-- Calls, of these too. -/
noncomputable def hCallZ (P : Program) (x : Operand) (args : List Operand) : HX :=
  ⟨fun cf F st k => oa 156 (svFunc ((cO x).g F)) fun f => forceN f.1 fun n => bc (Nat.beq (atoOf P n).1 0) ((hCallY P x args).run cf F st k) (knL (cOs args) F fun xs => atoRun (atoOf P n).1 (atoOf P n).2 st (appR xs f.2) k)⟩
theorem hCallZ_ok {P L M N x args ats dst ty pos af g} : HXok P L M N ⟨dst, .call ⟨.value x, args, ats⟩, ty, pos, af, g⟩ (hCallZ P x args.toList) := by
  intro cf hcf σ w0 β st w F a k next Q hR hF hs hn
  obtain ⟨f, hf, hs⟩ := oa_sat hs
  rw [forceN_eq] at hs
  cases h0 : Nat.beq (atoOf P f.1).1 0
  · rw [h0] at hs
    obtain ⟨hkn, hs⟩ := knL_sat (show (knL (cOs args.toList) F fun xs => atoRun (atoOf P f.1).1 (atoOf P f.1).2 st (appR xs f.2) k).sat L σ from hs)
    rw [cOs_eq] at hkn hs
    rw [appR_eq] at hs
    have hl := cOs_C hF args.toList hkn
    have hd : ∀ σ', Ag st.pc.nv σ σ' → Den σ' β (.func f.1 f.2) (a.eval x) := fun σ' ha => svFunc_o hf (cO_C hF x σ' ha)
    have hd0 := hd σ (Ag.refl _ _)
    generalize hv : a.eval x = v at hd hd0
    cases hd0 with
    | func hcap0 =>
      rename_i cvs
      have hcap : DenLC st.pc.nv σ β f.2 cvs := fun σ' ha => by
        have := hd σ' ha
        generalize hvv : Value.func (.func f.1) #[] cvs.toArray = vv at this
        cases this with
        | func h' => injection hvv with _ _ h3; have := congrArg Array.toList h3; simp at this; rw [this]; exact h'
      have hall := hl.append hcap
      obtain ⟨r, w', β', st', s, g1, g2, g3, g4, g5, g6⟩ := atoRun_ok (P := P) (f := f.1) (c := (atoOf P f.1).1) (kd := (atoOf P f.1).2) rfl (nbeq_ne h0) hR hall hs
      have hrun : (execOp a.eval ⟨dst, .call ⟨.value x, args, ats⟩, ty, pos, af, g⟩).run P w = .ok (.value r) w' := by
        simp only [execOp, resolve, hv, Deferred.ofValue, Sem.run_bind, Sem.run_pure, Result.andThen_ok, invoke]
        rw [show (#[] ++ Array.map a.eval args ++ cvs.toArray) = (List.map a.eval args.toList ++ cvs).toArray from by apply Array.ext'; simp]
        exact g1
      unfold Oper.wp
      rw [hrun]
      exact hn.step (by rw [g3]) g2 g4 g5 g6
  · rw [h0] at hs
    exact hCallY_ok cf hcf σ w0 β st w F a k next Q hR hF hs hn
noncomputable def effCall3 (P : Program) (o : Op) : Option HX :=
  match o with
  | .call ⟨.value x, args, _⟩ => some (hCallZ P x args.toList)
  | _ => none
theorem effCall3_ok {P : Program} {L M N} {o : Oper} {h : HX} (he : effCall3 P o.op = some h) : HXok P L M N o h := by
  obtain ⟨dst, op, ty, pos, af, g⟩ := o
  unfold effCall3 at he
  split at he
  · rename_i hop
    change op = _ at hop
    subst hop
    cases he
    exact hCallZ_ok
  · cases he
end Go.Sy
end

section
/- Ranging over strings; arrays of slices. -/
namespace Go.Sy
open Go.RowKit

/-! ### A string that is ranged over -/
def isStrD : TypeDesc → Bool
  | .string => true
  | _ => false
theorem isStrD_ok {d : TypeDesc} (h : isStrD d = true) : d = .string := by cases d <;> first | rfl | cases h
noncomputable def strTy (P : Program) (t : TypeId) : Bool := Option.rec false isStrD (P.underlying t)
theorem strTy_ok {P : Program} {t : TypeId} (h : strTy P t = true) : P.underlying t = some .string := by
  unfold strTy at h
  cases hu : P.underlying t with
  | none => rw [hu] at h; cases h
  | some d => rw [hu] at h; rw [isStrD_ok h]
noncomputable def hRangeS (x : Operand) : HX :=
  ⟨fun _ F st k => oa 470 (svStr ((cO x).g F)) fun cs => forceN st.nn fun n => stNew st (.siter cs 0) fun st' => k (.ptr n 0) st'⟩
theorem hRangeS_ok {P L M N t x dst ty pos af g} (ht : strTy P t = true) : HXok P L M N ⟨dst, .range t x, ty, pos, af, g⟩ (hRangeS x) := by
  intro cf _ σ w0 β st w F a k next Q hR hF hs hn
  obtain ⟨cs, hcs, hs⟩ := oa_sat hs
  rw [forceN_eq, stNew_eq] at hs
  have hx := cO_C hF x
  have hd := svStr_o hcs hx.at0
  generalize hv : a.eval x = vx at hd
  cases hd with
  | str hb =>
    rename_i s
    have hall : ∀ σ', Ag st.pc.nv σ σ' → DenL σ' β cs (s.data.toList.map fun b => Value.int .u8 b.toNat) := fun σ' ha => by
      have := svStr_o hcs (hx σ' ha)
      rw [hv] at this
      cases this with | str h => exact h
    have hrun : (execOp a.eval ⟨dst, .range t x, ty, pos, af, g⟩).run P w = .ok (.value (.pointer (some ⟨w.heap.size, 0, none⟩))) { w with heap := w.heap.push (.stringIter s 0) } := by
      simp [execOp, Instr.range, hv, run_underlying' (strTy_ok ht), newObj, Sem.run]
    obtain ⟨h1, h2, h3⟩ := hR.new (c := 0) (ob := .siter cs 0) (x := .stringIter s 0) (fun σ' ha => .siter (hall σ' ha))
    unfold Oper.wp
    rw [hrun]
    exact hn.step (st' := St.new st (.siter cs 0)) rfl h1 h3 (fun σ' _ => .ptr h2) hs
noncomputable def siterOb (st : St) (o : Nat) : Option (List SV × Nat) := ob (st.hp.get o) fun he => bc he.ro none (SObj.rec (fun _ _ => none) (fun _ _ _ => none) (fun _ => none) (fun _ _ _ => none) (fun _ _ _ _ => none) (fun _ => none) (fun cs p => some (cs, p)) (fun _ => none) he.ob)
theorem siterOb_some {st : St} {o : Nat} {x : List SV × Nat} (h : siterOb st o = some x) : st.hp.get o = some ⟨.siter x.1 x.2, false⟩ := by
  obtain ⟨he, hg, h⟩ := ob_some h
  obtain ⟨obj, ro⟩ := he
  cases ro with
  | true => cases h
  | false => cases obj <;> first | (cases h; exact hg) | cases h
noncomputable def hNextS (x : Operand) : HX :=
  ⟨fun _ F st k => oa 471 (svPtr ((cO x).g F)) fun p => wa 472 (Nat.beq p.2 0) (oa 473 (siterOb st p.1) fun it => wa 474 (Nat.blt (Nat.succ it.2) 9223372036854775808)
    (Option.rec (motive := fun _ => Ans) (k (.tuple [.bool (.lit 0)]) st) (fun c => oa 475 (svInt c) fun i => wa 476 (Nat.beq i.1.ctorIdx IntKind.u8.ctorIdx) (oa 477 (isLit i.2) fun n => wa 478 (Nat.blt n 128)
      (forceN (Nat.succ it.2) fun q => forceN it.2 fun q0 => stPut st p.1 (.siter it.1 q) fun st' => k (.tuple [.bool (.lit 1), .int .i64 (.lit q0), .int .i32 (.lit n)]) st'))) (nthR it.1 it.2)))⟩
theorem run_next_ascii_at {P : Program} {w : World} {r : Nat} {s : ByteArray} {pos : Nat} {ty : TypeId} (hr : w.heap[r]? = some (.stringIter s pos)) (h : pos < s.size) (ha : (s[pos]'h).toNat < 128) :
    (Instr.next (.pointer (some ⟨r, 0, none⟩)) true ty).run P w = .ok (.tuple #[.bool true, .int .i64 pos, .int .i32 (s[pos]'h).toNat]) { w with heap := w.heap.setIfInBounds r (.stringIter s (pos + 1)) } := by
  have hlt : r < w.heap.size := (Array.getElem?_eq_some_iff.1 hr).1
  simp only [Instr.next, getObj, setObj, Sem.run_bind, Sem.run, Result.andThen, h, if_true, decode_ascii s pos h ha, hr]
  simp [goInt]
theorem run_next_end_at {P : Program} {w : World} {r : Nat} {s : ByteArray} {pos : Nat} {ty : TypeId} (hr : w.heap[r]? = some (.stringIter s pos)) (h : ¬ pos < s.size) :
    (Instr.next (.pointer (some ⟨r, 0, none⟩)) true ty).run P w = .ok (.tuple #[.bool false]) w := by
  simp [Instr.next, getObj, Sem.run, h, hr]
theorem hNextS_ok {P L M N x dst ty pos af g} : HXok P L M N ⟨dst, .next x true, ty, pos, af, g⟩ (hNextS x) := by
  intro cf _ σ w0 β st w F a k next Q hR hF hs hn
  obtain ⟨p, hp, hs⟩ := oa_sat hs
  obtain ⟨hp2, hs⟩ := wa_sat hs
  have hp2 := of_nbeq hp2
  obtain ⟨it, hit, hs⟩ := oa_sat hs
  obtain ⟨hps, hs⟩ := wa_sat hs
  have hps : it.2 + 1 < 9223372036854775808 := of_nblt hps
  have hg := siterOb_some hit
  have hd := svPtr_o hp (cO_C hF x).at0
  generalize hv : a.eval x = vx at hd
  cases hd with
  | ptr hb =>
    rename_i r c
    rw [hp2] at hv
    obtain ⟨b0, c0, y, k1, k2, k3, _⟩ := (hR.2 σ (Ag.refl _ _)).heap p.1 _ hg
    rw [hb] at k1; cases k1
    generalize hy : y = y' at k3
    cases k3 with
    | siter hcs =>
      rename_i s
      subst hy
      have hlen := hcs.length
      simp at hlen
      have hall : ∀ σ', Ag st.pc.nv σ σ' → DenL σ' β it.1 (s.data.toList.map fun b => Value.int .u8 b.toNat) := fun σ' ha => by
        obtain ⟨b1, c1, y1, j1, j2, j3, _⟩ := (hR.2 σ' ha).heap p.1 _ hg
        rw [hb] at j1; cases j1
        rw [k2] at j2; cases j2
        cases j3 with | siter h => exact h
      have hex : ∀ {v : Value} {w' : World}, (Instr.next (.pointer (some ⟨r, 0, none⟩)) true ty).run P w = .ok v w' → (execOp a.eval ⟨dst, .next x true, ty, pos, af, g⟩).run P w = .ok (.value v) w' := fun h => by
        simp only [execOp, hv, Sem.run_bind, h, Result.andThen_ok, Sem.run_pure]
      rw [nthR_eq] at hs
      cases hc : it.1[it.2]? with
      | none =>
        rw [hc] at hs
        have hge : ¬ it.2 < s.size := by
          have h1 := List.getElem?_eq_none_iff.1 hc
          have h2 : s.data.size = s.size := rfl
          omega
        unfold Oper.wp
        rw [hex (run_next_end_at k2 hge)]
        exact hn.step rfl (Ext.refl β) hR (fun σ' _ => .tuple (vs := [.bool false]) (.cons (bit_den (n := 0) (Nat.zero_le 1)) .nil)) hs
      | some cc =>
        rw [hc] at hs
        obtain ⟨i, hi, hs⟩ := oa_sat hs
        obtain ⟨hk, hs⟩ := wa_sat hs
        obtain ⟨n, hnl, hs⟩ := oa_sat hs
        obtain ⟨h128, hs⟩ := wa_sat hs
        have h128 := of_nblt h128
        rw [forceN_eq, forceN_eq, stPut_eq] at hs
        have hk := kind_idx (of_nbeq hk)
        obtain ⟨v, hv1, hv2⟩ := hcs.get hc
        rw [List.getElem?_map] at hv1
        have hlt : it.2 < s.size := by
          have h1 := (List.getElem?_eq_some_iff.1 hc).1
          have h2 : s.data.size = s.size := rfl
          omega
        have hbyte : v = .int .u8 (s[it.2]'hlt).toNat := by
          have : s.data.toList[it.2]? = some (s[it.2]'hlt) := by
            rw [Array.getElem?_toList]
            exact Array.getElem?_eq_getElem hlt
          rw [this] at hv1
          injection hv1 with hv1
          exact hv1.symm
        obtain ⟨hu, hlt2⟩ := (svInt_some hi hv2).int_inv
        rw [hk, isLit_some hnl, ev_lit, ofB_unsigned rfl (show n < 2 ^ 8 by omega)] at hu
        rw [hbyte] at hu
        injection hu with _ hu
        have hn' : (s[it.2]'hlt).toNat = n := by exact_mod_cast hu
        have hrun := run_next_ascii_at (P := P) (ty := ty) k2 hlt (by omega)
        have hturn := hR.turn hg hb (ob' := .siter it.1 (it.2 + 1)) (x := .stringIter s (it.2 + 1)) (fun σ' ha => .siter (hall σ' ha))
        unfold Oper.wp
        rw [hex hrun]
        refine hn.step (st' := St.put st p.1 (.siter it.1 (it.2 + 1))) rfl (Ext.refl β) hturn (fun σ' _ => .tuple (vs := [_, _, _]) (.cons (bit_den (n := 1) (Nat.le_refl 1)) (.cons (litInt (n := it.2) (by omega)) (.cons ?_ .nil)))) hs
        have := Den.int (σ := σ') (β := β) (k := .i32) (a := 0) (b := 0) (t := .lit n) (u := .lit 0) (c := .lit 0) (l := []) (by rw [ev_lit]; show n < 2 ^ 32; omega)
        rw [ev_lit, ofB_signed rfl (show n < 2 ^ 32 by omega), if_neg (show ¬ 2 ^ (IntKind.i32.bits - 1) ≤ n from by show ¬ 2 ^ 31 ≤ n; omega)] at this
        rw [hn']
        exact this

/-! ### An array that a slice lies on -/
noncomputable def arrLen (P : Program) (t : TypeId) : Option Nat := match P.underlying t with | some (.array n _) => some n | _ => none
theorem arrLen_ok {P : Program} {t : TypeId} {n : Nat} (h : arrLen P t = some n) : ∃ e, P.underlying t = some (.array n e) := by
  unfold arrLen at h
  split at h
  · cases h; exact ⟨_, by assumption⟩
  · cases h
noncomputable def hToArr (P : Program) (t : TypeId) (x : Operand) : HX :=
  ho 480 (arrLen P t) fun n => ⟨fun _ F st k => oa 481 (svSl ((cO x).g F)) fun q => oa 482 q.at_ fun p => wa 483 (Nat.ble n q.len) (k (.ptr p.1 p.2) st)⟩
theorem hToArr_ok {P L M N t x dst ty pos af g} : HXok P L M N ⟨dst, .sliceToArrayPointer t x, ty, pos, af, g⟩ (hToArr P t x) := by
  refine ho_ok fun n hn0 => ?_
  obtain ⟨e, he⟩ := arrLen_ok hn0
  intro cf _ σ w0 β st w F a k next Q hR hF hs hn
  obtain ⟨q, hq, hs⟩ := oa_sat hs
  obtain ⟨p, hp, hs⟩ := oa_sat hs
  obtain ⟨hle, hs⟩ := wa_sat hs
  have hle := of_nble hle
  have hne : ((cO x).g F).1 ≠ 19 := fun e19 => by
    unfold svSl at hq; rw [e19] at hq; cases hq
  have hx := (cO_C hF x).of hne
  have hd0 := hx σ (Ag.refl _ _)
  rcases svSl_den hq hd0 with ⟨h1, _⟩ | ⟨o, off, b, c, cap, h1, h2, h3, _⟩
  · rw [h1] at hp; cases hp
  · rw [h1] at hp; cases hp
    have hrun : (execOp a.eval ⟨dst, .sliceToArrayPointer t x, ty, pos, af, g⟩).run P w = .ok (.value (.pointer (some ⟨b, off, none⟩))) w := by
      have : ¬ q.len < n := by omega
      simp [execOp, Instr.arrayAt, h3, run_underlying' he, this]
    unfold Oper.wp
    rw [hrun]
    exact hn.step rfl (Ext.refl β) hR (fun σ' _ => .ptr h2) hs
/-! ### A call of a value's method -/
noncomputable def hCallB (P : Program) (x : Operand) (args : List Operand) : HX :=
  ⟨fun cf F st k => Option.rec (motive := fun _ => Ans) ((hCallZ P x args).run cf F st k) (fun f => knL (cOs args) F fun xs => forceN f.1 fun n => cf n (appR f.2 xs) st k) (svBfn ((cO x).g F))⟩
theorem hCallB_ok {P L M N x args ats dst ty pos af g} : HXok P L M N ⟨dst, .call ⟨.value x, args, ats⟩, ty, pos, af, g⟩ (hCallB P x args.toList) := by
  intro cf hcf σ w0 β st w F a k next Q hR hF hs hn
  change (Option.rec (motive := fun _ => Ans) ((hCallZ P x args.toList).run cf F st k) (fun f => knL (cOs args.toList) F fun xs => forceN f.1 fun n => cf n (appR f.2 xs) st k) (svBfn ((cO x).g F))).sat L σ at hs
  cases hf : svBfn ((cO x).g F) with
  | none => rw [hf] at hs; exact hCallZ_ok cf hcf σ w0 β st w F a k next Q hR hF hs hn
  | some f =>
    rw [hf] at hs
    obtain ⟨hkn, hs⟩ := knL_sat (show (knL (cOs args.toList) F fun xs => forceN f.1 fun n => cf n (appR f.2 xs) st k).sat L σ from hs)
    rw [cOs_eq] at hkn hs
    rw [forceN_eq, appR_eq] at hs
    have hl := cOs_C hF args.toList hkn
    have hd : ∀ σ', Ag st.pc.nv σ σ' → Den σ' β (.bfn f.1 f.2) (a.eval x) := fun σ' ha => svBfn_o hf (cO_C hF x σ' ha)
    have hd0 := hd σ (Ag.refl _ _)
    generalize hv : a.eval x = v at hd hd0
    cases hd0 with
    | bfn hcap0 =>
      rename_i cvs
      have hcap : DenLC st.pc.nv σ β f.2 cvs := fun σ' ha => by
        have := hd σ' ha
        generalize hvv : Value.func (.func f.1) cvs.toArray #[] = vv at this
        cases this with
        | bfn h' => injection hvv with _ h3 _; have := congrArg Array.toList h3; simp at this; rw [this]; exact h'
      obtain ⟨h1, h2⟩ := hcf M σ w0 β st w f.1 _ _ k _ hR (hcap.append hl) hs hn
      have hrun : (execOp a.eval ⟨dst, .call ⟨.value x, args, ats⟩, ty, pos, af, g⟩).run P w = .ok (.enter f.1 (cvs ++ List.map a.eval args.toList).toArray) w := by
        simp only [execOp, resolve, hv, Deferred.ofValue, Sem.run_bind, Sem.run_pure, Result.andThen_ok, invoke]
        rw [show (cvs.toArray ++ Array.map a.eval args ++ #[]) = (cvs ++ List.map a.eval args.toList).toArray from by apply Array.ext'; simp]
        exact h2
      unfold Oper.wp
      rw [hrun]
      refine Calls.mono h1 fun e w' he => ?_
      obtain ⟨v, rfl, h3⟩ := he
      exact h3
/-! ### Which is the lowest bit: the ways part ahead of the call -/
noncomputable def bitT (t : Tm) (i : Nat) : Tm := .bin .and 64 (.bin .shr 64 t (.lit i)) (.lit 1)
noncomputable def splitLow (t : Tm) (n : Nat) : Nat → PC → (PC → Ans) → Ans :=
  Nat.rec (motive := fun _ => Nat → PC → (PC → Ans) → Ans) (fun _ pc k => k pc) (fun _ ih i pc k => forceN i fun i => forceN (decT pc (bitT t i)) fun d => bc (Nat.beq d 1) (k pc) (bc (Nat.beq d 0) (ih (Nat.succ i) pc k) (br pc (bitT t i) k (fun pc => ih (Nat.succ i) pc k)))) n
theorem splitLow_ok {L : (Nat → Nat) → SV → Prop} {σ} {t : Tm} : ∀ (n i : Nat) {pc : PC} {k : PC → Ans}, pc.okC σ → (∀ σ', Ag pc.nv σ σ' → t.ev σ' = t.ev σ) → (splitLow t n i pc k).sat L σ → ∃ pc', pc'.okC σ ∧ pc'.nv = pc.nv ∧ (k pc').sat L σ
  | 0, _, pc, k, hp, _, h => ⟨pc, hp, rfl, h⟩
  | n + 1, i, pc, k, hp, ht, h => by
    have h : (forceN i fun i => forceN (decT pc (bitT t i)) fun d => bc (Nat.beq d 1) (k pc) (bc (Nat.beq d 0) (splitLow t n (Nat.succ i) pc k) (br pc (bitT t i) k (fun pc => splitLow t n (Nat.succ i) pc k)))).sat L σ := h
    rw [forceN_eq, forceN_eq] at h
    cases hd1 : Nat.beq (decT pc (bitT t i)) 1
    rotate_left
    · rw [hd1] at h; exact ⟨pc, hp, rfl, h⟩
    rw [hd1] at h
    cases hd0 : Nat.beq (decT pc (bitT t i)) 0
    rotate_left
    · rw [hd0] at h; exact splitLow_ok n (Nat.succ i) hp ht h
    rw [hd0] at h
    have hts : TS pc.nv σ (bitT t i) := fun σ' ha => by
      have : (bitT t i).ev σ' = (bitT t i).ev σ := by
        show O2.and.ev 64 (O2.shr.ev 64 (t.ev σ') i) 1 = O2.and.ev 64 (O2.shr.ev 64 (t.ev σ) i) 1
        rw [ht σ' ha]
      rw [this]
    rcases br_ok hp hts h with ⟨_, pc', h1, h2, h3⟩ | ⟨_, pc', h1, h2, h3⟩
    · exact ⟨pc', h1, h2, h3⟩
    · obtain ⟨pc2, k1, k2, k3⟩ := splitLow_ok n (Nat.succ i) h1 (fun σ' ha => ht σ' (h2 ▸ ha)) h3
      exact ⟨pc2, k1, k2.trans h2, k3⟩
noncomputable def isTz (P : Program) (f : Nat) : Bool := match P.funcs[f]? with | some fn => fn.name == "math/bits.TrailingZeros64" | none => false
noncomputable def tzArg (P : Program) (x : Operand) (args : List Operand) (F : F3) : Option Tm :=
  ob (svFunc ((cO x).g F)) fun f => bc (isTz P f.1) (ob (one? args) fun y => ob (svInt ((cO y).g F)) fun i => bc (isLitB i.2) none (some i.2)) none
theorem tzArg_some {P : Program} {x : Operand} {args : List Operand} {F : F3} {t : Tm} (h : tzArg P x args F = some t) : ∃ y k, svInt ((cO y).g F) = some (k, t) := by
  obtain ⟨f, _, h⟩ := ob_some h
  obtain ⟨_, h⟩ := bc_none' h
  obtain ⟨y, _, h⟩ := ob_some h
  obtain ⟨i, hi, h⟩ := ob_some h
  cases hb : isLitB i.2
  · rw [hb] at h
    cases h
    exact ⟨y, i.1, hi⟩
  · rw [hb] at h; cases h
noncomputable def hCallT (P : Program) (x : Operand) (args : List Operand) : HX :=
  ⟨fun cf F st k => Option.rec (motive := fun _ => Ans) ((hCallB P x args).run cf F st k) (fun t => splitLow t 64 0 st.pc fun pc => (hCallB P x args).run cf F ⟨st.hp, st.nn, pc⟩ k) (tzArg P x args F)⟩
theorem hCallT_ok {P L M N x args ats dst ty pos af g} : HXok P L M N ⟨dst, .call ⟨.value x, args, ats⟩, ty, pos, af, g⟩ (hCallT P x args.toList) := by
  intro cf hcf σ w0 β st w F a k next Q hR hF hs hn
  unfold hCallT at hs
  cases hi : tzArg P x args.toList F with
  | none => simp only [hi] at hs; exact hCallB_ok cf hcf σ w0 β st w F a k next Q hR hF hs hn
  | some t =>
    simp only [hi] at hs
    obtain ⟨y, kd, hy⟩ := tzArg_some hi
    have hne : ((cO y).g F).1 ≠ 19 := fun e => by unfold svInt at hy; rw [e] at hy; cases hy
    have hd := (cO_C hF y).of hne
    have ht : ∀ σ', Ag st.pc.nv σ σ' → t.ev σ' = t.ev σ := fun σ' ha => by
      obtain ⟨e1, l1⟩ := (svInt_some hy (hd σ (Ag.refl _ _))).int_inv
      obtain ⟨e2, l2⟩ := (svInt_some hy (hd σ' ha)).int_inv
      rw [e1] at e2
      injection e2 with _ e2
      exact (ofB_inj l1 l2 e2).symm
    obtain ⟨pc', h1, h2, h3⟩ := splitLow_ok 64 0 hR.1 ht hs
    exact hCallB_ok cf hcf σ w0 β ⟨st.hp, st.nn, pc'⟩ w F a k next Q (hR.assume h1 h2) (by simpa [h2] using hF) h3 (by simpa [h2] using hn)
/-! ### A string's bytes -/
noncomputable def strBy (P : Program) (s d : TypeId) : Option TypeId := bc (strTy P s) (ob (sliOf P d) fun e => bc (u8T P e) (some e) none) none
noncomputable def hStrBytes (x : Operand) : HX := ⟨fun _ F st k => oa 490 (svStr ((cO x).g F)) fun cs => forceN (lenR cs) fun n => forceN st.nn fun o => stNew st (.tab cs) fun st' => k (.sliceU o n) st'⟩
theorem hStrBytes_ok {P L M N s d x dst ty pos af g e} (hb : strBy P s d = some e) : HXok P L M N ⟨dst, .convert s d x, ty, pos, af, g⟩ (hStrBytes x) := by
  obtain ⟨h1, hb⟩ := bc_none' hb
  obtain ⟨e', he, hb⟩ := ob_some hb
  obtain ⟨h3, hb⟩ := bc_none' hb
  cases hb
  intro cf _ σ w0 β st w F a k next Q hR hF hs hn
  obtain ⟨cs, hcs, hs⟩ := oa_sat hs
  rw [forceN_eq, forceN_eq, stNew_eq] at hs
  have hx := cO_C hF x
  have hd := svStr_o hcs hx.at0
  generalize hv : a.eval x = vx at hd
  cases hd with
  | str hb0 =>
    rename_i bs
    have hall : ∀ σ', Ag st.pc.nv σ σ' → DenL σ' β cs (byteVals bs) := fun σ' ha => by
      have := svStr_o hcs (hx σ' ha)
      rw [hv] at this
      cases this with | str h => exact h
    have hlen : lenR cs = bs.size := by rw [lenR_eq, hb0.length, byteVals_length]
    have hrun : (execOp a.eval ⟨dst, .convert s d x, ty, pos, af, g⟩).run P w = .ok (.value (.slice (some ⟨w.heap.size, 0, none⟩) bs.size (grownCap w bs.size 0 e)))
        (w.drew.alloc (.cells (bytesRow bs (grownCap w bs.size 0 e)) e ((bytesRow bs (grownCap w bs.size 0 e)).size, (bytesRow bs (grownCap w bs.size 0 e)).size + 1))) := by
      simp only [execOp, hv, Sem.run_bind, run_bytes_of_string w s d e bs (strTy_ok h1) (sliOf_some he) (u8T_ok h3), Result.andThen_ok, Sem.run_pure]
    obtain ⟨k1, k2, k3⟩ := hR.drew.new (c := grownCap w bs.size 0 e) (ob := .tab cs) (x := .cells (bytesRow bs (grownCap w bs.size 0 e)) e ((bytesRow bs (grownCap w bs.size 0 e)).size, (bytesRow bs (grownCap w bs.size 0 e)).size + 1)) (fun σ' ha =>
      .tab (hall σ' ha) (fun j v hj => by
        unfold byteVals at hj
        have hlt := (List.getElem?_eq_some_iff.1 hj).1
        unfold bytesRow
        rw [← Array.getElem?_toList, Array.toList_append, List.getElem?_append_left (by simpa using hlt)]
        rw [Array.toList_map]; exact hj))
    unfold Oper.wp
    rw [hrun]
    refine hn.step (st' := St.new st (.tab cs)) rfl k1 k3 (fun σ' _ => ?_) hs
    rw [hlen]
    exact .sliceU (off := 0) (sh := 0) k2 (grownCap_ge _ _ _ _) (fun _ => rfl)
noncomputable def effSit (P : Program) (o : Op) : Option HX :=
  match o with
  | .range t x => bc (strTy P t) (some (hRangeS x)) none
  | .next x s => bc s (some (hNextS x)) none
  | .sliceToArrayPointer t x => some (hToArr P t x)
  | .convert s d x => Option.rec none (fun _ => some (hStrBytes x)) (strBy P s d)
  | .call ⟨.value x, args, _⟩ => some (hCallT P x args.toList)
  | _ => none
theorem effSit_ok {P : Program} {L M N} {o : Oper} {h : HX} (he : effSit P o.op = some h) : HXok P L M N o h := by
  obtain ⟨dst, op, ty, pos, af, g⟩ := o
  unfold effSit at he
  split at he <;> rename_i hop <;> (try change op = _ at hop) <;> (try subst hop)
  · rename_i t x
    cases ht : strTy P t
    · rw [ht] at he; cases he
    · rw [ht] at he; cases he; exact hRangeS_ok ht
  · rename_i x s
    cases s
    · cases he
    · cases he; exact hNextS_ok
  · cases he; exact hToArr_ok
  · rename_i s d x
    cases hb : strBy P s d with
    | none => rw [hb] at he; cases he
    | some e => rw [hb] at he; cases he; exact hStrBytes_ok hb
  · cases he; exact hCallT_ok
  · cases he
end Go.Sy
end
