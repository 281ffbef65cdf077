/- A symbolic run of the program: regions, code, calls, a law and its row from one run. -/
import Derived.Test.YtcnaapegjhlcdaaSxB
import Derived.Deep.AppendSrc
import Derived.Orders
import Derived.Scope
import Derived.LoopN
import Derived.WalkKit
import Derived.ProofKit
import Derived.OpenShut
import Derived.ChangeOld
import Derived.Carry

section
/- append. -/
namespace Go.Sx
open Go.RowKit

theorem Rep.drew {σ w0 β} {st : St} {w : World} (h : Rep σ w0 β st w) : Rep σ w0 β st w.drew :=
  ⟨h.pc, h.below.drew, h.fresh, h.heap, h.inj⟩

theorem growBy_le (need : Nat) : ∀ (r c : Nat), c < need → Builtin.growBy need r c ≤ 2 * need + 200
  | 0, c, h => by simp only [Builtin.growBy]; omega
  | r + 1, c, h => by
    simp only [Builtin.growBy]
    split
    · omega
    · by_cases h' : c + (c + 768) / 4 < need
      · exact growBy_le need r _ h'
      · cases r with
        | zero => simp only [Builtin.growBy]; omega
        | succ r => simp only [Builtin.growBy]; rw [if_pos (by omega)]; omega
theorem nextslicecap_le {need c : Nat} (h : c < need) : Builtin.nextslicecap need c ≤ 2 * need + 200 := by
  unfold Builtin.nextslicecap
  split
  · omega
  · split
    · omega
    · exact growBy_le need 4 c h

theorem grownCap_ge (w : World) (need old : Nat) (e : TypeId) : need ≤ grownCap w need old e := Nat.le_add_right _ _

/-- A slice: its block and place, its length, its capacity if it is known. -/
structure SlV where
  at_ : Option (Nat × Nat)
  len : Nat
  cap : Option Nat
noncomputable def svSl (s : SV) : Option SlV := SV.casesOn (motive_1 := fun _ => Option SlV) s (fun _ _ => none) (fun _ => none) none (fun _ _ => none) (some ⟨none, 0, some 0⟩) (fun o off len cap => some ⟨some (o, off), len, some cap⟩) (fun o len => some ⟨some (o, 0), len, none⟩) none (fun _ => none) (fun _ _ => none) none (fun _ => none) none (fun _ => none) (fun _ => none)

/-- The cells of n elements from a slice's place on. -/
noncomputable def slCells (st : St) (q : SlV) (k : Nat) : Option (List SV) := Option.rec (ow (Nat.beq k 0) (some [])) (fun p => cellsAt st p.1 p.2 k) q.at_

noncomputable def byteS (b : ByteArray) : List SV := b.data.toList.map fun x => .int .u8 (.lit x.toNat)
theorem byteS_ok {σ β} (b : ByteArray) : DenL σ β (byteS b) (byteCells b) := by
  unfold byteS byteCells
  generalize b.data.toList = l
  induction l with
  | nil => exact .nil
  | cons x l ih =>
    refine .cons (den_int ?_ ?_) ih
    · rw [ev_lit, ofB_unsigned rfl (by have := x.toNat_lt; show x.toNat < 2 ^ 8; omega)]
    · rw [ev_lit]; exact x.toNat_lt

/-- What is appended: how many elements, their cells. -/
noncomputable def srcS (P : Program) (st : St) (tx : TypeId) (z : Nat) (x : SV) : Option (Nat × List SV) :=
  Option.rec (ob (svStr x) fun b => ow (band (isStrT P tx) (Nat.beq z 1)) (some (b.size, byteS b)))
    (fun q => ob (sliOf P tx) fun _ => ob (slCells st q (Nat.mul q.len z)) fun cs => some (q.len, cs)) (svSl x)

theorem svSl_den {σ β} {s : SV} {q : SlV} (h : svSl s = some q) {v : Value} (hd : Den σ β s v) :
    (q.at_ = none ∧ q.len = 0 ∧ q.cap = some 0 ∧ v = .slice none 0 0) ∨
    ∃ o off b c cap, q.at_ = some (o, off) ∧ β o = some (b, c) ∧ v = .slice (some ⟨b, off, none⟩) q.len cap ∧ (∀ k, q.cap = some k → cap = k) ∧ (q.cap = none → off = 0 ∧ cap = c ∧ q.len ≤ c) := by
  cases hd <;> first | (cases h; done) | skip
  · cases h; exact .inl ⟨rfl, rfl, rfl, rfl⟩
  · cases h
    rename_i hb
    exact .inr ⟨_, _, _, _, _, rfl, hb, rfl, fun k hk => by cases hk; rfl, fun hk => by cases hk⟩
  · cases h
    rename_i hb hl
    exact .inr ⟨_, _, _, _, _, rfl, hb, rfl, fun k hk => (by cases hk), fun _ => ⟨rfl, rfl, hl⟩⟩

theorem srcS_ok {P : Program} {σ w0 β} {st : St} {w : World} (h : Rep σ w0 β st w) {tx : TypeId} {z : Nat} {x : SV} {v : Value} (hd : Den σ β x v) {r : Nat × List SV} (hr : srcS P st tx z x = some r) (h1 : allOne r.2 = true) :
    ∃ news, Src P z tx v r.1 news w ∧ DenL σ β r.2 news := by
  unfold srcS at hr
  cases hq : svSl x with
  | none =>
    rw [hq] at hr
    obtain ⟨b, hb, hr⟩ := ob_some hr
    obtain ⟨hc, hr⟩ := ow_some hr
    obtain ⟨hc1, hc2⟩ := band_eq hc
    cases hr
    rw [svStr_some hb] at hd
    cases hd
    have := of_nbeq hc2
    subst this
    exact ⟨byteCells b, Src.ofString w (isStrT_some hc1) b, byteS_ok b⟩
  | some q =>
    rw [hq] at hr
    obtain ⟨e', he', hr⟩ := ob_some hr
    obtain ⟨cs, hcs, hr⟩ := ob_some hr
    cases hr
    rcases svSl_den hq hd with ⟨k1, k2, k3, rfl⟩ | ⟨o, off, b, c, cap, k1, k2, rfl, k3, k4⟩
    · unfold slCells at hcs
      rw [k1] at hcs
      obtain ⟨hz, hcs⟩ := ow_some hcs
      cases hcs
      rw [k2]
      exact ⟨[], Src.ofNil w (sliOf_some he') 0, .nil⟩
    · unfold slCells at hcs
      rw [k1] at hcs
      obtain ⟨vs, j1, j2, j3⟩ := cellsAt_ok h hcs k2
      exact ⟨vs, Src.ofSlice w (sliOf_some he') ⟨b, off, none⟩ q.len cap vs j2 (fun j u hj => (j3 j u hj).2) (allOne_ok j1 h1), j1⟩

/-- A slice's own block is given up for another name. -/
noncomputable def St.rename (st : St) (o : Nat) (ob : SObj) : St := ⟨(st.hp.set o none).set st.nn (some ⟨ob, false⟩), Nat.succ st.nn, st.pc⟩

theorem Rep.kill {σ w0 β} {st : St} {w : World} (h : Rep σ w0 β st w) (o : Nat) : Rep σ w0 β ⟨st.hp.set o none, st.nn, st.pc⟩ w := by
  have back : ∀ o1 he1, (st.hp.set o none).get o1 = some he1 → o1 ≠ o ∧ st.hp.get o1 = some he1 := by
    intro o1 he1 k
    by_cases e : o1 = o
    · subst e; rw [Tr.get_set_eq] at k; cases k
    · rw [Tr.get_set_ne _ _ e] at k; exact ⟨e, k⟩
  exact ⟨h.pc, h.below, h.fresh, fun o1 he1 k => h.heap o1 he1 (back o1 he1 k).2, fun o1 o2 he1 he2 b c1 c2 k1 k2 => h.inj o1 o2 he1 he2 b c1 c2 (back o1 he1 k1).2 (back o2 he2 k2).2⟩

theorem Rep.rename {σ w0 β} {st : St} {w : World} (h : Rep σ w0 β st w) {o : Nat} {ob ob' : SObj} (ho : st.hp.get o = some ⟨ob, false⟩) {b c : Nat} (hb : β o = some (b, c)) {x : Obj} (hx : ObjDen σ β c ob' x) :
    Ext β (bUpd β st.nn b c) ∧ bUpd β st.nn b c st.nn = some (b, c) ∧ Rep σ w0 (bUpd β st.nn b c) (st.rename o ob') { w with heap := w.heap.setIfInBounds b x } := by
  have hext : Ext β (bUpd β st.nn b c) := bUpd_ext (h.fresh _ (Nat.le_refl _))
  have hself : bUpd β st.nn b c st.nn = some (b, c) := by simp [bUpd]
  have ht := h.turn ho hb hx
  obtain ⟨b1, c1, y, h1, h2, h3, h4⟩ := h.heap o _ ho
  rw [hb] at h1; simp at h1; obtain ⟨rfl, rfl⟩ := h1
  have hlt : b < w.heap.size := (Array.getElem?_eq_some_iff.1 h2).1
  refine ⟨hext, hself, h.pc, ht.below, ?_, ?_, ?_⟩
  · intro i hi
    have h1 : st.nn ≤ i := Nat.le_of_succ_le hi
    have h2 : ¬ i = st.nn := fun e => by subst e; exact absurd hi (Nat.not_succ_le_self _)
    simp [bUpd, h2, h.fresh i h1]
  · intro i he hi
    change ((st.hp.set o none).set st.nn (some ⟨ob', false⟩)).get i = some he at hi
    by_cases e : i = st.nn
    · subst e
      rw [Tr.get_set_eq] at hi; cases hi
      exact ⟨b, c, x, hself, by simp [hlt], hx.mono hext, fun _ => h4 rfl⟩
    · rw [Tr.get_set_ne _ _ e] at hi
      by_cases e2 : i = o
      · subst e2; rw [Tr.get_set_eq] at hi; cases hi
      · rw [Tr.get_set_ne _ _ e2] at hi
        have : (st.hp.set o (some ⟨ob', false⟩)).get i = some he := by rw [Tr.get_set_ne _ _ e2]; exact hi
        obtain ⟨b2, c2, z, j1, j2, j3, j4⟩ := ht.heap i he this
        exact ⟨b2, c2, z, hext _ _ j1, j2, j3.mono hext, j4⟩
  · have back : ∀ i he, ((st.hp.set o none).set st.nn (some ⟨ob', false⟩)).get i = some he → (i = st.nn) ∨ (i ≠ st.nn ∧ i ≠ o ∧ st.hp.get i = some he) := by
      intro i he hi
      by_cases e : i = st.nn
      · exact .inl e
      · rw [Tr.get_set_ne _ _ e] at hi
        by_cases e2 : i = o
        · subst e2; rw [Tr.get_set_eq] at hi; cases hi
        · rw [Tr.get_set_ne _ _ e2] at hi; exact .inr ⟨e, e2, hi⟩
    have old : ∀ i, i ≠ st.nn → bUpd β st.nn b c i = β i := fun i e => by simp [bUpd, e]
    intro i j he he' b' c1 c2 k1 k2 k3 k4
    rcases back i he k1 with e | ⟨e1, e2, e3⟩
    · rcases back j he' k2 with e' | ⟨f1, f2, f3⟩
      · rw [e, e']
      · exfalso
        subst e; rw [hself] at k3; rw [old j f1] at k4
        simp at k3
        obtain ⟨rfl, rfl⟩ := k3
        exact f2 (h.inj j o he' _ b c2 c f3 ho k4 hb)
    · rcases back j he' k2 with e' | ⟨f1, f2, f3⟩
      · exfalso
        subst e'; rw [hself] at k4; rw [old i e1] at k3
        simp at k4
        obtain ⟨rfl, rfl⟩ := k4
        exact e2 (h.inj i o he _ b c1 c e3 ho k3 hb)
      · rw [old i e1] at k3; rw [old j f1] at k4
        exact h.inj i j he he' b' c1 c2 e3 f3 k3 k4

/-- The prefix that is known of an object that may grow. -/
noncomputable def grownAt (st : St) (o z : Nat) : Option (List SV × Nat) := ob (st.hp.get o) fun he => bc he.ro none (SObj.rec (fun _ _ => none) (fun cs e z' => ow (Nat.beq z' z) (some (cs, e))) (fun _ _ => none) he.ob)

/-- append: the slice behind it, the state. -/
noncomputable def eAppend (P : Program) (ts : List TypeId) (xs : List SV) (st : St) : Option (SV × St) :=
  List.rec none (fun t ts' _ => List.rec none (fun tx _ _ => List.rec none (fun s xs' _ => List.rec none (fun x _ _ =>
    ob (sliOf P t) fun e => ob (P.info? e) fun i => ob (zeroS P e) fun zs => ow (Nat.beq (lenR zs) i.size) <| ob (svSl s) fun q => ob (srcS P st tx i.size x) fun r => ow (allOne r.2) <|
      let need := Nat.add q.len r.1
      Option.rec
        (ob q.at_ fun p => ob (grownAt st p.1 i.size) fun g => ob (midR g.1 0 (Nat.mul q.len i.size)) fun olds =>
          ow (band (Nat.beq g.2 e) (band (Nat.blt need 4294967296) (Nat.ble (Nat.mul (Nat.add (Nat.mul 2 need) 200) i.bytes) 281474976710656))) <|
          some (.sliceU st.nn need, st.rename p.1 (.grown (appR olds r.2) e i.size)))
        (fun cap => bc (Nat.ble need cap)
          (Option.rec (ow (Nat.beq r.1 0) (some (.snil, st))) (fun p => ob (storeAt st p.1 (Nat.add p.2 (Nat.mul q.len i.size)) r.2) fun st' => some (.slice p.1 p.2 need cap, st')) q.at_)
          (ob (slCells st q (Nat.mul q.len i.size)) fun olds =>
            ow (band (Nat.blt need 4294967296) (Nat.ble (Nat.mul (Builtin.nextslicecap need cap) i.bytes) 281474976710656)) <|
            some (.sliceU st.nn need, st.new (.grown (appR olds r.2) e i.size)))) q.cap) xs') xs) ts') ts

theorem zeroCells_len (z : Array Value) (n : Nat) : (Builtin.zeroCells z n).toList.length = n * z.size := by simp [Builtin.zeroCells]

theorem firstCells_nil {P : Program} (z n : Nat) (w : World) : (Builtin.firstCells z n (.slice none 0 0)).run P w = .ok #[] w := by simp [Builtin.firstCells]

theorem eAppend_ok {P : Program} {σ w0 β} {st : St} {w : World} (h : Rep σ w0 β st w) {ts : Array TypeId} {xs : List SV} {vs : List Value} (hv : DenL σ β xs vs) {r : SV × St} (hr : eAppend P ts.toList xs st = some r) (ty : TypeId) :
    ∃ v w' β', (Builtin.append_ ts ty vs.toArray).run P w = .ok v w' ∧ Ext β β' ∧ Rep σ w0 β' r.2 w' ∧ Den σ β' r.1 v := by
  cases hts : ts.toList with
  | nil => rw [hts] at hr; cases hr
  | cons t ts1 =>
    cases ts1 with
    | nil => rw [hts] at hr; cases hr
    | cons tx ts2 =>
      cases hv with
      | nil => rw [hts] at hr; cases hr
      | cons hs tl =>
        cases tl with
        | nil => rw [hts] at hr; cases hr
        | cons hx tl2 =>
          rename_i s vS x vX xs2 vs2
          rw [hts] at hr
          change (ob (sliOf P t) fun e => ob (P.info? e) fun i => ob (zeroS P e) fun zs => ow (Nat.beq (lenR zs) i.size) <| ob (svSl s) fun q => ob (srcS P st tx i.size x) fun r => ow (allOne r.2) <|
            Option.rec
              (ob q.at_ fun p => ob (grownAt st p.1 i.size) fun g => ob (midR g.1 0 (Nat.mul q.len i.size)) fun olds =>
                ow (band (Nat.beq g.2 e) (band (Nat.blt (Nat.add q.len r.1) 4294967296) (Nat.ble (Nat.mul (Nat.add (Nat.mul 2 (Nat.add q.len r.1)) 200) i.bytes) 281474976710656))) <|
                some (SV.sliceU st.nn (Nat.add q.len r.1), st.rename p.1 (.grown (appR olds r.2) e i.size)))
              (fun cap => bc (Nat.ble (Nat.add q.len r.1) cap)
                (Option.rec (ow (Nat.beq r.1 0) (some (SV.snil, st))) (fun p => ob (storeAt st p.1 (Nat.add p.2 (Nat.mul q.len i.size)) r.2) fun st' => some (SV.slice p.1 p.2 (Nat.add q.len r.1) cap, st')) q.at_)
                (ob (slCells st q (Nat.mul q.len i.size)) fun olds =>
                  ow (band (Nat.blt (Nat.add q.len r.1) 4294967296) (Nat.ble (Nat.mul (Builtin.nextslicecap (Nat.add q.len r.1) cap) i.bytes) 281474976710656)) <|
                  some (SV.sliceU st.nn (Nat.add q.len r.1), st.new (.grown (appR olds r.2) e i.size)))) q.cap) = some r at hr
          obtain ⟨e, he, hr⟩ := ob_some hr
          obtain ⟨i, hi, hr⟩ := ob_some hr
          obtain ⟨zs, hz, hr⟩ := ob_some hr
          obtain ⟨hzl, hr⟩ := ow_some hr
          obtain ⟨q, hq, hr⟩ := ob_some hr
          obtain ⟨src, hsrc, hr⟩ := ob_some hr
          obtain ⟨h1, hr⟩ := ow_some hr
          obtain ⟨news, hS, hN⟩ := srcS_ok (P := P) h hx hsrc h1
          have hu := sliOf_some he
          -- the zero value
          unfold zeroS at hz
          rw [hi] at hz
          simp only [Option.bind_some] at hz
          cases hzv : i.zero with
          | none => rw [hzv] at hz; cases hz
          | some zv =>
            rw [hzv] at hz
            have hzd := ofVals_ok (σ := σ) (β := β) hz
            have hzsz : zv.cells.size = i.size := by
              rw [← of_nbeq hzl, lenR_eq, hzd.length]; simp
            have h0t : ts[0]? = some t := by rw [← Array.getElem?_toList, hts]; rfl
            have h1t : ts[1]? = some tx := by rw [← Array.getElem?_toList, hts]; rfl
            -- only the two first arguments count
            have hcut : (Builtin.append_ ts ty (vS :: vX :: vs2).toArray) = Builtin.append_ #[t, tx] ty #[vS, vX] := by
              unfold Builtin.append_
              simp [h0t, h1t]
            rw [hcut]
            have hnl : news.length = src.1 * i.size := hS.newsLen
            rcases svSl_den hq hs with ⟨k1, k2, k3, rfl⟩ | ⟨o, off, b, c, cap, k1, k2, rfl, k3, k4⟩
            · -- nil
              rw [k3] at hr
              change bc (Nat.ble (q.len + src.1) 0) _ _ = some r at hr
              rw [k2, k1] at hr
              cases hle : Nat.ble (0 + src.1) 0
              · rw [hle] at hr
                obtain ⟨olds, ho, hr⟩ := ob_some hr
                obtain ⟨hb, hr⟩ := ow_some hr
                obtain ⟨hb1, hb2⟩ := band_eq hb
                cases hr
                unfold slCells at ho
                rw [k1] at ho
                obtain ⟨_, ho⟩ := ow_some ho
                cases ho
                have hpos : 0 < 0 + src.1 := by
                  rcases Nat.eq_zero_or_pos (0 + src.1) with hh | hh
                  · rw [hh] at hle; cases hle
                  · exact hh
                have hb1' := of_nblt hb1
                have hb2' := of_nble hb2
                have hg := run_append_grow_src (P := P) w t tx ty e i zv hu hi hzv none 0 0 [] (by rw [firstCells_nil]) vX src.1 news hS hpos (by change 0 + src.1 < _ at hb1'; omega) hb2'
                have hgc : 0 + src.1 ≤ grownCap w (0 + src.1) 0 e := grownCap_ge _ _ _ _
                obtain ⟨j1, j2, j3⟩ := (h.drew).new (c := grownCap w (0 + src.1) 0 e) (ob := .grown (appR [] src.2) e i.size)
                  (x := .cells ((news ++ (Builtin.zeroCells zv.cells (grownCap w (0 + src.1) 0 e - (0 + src.1))).toList).toArray) e (0, 0))
                  (.grown (by rw [appR_eq]; exact hN) (by rw [List.length_append, hnl, zeroCells_len, hzsz, ← Nat.add_mul]; congr 1; omega))
                refine ⟨_, _, _, hg, j1, ?_, .sliceU j2 hgc⟩
                have : ((([] ++ news).toArray ++ Builtin.zeroCells zv.cells (grownCap w (0 + src.1) 0 e - (0 + src.1))) : Array Value) = (news ++ (Builtin.zeroCells zv.cells (grownCap w (0 + src.1) 0 e - (0 + src.1))).toList).toArray := by
                  apply Array.ext'; simp
                rw [this]
                exact j3
              · rw [hle] at hr
                change ow (Nat.beq src.1 0) (some (SV.snil, st)) = some r at hr
                obtain ⟨h0, hr⟩ := ow_some hr
                cases hr
                have hn0 := of_nbeq h0
                refine ⟨.slice none 0 0, w, β, ?_, Ext.refl β, h, .snil⟩
                have hne : news = [] := by
                  have : news.length = 0 := by rw [hnl, hn0, Nat.zero_mul]
                  exact List.eq_nil_of_length_eq_zero this
                subst hne
                rw [hn0] at hS
                rcases hS.kind with ⟨e', hk⟩ | hk <;> simp [Builtin.append_, run_underlying' hu, run_underlying' hk, sizeOf, typeInfo, hi, hS.len, hS.cells]
            · cases hcap : q.cap with
              | none =>
                obtain ⟨rfl, rfl, hlc⟩ := k4 hcap
                rw [hcap] at hr
                change (ob q.at_ fun p => ob (grownAt st p.1 i.size) fun g => ob (midR g.1 0 (Nat.mul q.len i.size)) fun olds => _) = some r at hr
                rw [k1] at hr
                obtain ⟨p, hp, hr⟩ := ob_some hr
                cases hp
                obtain ⟨g, hg, hr⟩ := ob_some hr
                obtain ⟨olds, ho, hr⟩ := ob_some hr
                obtain ⟨hb, hr⟩ := ow_some hr
                obtain ⟨hb0, hb⟩ := band_eq hb
                obtain ⟨hb1, hb2⟩ := band_eq hb
                cases hr
                have hge := of_nbeq hb0
                have hb1' := of_nblt hb1
                have hb2' := of_nble hb2
                -- the object
                unfold grownAt at hg
                obtain ⟨he0, hhe, hg⟩ := ob_some hg
                obtain ⟨ob0, ro0⟩ := he0
                cases ro0 with
                | true => cases hg
                | false =>
                  cases ob0 with
                  | cells _ _ => cases hg
                  | map _ _ => cases hg
                  | grown cs0 e0 z0 =>
                    obtain ⟨hz0, hg⟩ := ow_some hg
                    cases hg
                    have hz0' := of_nbeq hz0
                    subst hz0'
                    change e0 = e at hge
                    subst hge
                    obtain ⟨b1, c1, xo, m1, m2, m3, m4⟩ := h.heap o _ hhe
                    rw [k2] at m1; simp at m1; obtain ⟨rfl, rfl⟩ := m1
                    cases m3 with
                    | grown hd hcz =>
                      rename_i vs0 rest
                      obtain ⟨n1, n2⟩ := midR_some ho
                      have hod : DenL σ β olds (vs0.take (q.len * i.size)) := by
                        rw [n1]; simpa using hd.take (q.len * i.size)
                      have hol : (vs0.take (q.len * i.size)).length = q.len * i.size := by rw [← hod.length, n2]; rfl
                      by_cases hroom : q.len + src.1 ≤ cap
                      · -- there is room
                        have hfit : q.len * i.size + news.length ≤ (vs0 ++ rest).length := by
                          rw [hcz, hnl, ← Nat.add_mul]; exact Nat.mul_le_mul_right _ hroom
                        have hst := run_storeCells_at (P := P) b (q.len * i.size) e0 news 0 (vs0 ++ rest).toArray w m2 (by simp at hfit ⊢; omega) hS.one
                        rw [setRow_eq m2] at hst
                        simp only [Nat.add_zero] at hst
                        have hlist : ((vs0 ++ rest).toArray.toList.take (q.len * i.size) ++ news ++ (vs0 ++ rest).toArray.toList.drop (q.len * i.size + news.length)) = ((vs0.take (q.len * i.size) ++ news) ++ ((vs0 ++ rest).drop (q.len * i.size + news.length))) := by
                          have hle : q.len * i.size ≤ vs0.length := by
                            have := hol; rw [List.length_take] at this; omega
                          show ((vs0 ++ rest).take (q.len * i.size) ++ news ++ (vs0 ++ rest).drop (q.len * i.size + news.length)) = _
                          rw [List.take_append_of_le_length hle]
                        rw [hlist] at hst
                        have hrun : (Builtin.append_ #[t, tx] ty #[.slice (some ⟨b, 0, none⟩) q.len cap, vX]).run P w = .ok (.slice (some ⟨b, 0, none⟩) (q.len + src.1) cap)
                            { w with heap := w.heap.setIfInBounds b (.cells ((vs0.take (q.len * i.size) ++ news) ++ ((vs0 ++ rest).drop (q.len * i.size + news.length))).toArray e0 (0, 0)) } := by
                          rcases hS.kind with ⟨e', hk⟩ | hk <;>
                            (simp only [Builtin.append_]
                             simp [run_underlying' hu, run_underlying' hk, sizeOf, typeInfo, hi, hS.len, hroom, hS.cells, add_off, hst])
                        have hx' : ObjDen σ β cap (.grown (appR olds src.2) e0 i.size) (.cells ((vs0.take (q.len * i.size) ++ news) ++ ((vs0 ++ rest).drop (q.len * i.size + news.length))).toArray e0 (0, 0)) := by
                          refine .grown (by rw [appR_eq]; exact hod.append hN) ?_
                          rw [List.length_append, List.length_append, hol, List.length_drop]
                          omega
                        obtain ⟨j1, j2, j3⟩ := h.rename hhe k2 hx'
                        exact ⟨_, _, _, hrun, j1, j3, .sliceU j2 hroom⟩
                      · -- a new block
                        have hlt : cap < q.len + src.1 := Nat.lt_of_not_le hroom
                        have hf : (Builtin.firstCells i.size q.len (.slice (some ⟨b, 0, none⟩) q.len cap)).run P w.drew = .ok (vs0.take (q.len * i.size)).toArray w.drew := by
                          refine run_firstCells_some (P := P) w.drew i.size q.len ⟨b, 0, none⟩ q.len cap (vs0.take (q.len * i.size)) hol ?_
                          intro j u hj
                          have hjl : j < q.len * i.size := by
                            rcases Nat.lt_or_ge j (q.len * i.size) with hh | hh
                            · exact hh
                            · rw [List.getElem?_eq_none (by omega)] at hj; cases hj
                          rw [add_off, Nat.zero_add]
                          show w.cell? _ = _
                          rw [List.getElem?_take_of_lt hjl] at hj
                          have hlt2 : j < vs0.length := (List.getElem?_eq_some_iff.1 hj).1
                          simp [World.cell?, m2, List.getElem?_append_left hlt2, hj]
                        have hncap := nextslicecap_le hlt
                        have hfit2 : Builtin.nextslicecap (q.len + src.1) cap * i.bytes ≤ 281474976710656 := Nat.le_trans (Nat.mul_le_mul_right _ hncap) hb2'
                        have hg := run_append_grow_src (P := P) w t tx ty e0 i zv hu hi hzv (some ⟨b, 0, none⟩) q.len cap _ hf vX src.1 news hS hlt (by change q.len + src.1 < _ at hb1'; omega) hfit2
                        have hgc : q.len + src.1 ≤ grownCap w (q.len + src.1) cap e0 := grownCap_ge _ _ _ _
                        obtain ⟨j1, j2, j3⟩ := ((h.kill o).drew).new (c := grownCap w (q.len + src.1) cap e0) (ob := .grown (appR olds src.2) e0 i.size)
                          (x := .cells ((vs0.take (q.len * i.size) ++ news) ++ (Builtin.zeroCells zv.cells (grownCap w (q.len + src.1) cap e0 - (q.len + src.1))).toList).toArray e0 (0, 0))
                          (.grown (by rw [appR_eq]; exact hod.append hN) (by
                            rw [List.length_append, List.length_append, hol, hnl, zeroCells_len, hzsz, ← Nat.add_mul, ← Nat.add_mul]; congr 1; omega))
                        refine ⟨_, _, _, hg, j1, ?_, .sliceU j2 hgc⟩
                        have : (((vs0.take (q.len * i.size) ++ news).toArray ++ Builtin.zeroCells zv.cells (grownCap w (q.len + src.1) cap e0 - (q.len + src.1))) : Array Value) = ((vs0.take (q.len * i.size) ++ news) ++ (Builtin.zeroCells zv.cells (grownCap w (q.len + src.1) cap e0 - (q.len + src.1))).toList).toArray := by
                          apply Array.ext'; simp
                        rw [this]
                        exact j3
              | some cap0 =>
                have hcc := k3 cap0 hcap
                subst hcc
                rw [hcap] at hr
                change bc (Nat.ble (q.len + src.1) cap) _ _ = some r at hr
                cases hle : Nat.ble (q.len + src.1) cap
                · rw [hle] at hr
                  obtain ⟨olds, ho, hr⟩ := ob_some hr
                  obtain ⟨hb, hr⟩ := ow_some hr
                  obtain ⟨hb1, hb2⟩ := band_eq hb
                  cases hr
                  have hb1' := of_nblt hb1
                  have hb2' := of_nble hb2
                  unfold slCells at ho
                  rw [k1] at ho
                  obtain ⟨ovs, j1, j2, j3⟩ := cellsAt_ok h ho k2
                  have hlt : cap < q.len + src.1 := by
                    rcases Nat.lt_or_ge cap (q.len + src.1) with hh | hh
                    · exact hh
                    · rw [nble_t hh] at hle; cases hle
                  have hf : (Builtin.firstCells i.size q.len (.slice (some ⟨b, off, none⟩) q.len cap)).run P w.drew = .ok ovs.toArray w.drew :=
                    run_firstCells_some (P := P) w.drew i.size q.len ⟨b, off, none⟩ q.len cap ovs j2 (fun j u hj => (j3 j u hj).2)
                  have hg := run_append_grow_src (P := P) w t tx ty e i zv hu hi hzv (some ⟨b, off, none⟩) q.len cap _ hf vX src.1 news hS hlt (by change q.len + src.1 < _ at hb1'; omega) hb2'
                  have hgc : q.len + src.1 ≤ grownCap w (q.len + src.1) cap e := grownCap_ge _ _ _ _
                  obtain ⟨m1, m2, m3⟩ := (h.drew).new (c := grownCap w (q.len + src.1) cap e) (ob := .grown (appR olds src.2) e i.size)
                    (x := .cells ((ovs ++ news) ++ (Builtin.zeroCells zv.cells (grownCap w (q.len + src.1) cap e - (q.len + src.1))).toList).toArray e (0, 0))
                    (.grown (by rw [appR_eq]; exact j1.append hN) (by
                      rw [List.length_append, List.length_append, j2, hnl, zeroCells_len, hzsz]
                      show q.len * i.size + _ + _ = _
                      rw [← Nat.add_mul, ← Nat.add_mul]; congr 1; omega))
                  refine ⟨_, _, _, hg, m1, ?_, .sliceU m2 hgc⟩
                  have : (((ovs ++ news).toArray ++ Builtin.zeroCells zv.cells (grownCap w (q.len + src.1) cap e - (q.len + src.1))) : Array Value) = ((ovs ++ news) ++ (Builtin.zeroCells zv.cells (grownCap w (q.len + src.1) cap e - (q.len + src.1))).toList).toArray := by
                    apply Array.ext'; simp
                  rw [this]
                  exact m3
                · rw [hle] at hr
                  rw [k1] at hr
                  obtain ⟨st', hst', hr⟩ := ob_some hr
                  cases hr
                  have hroom := of_nble hle
                  obtain ⟨w', j1, j2⟩ := storeAt_ok (P := P) h hN hS.one hst' k2
                  refine ⟨.slice (some ⟨b, off, none⟩) (q.len + src.1) cap, w', β, ?_, Ext.refl β, j2, .slice k2⟩
                  have j1' : (storeCells ⟨b, off + q.len * i.size, none⟩ news).run P w = .ok () w' := j1
                  rcases hS.kind with ⟨e', hk⟩ | hk <;> simp [Builtin.append_, run_underlying' hu, run_underlying' hk, sizeOf, typeInfo, hi, hS.len, hroom, hS.cells, add_off, j1']

end Go.Sx
end

section
/- Slices of slices, arrays and strings; min and max. -/
namespace Go.Sx
open Go.RowKit

/-- A bound: what is written, or what it is without. -/
noncomputable def bndS (x : Option SV) (d : Nat) : Option Nat := Option.rec (some d) (fun s => ixLit s) x
theorem bound_ok {P : Program} {σ β} {s : SV} {n : Nat} (h : ixLit s = some n) {v : Value} (hd : Den σ β s v) {y : Nat} (hy : n ≤ y) (code : BoundsCode) (w : World) :
    (Instr.sliceBound v y code).run P w = .ok n w := by
  obtain ⟨k, rfl⟩ := ixLit_ok h hd
  simp [Instr.sliceBound, asIntOf, hy]

theorem bounds_ok {P : Program} {σ β} {lo hi : Option SV} {vlo vhi : Option Value} (hlo : ∀ s, lo = some s → ∃ v, vlo = some v ∧ Den σ β s v) (hlo0 : lo = none → vlo = none)
    (hhi : ∀ s, hi = some s → ∃ v, vhi = some v ∧ Den σ β s v) (hhi0 : hi = none → vhi = none) {isS : Bool} {len cap l h : Nat}
    (hl : bndS lo 0 = some l) (hh : bndS hi len = some h) (h1 : l ≤ h) (h2 : h ≤ cap) (w : World) :
    (Instr.sliceBounds isS len cap vlo vhi none).run P w = .ok (l, h, cap) w := by
  unfold Instr.sliceBounds
  cases hi with
  | none =>
    have e1 := hhi0 rfl
    subst e1
    cases hh
    cases lo with
    | none =>
      have e2 := hlo0 rfl
      subst e2
      cases hl
      simp
    | some s =>
      obtain ⟨v, rfl, hd⟩ := hlo s rfl
      have := fun code => bound_ok (P := P) hl hd h1 code w
      simp [this]
  | some s' =>
    obtain ⟨v', rfl, hd'⟩ := hhi s' rfl
    have h' := fun code => bound_ok (P := P) hh hd' h2 code w
    cases lo with
    | none =>
      have e2 := hlo0 rfl
      subst e2
      cases hl
      simp [h']
    | some s =>
      obtain ⟨v, rfl, hd⟩ := hlo s rfl
      have := fun code => bound_ok (P := P) hl hd h1 code w
      simp [this, h']

noncomputable def opndO (F : Fr) (x : Option Operand) : Option (Option SV) := Option.rec (some none) (fun x => ob (opnd F x) fun s => some (some s)) x

noncomputable def opSlice (P : Program) (t : TypeId) (x lo hi mx : Option Operand) (F : Fr) : Option SV :=
  Option.rec (ob x fun x => ob (opnd F x) fun s => ob (opndO F lo) fun lo => ob (opndO F hi) fun hi =>
    Option.rec
      (Option.rec
        (ow (isStrT P t) (ob (svStr s) fun b => ob (bndS lo 0) fun l => ob (bndS hi b.size) fun h => ow (band (Nat.ble l h) (Nat.ble h b.size)) (some (.str (b.extract l h)))))
        (fun e => ob (svSl s) fun q => ob (bndS lo 0) fun l => ob (bndS hi q.len) fun h => ob (szOf P e) fun z =>
          Option.rec (ob q.at_ fun p => ow (band (Nat.beq l 0) (Nat.ble h q.len)) (some (.sliceU p.1 h)))
            (fun cap => ow (band (Nat.ble l h) (Nat.ble h cap))
              (Option.rec (some .snil) (fun p => some (.slice p.1 (bc (Nat.beq cap l) p.2 (Nat.add p.2 (Nat.mul l z))) (Nat.sub h l) (Nat.sub cap l))) q.at_)) q.cap)
        (sliOf P t))
      (fun ne => ob (svPtr s) fun p => ob (bndS lo 0) fun l => ob (bndS hi ne.1) fun h => ob (szOf P ne.2) fun z => ow (band (Nat.ble l h) (Nat.ble h ne.1))
        (some (.slice p.1 (bc (Nat.beq ne.1 l) p.2 (Nat.add p.2 (Nat.mul l z))) (Nat.sub h l) (Nat.sub ne.1 l)))) (arrOf P t)) (fun _ => none) mx

theorem opndO_ok {σ β} {F : Fr} {a : Act} (hF : RepF σ β F a) {x : Option Operand} {r : Option SV} (h : opndO F x = some r) :
    (∀ s, r = some s → ∃ v, x.map a.eval = some v ∧ Den σ β s v) ∧ (r = none → x.map a.eval = none) := by
  cases x with
  | none => cases h; exact ⟨(fun s hs => by cases hs), fun _ => rfl⟩
  | some x =>
    obtain ⟨s, hs, h⟩ := ob_some h
    cases h
    exact ⟨(fun s' hs' => by cases hs'; exact ⟨_, rfl, opnd_ok hF hs⟩), (fun h' => by cases h')⟩

theorem opSlice_ok {P : Program} {σ β} {F : Fr} {a : Act} (hF : RepF σ β F a) {t : TypeId} {x : Operand} {lo hi mx : Option Operand} {r : SV} (h : opSlice P t (some x) lo hi mx F = some r) (w : World) :
    ∃ u, (Instr.sliceAt t (a.eval x) (lo.map a.eval) (hi.map a.eval) (mx.map a.eval)).run P w = .ok u w ∧ Den σ β r u := by
  unfold opSlice at h
  cases mx with
  | some m => cases h
  | none =>
    obtain ⟨x', hx', h⟩ := ob_some h
    cases hx'
    obtain ⟨s, hs, h⟩ := ob_some h
    obtain ⟨l0, hl0, h⟩ := ob_some h
    obtain ⟨h0, hh0, h⟩ := ob_some h
    have hd := opnd_ok hF hs
    obtain ⟨a1, a2⟩ := opndO_ok hF hl0
    obtain ⟨b1, b2⟩ := opndO_ok hF hh0
    generalize a.eval x = v at hd
    cases ha : arrOf P t with
    | some ne =>
      rw [ha] at h
      obtain ⟨p, hp, h⟩ := ob_some h
      obtain ⟨l, hl, h⟩ := ob_some h
      obtain ⟨hv, hh, h⟩ := ob_some h
      obtain ⟨z, hz, h⟩ := ob_some h
      obtain ⟨hc, h⟩ := ow_some h
      obtain ⟨hc1, hc2⟩ := band_eq hc
      cases h
      rw [svPtr_some hp] at hd
      cases hd with
      | ptr hb =>
        have hbd := bounds_ok (P := P) (isS := false) (len := ne.1) (cap := ne.1) a1 a2 b1 b2 hl hh (of_nble hc1) (of_nble hc2) w
        by_cases e : ne.1 = l
        · rw [nbeq_t e]
          rename_i b c
          refine ⟨.slice (some ⟨b, p.2, none⟩) (hv - l) (ne.1 - l), ?_, .slice (off := p.2) hb⟩
          simp only [Instr.sliceAt, Option.map_none, Sem.run_bind, run_underlying' (arrOf_some ha), Result.andThen_ok, Instr.sureAddr, Sem.run_pure, hbd, run_sizeOf' hz]
          rw [if_pos e]
        · rw [nbeq_f e]
          rename_i b c
          refine ⟨.slice (some ⟨b, p.2 + l * z, none⟩) (hv - l) (ne.1 - l), ?_, .slice (off := p.2 + l * z) hb⟩
          simp [Instr.sliceAt, run_underlying' (arrOf_some ha), Instr.sureAddr, hbd, run_sizeOf' hz, e, add_off]
    | none =>
      rw [ha] at h
      cases hsl : sliOf P t with
      | some e =>
        change Option.rec _ (fun e => ob (svSl s) fun q => ob (bndS l0 0) fun l => ob (bndS h0 q.len) fun h => ob (szOf P e) fun z =>
          Option.rec (ob q.at_ fun p => ow (band (Nat.beq l 0) (Nat.ble h q.len)) (some (SV.sliceU p.1 h)))
            (fun cap => ow (band (Nat.ble l h) (Nat.ble h cap))
              (Option.rec (some SV.snil) (fun p => some (SV.slice p.1 (bc (Nat.beq cap l) p.2 (Nat.add p.2 (Nat.mul l z))) (Nat.sub h l) (Nat.sub cap l))) q.at_)) q.cap) (sliOf P t) = some r at h
        rw [hsl] at h
        obtain ⟨q, hq, h⟩ := ob_some h
        obtain ⟨l, hl, h⟩ := ob_some h
        obtain ⟨hv, hh, h⟩ := ob_some h
        obtain ⟨z, hz, h⟩ := ob_some h
        have hu := sliOf_some hsl
        rcases svSl_den hq hd with ⟨k1, k2, k3, rfl⟩ | ⟨o, off, b, c, cap, k1, k2, rfl, k3, k4⟩
        · rw [k3] at h
          obtain ⟨hc, h⟩ := ow_some h
          obtain ⟨hc1, hc2⟩ := band_eq hc
          rw [k1] at h
          cases h
          have e1 := of_nble hc1
          have e2 := of_nble hc2
          have hh' : bndS h0 0 = some hv := by rw [k2] at hh; exact hh
          have hbd := bounds_ok (P := P) (isS := true) (len := 0) (cap := 0) a1 a2 b1 b2 hl hh' e1 e2 w
          have : hv = 0 := by omega
          have : l = 0 := by omega
          subst_vars
          refine ⟨.slice none 0 0, ?_, .snil⟩
          simp [Instr.sliceAt, run_underlying' hu, Instr.slice, hbd, run_sizeOf' hz]
        · cases hcap : q.cap with
          | none =>
            obtain ⟨rfl, rfl, hlc⟩ := k4 hcap
            rw [hcap] at h
            obtain ⟨p, hp, h⟩ := ob_some h
            rw [k1] at hp; cases hp
            obtain ⟨hc, h⟩ := ow_some h
            obtain ⟨hc1, hc2⟩ := band_eq hc
            cases h
            have e1 := of_nbeq hc1
            have e2 := of_nble hc2
            subst e1
            have hbd := bounds_ok (P := P) (isS := true) (len := q.len) (cap := cap) a1 a2 b1 b2 hl hh (Nat.zero_le _) (by omega) w
            refine ⟨.slice (some ⟨b, 0, none⟩) hv cap, ?_, .sliceU k2 (by omega)⟩
            by_cases e : cap = 0
            · simp only [Instr.sliceAt, Option.map_none, Sem.run_bind, run_underlying' hu, Result.andThen_ok, Instr.slice, Sem.run_pure, hbd, run_sizeOf' hz]
              rw [if_pos e]
              rfl
            · simp [Instr.sliceAt, run_underlying' hu, Instr.slice, hbd, run_sizeOf' hz, e, add_off]
          | some cap0 =>
            have := k3 cap0 hcap
            subst this
            rw [hcap] at h
            obtain ⟨hc, h⟩ := ow_some h
            obtain ⟨hc1, hc2⟩ := band_eq hc
            rw [k1] at h
            cases h
            have hbd := bounds_ok (P := P) (isS := true) (len := q.len) (cap := cap) a1 a2 b1 b2 hl hh (of_nble hc1) (of_nble hc2) w
            by_cases e : cap = l
            · rw [nbeq_t e]
              refine ⟨.slice (some ⟨b, off, none⟩) (hv - l) (cap - l), ?_, .slice (off := off) k2⟩
              simp only [Instr.sliceAt, Option.map_none, Sem.run_bind, run_underlying' hu, Result.andThen_ok, Instr.slice, Sem.run_pure, hbd, run_sizeOf' hz]
              rw [if_pos e]
            · rw [nbeq_f e]
              refine ⟨.slice (some ⟨b, off + l * z, none⟩) (hv - l) (cap - l), ?_, .slice (off := off + l * z) k2⟩
              simp [Instr.sliceAt, run_underlying' hu, Instr.slice, hbd, run_sizeOf' hz, e, add_off]
      | none =>
        change Option.rec (ow (isStrT P t) (ob (svStr s) fun b => ob (bndS l0 0) fun l => ob (bndS h0 b.size) fun h => ow (band (Nat.ble l h) (Nat.ble h b.size)) (some (SV.str (b.extract l h))))) _ (sliOf P t) = some r at h
        rw [hsl] at h
        obtain ⟨hst, h⟩ := ow_some h
        obtain ⟨b, hb, h⟩ := ob_some h
        obtain ⟨l, hl, h⟩ := ob_some h
        obtain ⟨hv, hh, h⟩ := ob_some h
        obtain ⟨hc, h⟩ := ow_some h
        obtain ⟨hc1, hc2⟩ := band_eq hc
        cases h
        rw [svStr_some hb] at hd
        cases hd
        have hbd := bounds_ok (P := P) (isS := false) (len := b.size) (cap := b.size) a1 a2 b1 b2 hl hh (of_nble hc1) (of_nble hc2) w
        refine ⟨.string (b.extract l hv), ?_, .str⟩
        simp [Instr.sliceAt, run_underlying' (isStrT_some hst), Instr.slice, hbd]

/-! ### min and max -/
noncomputable def mm (mx : Bool) (k : IntKind) (x y : Tm) : Tm := bc mx (mkIte (ltT k x y) y x) (mkIte (ltT k y x) y x)
noncomputable def opMM (mx : Bool) (xs : List SV) : Option SV :=
  List.rec none (fun x r _ => ob (svInt x) fun i => List.rec (motive := fun _ => Tm → Option SV) (fun t => some (.int i.1 t)) (fun y _ ih t => ob (svInt y) fun j => ow (Nat.beq i.1.ctorIdx j.1.ctorIdx) (ih (mm mx i.1 t j.2))) r i.2) xs

theorem mm_ok {P : Program} {σ} (mx : Bool) (k : IntKind) {x y : Tm} (hx : x.ev σ < 2 ^ k.bits) (hy : y.ev σ < 2 ^ k.bits) (w : World) :
    ((bc mx Builtin.max2 Builtin.min2) (.int k (ofB k (x.ev σ))) (.int k (ofB k (y.ev σ)))).run P w = .ok (.int k (ofB k ((mm mx k x y).ev σ))) w ∧ (mm mx k x y).ev σ < 2 ^ k.bits := by
  cases mx
  · show (Builtin.min2 _ _).run P w = .ok (.int k (ofB k ((mkIte (ltT k y x) y x).ev σ))) w ∧ (mkIte (ltT k y x) y x).ev σ < _
    rw [mkIte_ev, ltT_ev hy hx]
    by_cases e : ofB k (y.ev σ) < ofB k (x.ev σ)
    · simp [e, Builtin.min2, hy]
    · simp [e, Builtin.min2, hx]
  · show (Builtin.max2 _ _).run P w = .ok (.int k (ofB k ((mkIte (ltT k x y) y x).ev σ))) w ∧ (mkIte (ltT k x y) y x).ev σ < _
    rw [mkIte_ev, ltT_ev hx hy]
    by_cases e : ofB k (x.ev σ) < ofB k (y.ev σ)
    · have : ofB k (y.ev σ) > ofB k (x.ev σ) := e
      simp [Builtin.max2, this, hy]
    · have : ¬ ofB k (y.ev σ) > ofB k (x.ev σ) := e
      simp [Builtin.max2, this, hx]

theorem opMM_ok {P : Program} {σ β} (mx : Bool) {xs : List SV} {vs : List Value} (hv : DenL σ β xs vs) {r : SV} (h : opMM mx xs = some r) (ts : Array TypeId) (ty : TypeId) (w : World) :
    ∃ u, ((bc mx Builtin.max_ Builtin.min_) ts ty vs.toArray).run P w = .ok u w ∧ Den σ β r u := by
  cases hv with
  | nil => cases h
  | cons hd tl =>
    rename_i x v xs vs
    obtain ⟨i, hi, h⟩ := ob_some h
    rw [svInt_some hi] at hd
    cases hd with
    | int hl =>
      have key : ∀ (xs : List SV) (vs : List Value) (t : Tm) (r : SV), DenL σ β xs vs → t.ev σ < 2 ^ i.1.bits →
          List.rec (motive := fun _ => Tm → Option SV) (fun t => some (.int i.1 t)) (fun y _ ih t => ob (svInt y) fun j => ow (Nat.beq i.1.ctorIdx j.1.ctorIdx) (ih (mm mx i.1 t j.2))) xs t = some r →
          ∃ u, (vs.foldlM (bc mx Builtin.max2 Builtin.min2) (.int i.1 (ofB i.1 (t.ev σ)))).run P w = .ok u w ∧ Den σ β r u := by
        intro xs
        induction xs with
        | nil =>
          intro vs t r hv ht h
          cases hv
          cases h
          exact ⟨_, by simp only [List.foldlM_nil, Sem.run_pure], .int ht⟩
        | cons y ys ih =>
          intro vs t r hv ht h
          cases hv with
          | cons hdy tly =>
            obtain ⟨j, hj, h⟩ := ob_some h
            obtain ⟨hk, h⟩ := ow_some h
            have hkk := kind_idx (of_nbeq hk)
            rw [svInt_some hj] at hdy
            cases hdy with
            | int hly =>
              rw [← hkk] at hly ⊢
              obtain ⟨m1, m2⟩ := mm_ok (P := P) (σ := σ) mx i.1 ht hly w
              obtain ⟨u, n1, n2⟩ := ih _ _ r tly m2 h
              refine ⟨u, ?_, n2⟩
              rw [List.foldlM_cons, Sem.run_bind, m1]
              exact n1
      obtain ⟨u, h1, h2⟩ := key xs vs i.2 r tl hl h
      refine ⟨u, ?_, h2⟩
      cases mx
      · exact h1
      · exact h1

end Go.Sx
end

section
/- More operations that give a value in every world: slices, min, max, cap. -/
namespace Go.Sx
open Go.RowKit

noncomputable def opXcall (F : Fr) (c : Call) : Option SV :=
  Callee.casesOn (motive := fun _ => Option SV) c.callee (fun _ => none) (fun _ _ => none)
    (fun b => ob (opnds F c.args.toList) fun xs => bc (Nat.beq b.ctorIdx Builtin.max.ctorIdx) (opMM true xs) (bc (Nat.beq b.ctorIdx Builtin.min.ctorIdx) (opMM false xs) none))
noncomputable def opX (P : Program) (o : Op) : Fr → Option SV :=
  Op.casesOn (motive := fun _ => Fr → Option SV) o
    (fun _ _ => none) (fun _ _ => none) (fun _ _ _ _ => none)
    (fun _ _ => none) (fun _ _ _ => none) (fun _ _ _ => none) (fun _ _ _ _ => none) (fun _ _ _ _ _ => none) (fun _ _ _ => none) (fun _ _ _ _ => none)
    (fun _ _ => none) (fun _ _ => none) (fun _ _ => none) (fun _ _ _ _ _ _ => none) (fun _ _ _ _ => none)
    (fun _ _ _ _ => none) (fun _ _ _ => none) (fun _ _ _ => none) (fun _ _ _ _ => none) (fun _ _ _ => none) (fun _ _ _ => none) (fun _ _ _ _ => none)
    (fun t x lo hi mx F => opSlice P t (some x) lo hi mx F) (fun _ _ _ _ => none) (fun _ _ _ _ => none) (fun _ _ _ _ => none) (fun _ _ _ _ => none)
    (fun _ _ _ _ _ => none) (fun _ _ _ _ _ => none) (fun _ _ _ _ => none) (fun _ _ _ _ _ => none) (fun _ _ _ => none) (fun _ _ _ => none) (fun _ _ => none) (fun _ _ _ _ _ => none)
    (fun _ _ _ => none) (fun c F => opXcall F c) (fun _ _ => none) (fun _ _ => none) (fun _ _ => none) (fun _ _ _ => none) (fun _ _ _ _ => none) (fun _ _ _ => none)

theorem builtin_idx {a b : Builtin} (h : a.ctorIdx = b.ctorIdx) : a = b := by cases a <;> cases b <;> first | rfl | (simp [Builtin.ctorIdx] at h)

theorem opX_ok {P : Program} {σ β} {F : Fr} {a : Act} (hF : RepF σ β F a) {o : Oper} {r : SV} (h : opX P o.op F = some r) (w : World) :
    ∃ v, (execOp a.eval o).run P w = .ok (.value v) w ∧ Den σ β r v := by
  obtain ⟨dst, op, ty, pos, af, g⟩ := o
  cases op <;> first | (cases h; done) | skip
  case slice t x lo hi mx =>
    obtain ⟨u, h1, h2⟩ := opSlice_ok (P := P) hF h w
    exact ⟨u, by simp [execOp, h1], h2⟩
  case call c =>
    obtain ⟨callee, args, argTypes⟩ := c
    cases callee <;> first | (cases h; done) | skip
    rename_i b
    change (ob (opnds F args.toList) fun xs => bc (Nat.beq b.ctorIdx Builtin.max.ctorIdx) (opMM true xs) (bc (Nat.beq b.ctorIdx Builtin.min.ctorIdx) (opMM false xs) none)) = some r at h
    obtain ⟨xs, hxs, h9⟩ := ob_some h
    clear h
    have hl := opnds_ok hF hxs
    have hargs : (List.map a.eval args.toList).toArray = Array.map a.eval args := by apply Array.ext'; simp
    cases hb : Nat.beq b.ctorIdx Builtin.max.ctorIdx
    · rw [hb] at h9
      change bc (Nat.beq b.ctorIdx Builtin.min.ctorIdx) (opMM false xs) none = some r at h9
      cases hb2 : Nat.beq b.ctorIdx Builtin.min.ctorIdx
      · rw [hb2] at h9; cases h9
      · rw [hb2] at h9
        have := builtin_idx (of_nbeq hb2)
        subst this
        obtain ⟨u, h1, h2⟩ := opMM_ok (P := P) false hl h9 argTypes ty w
        rw [hargs] at h1
        have h1' : (Builtin.min_ argTypes ty (Array.map a.eval args)).run P w = .ok u w := h1
        exact ⟨u, by simp [execOp, resolve, invoke, builtin, h1'], h2⟩
    · rw [hb] at h9
      have := builtin_idx (of_nbeq hb)
      subst this
      obtain ⟨u, h1, h2⟩ := opMM_ok (P := P) true hl h9 argTypes ty w
      rw [hargs] at h1
      have h1' : (Builtin.max_ argTypes ty (Array.map a.eval args)).run P w = .ok u w := h1
      exact ⟨u, by simp [execOp, resolve, invoke, builtin, h1'], h2⟩

noncomputable def opV2 (P : Program) (o : Op) (F : Fr) (pc : PC) : Option SV := Option.rec (opX P o F) (fun s => some s) (opV P o F pc)
theorem opV2_ok {P : Program} {σ β} {F : Fr} {a : Act} (hF : RepF σ β F a) {pc : PC} (hp : pc.ok σ) {o : Oper} {r : SV} (h : opV2 P o.op F pc = some r) (w : World) :
    ∃ v, (execOp a.eval o).run P w = .ok (.value v) w ∧ Den σ β r v := by
  unfold opV2 at h
  cases hv : opV P o.op F pc with
  | none => rw [hv] at h; exact opX_ok hF h w
  | some s => rw [hv] at h; cases h; exact opV_ok hF hp hv w
theorem opV2_yields {P : Program} {σ β} {F : Fr} {a : Act} (hF : RepF σ β F a) {pc : PC} (hp : pc.ok σ) {o : Oper} {r : SV} (h : opV2 P o.op F pc = some r) :
    ∃ v, YieldsV P o a v ∧ Den σ β r v := by
  obtain ⟨v, h1, h2⟩ := opV2_ok hF hp h default
  refine ⟨v, fun w => ?_, h2⟩
  obtain ⟨v', h3, h4⟩ := opV2_ok hF hp h w
  rw [h3, Den.det h2 h4]

end Go.Sx
end

section
/- Regions whose order is drawn: in which order one run serves all. -/
namespace Go.Sx
open Go.RowKit

section
variable {P : Program} {ops : Array Oper} {Q : Exit → Act → World → Prop} {md : Region.Mode}

/-- Whatever order, and something that holds of the world all along. -/
def wpAnyI (P : Program) (md : Region.Mode) (ops : Array Oper) (Q : Exit → Act → World → Prop) (I : World → Prop) : Nat → Array Bool → Act → World → Prop
  | 0, listed, a, w => I w ∧ Region.ready md ops listed = [] ∧ Q .normal a w
  | n + 1, listed, a, w => I w ∧ (Region.ready md ops listed = [] → Q .normal a w) ∧
    ∀ i ∈ Region.ready md ops listed, wpOp P ops Q i (wpAnyI P md ops Q I n (listed.setIfInBounds i true)) a w

theorem wpAnyI_weaken {I J : World → Prop} (h : ∀ w, I w → J w) : ∀ (n : Nat) (listed : Array Bool) (a : Act) (w : World), wpAnyI P md ops Q I n listed a w → wpAnyI P md ops Q J n listed a w
  | 0, _, _, _, hh => ⟨h _ hh.1, hh.2⟩
  | n + 1, _, _, _, hh => ⟨h _ hh.1, hh.2.1, fun i hi => wpOp_mono (fun a w => wpAnyI_weaken h n _ a w) (hh.2.2 i hi)⟩
theorem wpAnyI_any {I : World → Prop} : ∀ (n : Nat) (listed : Array Bool) (a : Act) (w : World), wpAnyI P md ops Q I n listed a w → wpAny P md ops Q n listed a w
  | 0, _, _, _, hh => hh.2
  | n + 1, _, _, _, hh => ⟨hh.2.1, fun i hi => wpOp_mono (fun a w => wpAnyI_any n _ a w) (hh.2.2 i hi)⟩
theorem wpAnyI_done {I : World → Prop} (n : Nat) {listed : Array Bool} {a : Act} {w : World} (hI : I w) (hr : Region.ready md ops listed = []) (hq : Q .normal a w) : wpAnyI P md ops Q I n listed a w := by
  cases n with
  | zero => exact ⟨hI, hr, hq⟩
  | succ n => exact ⟨hI, fun _ => hq, fun i hi => by rw [hr] at hi; cases hi⟩

/-- Wherever I holds the operation leaves v, and the world as it was. -/
def YieldsI (P : Program) (ops : Array Oper) (I : World → Prop) (o : Oper) (v : Value) (a : Act) : Prop :=
  (Region.wanted o (yielded ops a.tmps) = true ∧ ∀ w, I w → (execOp a.eval o).run P w = .ok (.value v) w) ∨
  (Region.wanted o (yielded ops a.tmps) = false ∧ v = undef)

theorem YieldsI.of_same {I : World → Prop} {o : Oper} {v : Value} {a a' : Act} (hy : YieldsI P ops I o v a) (he : execOp a'.eval o = execOp a.eval o)
    (hw : Region.wanted o (yielded ops a'.tmps) = Region.wanted o (yielded ops a.tmps)) : YieldsI P ops I o v a' := by
  unfold YieldsI at *
  rw [he, hw]
  exact hy
theorem YieldsI.wpOp {I : World → Prop} {i : Nat} {o : Oper} {v : Value} {a : Act} (hi : ops[i]? = some o) (hy : YieldsI P ops I o v a)
    {K : Act → World → Prop} {w : World} (hI : I w) (h : K (a.put o.dst v) w) : wpOp P ops Q i K a w := by
  unfold Go.wpOp
  simp only [hi]
  rcases hy with ⟨hw, hv⟩ | ⟨hw, rfl⟩
  · simp only [hw, if_true, Oper.wp, hv w hI, Oper.upon]; exact .inl h
  · simp only [hw, Bool.false_eq_true, if_false]; exact h

/-- An operation that is apart from one that yields its value anyway. -/
theorem wpOp_putI {I : World → Prop} {j : Nat} {oi oj : Oper} {v : Value} (hj : ops[j]? = some oj) (hap : oi.apart ops oj = true)
    (hsi : ∀ cs b, oi.op ≠ .select cs b) (hsj : ∀ cs b, oj.op ≠ .select cs b)
    (hQ : ∀ c a w, ¬ Q (.panic c) a w) {K : Act → World → Prop} {a : Act} {w : World}
    (hy : YieldsI P ops I oi v a) (h : wpOp P ops Q j K (a.put oi.dst v) w) :
    wpOp P ops Q j (fun a' w' => YieldsI P ops I oi v a' ∧ K (a'.put oi.dst v) w') a w := by
  obtain ⟨h1, h2, h3⟩ := Oper.apart_spec hap
  have keep : ∀ (a : Act), YieldsI P ops I oi v a → ∀ u, YieldsI P ops I oi v (a.put oj.dst u) := fun a hy u =>
    hy.of_same (execOp_put oi hsi a oj.dst u h3) (wanted_put oi a oj.dst u h3)
  have keepD : ∀ d, YieldsI P ops I oi v { a with defers := d :: a.defers } := fun d => hy.of_same rfl rfl
  unfold wpOp at *
  simp only [hj] at *
  rw [wanted_put oj a oi.dst v h1] at h
  split
  · rename_i hw
    simp only [hw, if_true] at h
    rcases h with h | ⟨hasks, hlets⟩
    case inr => exact .inr ⟨by unfold Oper.asks at *; rw [execOp_put oj hsj a oi.dst v h1] at hasks; exact hasks, hlets⟩
    refine .inl ?_
    unfold Oper.wp at *
    rw [execOp_put oj hsj a oi.dst v h1] at h
    generalize (execOp a.eval oj).run P w = r at *
    cases r with
    | ok n w' =>
      cases n <;> simp only [Oper.upon] at h ⊢
      case value u => exact ⟨keep a hy u, by rw [← Act.put_comm a v u h2]; exact h⟩
      case skip => exact ⟨keep a hy _, by rw [← Act.put_comm a v undef h2]; exact h⟩
      case defer d =>
        refine ⟨keep _ (keepD d) _, ?_⟩
        rw [← Act.put_comm _ v undef h2, ← Act.put_defers]
        exact h
      case enter f args =>
        refine Calls.mono h fun e w'' he => ?_
        cases e with
        | returned u => exact ⟨keep a hy u, by rw [← Act.put_comm a v u h2]; exact he⟩
        | panicked c => exact absurd he (hQ _ _ _)
        | outgrown => exact he
      case row row args => exact Rows.mono h fun u w'' he => ⟨keep a hy u, by rw [← Act.put_comm a v u h2]; exact he⟩
    | halt x w' =>
      cases x <;> simp only [Oper.upon] at h ⊢
      case panic u => exact absurd h (hQ _ _ _)
  · rename_i hw
    simp only [hw] at h
    exact ⟨keep a hy _, by rw [← Act.put_comm a v undef h2]; exact h⟩

/-- What yields its value anyway may be taken first. -/
theorem wpAnyI_first {I : World → Prop} (hQ : ∀ c a w, ¬ Q (.panic c) a w) {i : Nat} {oi : Oper} {v : Value} (hi : ops[i]? = some oi) (hsel : ∀ (j : Nat) (o : Oper) cs b, ops[j]? = some o → o.op ≠ .select cs b) :
    ∀ (fuel : Nat) (listed : Array Bool) (a : Act) (w : World),
      (∀ j oj, ops[j]? = some oj → j ≠ i → listed.getD j true = false → (∀ e ∈ oj.after, Region.binds md e = true → e.on ≠ i) → oi.apart ops oj = true) →
      i ∈ Region.ready md ops listed → YieldsI P ops I oi v a → I w →
      wpAnyI P md ops Q I fuel (listed.setIfInBounds i true) (a.put oi.dst v) w → wpAnyI P md ops Q I (fuel + 1) listed a w := by
  intro fuel
  induction fuel with
  | zero =>
    intro listed a w _ hr hy hI H
    refine ⟨hI, fun h => (by rw [h] at hr; cases hr), fun j hj => ?_⟩
    by_cases hji : j = i
    · subst hji; exact hy.wpOp hi hI H
    · have := ready_mono hj hji
      rw [H.2.1] at this
      cases this
  | succ fuel ih =>
    intro listed a w hfree hr hy hI H
    refine ⟨hI, fun h => (by rw [h] at hr; cases hr), fun j hj => ?_⟩
    by_cases hji : j = i
    · subst hji; exact hy.wpOp hi hI H
    · have h1 := H.2.2 j (ready_mono hj hji)
      obtain ⟨hjun, oj, hoj, hall⟩ := mem_ready.1 hj
      have hnot : ∀ e ∈ oj.after, Region.binds md e = true → e.on ≠ i := fun e he hb heq => by
        have h1 := hall e he hb
        have h0 := (mem_ready.1 hr).1
        rw [heq] at h1
        rcases Nat.lt_or_ge i listed.size with h' | h'
        · simp [h'] at h0 h1; rw [h0] at h1; cases h1
        · simp [Array.getElem?_eq_none h'] at h1
      have h2 := wpOp_putI hoj (hfree j oj hoj hji hjun hnot) (fun cs b => hsel i oi cs b hi) (fun cs b => hsel j oj cs b hoj) hQ hy h1
      have hfree' : ∀ k ok, ops[k]? = some ok → k ≠ i → (listed.setIfInBounds j true).getD k true = false →
          (∀ e ∈ ok.after, Region.binds md e = true → e.on ≠ i) → oi.apart ops ok = true := fun k ok hk hki hun hno => by
        refine hfree k ok hk hki ?_ hno
        by_cases hjk : j = k
        · subst hjk; exact hjun
        · rw [getD_set_ne true hjk] at hun; exact hun
      refine wpOp_mono (fun a' w' h3 => ?_) h2
      have h4 := h3.2
      rw [Array.setIfInBounds_comm _ _ (Ne.symm hji)] at h4
      have hI' : I w' := by
        cases fuel with
        | zero => exact h4.1
        | succ n => exact h4.1
      exact ih (listed.setIfInBounds j true) a' w' hfree' (ready_mono hr (Ne.symm hji)) h3.1 hI' h4
end

/-! ### A schedule -/
inductive Sch
  | done
  | eager (i : Nat) (s : Sch)
  | forced (i : Nat) (s : Sch)
  | two (i j : Nat) (a b : Sch)

def isEager : Op → Bool
  | .move _ | .assign _ | .pick .. | .build .. | .nilCheck _ | .binOp .. | .unOp .. | .convert .. | .makeFunc .. | .slice .. | .fieldAddr .. | .field .. | .indexAddr .. | .index .. | .extract .. | .load .. => true
  | .call { callee := .builtin b, .. } => b == .len || b == .min || b == .max
  | _ => false
def freeAt (ops : Array Oper) (listed : Array Bool) (i : Nat) : Bool :=
  match ops[i]? with
  | none => false
  | some oi => (List.range ops.size).all fun j => j == i || listed.getD j true || match ops[j]? with
    | none => true
    | some oj => (oj.after.any fun e => Region.binds .any e && e.on == i) || oi.apart ops oj
def eagerOK (ops : Array Oper) (listed : Array Bool) (i : Nat) : Bool := (match ops[i]? with | some o => isEager o.op | none => false) && freeAt ops listed i
def sched (ops : Array Oper) : Nat → Array Bool → Option Sch
  | 0, l => if (Region.ready .any ops l).isEmpty then some .done else none
  | n + 1, l =>
    match Region.ready .any ops l with
    | [] => some .done
    | x :: r =>
      match (x :: r).find? (eagerOK ops l) with
      | some i => (sched ops n (l.setIfInBounds i true)).map (.eager i)
      | none =>
        match r with
        | [] => (sched ops n (l.setIfInBounds x true)).map (.forced x)
        | [y] => (sched ops n (l.setIfInBounds x true)).bind fun s => (sched ops n (l.setIfInBounds y true)).map fun t => .two x y s t
        | _ => none
def noSel (ops : Array Oper) : Bool := ops.all fun o => match o.op with | .select .. => false | _ => true
noncomputable def schedOf (ops : Array Oper) : Option Sch := if noSel ops then sched ops ops.size (Array.replicate ops.size false) else none

theorem freeAt_spec {ops : Array Oper} {listed : Array Bool} {i : Nat} {oi : Oper} (hi : ops[i]? = some oi) (h : freeAt ops listed i = true) :
    ∀ j oj, ops[j]? = some oj → j ≠ i → listed.getD j true = false → (∀ e ∈ oj.after, Region.binds .any e = true → e.on ≠ i) → oi.apart ops oj = true := by
  intro j oj hj hji hun hno
  unfold freeAt at h
  simp only [hi] at h
  have hlt : j < ops.size := (Array.getElem?_eq_some_iff.1 hj).1
  have := List.all_eq_true.1 h j (List.mem_range.2 hlt)
  simp only [hj, hun] at this
  have hb : (oj.after.any fun e => Region.binds .any e && e.on == i) = false := by
    rw [Array.any_eq_false]
    intro k hk
    have := hno oj.after[k] (Array.getElem_mem hk)
    cases hbb : Region.binds .any oj.after[k]
    · simp
    · simp [this hbb]
  simpa [hb, hji] using this
theorem noSel_spec {ops : Array Oper} (h : noSel ops = true) : ∀ (j : Nat) (o : Oper) cs b, ops[j]? = some o → o.op ≠ .select cs b := by
  intro j o cs b hj e
  unfold noSel at h
  have hm : o ∈ ops := by
    obtain ⟨hlt, he⟩ := Array.getElem?_eq_some_iff.1 hj
    rw [← he]; exact Array.getElem_mem hlt
  have := Array.all_eq_true_iff_forall_mem.1 h o hm
  rw [e] at this
  cases this

/-! ### Equal values -/
noncomputable def allB {α : Type} (p : α → α → Bool) (l : List α) : List α → Bool :=
  List.rec (motive := fun _ => List α → Bool) (fun m => List.rec true (fun _ _ _ => false) m) (fun x _ ih m => List.rec false (fun y t _ => band (p x y) (ih t)) m) l
theorem allB_eq {α : Type} {p : α → α → Bool} (hp : ∀ x y, p x y = true → x = y) : ∀ {l m : List α}, allB p l m = true → l = m
  | [], [], _ => rfl
  | [], _ :: _, h => by cases h
  | _ :: _, [], h => by cases h
  | x :: l, y :: m, h => by
    obtain ⟨h1, h2⟩ := band_eq h
    rw [hp x y h1, allB_eq hp (l := l) (m := m) h2]
noncomputable def optB' {α : Type} (x : Option α) (k : α → Bool) : Bool := Option.rec false k x
noncomputable def svTag (s : SV) : Nat := SV.casesOn (motive_1 := fun _ => Nat) s (fun _ _ => 1) (fun _ => 2) 3 (fun _ _ => 4) 5 (fun _ _ _ _ => 6) (fun _ _ => 7) 8 (fun _ => 9) (fun _ _ => 10) 11 (fun _ => 12) 13 (fun _ => 14) (fun _ => 15)
noncomputable def sameS (n : Nat) : SV → SV → Bool :=
  Nat.rec (motive := fun _ => SV → SV → Bool) (fun _ _ => false) (fun _ ih a b =>
    SV.casesOn (motive_1 := fun _ => Bool) a
      (fun k t => optB' (svInt b) fun j => band (Nat.beq k.ctorIdx j.1.ctorIdx) (t.same j.2)) (fun t => optB' (svBool b) fun j => t.same j)
      (Nat.beq (svTag b) 3) (fun o off => optB' (svPtr b) fun p => band (Nat.beq o p.1) (Nat.beq off p.2)) (Nat.beq (svTag b) 5)
      (fun o off len cap => SV.casesOn (motive_1 := fun _ => Bool) b (fun _ _ => false) (fun _ => false) false (fun _ _ => false) false (fun o' off' len' cap' => band (band (Nat.beq o o') (Nat.beq off off')) (band (Nat.beq len len') (Nat.beq cap cap'))) (fun _ _ => false) false (fun _ => false) (fun _ _ => false) false (fun _ => false) false (fun _ => false) (fun _ => false))
      (fun o len => SV.casesOn (motive_1 := fun _ => Bool) b (fun _ _ => false) (fun _ => false) false (fun _ _ => false) false (fun _ _ _ _ => false) (fun o' len' => band (Nat.beq o o') (Nat.beq len len')) false (fun _ => false) (fun _ _ => false) false (fun _ => false) false (fun _ => false) (fun _ => false))
      (Nat.beq (svTag b) 8) (fun o => optB' (svMap b) fun p => Nat.beq o p) (fun f c => optB' (svFunc b) fun p => band (Nat.beq f p.1) (allB ih c p.2)) (Nat.beq (svTag b) 11) (fun _ => false) (Nat.beq (svTag b) 13)
      (fun cs => optB' (svAgg b) fun ds => allB ih cs ds) (fun cs => optB' (svTup b) fun ds => allB ih cs ds)) n
theorem optB'_true {α : Type} {x : Option α} {k : α → Bool} (h : optB' x k = true) : ∃ a, x = some a ∧ k a = true := by
  cases x with
  | none => cases h
  | some a => exact ⟨a, rfl, h⟩
theorem sameS_eq : ∀ (n : Nat) {a b : SV}, sameS n a b = true → a = b
  | 0, a, b, h => by cases h
  | n + 1, a, b, h => by
    cases a with
    | int k t => obtain ⟨j, hj, h⟩ := optB'_true h; obtain ⟨h1, h2⟩ := band_eq h; rw [svInt_some hj, kind_idx (of_nbeq h1), Tm.same_eq h2]
    | bool t => obtain ⟨j, hj, h⟩ := optB'_true h; rw [svBool_some hj, Tm.same_eq h]
    | pnil => cases b <;> first | rfl | (cases h; done)
    | ptr o off => obtain ⟨j, hj, h⟩ := optB'_true h; obtain ⟨h1, h2⟩ := band_eq h; rw [svPtr_some hj, of_nbeq h1, of_nbeq h2]
    | snil => cases b <;> first | rfl | (cases h; done)
    | slice o off len cap =>
      cases b <;> first | (cases h; done) | skip
      obtain ⟨h1, h2⟩ := band_eq h
      obtain ⟨h3, h4⟩ := band_eq h1
      obtain ⟨h5, h6⟩ := band_eq h2
      rw [of_nbeq h3, of_nbeq h4, of_nbeq h5, of_nbeq h6]
    | sliceU o len =>
      cases b <;> first | (cases h; done) | skip
      obtain ⟨h1, h2⟩ := band_eq h
      rw [of_nbeq h1, of_nbeq h2]
    | mnil => cases b <;> first | rfl | (cases h; done)
    | map o => obtain ⟨j, hj, h⟩ := optB'_true h; rw [svMap_some hj, of_nbeq h]
    | func f c => obtain ⟨j, hj, h⟩ := optB'_true h; obtain ⟨h1, h2⟩ := band_eq h; rw [svFunc_some hj, of_nbeq h1, allB_eq (fun x y => sameS_eq n) h2]
    | fnil => cases b <;> first | rfl | (cases h; done)
    | str _ => cases h
    | inil => cases b <;> first | rfl | (cases h; done)
    | agg cs => obtain ⟨j, hj, h⟩ := optB'_true h; rw [svAgg_some hj, allB_eq (fun x y => sameS_eq n) h]
    | tuple cs => obtain ⟨j, hj, h⟩ := optB'_true h; rw [svTup_some hj, allB_eq (fun x y => sameS_eq n) h]

end Go.Sx
end

section
/- The symbolic run: regions, code, calls. -/
namespace Go.Sx
open Go.RowKit

inductive Ex
  | nrm
  | ext (id : Nat)
  | ret
/-- What is known of a slot behind a store. -/
noncomputable def Fr.put (F : Fr) (d : Option Tmp) (s : SV) (k : Fr → Bool) : Bool :=
  Option.rec (k F) (fun d => bc (Nat.blt d F.n) (k ⟨F.t.set d (some s), F.n⟩) false) d

noncomputable def optB {α : Type} (x : Option α) (k : α → Bool) : Bool := Option.rec false k x
theorem optB_true {α : Type} {x : Option α} {k : α → Bool} (h : optB x k = true) : ∃ a, x = some a ∧ k a = true := by
  cases x with
  | none => cases h
  | some a => exact ⟨a, rfl, h⟩
theorem bc_false_true {c : Bool} {x : Bool} (h : bc c x false = true) : c = true ∧ x = true := by cases c with | false => cases h | true => exact ⟨rfl, h⟩

/-- Two ways, by a fact. -/
noncomputable def br0 (st : St) (t : Tm) (kt kf : St → Bool) : Bool :=
  forceT (simpT st.pc (redT st.pc.subs t)) fun t' => forceN (decF st.pc t' 2) fun d =>
    bc (Nat.beq d 1) (kt st) (bc (Nat.beq d 0) (kf st)
      (band (forcePC (st.pc.add t' false) fun pc => kt ⟨st.hp, st.nn, pc⟩) (forcePC (st.pc.add t' true) fun pc => kf ⟨st.hp, st.nn, pc⟩)))
noncomputable def hintOf (pc : PC) (l : List Hint) : Option Tm := List.rec none (fun h _ ih => bc (Nat.beq (decT pc h.on) 1) (bc (Nat.beq (decT pc h.by_) 2) (some h.by_) ih) ih) l
/-- The same; where it is not known, parted first as the hints say. -/
noncomputable def brN (n : Nat) : St → Tm → (St → Bool) → (St → Bool) → Bool :=
  Nat.rec (motive := fun _ => St → Tm → (St → Bool) → (St → Bool) → Bool) br0
    (fun _ ih st t kt kf => forceT (simpT st.pc (redT st.pc.subs t)) fun t' => forceN (decF st.pc t' 2) fun d =>
      bc (Nat.beq d 2) (Option.rec (br0 st t' kt kf) (fun h => band (forcePC (st.pc.add h false) fun pc => ih ⟨st.hp, st.nn, pc⟩ t' kt kf) (forcePC (st.pc.add h true) fun pc => ih ⟨st.hp, st.nn, pc⟩ t' kt kf)) (hintOf st.pc st.pc.hints)) (br0 st t' kt kf)) n
noncomputable def br (st : St) (t : Tm) (kt kf : St → Bool) : Bool := brN 40 st t kt kf

def BrOk (σ : Nat → Nat) (w0 : World) (β : Nat → Option (Nat × Nat)) (st : St) (w : World) (t : Tm) (kt kf : St → Bool) : Prop :=
  (t.ev σ ≠ 0 ∧ ∃ st', Rep σ w0 β st' w ∧ st'.hp = st.hp ∧ st'.nn = st.nn ∧ kt st' = true) ∨ (t.ev σ = 0 ∧ ∃ st', Rep σ w0 β st' w ∧ st'.hp = st.hp ∧ st'.nn = st.nn ∧ kf st' = true)
theorem br0_ok {σ w0 β} {st : St} {w : World} (h : Rep σ w0 β st w) {t : Tm} {kt kf : St → Bool} (hb : br0 st t kt kf = true) : BrOk σ w0 β st w t kt kf := by
  have hr : (simpT st.pc (redT st.pc.subs t)).ev σ = t.ev σ := by rw [simpT_ev h.pc]; exact redT_ev h.pc.2.1 t
  unfold br0 at hb
  rw [forceT_eq, forceN_eq, forcePC_eq, forcePC_eq] at hb
  generalize simpT st.pc (redT st.pc.subs t) = t' at *
  have hd := decF_ok h.pc (t := t') Vok.two
  cases h1 : Nat.beq (decF st.pc t' 2) 1
  · rw [h1] at hb
    change bc (Nat.beq (decF st.pc t' 2) 0) (kf st) (band _ _) = true at hb
    cases h0 : Nat.beq (decF st.pc t' 2) 0
    · rw [h0] at hb
      obtain ⟨hb1, hb2⟩ := band_eq hb
      by_cases e : t.ev σ = 0
      · right
        refine ⟨e, _, h.assume (PC.add_ok h.pc (t := t') (neg := true) ⟨(fun h => by cases h), fun _ => by rw [hr]; exact e⟩), rfl, rfl, hb2⟩
      · left
        exact ⟨e, _, h.assume (PC.add_ok h.pc (t := t') (neg := false) ⟨fun _ => by rw [hr]; exact e, (fun h => by cases h)⟩), rfl, rfl, hb1⟩
    · rw [h0] at hb
      right
      exact ⟨by rw [← hr]; exact hd.2 (of_nbeq h0), st, h, rfl, rfl, hb⟩
  · rw [h1] at hb
    left
    exact ⟨by rw [← hr]; exact hd.1 (of_nbeq h1), st, h, rfl, rfl, hb⟩
theorem brN_ok {σ w0 β} {w : World} : ∀ (n : Nat) {st : St} {t : Tm} {kt kf : St → Bool}, Rep σ w0 β st w → brN n st t kt kf = true → BrOk σ w0 β st w t kt kf
  | 0, st, t, kt, kf, h, hb => br0_ok h hb
  | n + 1, st, t, kt, kf, h, hb => by
    have hr : (simpT st.pc (redT st.pc.subs t)).ev σ = t.ev σ := by rw [simpT_ev h.pc]; exact redT_ev h.pc.2.1 t
    change (forceT (simpT st.pc (redT st.pc.subs t)) fun t' => forceN (decF st.pc t' 2) fun d =>
      bc (Nat.beq d 2) (Option.rec (br0 st t' kt kf) (fun h => band (forcePC (st.pc.add h false) fun pc => brN n ⟨st.hp, st.nn, pc⟩ t' kt kf) (forcePC (st.pc.add h true) fun pc => brN n ⟨st.hp, st.nn, pc⟩ t' kt kf)) (hintOf st.pc st.pc.hints)) (br0 st t' kt kf)) = true at hb
    rw [forceT_eq, forceN_eq] at hb
    generalize simpT st.pc (redT st.pc.subs t) = t' at *
    have key : BrOk σ w0 β st w t' kt kf := by
      cases h2 : Nat.beq (decF st.pc t' 2) 2
      · rw [h2] at hb; exact br0_ok h hb
      · rw [h2] at hb
        change Option.rec (br0 st t' kt kf) (fun h => band (forcePC (st.pc.add h false) fun pc => brN n ⟨st.hp, st.nn, pc⟩ t' kt kf) (forcePC (st.pc.add h true) fun pc => brN n ⟨st.hp, st.nn, pc⟩ t' kt kf)) (hintOf st.pc st.pc.hints) = true at hb
        cases hh : hintOf st.pc st.pc.hints with
        | none => rw [hh] at hb; exact br0_ok h hb
        | some s =>
          rw [hh] at hb
          change band (forcePC (st.pc.add s false) fun pc => brN n ⟨st.hp, st.nn, pc⟩ t' kt kf) (forcePC (st.pc.add s true) fun pc => brN n ⟨st.hp, st.nn, pc⟩ t' kt kf) = true at hb
          rw [forcePC_eq, forcePC_eq] at hb
          obtain ⟨hb1, hb2⟩ := band_eq hb
          by_cases e : s.ev σ = 0
          · have := brN_ok n (h.assume (PC.add_ok h.pc (t := s) (neg := true) ⟨(fun h => by cases h), fun _ => e⟩)) hb2
            exact this
          · have := brN_ok n (h.assume (PC.add_ok h.pc (t := s) (neg := false) ⟨fun _ => e, (fun h => by cases h)⟩)) hb1
            exact this
    unfold BrOk at key ⊢
    rw [hr] at key; exact key
theorem br_ok {σ w0 β} {st : St} {w : World} (h : Rep σ w0 β st w) {t : Tm} {kt kf : St → Bool} (hb : br st t kt kf = true) :
    (t.ev σ ≠ 0 ∧ ∃ st', Rep σ w0 β st' w ∧ st'.hp = st.hp ∧ st'.nn = st.nn ∧ kt st' = true) ∨ (t.ev σ = 0 ∧ ∃ st', Rep σ w0 β st' w ∧ st'.hp = st.hp ∧ st'.nn = st.nn ∧ kf st' = true) := brN_ok 40 h hb

/-! ### Operations that turn the world -/
noncomputable def eLoad (P : Program) (t : TypeId) (x : Operand) (F : Fr) (st : St) : Option SV :=
  ob (opnd F x) fun s => ob (svPtr s) fun p => loadV P st t p.1 p.2
/-- A new object: its pointer, the state behind it. -/
noncomputable def eNew (cs : List SV) (e : TypeId) (st : St) (k : SV → St → Bool) : Bool := forceN (Nat.succ st.nn) fun nn => k (.ptr st.nn 0) ⟨st.hp.set st.nn (some ⟨.cells cs e, false⟩), nn, st.pc⟩
noncomputable def eStore (P : Program) (t : TypeId) (x y : Operand) (F : Fr) (st : St) : Option St :=
  ob (opnd F x) fun s => ob (svPtr s) fun p => ob (opnd F y) fun v => storeV P st t p.1 p.2 v

noncomputable def repl {α : Type} (n : Nat) (l : List α) : List α := Nat.rec [] (fun _ ih => appR l ih) n
noncomputable def eBuildSlice (P : Program) (t : TypeId) (len : Nat) (ps : List (Nat × Operand)) (F : Fr) (st : St) (k : SV → St → Bool) : Bool :=
  optB (sliOf P t) fun e => optB (szOf P e) fun n => optB (opndPs F ps) fun l => optB (zeroS P e) fun z =>
    bc (band (Nat.blt 0 n) (band (Nat.beq (lenR z) n) (Nat.ble (Nat.mul len n) 16777216)))
      (optB (fillS (fun i => some (Nat.mul i n, n)) l (repl len z)) fun cs => eNew cs e st fun _ st => k (.slice (Nat.pred st.nn) 0 len len) st) false

/-- The function's body, where it is one of Go's own text. -/
noncomputable def bodyOf (P : Program) (f : Nat) : Option (Func × Code) :=
  match P.funcs[f]? with
  | some fn => if fn.name == "runtime.NumGoroutine" then none else fn.body.map fun c => (fn, c)
  | none => none

noncomputable def resV (P : Program) (F : Fr) (st : St) (r : ResultVar) : Option SV :=
  ResultVar.casesOn (motive := fun _ => Option SV) r (fun t => F.t.get t) (fun a t => ob (F.t.get a) fun s => ob (svPtr s) fun p => loadV P st t p.1 p.2)
noncomputable def resVs (P : Program) (F : Fr) (st : St) (rs : List ResultVar) : Option (List SV) := List.rec (some []) (fun r _ ih => ob (resV P F st r) fun s => ob ih fun l => some (s :: l)) rs
noncomputable def oneOr (l : List SV) : SV := List.rec (.tuple []) (fun x t _ => List.rec x (fun y t' _ => .tuple (x :: y :: t')) t) l

abbrev KC := Ex → Fr → St → Bool
abbrev RC := Code → Fr → St → KC → Bool

noncomputable def setAll (i : Nat) (l : List SV) (t : Tr SV) : Tr SV :=
  List.rec (motive := fun _ => Nat → Tr SV → Tr SV) (fun _ t => t) (fun s _ ih i t => ih (Nat.succ i) (t.set i (some s))) l i t
noncomputable def eCall (P : Program) (rc : RC) (f : Nat) (args : List SV) (st : St) (k : SV → St → Bool) : Bool :=
  optB (bodyOf P f) fun b =>
    rc b.2 ⟨setAll 0 args .nil, Nat.add (lenR args) (Nat.sub b.1.ntmps (lenR args))⟩ st fun e F st' =>
      Ex.rec (optB (resVs P F st' b.1.results.toList) fun l => forceS (oneOr l) fun s => k s st') (fun _ => false) (optB (resVs P F st' b.1.results.toList) fun l => forceS (oneOr l) fun s => k s st') e

noncomputable def eCallOp (P : Program) (rc : RC) (c : Call) (F : Fr) (st : St) (k : SV → St → Bool) : Bool :=
  Callee.casesOn (motive := fun _ => Bool) c.callee
    (fun x => optB (opnd F x) fun s => optB (svFunc s) fun f => optB (opnds F c.args.toList) fun args => eCall P rc f.1 (appR args f.2) st k) (fun _ _ => false)
    (fun b => bc (Nat.beq b.ctorIdx Builtin.append.ctorIdx) (optB (opnds F c.args.toList) fun xs => optB (eAppend P c.argTypes.toList xs st) fun r => forceS r.1 fun s => k s r.2) false)

noncomputable def vK (x : Option SV) (st : St) (k : SV → St → Bool) : Bool := optB x fun s => forceS s fun s => k s st

/-- An operation that may turn the world, or part the ways. -/
noncomputable def opE (P : Program) (o : Op) : RC → Fr → St → (SV → St → Bool) → Bool :=
  Op.casesOn (motive := fun _ => RC → Fr → St → (SV → St → Bool) → Bool) o
    (fun _ _ _ _ _ => false) (fun _ _ _ _ _ => false) (fun _ _ _ _ _ _ _ => false)
    (fun e _ _ st k => optB (zeroS P e) fun z => eNew z e st k) (fun e x _ F st k => optB (opnd F x) fun s => eNew (cellsOf s) e st k)
    (fun _ _ _ _ _ _ => false) (fun t len ps _ F st k => eBuildSlice P t len ps.toList F st k) (fun _ _ _ _ _ _ _ _ => false) (fun t x _ F st k => vK (eLoad P t x F st) st k) (fun t x y _ F st k => optB (eStore P t x y F st) fun st' => k (.tuple []) st')
    (fun _ _ _ _ _ => false) (fun _ _ _ _ _ => false) (fun _ _ _ _ _ => false) (fun _ _ _ _ _ _ _ _ _ => false) (fun _ _ _ _ _ _ _ => false)
    (fun _ _ _ _ _ _ _ => false) (fun _ _ _ _ _ _ => false) (fun _ _ _ _ _ _ => false) (fun _ _ _ _ _ _ _ => false) (fun _ _ _ _ _ _ => false) (fun _ _ _ _ _ _ => false) (fun _ _ _ _ _ _ _ => false)
    (fun _ _ _ _ _ _ _ _ _ => false) (fun _ _ _ _ _ _ _ => false) (fun _ _ _ _ _ _ _ => false) (fun _ _ _ _ _ _ _ => false) (fun _ _ _ _ _ _ _ => false)
    (fun _ _ _ _ _ _ _ _ => false) (fun _ _ _ _ _ _ _ _ => false) (fun _ _ _ _ _ _ _ => false) (fun _ _ _ _ _ _ _ _ => false) (fun _ _ _ _ _ _ => false) (fun _ _ _ _ _ _ => false) (fun _ _ _ _ _ => false) (fun _ _ _ _ _ _ _ _ => false)
    (fun _ _ _ _ _ _ => false) (fun c rc F st k => eCallOp P rc c F st k) (fun _ _ _ _ _ => false) (fun _ _ _ _ _ => false) (fun _ _ _ _ _ => false) (fun _ _ _ _ _ _ => false) (fun _ _ _ _ _ _ _ => false) (fun _ _ _ _ _ _ => false)

/-- Nothing is left to be shown. -/
noncomputable def okB : Bool := true
/-- A term that may be few numbers: one way for each. -/
noncomputable def forkN (d : Tmp) (kd : IntKind) (t : Tm) (F : Fr) (st : St) (k : Fr → St → Bool) (n : Nat) : Nat → Bool :=
  Nat.rec (motive := fun _ => Nat → Bool) (fun _ => okB) (fun _ ih lo => forceN lo fun lo => forceN (decT st.pc (.bin .eq kd.bits t (.lit lo))) fun v =>
    bc (Nat.beq v 0) (ih (Nat.succ lo)) (band (forcePC (st.pc.add (.bin .eq kd.bits t (.lit lo)) (Bool.not true)) fun pc => k ⟨F.t.set d (some (.int kd (.lit lo))), F.n⟩ ⟨st.hp, st.nn, pc⟩) (ih (Nat.succ lo)))) n
noncomputable def concr (lim : Nat) (x : Operand) (F : Fr) (st : St) (k : Fr → St → Bool) : Bool :=
  Operand.rec (fun d => Option.rec (k F st) (fun s => Option.rec (k F st) (fun q => Option.rec
      (forceT (redT st.pc.subs q.2) fun t => withB (rng st.pc.bnds t) fun r => bc (Nat.ble (Nat.sub r.hi r.lo) lim) (forkN d q.1 t F st k (Nat.succ (Nat.sub r.hi r.lo)) r.lo) (k F st))
      (fun _ => k F st) (isLit q.2)) (svInt s)) (F.t.get d)) (fun _ => k F st) (fun _ => k F st) (fun _ => k F st) x
/-- The operand that is to be a number: an index; how far is shifted. -/
noncomputable def idxOf (o : Op) : Nat → Option (Operand × Nat) :=
  Op.casesOn (motive := fun _ => Nat → Option (Operand × Nat)) o
    (fun _ _ => none) (fun _ _ => none) (fun _ _ _ _ => none)
    (fun _ _ => none) (fun _ _ _ => none) (fun _ _ _ => none) (fun _ _ _ _ => none) (fun _ _ _ _ _ => none) (fun _ _ _ => none) (fun _ _ _ _ => none)
    (fun _ _ => none) (fun _ _ => none) (fun _ _ => none) (fun op _ _ y _ cz => BinOp.rec none none none none none none none none (some (y, cz)) (some (y, cz)) none none none none none none none op) (fun _ _ _ _ => none)
    (fun _ _ _ _ => none) (fun _ _ _ => none) (fun _ _ _ => none) (fun _ _ _ _ => none) (fun _ _ _ => none) (fun _ _ _ => none) (fun _ _ _ _ => none)
    (fun _ _ _ _ _ _ => none) (fun _ _ _ _ => none) (fun _ _ _ _ => none) (fun _ _ i _ => some (i, 256)) (fun _ _ i _ => some (i, 256))
    (fun _ _ _ _ _ => none) (fun _ _ _ _ _ => none) (fun _ _ _ _ => none) (fun _ _ _ _ _ => none) (fun _ _ _ => none) (fun _ _ _ => none) (fun _ _ => none) (fun _ _ _ _ _ => none)
    (fun _ _ _ => none) (fun _ _ => none) (fun _ _ => none) (fun _ _ => none) (fun _ _ => none) (fun _ _ _ => none) (fun _ _ _ _ => none) (fun _ _ _ => none)
noncomputable def concrO (o : Op) (F : Fr) (st : St) (k : Fr → St → Bool) : Bool := Option.rec (k F st) (fun q => concr q.2 q.1 F st k) (idxOf o st.pc.cz)

theorem forkN_ok {σ w0 β} {st : St} {w : World} (h : Rep σ w0 β st w) {F : Fr} {a : Act} (hF : RepF σ β F a) {d : Tmp} {kd : IntKind} {t t0 : Tm} {k : Fr → St → Bool} (hd : F.t.get d = some (.int kd t0)) (ht : t.ev σ = t0.ev σ) :
    ∀ {n lo : Nat}, forkN d kd t F st k n lo = true → lo ≤ t.ev σ → t.ev σ < lo + n →
      ∃ F' st', Rep σ w0 β st' w ∧ RepF σ β F' a ∧ st'.hp = st.hp ∧ k F' st' = true
  | 0, lo, _, h1, h2 => by omega
  | n + 1, lo, hk, h1, h2 => by
    change (forceN lo fun lo => forceN (decT st.pc (.bin .eq kd.bits t (.lit lo))) fun v =>
      bc (Nat.beq v 0) (forkN d kd t F st k n (Nat.succ lo)) (band (forcePC (st.pc.add (.bin .eq kd.bits t (.lit lo)) (Bool.not true)) fun pc => k ⟨F.t.set d (some (.int kd (.lit lo))), F.n⟩ ⟨st.hp, st.nn, pc⟩) (forkN d kd t F st k n (Nat.succ lo)))) = true at hk
    rw [forceN_eq, forceN_eq, forcePC_eq] at hk
    have he : (Tm.bin .eq kd.bits t (.lit lo)).ev σ = b2n (Nat.beq (t.ev σ) lo) := rfl
    by_cases e : t.ev σ = lo
    · have hne : (Tm.bin .eq kd.bits t (.lit lo)).ev σ ≠ 0 := by rw [he, nbeq_t e]; exact Nat.one_ne_zero
      have hdec := decT_ok h.pc (t := .bin .eq kd.bits t (.lit lo))
      have h0 : Nat.beq (decT st.pc (.bin .eq kd.bits t (.lit lo))) 0 = false := nbeq_f fun h0 => hne (hdec.2 h0)
      rw [h0] at hk
      obtain ⟨hk, _⟩ := band_eq hk
      refine ⟨⟨F.t.set d (some (.int kd (.lit lo))), F.n⟩, _, h.assume (PC.add_ok h.pc (t := .bin .eq kd.bits t (.lit lo)) (neg := Bool.not true) ⟨fun _ => hne, (fun h => by cases h)⟩), ⟨hF.size, hF.defers, fun i s hs => ?_⟩, rfl, hk⟩
      by_cases ei : i = d
      · subst ei
        change (F.t.set i (some (.int kd (.lit lo)))).get i = some s at hs
        rw [Tr.get_set_eq] at hs; cases hs
        obtain ⟨v, h3, h4⟩ := hF.tmp i _ hd
        refine ⟨v, h3, ?_⟩
        cases h4 with
        | int hl =>
          rw [← ht, e] at hl ⊢
          exact .int (t := .lit lo) hl
      · change (F.t.set d (some (.int kd (.lit lo)))).get i = some s at hs
        rw [Tr.get_set_ne _ _ ei] at hs
        exact hF.tmp i s hs
    · have hk' : forkN d kd t F st k n (Nat.succ lo) = true := by
        cases h0 : Nat.beq (decT st.pc (.bin .eq kd.bits t (.lit lo))) 0
        · rw [h0] at hk; exact (band_eq hk).2
        · rw [h0] at hk; exact hk
      exact forkN_ok h hF hd ht hk' (by rw [Nat.succ_eq_add_one]; omega) (by rw [Nat.succ_eq_add_one]; omega)
theorem concr_ok {σ w0 β} {st : St} {w : World} (h : Rep σ w0 β st w) {F : Fr} {a : Act} (hF : RepF σ β F a) {lim : Nat} {x : Operand} {k : Fr → St → Bool} (hk : concr lim x F st k = true) :
    ∃ F' st', Rep σ w0 β st' w ∧ RepF σ β F' a ∧ st'.hp = st.hp ∧ k F' st' = true := by
  cases x with
  | tmp d =>
    change Option.rec (k F st) (fun s => Option.rec (k F st) (fun q => Option.rec
      (forceT (redT st.pc.subs q.2) fun t => withB (rng st.pc.bnds t) fun r => bc (Nat.ble (Nat.sub r.hi r.lo) lim) (forkN d q.1 t F st k (Nat.succ (Nat.sub r.hi r.lo)) r.lo) (k F st))
      (fun _ => k F st) (isLit q.2)) (svInt s)) (F.t.get d) = true at hk
    cases hd : F.t.get d with
    | none => rw [hd] at hk; exact ⟨F, st, h, hF, rfl, hk⟩
    | some s =>
      rw [hd] at hk
      change Option.rec (k F st) (fun q => Option.rec
        (forceT (redT st.pc.subs q.2) fun t => withB (rng st.pc.bnds t) fun r => bc (Nat.ble (Nat.sub r.hi r.lo) lim) (forkN d q.1 t F st k (Nat.succ (Nat.sub r.hi r.lo)) r.lo) (k F st))
        (fun _ => k F st) (isLit q.2)) (svInt s) = true at hk
      cases hs : svInt s with
      | none => rw [hs] at hk; exact ⟨F, st, h, hF, rfl, hk⟩
      | some q =>
        rw [hs] at hk
        change Option.rec (forceT (redT st.pc.subs q.2) fun t => withB (rng st.pc.bnds t) fun r => bc (Nat.ble (Nat.sub r.hi r.lo) lim) (forkN d q.1 t F st k (Nat.succ (Nat.sub r.hi r.lo)) r.lo) (k F st)) (fun _ => k F st) (isLit q.2) = true at hk
        cases hl : isLit q.2 with
        | some _ => rw [hl] at hk; exact ⟨F, st, h, hF, rfl, hk⟩
        | none =>
          rw [hl] at hk
          change (forceT (redT st.pc.subs q.2) fun t => withB (rng st.pc.bnds t) fun r => bc (Nat.ble (Nat.sub r.hi r.lo) lim) (forkN d q.1 t F st k (Nat.succ (Nat.sub r.hi r.lo)) r.lo) (k F st)) = true at hk
          rw [forceT_eq, withB_eq] at hk
          have hr := rng_ok h.pc.2.2.1 (redT st.pc.subs q.2)
          unfold In at hr
          cases hb : Nat.ble (Nat.sub (rng st.pc.bnds (redT st.pc.subs q.2)).hi (rng st.pc.bnds (redT st.pc.subs q.2)).lo) lim
          · rw [hb] at hk; exact ⟨F, st, h, hF, rfl, hk⟩
          · rw [hb] at hk
            rw [svInt_some hs] at hd
            exact forkN_ok h hF hd (redT_ev h.pc.2.1 q.2) hk hr.1 (by
              show _ < _ + ((rng st.pc.bnds (redT st.pc.subs q.2)).hi - (rng st.pc.bnds (redT st.pc.subs q.2)).lo + 1)
              omega)
  | _ => exact ⟨F, st, h, hF, rfl, hk⟩
theorem concrO_ok {σ w0 β} {st : St} {w : World} (h : Rep σ w0 β st w) {F : Fr} {a : Act} (hF : RepF σ β F a) {o : Op} {k : Fr → St → Bool} (hk : concrO o F st k = true) :
    ∃ F' st', Rep σ w0 β st' w ∧ RepF σ β F' a ∧ st'.hp = st.hp ∧ k F' st' = true := by
  unfold concrO at hk
  cases hi : idxOf o st.pc.cz with
  | none => rw [hi] at hk; exact ⟨F, st, h, hF, rfl, hk⟩
  | some q => rw [hi] at hk; exact concr_ok h hF hk

/-- Any operation. -/
noncomputable def opK0 (P : Program) (rc : RC) (o : Op) (F : Fr) (st : St) (k : SV → St → Bool) : Bool :=
  Option.rec (opE P o rc F st k) (fun s => forceS s fun s => k s st) (opV2 P o F st.pc)
noncomputable def opK (P : Program) (rc : RC) (o : Op) (F : Fr) (st : St) (k : SV → St → Bool) : Bool := concrO o F st fun F st => opK0 P rc o F st k

/-! ### Regions -/
noncomputable def dstOf (ops : Array Oper) (i : Nat) : Option Tmp := (ops[i]?).bind (·.dst)
/-- Operation number i, guard and all. -/
noncomputable def stepI (P : Program) (rc : RC) (ops : Array Oper) (i : Nat) (F : Fr) (st : St) (k : Fr → St → Bool) : Bool :=
  optB (ops[i]?) fun o =>
    Option.rec (opK P rc o.op F st fun s st' => F.put o.dst s fun F' => k F' st')
      (fun g => optB (dstOf ops g.1) fun d => optB (F.t.get d) fun s => Option.rec (optB (svTup s) fun _ => F.put o.dst (.tuple []) fun F' => k F' st) (fun t =>
        br st t (fun st => bc g.2 (opK P rc o.op F st fun s st' => F.put o.dst s fun F' => k F' st') (F.put o.dst (.tuple []) fun F' => k F' st))
          (fun st => bc g.2 (F.put o.dst (.tuple []) fun F' => k F' st) (opK P rc o.op F st fun s st' => F.put o.dst s fun F' => k F' st'))) (svBool s)) o.guard
noncomputable def runI (P : Program) (rc : RC) (ops : Array Oper) (l : List Nat) : Fr → St → (Fr → St → Bool) → Bool :=
  List.rec (motive := fun _ => Fr → St → (Fr → St → Bool) → Bool) (fun F st k => k F st) (fun i _ ih F st k => stepI P rc ops i F st fun F st => ih F st k) l

/-! ### A region whose order is drawn -/
/-- What was read, and must stand. -/
structure SE where
  t : TypeId
  o : Nat
  off : Nat
  v : SV
noncomputable def chk (P : Program) (l : List SE) (st : St) : Bool := List.rec true (fun e _ ih => bc (optB' (loadV P st e.t e.o e.off) fun v => sameS 6 v e.v) ih (Bool.not true)) l
noncomputable def eagerE (P : Program) (o : Op) (l : List SE) (F : Fr) (st : St) (k : List SE → SV → Bool) : Bool :=
  Option.rec (Op.casesOn (motive := fun _ => Bool) o
    (fun _ => false) (fun _ => false) (fun _ _ _ => false) (fun _ => false) (fun _ _ => false) (fun _ _ => false) (fun _ _ _ => false) (fun _ _ _ _ => false)
    (fun t x => optB (opnd F x) fun s => optB (svPtr s) fun p => optB (loadV P st t p.1 p.2) fun v => forceS v fun v => k (⟨t, p.1, p.2, v⟩ :: l) v) (fun _ _ _ => false)
    (fun _ => false) (fun _ => false) (fun _ => false) (fun _ _ _ _ _ => false) (fun _ _ _ => false)
    (fun _ _ _ => false) (fun _ _ => false) (fun _ _ => false) (fun _ _ _ => false) (fun _ _ => false) (fun _ _ => false) (fun _ _ _ => false)
    (fun _ _ _ _ _ => false) (fun _ _ _ => false) (fun _ _ _ => false) (fun _ _ _ => false) (fun _ _ _ => false)
    (fun _ _ _ _ => false) (fun _ _ _ _ => false) (fun _ _ _ => false) (fun _ _ _ _ => false) (fun _ _ => false) (fun _ _ => false) (fun _ => false) (fun _ _ _ _ => false)
    (fun _ _ => false) (fun _ => false) (fun _ => false) (fun _ => false) (fun _ => false) (fun _ _ => false) (fun _ _ _ => false) (fun _ _ => false))
    (fun s => forceS s fun s => k l s) (opV2 P o F st.pc)
noncomputable def eagerI (P : Program) (ops : Array Oper) (i : Nat) (l : List SE) (F : Fr) (st : St) (k : List SE → Fr → St → Bool) : Bool :=
  optB (ops[i]?) fun o =>
    Option.rec (concrO o.op F st fun F2 st => eagerE P o.op l F2 st fun l s => F.put o.dst s fun F' => k l F' st)
      (fun g => optB (dstOf ops g.1) fun d => optB (F.t.get d) fun s => Option.rec (optB (svTup s) fun _ => F.put o.dst (.tuple []) fun F' => k l F' st) (fun t =>
        br st t (fun st => bc g.2 (concrO o.op F st fun F2 st => eagerE P o.op l F2 st fun l s => F.put o.dst s fun F' => k l F' st) (F.put o.dst (.tuple []) fun F' => k l F' st))
          (fun st => bc g.2 (F.put o.dst (.tuple []) fun F' => k l F' st) (concrO o.op F st fun F2 st => eagerE P o.op l F2 st fun l s => F.put o.dst s fun F' => k l F' st))) (svBool s)) o.guard
noncomputable def runD (P : Program) (rc : RC) (ops : Array Oper) (s : Sch) : List SE → Fr → St → (Fr → St → Bool) → Bool :=
  Sch.rec (motive := fun _ => List SE → Fr → St → (Fr → St → Bool) → Bool) (fun _ F st k => k F st)
    (fun i _ ih l F st k => eagerI P ops i l F st fun l F st => ih l F st k)
    (fun i _ ih l F st k => stepI P rc ops i F st fun F st => bc (chk P l st) (ih l F st k) false)
    (fun i j _ _ iha ihb l F st k => band (stepI P rc ops i F st fun F st => bc (chk P l st) (iha l F st k) false) (stepI P rc ops j F st fun F st => bc (chk P l st) (ihb l F st k) false)) s

/-! ### Code -/
noncomputable def rounds (rc : RC) (body : Code) (n : Nat) : Fr → St → KC → Bool :=
  Nat.rec (motive := fun _ => Fr → St → KC → Bool) (fun _ _ _ => false) (fun _ ih F st k => rc body F st fun e F st => Ex.rec (ih F st k) (fun id => k (.ext id) F st) (k .ret F st) e) n
noncomputable def codeS (P : Program) (LF : Nat) (rc : RC) (c : Code) : Fr → St → KC → Bool :=
  Code.casesOn (motive := fun _ => Fr → St → KC → Bool) c
    (fun F st k => k .nrm F st)
    (fun _ ops draw F st k => bc draw (optB (schedOf ops) fun s => runD P rc ops s [] F st fun F st => k .nrm F st) (runI P rc ops (List.range ops.size) F st fun F st => k .nrm F st))
    (fun a b F st k => rc a F st fun e F st => Ex.rec (rc b F st k) (fun id => k (.ext id) F st) (k .ret F st) e)
    (fun x a b F st k => optB (opnd F x) fun s => optB (svBool s) fun t => br st t (fun st => rc a F st k) (fun st => rc b F st k))
    (fun id body F st k => rc body F st fun e F st => Ex.rec (k .nrm F st) (fun id' => bc (Nat.beq id' id) (k .nrm F st) (k (.ext id') F st)) (k .ret F st) e)
    (fun body F st k => rounds rc body LF F st k)
    (fun _ _ _ _ _ _ _ => false)
    (fun id F st k => k (.ext id) F st)
    (fun body F st k => rc body F st k)
    (fun _ F st k => k .nrm F st)
    (fun _ _ _ _ => false)
    (fun F st k => k .ret F st)
    (fun _ _ _ _ => false)
noncomputable def exec (P : Program) (LF : Nat) (n : Nat) : RC :=
  Nat.rec (motive := fun _ => RC) (fun _ _ _ _ => false) (fun _ rc c => codeS P LF rc c) n

end Go.Sx
end

section
/- The symbolic run says what the program does. -/
namespace Go.Sx
open Go.RowKit

def Ex.to : Ex → Exit
  | .nrm => .normal
  | .ext id => .exit id
  | .ret => .ret

/-- A run of code that is to be trusted. -/
def RCok (P : Program) (rc : RC) : Prop := ∀ (σ : Nat → Nat) (w0 : World) (β : Nat → Option (Nat × Nat)) (st : St) (w : World) (c : Code) (F : Fr) (a : Act) (k : KC) (Q : Exit → Act → World → Prop),
  Rep σ w0 β st w → RepF σ β F a → rc c F st k = true →
  (∀ e β' F' st' a' w', Ext β β' → Rep σ w0 β' st' w' → RepF σ β' F' a' → k e F' st' = true → Q e.to a' w') → c.wp P Q a w

theorem RepF.put {σ β} {F : Fr} {a : Act} (hF : RepF σ β F a) {d : Option Tmp} {s : SV} {v : Value} (hv : Den σ β s v) {k : Fr → Bool} (h : F.put d s k = true) :
    ∃ F', RepF σ β F' (a.put d v) ∧ k F' = true := by
  cases d with
  | none => exact ⟨F, hF, h⟩
  | some d =>
    obtain ⟨h1, h2⟩ := bc_false_true h
    refine ⟨_, ⟨?_, hF.defers, fun i s' hs => ?_⟩, h2⟩
    · simpa [Act.put] using hF.size
    · have hlt : d < a.tmps.size := by rw [hF.size]; exact of_nblt h1
      by_cases e : i = d
      · subst e
        change (F.t.set i (some s)).get i = some s' at hs
        rw [Tr.get_set_eq] at hs; cases hs
        exact ⟨v, by simp [Act.put, hlt], hv⟩
      · change (F.t.set d (some s)).get i = some s' at hs
        rw [Tr.get_set_ne _ _ e] at hs
        obtain ⟨x, h3, h4⟩ := hF.tmp i s' hs
        exact ⟨x, by simp only [Act.put]; rw [Array.getElem?_setIfInBounds_ne (Ne.symm e)]; exact h3, h4⟩

theorem eNew_ok {P : Program} {σ w0 β} {st : St} {w : World} (h : Rep σ w0 β st w) {cs : List SV} {vs : List Value} (hd : DenL σ β cs vs) {e : TypeId} {k : SV → St → Bool} (hk : eNew cs e st k = true) :
    ∃ β' w' st', (newRow e vs.toArray).run P w = .ok ⟨w.heap.size, 0, none⟩ w' ∧ Ext β β' ∧ Rep σ w0 β' st' w' ∧ β' st.nn = some (w.heap.size, 0) ∧ st'.nn = st.nn + 1 ∧ k (.ptr st.nn 0) st' = true := by
  unfold eNew at hk
  rw [forceN_eq] at hk
  obtain ⟨β', w', h1, h2, h3, h4⟩ := new_ok (P := P) h hd e
  exact ⟨β', w', _, h1, h2, h3, h4, rfl, hk⟩

theorem repl_ok {σ β} {z : List SV} {zs : List Value} (hz : DenL σ β z zs) : ∀ n, DenL σ β (repl n z) (List.replicate n zs).flatten
  | 0 => .nil
  | n + 1 => by
    show DenL σ β (appR z (repl n z)) _
    rw [appR_eq, List.replicate_succ, List.flatten_cons]
    exact hz.append (repl_ok hz n)
theorem range_map_mod (zs : List Value) (hz : 0 < zs.length) : ∀ n, ((Array.range (n * zs.length)).map (fun i => zs.toArray[i % zs.toArray.size]!)).toList = (List.replicate n zs).flatten := by
  intro n
  apply List.ext_getElem?
  intro i
  have hlen : (List.replicate n zs).flatten.length = n * zs.length := by simp
  by_cases hi : i < n * zs.length
  · have h1 : ((Array.range (n * zs.length)).map (fun i => zs.toArray[i % zs.toArray.size]!)).toList[i]? = zs[i % zs.length]? := by
      have : i % zs.length < zs.length := Nat.mod_lt _ hz
      simp [hi, this]
    rw [h1]
    induction n generalizing i with
    | zero => simp at hi
    | succ n ih =>
      rw [List.replicate_succ, List.flatten_cons]
      by_cases h2 : i < zs.length
      · rw [List.getElem?_append_left h2, Nat.mod_eq_of_lt h2]
      · rw [List.getElem?_append_right (by omega)]
        have hi' : i - zs.length < n * zs.length := by rw [Nat.succ_mul] at hi; omega
        rw [← ih (i - zs.length) (by simp) hi' (by
          have : (i - zs.length) % zs.length < zs.length := Nat.mod_lt _ hz
          simp [hi', this])]
        congr 1
        rw [← Nat.sub_add_cancel (Nat.le_of_not_lt h2), Nat.add_sub_cancel, Nat.add_mod_right]
  · rw [List.getElem?_eq_none (by simp; omega), List.getElem?_eq_none (by rw [hlen]; omega)]

theorem resVs_ok {P : Program} {σ w0 β} {st : St} {w : World} (h : Rep σ w0 β st w) {F : Fr} {a : Act} (hF : RepF σ β F a) :
    ∀ {rs : List ResultVar} {l : List SV}, resVs P F st rs = some l →
      ∃ vs, DenL σ β l vs ∧ (rs.mapM (fun r => match r with | .tmp t => pure (a.tmps.getD t undef) | .cell x t => do loadVar t (← asAddr (a.tmps.getD x undef)) : ResultVar → Sem Value)).run P w = .ok vs w
  | [], l, hl => by cases hl; exact ⟨[], .nil, by simp⟩
  | r :: rs, l, hl => by
    change (ob (resV P F st r) fun s => ob (resVs P F st rs) fun l => some (s :: l)) = some l at hl
    obtain ⟨s, hs, hl⟩ := ob_some hl
    obtain ⟨t, ht, hl⟩ := ob_some hl
    cases hl
    obtain ⟨vs, h1, h2⟩ := resVs_ok h hF ht
    have key : ∃ v, ((match r with | .tmp t => pure (a.tmps.getD t undef) | .cell x t => do loadVar t (← asAddr (a.tmps.getD x undef)) : Sem Value)).run P w = .ok v w ∧ Den σ β s v := by
      cases r with
      | tmp t =>
        obtain ⟨v, h3, h4⟩ := hF.tmp t s hs
        exact ⟨v, by simp [Array.getD_eq_getD_getElem?, h3], h4⟩
      | cell x t =>
        obtain ⟨q, hq, hs⟩ := ob_some hs
        obtain ⟨p, hp, hs⟩ := ob_some hs
        obtain ⟨v, h3, h4⟩ := hF.tmp x q hq
        rw [svPtr_some hp] at h4
        cases h4 with
        | ptr hb =>
          obtain ⟨u, h5, h6⟩ := loadV_ok (P := P) h hs hb
          exact ⟨u, by simp [Array.getD_eq_getD_getElem?, h3, asAddr, h5], h6⟩
    obtain ⟨v, h3, h4⟩ := key
    exact ⟨v :: vs, .cons h4 h1, by rw [List.mapM_cons]; simp only [Sem.run_bind, h3, h2, Result.andThen_ok, Sem.run_pure]⟩

theorem results_ok {P : Program} {σ w0 β} {st : St} {w : World} (h : Rep σ w0 β st w) {F : Fr} {a : Act} (hF : RepF σ β F a) {fn : Func} {l : List SV} (hl : resVs P F st fn.results.toList = some l) :
    ∃ v, (results fn a.tmps).run P w = .ok v w ∧ Den σ β (oneOr l) v := by
  obtain ⟨vs, h1, h2⟩ := resVs_ok h hF hl
  have hm : (fn.results.mapM (fun r => match r with | .tmp t => pure (a.tmps.getD t undef) | .cell x t => do loadVar t (← asAddr (a.tmps.getD x undef)) : ResultVar → Sem Value)).run P w = .ok vs.toArray w := by
    rw [Array.mapM_eq_mapM_toList, Sem.run_map, h2]; rfl
  have hr : (results fn a.tmps).run P w = .ok (if h : vs.toArray.size = 1 then vs.toArray[0] else .tuple vs.toArray) w := by
    have e : results fn a.tmps = ((fn.results.mapM (fun r => match r with | .tmp t => pure (a.tmps.getD t undef) | .cell x t => do loadVar t (← asAddr (a.tmps.getD x undef)) : ResultVar → Sem Value)) >>= fun vs => pure (if h : vs.size = 1 then vs[0] else .tuple vs)) := rfl
    rw [e, Sem.run_bind, hm]; rfl
  refine ⟨_, hr, ?_⟩
  cases h1 with
  | nil => exact .tuple .nil
  | cons hd tl =>
    cases tl with
    | nil => exact hd
    | cons hd2 tl2 =>
      rw [dif_neg (by simp)]
      exact .tuple (.cons hd (.cons hd2 tl2))

theorem setAll_get {l : List SV} : ∀ (i : Nat) (t : Tr SV) (j : Nat) (s : SV), (setAll i l t).get j = some s → (i ≤ j ∧ l[j - i]? = some s) ∨ (t.get j = some s) := by
  induction l with
  | nil => intro i t j s h; exact .inr h
  | cons x l ih =>
    intro i t j s h
    rcases ih (i + 1) (t.set i (some x)) j s h with ⟨h1, h2⟩ | h1
    · left
      refine ⟨by omega, ?_⟩
      rw [show j - i = (j - (i + 1)) + 1 by omega, List.getElem?_cons_succ]; exact h2
    · by_cases e : j = i
      · subst e
        rw [Tr.get_set_eq] at h1; cases h1
        left; exact ⟨Nat.le_refl _, by simp⟩
      · rw [Tr.get_set_ne _ _ e] at h1; exact .inr h1

theorem bodyOf_some {P : Program} {f : Nat} {b : Func × Code} (h : bodyOf P f = some b) : P.funcs[f]? = some b.1 ∧ b.1.body = some b.2 ∧ (b.1.name == "runtime.NumGoroutine") = false := by
  unfold bodyOf at h
  split at h
  · rename_i fn hfn
    split at h
    · cases h
    · rename_i hn
      cases hb : fn.body with
      | none => rw [hb] at h; cases h
      | some c => rw [hb] at h; cases h; exact ⟨hfn, hb, by simpa using hn⟩
  · cases h

theorem eCall_ok {P : Program} {rc : RC} (hrc : RCok P rc) {σ w0 β} {st : St} {w : World} (h : Rep σ w0 β st w) {f : Nat} {args : List SV} {vs : List Value} (hv : DenL σ β args vs) {k : SV → St → Bool} (hk : eCall P rc f args st k = true) :
    Calls P f vs.toArray w (fun e w' => ∃ v β' st' s, e = .returned v ∧ Ext β β' ∧ Rep σ w0 β' st' w' ∧ Den σ β' s v ∧ k s st' = true) ∧ (callFunc f vs.toArray).run P w = .ok (.enter f vs.toArray) w := by
  obtain ⟨b, hb, hk⟩ := optB_true hk
  obtain ⟨h1, h2, h3⟩ := bodyOf_some hb
  have h3' : ¬ b.1.name = "runtime.NumGoroutine" := by simpa using h3
  refine ⟨?_, by simp [callFunc, h1, h2, h3']⟩
  refine calls_of_wp h1 h2 (hrc σ w0 β st w b.2 _ _ _ _ h ?_ hk ?_)
  · refine ⟨by simp [hv.length, lenR_eq], rfl, fun i s hs => ?_⟩
    rcases setAll_get 0 .nil i s hs with ⟨_, h4⟩ | h4
    · obtain ⟨v, h5, h6⟩ := hv.get h4
      simp only [Nat.sub_zero] at h5
      have hlt : i < vs.length := by
        rcases Nat.lt_or_ge i vs.length with hh | hh
        · exact hh
        · rw [List.getElem?_eq_none hh] at h5; cases h5
      exact ⟨v, by rw [Array.getElem?_append_left (by simpa using hlt)]; simpa using h5, h6⟩
    · rw [Tr.get_nil] at h4; cases h4
  · intro e β' F' st' a' w' hext hR hRF hk'
    have key : optB (resVs P F' st' b.1.results.toList) (fun l => forceS (oneOr l) fun s => k s st') = true →
        a'.defers = [] ∧ ∃ v, (results b.1 a'.tmps).run P w' = .ok v w' ∧ ∃ v' β' st' s, Ending.returned v = .returned v' ∧ Ext β β' ∧ Rep σ w0 β' st' w' ∧ Den σ β' s v' ∧ k s st' = true := by
      intro hk2
      obtain ⟨l, hl, hk3⟩ := optB_true hk2
      rw [forceS_eq] at hk3
      obtain ⟨v, h5, h6⟩ := results_ok (P := P) hR hRF hl
      exact ⟨hRF.defers, v, h5, v, β', st', _, rfl, hext, hR, h6, hk3⟩
    cases e with
    | nrm => exact key hk'
    | ret => exact key hk'
    | ext id => cases hk'

/-- What an operation's step owes to what follows. -/
def Follows (σ : Nat → Nat) (w0 : World) (β : Nat → Option (Nat × Nat)) (k : SV → St → Bool) (next : Value → World → Prop) : Prop :=
  ∀ β' st' w' s v, Ext β β' → Rep σ w0 β' st' w' → Den σ β' s v → k s st' = true → next v w'

theorem opE_ok {P : Program} {rc : RC} (hrc : RCok P rc) {σ w0 β} {st : St} {w : World} (h : Rep σ w0 β st w) {F : Fr} {a : Act} (hF : RepF σ β F a) {o : Oper} {k : SV → St → Bool}
    (hk : opE P o.op rc F st k = true) {next : Act → World → Prop} {Q : Exit → Act → World → Prop} (hn : Follows σ w0 β k fun v w' => next (a.put o.dst v) w') : o.wp P a w next Q := by
  obtain ⟨dst, op, ty, pos, af, g⟩ := o
  unfold Oper.wp
  cases op <;> first | (cases hk; done) | skip
  case alloc e =>
    obtain ⟨z, hz, hk⟩ := optB_true hk
    obtain ⟨zv, h1, h2⟩ := zeroS_ok (P := P) (σ := σ) (β := β) hz w
    obtain ⟨β', w', st', h3, h4, h5, h6, _, h7⟩ := eNew_ok (P := P) h h2 hk
    have hrun : (execOp a.eval ⟨dst, .alloc e, ty, pos, af, g⟩).run P w = .ok (.value (.pointer (some ⟨w.heap.size, 0, none⟩))) w' := by
      simp only [execOp, Instr.alloc, Sem.run_bind, h1, Result.andThen_ok, newVar]
      simp only [Array.toArray_toList] at h3
      simp [h3]
    rw [hrun]
    exact hn _ _ _ _ _ h4 h5 (.ptr h6) h7
  case box e x =>
    obtain ⟨s, hs, hk⟩ := optB_true hk
    have h2 := cellsOf_den (opnd_ok hF hs)
    obtain ⟨β', w', st', h3, h4, h5, h6, _, h7⟩ := eNew_ok (P := P) h h2 hk
    have hrun : (execOp a.eval ⟨dst, .box e x, ty, pos, af, g⟩).run P w = .ok (.value (.pointer (some ⟨w.heap.size, 0, none⟩))) w' := by
      simp only [Array.toArray_toList] at h3
      simp [execOp, Instr.box, newVar, h3]
    rw [hrun]
    exact hn _ _ _ _ _ h4 h5 (.ptr h6) h7
  case buildSlice t len ps =>
    obtain ⟨e, he, hk⟩ := optB_true hk
    obtain ⟨n, hn', hk⟩ := optB_true hk
    obtain ⟨l, hl, hk⟩ := optB_true hk
    obtain ⟨z, hz, hk⟩ := optB_true hk
    obtain ⟨hc, hk⟩ := bc_false_true hk
    obtain ⟨hc1, hc2⟩ := band_eq hc
    obtain ⟨hc2, hc3⟩ := band_eq hc2
    obtain ⟨cs, hcs, hk⟩ := optB_true hk
    obtain ⟨zv, h1, h2⟩ := zeroS_ok (P := P) (σ := σ) (β := β) hz w
    have hn0 := of_nblt hc1
    have hzl : zv.cells.toList.length = n := by rw [← h2.length, ← lenR_eq]; exact of_nbeq hc2
    have hfa := opndPs_ok hF hl
    have hcells : ((Array.range (len * n)).map (fun i => zv.cells[i % zv.cells.size]!)).toList = (List.replicate len zv.cells.toList).flatten := by
      have := range_map_mod zv.cells.toList (by omega) len
      rw [hzl] at this
      simpa using this
    obtain ⟨arr, h3, h4⟩ := fillS_ok (fun i => some (i * n, n)) l _ (repl len z) ((Array.range (len * n)).map (fun i => zv.cells[i % zv.cells.size]!)) cs hfa (by rw [hcells]; exact repl_ok h2 len) hcs
    obtain ⟨β', w', st', h5, h6, h7, h8, h9, h10⟩ := eNew_ok (P := P) h h4 hk
    have hle : ¬ len * n > 2 ^ 24 := by have := of_nble hc3; show ¬ len * n > 16777216; have h' : len * n ≤ 16777216 := this; omega
    have h3' : Instr.fill (fun i => some (i * n, n)) ((Array.range (len * n)).map (fun i => zv.cells[i % zv.cells.size]!)) (List.map (fun x => (x.fst, a.eval x.snd)) ps.toList) = some arr := h3
    have hrun : (execOp a.eval ⟨dst, .buildSlice t len ps, ty, pos, af, g⟩).run P w = .ok (.value (.slice (some ⟨w.heap.size, 0, none⟩) len len)) w' := by
      simp only [Array.toArray_toList] at h5
      simp only [execOp, Instr.buildSlice, Sem.run_bind, run_underlying' (sliOf_some he), Result.andThen_ok, run_sizeOf' hn', hle, if_false, Sem.run_ite]
      by_cases h0 : len * n = 0
      · rw [if_pos h0]
        simp only [Sem.run_pure, Result.andThen_ok]
        have hlen : len = 0 := by
          rcases Nat.mul_eq_zero.1 h0 with h' | h'
          · exact h'
          · omega
        subst hlen
        have er : Array.range 0 = #[] := rfl
        rw [Nat.zero_mul, er] at h3'
        rw [Nat.zero_mul, er]
        simp only [List.map_toArray, List.map_nil] at h3' ⊢
        simp [h3', h5]
      · rw [if_neg h0]
        simp only [h1, Result.andThen_ok, Sem.run_pure]
        simp [h3', h5]
    rw [hrun]
    have hp : Nat.pred st'.nn = st.nn := by rw [h9]; rfl
    rw [hp] at h10
    exact hn _ _ _ _ _ h6 h7 (.slice h8) h10
  case load t x =>
    obtain ⟨r, hr, hk⟩ := optB_true hk
    rw [forceS_eq] at hk
    obtain ⟨s, hs, hr⟩ := ob_some hr
    obtain ⟨p, hp, hr⟩ := ob_some hr
    have hd := opnd_ok hF hs
    rw [svPtr_some hp] at hd
    generalize hv : a.eval x = v at hd
    cases hd with
    | ptr hb =>
      obtain ⟨u, h1, h2⟩ := loadV_ok (P := P) h hr hb
      have hrun : (execOp a.eval ⟨dst, .load t x, ty, pos, af, g⟩).run P w = .ok (.value u) w := by simp [execOp, Instr.loadAt, Instr.sureAddr, hv, h1]
      rw [hrun]
      exact hn _ _ _ _ _ (Ext.refl β) h h2 hk
  case store t x y =>
    obtain ⟨st', hst, hk⟩ := optB_true hk
    obtain ⟨s, hs, hst⟩ := ob_some hst
    obtain ⟨p, hp, hst⟩ := ob_some hst
    obtain ⟨q, hq, hst⟩ := ob_some hst
    have hd := opnd_ok hF hs
    have hd2 := opnd_ok hF hq
    rw [svPtr_some hp] at hd
    generalize hv : a.eval x = v at hd
    cases hd with
    | ptr hb =>
      obtain ⟨w', h1, h2⟩ := storeV_ok (P := P) h hd2 hst hb
      have hrun : (execOp a.eval ⟨dst, .store t x y, ty, pos, af, g⟩).run P w = .ok .skip w' := by simp [execOp, Instr.storeAt, Instr.sureAddr, hv, h1]
      rw [hrun]
      exact hn _ _ _ _ _ (Ext.refl β) h2 (.tuple .nil) hk
  case call c =>
    obtain ⟨callee, args, argTypes⟩ := c
    cases callee <;> first | (cases hk; done) | skip
    case builtin b =>
      change bc (Nat.beq b.ctorIdx Builtin.append.ctorIdx) (optB (opnds F args.toList) fun xs => optB (eAppend P argTypes.toList xs st) fun r => forceS r.1 fun s => k s r.2) false = true at hk
      obtain ⟨hb, hk2⟩ := bc_false_true hk
      clear hk
      obtain ⟨xs, hxs, hk2⟩ := optB_true hk2
      obtain ⟨r, hr, hk2⟩ := optB_true hk2
      rw [forceS_eq] at hk2
      have := builtin_idx (of_nbeq hb)
      subst this
      have hl := opnds_ok hF hxs
      have hargs : (List.map a.eval args.toList).toArray = Array.map a.eval args := by apply Array.ext'; simp
      obtain ⟨v, w', β', h1, h2, h3, h4⟩ := eAppend_ok (P := P) h hl hr ty
      rw [hargs] at h1
      have hrun : (execOp a.eval ⟨dst, .call ⟨.builtin .append, args, argTypes⟩, ty, pos, af, g⟩).run P w = .ok (.value v) w' := by
        simp [execOp, resolve, invoke, builtin, h1]
      rw [hrun]
      exact hn _ _ _ _ _ h2 h3 h4 hk2
    rename_i x
    change (optB (opnd F x) fun s => optB (svFunc s) fun f => optB (opnds F args.toList) fun args => eCall P rc f.1 (appR args f.2) st k) = true at hk
    obtain ⟨s, hs, hk⟩ := optB_true hk
    obtain ⟨f, hf, hk⟩ := optB_true hk
    obtain ⟨xs, hxs, hk⟩ := optB_true hk
    have hd := opnd_ok hF hs
    rw [svFunc_some hf] at hd
    have hl := opnds_ok hF hxs
    generalize hv : a.eval x = v at hd
    cases hd with
    | func hcap =>
      rename_i cvs
      have hall := hl.append hcap
      rw [appR_eq] at hk
      obtain ⟨h1, h2⟩ := eCall_ok hrc h hall hk
      have hargs : (Array.map a.eval args ++ cvs.toArray) = (List.map a.eval args.toList ++ cvs).toArray := by
        apply Array.ext'; simp
      have hrun : (execOp a.eval ⟨dst, .call ⟨.value x, args, argTypes⟩, ty, pos, af, g⟩).run P w = .ok (.enter f.1 (List.map a.eval args.toList ++ cvs).toArray) w := by
        simp only [execOp, resolve, hv, Deferred.ofValue, Sem.run_bind, Sem.run_pure, Result.andThen_ok, invoke]
        rw [show (#[] ++ Array.map a.eval args ++ cvs.toArray) = (List.map a.eval args.toList ++ cvs).toArray from by rw [← hargs]; simp]
        exact h2
      rw [hrun]
      refine Calls.mono h1 fun e w' he => ?_
      obtain ⟨v, β', st', s, rfl, h3, h4, h5, h6⟩ := he
      exact hn _ _ _ _ _ h3 h4 h5 h6

theorem opK0_ok {P : Program} {rc : RC} (hrc : RCok P rc) {σ w0 β} {st : St} {w : World} (h : Rep σ w0 β st w) {F : Fr} {a : Act} (hF : RepF σ β F a) {o : Oper} {k : SV → St → Bool}
    (hk : opK0 P rc o.op F st k = true) {next : Act → World → Prop} {Q : Exit → Act → World → Prop} (hn : Follows σ w0 β k fun v w' => next (a.put o.dst v) w') : o.wp P a w next Q := by
  unfold opK0 at hk
  cases hv : opV2 P o.op F st.pc with
  | none => rw [hv] at hk; exact opE_ok hrc h hF hk hn
  | some s =>
    rw [hv] at hk
    change forceS s (fun s => k s st) = true at hk
    rw [forceS_eq] at hk
    obtain ⟨v, h1, h2⟩ := opV2_ok (P := P) hF h.pc hv w
    unfold Oper.wp
    rw [h1]
    exact hn _ _ _ _ _ (Ext.refl β) h h2 hk

theorem opK_ok {P : Program} {rc : RC} (hrc : RCok P rc) {σ w0 β} {st : St} {w : World} (h : Rep σ w0 β st w) {F : Fr} {a : Act} (hF : RepF σ β F a) {o : Oper} {k : SV → St → Bool}
    (hk : opK P rc o.op F st k = true) {next : Act → World → Prop} {Q : Exit → Act → World → Prop} (hn : Follows σ w0 β k fun v w' => next (a.put o.dst v) w') : o.wp P a w next Q := by
  obtain ⟨F', st', h1, h2, _, h3⟩ := concrO_ok h hF hk
  exact opK0_ok hrc h1 h2 h3 hn

/-! ### Regions -/
theorem stepI_ok {P : Program} {rc : RC} (hrc : RCok P rc) {σ w0 β} {st : St} {w : World} (h : Rep σ w0 β st w) {ops : Array Oper} {i : Nat} {F : Fr} {a : Act} (hF : RepF σ β F a) {k : Fr → St → Bool}
    (hk : stepI P rc ops i F st k = true) {K : Act → World → Prop} {Q : Exit → Act → World → Prop}
    (hn : ∀ β' F' st' a' w', Ext β β' → Rep σ w0 β' st' w' → RepF σ β' F' a' → k F' st' = true → K a' w') : wpOp P ops Q i K a w := by
  obtain ⟨o, ho, hk⟩ := optB_true hk
  unfold wpOp
  simp only [ho]
  have exe : ∀ st1, Rep σ w0 β st1 w → opK P rc o.op F st1 (fun s st' => F.put o.dst s fun F' => k F' st') = true → o.wp P a w K Q := by
    intro st1 hR hk1
    refine opK_ok hrc hR hF hk1 ?_
    intro β' st' w' s v h1 h2 h3 h4
    obtain ⟨F', h5, h6⟩ := RepF.put (hF.mono h1) h3 h4
    exact hn _ _ _ _ _ h1 h2 h5 h6
  have skp : ∀ st1, Rep σ w0 β st1 w → (F.put o.dst (.tuple []) fun F' => k F' st1) = true → K (a.put o.dst undef) w := by
    intro st1 hR hk1
    obtain ⟨F', h5, h6⟩ := RepF.put hF (v := undef) (.tuple .nil) hk1
    exact hn _ _ _ _ _ (Ext.refl β) hR h5 h6
  cases hg : o.guard with
  | none =>
    rw [hg] at hk
    have hw : Region.wanted o (yielded ops a.tmps) = true := by simp [Region.wanted, hg]
    simp only [hw, if_true]
    exact .inl (exe st h hk)
  | some g =>
    rw [hg] at hk
    obtain ⟨j, want⟩ := g
    obtain ⟨d, hd, hk⟩ := optB_true hk
    obtain ⟨s, hs, hk⟩ := optB_true hk
    obtain ⟨v, h1, h2⟩ := hF.tmp d s hs
    cases ht : svBool s with
    | none =>
      rw [ht] at hk
      obtain ⟨_, htup, hk⟩ := optB_true hk
      rw [svTup_some htup] at h2
      cases h2 with
      | tuple _ =>
        have hy : yielded ops a.tmps j = none := by
          unfold yielded
          have : (ops[j]?).bind (·.dst) = some d := hd
          simp [this, h1]
        have hw : Region.wanted o (yielded ops a.tmps) = false := by simp [Region.wanted, hg, hy]
        rw [hw]; exact skp st h hk
    | some t =>
    rw [ht] at hk
    rw [svBool_some ht] at h2
    cases h2 with
    | bool hle =>
      have hy : yielded ops a.tmps j = some (t.ev σ != 0) := by
        unfold yielded
        have : (ops[j]?).bind (·.dst) = some d := hd
        simp [this, h1]
      have hw : Region.wanted o (yielded ops a.tmps) = ((t.ev σ != 0) == want) := by simp [Region.wanted, hg, hy]
      rw [hw]
      rcases br_ok h hk with ⟨e, st', hR, _, _, hk'⟩ | ⟨e, st', hR, _, _, hk'⟩
      · have e1 : (t.ev σ != 0) = true := by simpa using e
        cases want
        · simp only [e1]; exact skp st' hR hk'
        · simp only [e1]; exact .inl (exe st' hR hk')
      · have e1 : (t.ev σ != 0) = false := by simpa using e
        cases want
        · simp only [e1]; exact .inl (exe st' hR hk')
        · simp only [e1]; exact skp st' hR hk'

theorem runI_ok {P : Program} {rc : RC} (hrc : RCok P rc) {σ w0} {ops : Array Oper} {Q : Exit → Act → World → Prop} : ∀ (l : List Nat) {β} {st : St} {w : World} {F : Fr} {a : Act} {k : Fr → St → Bool},
    Rep σ w0 β st w → RepF σ β F a → runI P rc ops l F st k = true →
    (∀ β' F' st' a' w', Ext β β' → Rep σ w0 β' st' w' → RepF σ β' F' a' → k F' st' = true → Q .normal a' w') → wpOps P ops Q l a w
  | [], β, st, w, F, a, k, h, hF, hk, hn => hn _ _ _ _ _ (Ext.refl β) h hF hk
  | i :: l, β, st, w, F, a, k, h, hF, hk, hn => by
    rw [wpOps_cons]
    refine stepI_ok hrc h hF (k := fun F st => runI P rc ops l F st k) hk ?_
    intro β' F' st' a' w' h1 h2 h3 h4
    exact runI_ok hrc l h2 h3 h4 fun β2 F2 st2 a2 w2 k1 k2 k3 k4 => hn _ _ _ _ _ (h1.trans k1) k2 k3 k4

/-! ### A region whose order is drawn -/
/-- What is read there stands. -/
def CI (P : Program) (cs : List (TypeId × Addr × Value)) (w : World) : Prop := ∀ e ∈ cs, (loadVar e.1 e.2.1).run P w = .ok e.2.2 w
inductive StabR (σ : Nat → Nat) (β : Nat → Option (Nat × Nat)) : List SE → List (TypeId × Addr × Value) → Prop
  | nil : StabR σ β [] []
  | cons {t : TypeId} {o off b c : Nat} {s : SV} {v : Value} {l : List SE} {cs : List (TypeId × Addr × Value)} (hb : β o = some (b, c)) (hv : Den σ β s v) (t' : StabR σ β l cs) : StabR σ β (⟨t, o, off, s⟩ :: l) ((t, ⟨b, off, none⟩, v) :: cs)
theorem StabR.mono {σ} {β β' : Nat → Option (Nat × Nat)} (e : Ext β β') : ∀ {l : List SE} {cs : List (TypeId × Addr × Value)}, StabR σ β l cs → StabR σ β' l cs
  | _, _, .nil => .nil
  | _, _, .cons hb hv t => .cons (e _ _ hb) (hv.mono e) (StabR.mono e t)
theorem chk_ok {P : Program} {σ w0 β} {st : St} {w : World} (h : Rep σ w0 β st w) : ∀ {l : List SE} {cs : List (TypeId × Addr × Value)}, StabR σ β l cs → chk P l st = true → CI P cs w
  | _, _, .nil, _ => fun e he => by cases he
  | _, _, .cons (t := t) (o := o) (off := off) (b := b) (s := s) (v := v) (l := l) hb hv tl, hk => by
    change bc (optB' (loadV P st t o off) fun v => sameS 6 v s) (chk P l st) (Bool.not true) = true at hk
    cases hc : optB' (loadV P st t o off) fun v => sameS 6 v s
    · rw [hc] at hk; cases hk
    · rw [hc] at hk
      obtain ⟨v', hv', hs⟩ := optB'_true hc
      have := sameS_eq 6 hs
      subst this
      obtain ⟨u, h1, h2⟩ := loadV_ok (P := P) h hv' hb
      intro e he
      rcases List.mem_cons.1 he with rfl | he
      · show (loadVar t ⟨b, off, none⟩).run P w = .ok v w
        rw [h1, Den.det h2 hv]
      · exact chk_ok h tl hk e he

theorem eagerE_ok {P : Program} {σ w0 β} {st : St} {w : World} (h : Rep σ w0 β st w) {F : Fr} {a : Act} (hF : RepF σ β F a) {o : Oper} {l : List SE} {cs : List (TypeId × Addr × Value)} (hl : StabR σ β l cs) (hc : CI P cs w) {k : List SE → SV → Bool}
    (hk : eagerE P o.op l F st k = true) :
    ∃ l' cs' s v, StabR σ β l' cs' ∧ CI P cs' w ∧ (∀ w, CI P cs' w → CI P cs w) ∧ Den σ β s v ∧ (∀ w, CI P cs' w → (execOp a.eval o).run P w = .ok (.value v) w) ∧ k l' s = true := by
  unfold eagerE at hk
  cases hv : opV2 P o.op F st.pc with
  | some s =>
    rw [hv] at hk
    change forceS s (fun s => k l s) = true at hk
    rw [forceS_eq] at hk
    obtain ⟨v, h1, h2⟩ := opV2_yields (P := P) hF h.pc hv
    exact ⟨l, cs, s, v, hl, hc, fun _ h => h, h2, fun w _ => h1 w, hk⟩
  | none =>
    rw [hv] at hk
    obtain ⟨dst, op, ty, pos, af, g⟩ := o
    cases op <;> first | (cases hk; done) | skip
    rename_i t x
    change (optB (opnd F x) fun s => optB (svPtr s) fun p => optB (loadV P st t p.1 p.2) fun v => forceS v fun v => k (⟨t, p.1, p.2, v⟩ :: l) v) = true at hk
    obtain ⟨s, hs, hk⟩ := optB_true hk
    obtain ⟨p, hp, hk⟩ := optB_true hk
    obtain ⟨r, hr, hk⟩ := optB_true hk
    rw [forceS_eq] at hk
    have hd := opnd_ok hF hs
    rw [svPtr_some hp] at hd
    generalize hv : a.eval x = v at hd
    cases hd with
    | ptr hb =>
      rename_i b c
      obtain ⟨u, h1, h2⟩ := loadV_ok (P := P) h hr hb
      refine ⟨_, (t, ⟨b, p.2, none⟩, u) :: cs, r, u, .cons hb h2 hl, ?_, ?_, h2, ?_, hk⟩
      · intro e he
        rcases List.mem_cons.1 he with rfl | he
        · exact h1
        · exact hc e he
      · exact fun w hw e he => hw e (List.mem_cons_of_mem _ he)
      · intro w hw
        have h3 := hw _ List.mem_cons_self
        simp only at h3
        simp [execOp, Instr.loadAt, Instr.sureAddr, hv, h3]

theorem eagerI_ok {P : Program} {σ w0 β} {st : St} {w : World} (h : Rep σ w0 β st w) {ops : Array Oper} {i : Nat} {F : Fr} {a : Act} (hF : RepF σ β F a) {l : List SE} {cs : List (TypeId × Addr × Value)} (hl : StabR σ β l cs) (hc : CI P cs w) {k : List SE → Fr → St → Bool}
    (hk : eagerI P ops i l F st k = true) :
    ∃ o v l' cs' F' st', ops[i]? = some o ∧ StabR σ β l' cs' ∧ CI P cs' w ∧ (∀ w, CI P cs' w → CI P cs w) ∧ Rep σ w0 β st' w ∧ RepF σ β F' (a.put o.dst v) ∧ YieldsI P ops (CI P cs') o v a ∧ k l' F' st' = true := by
  obtain ⟨o, ho, hk⟩ := optB_true hk
  have exe : ∀ st1, Rep σ w0 β st1 w → Region.wanted o (yielded ops a.tmps) = true → (concrO o.op F st1 fun F2 st => eagerE P o.op l F2 st fun l s => F.put o.dst s fun F' => k l F' st) = true →
      ∃ o v l' cs' F' st', ops[i]? = some o ∧ StabR σ β l' cs' ∧ CI P cs' w ∧ (∀ w, CI P cs' w → CI P cs w) ∧ Rep σ w0 β st' w ∧ RepF σ β F' (a.put o.dst v) ∧ YieldsI P ops (CI P cs') o v a ∧ k l' F' st' = true := by
    intro st1 hR hw hk1
    obtain ⟨F2, st2, hR2, hF2, _, hk2⟩ := concrO_ok hR hF hk1
    obtain ⟨l', cs', s, v, h1, h2, h3, h4, h5, h6⟩ := eagerE_ok hR2 hF2 hl hc hk2
    obtain ⟨F', h7, h8⟩ := RepF.put hF h4 h6
    exact ⟨o, v, l', cs', F', st2, ho, h1, h2, h3, hR2, h7, .inl ⟨hw, h5⟩, h8⟩
  have skp : ∀ st1, Rep σ w0 β st1 w → Region.wanted o (yielded ops a.tmps) = false → (F.put o.dst (.tuple []) fun F' => k l F' st1) = true →
      ∃ o v l' cs' F' st', ops[i]? = some o ∧ StabR σ β l' cs' ∧ CI P cs' w ∧ (∀ w, CI P cs' w → CI P cs w) ∧ Rep σ w0 β st' w ∧ RepF σ β F' (a.put o.dst v) ∧ YieldsI P ops (CI P cs') o v a ∧ k l' F' st' = true := by
    intro st1 hR hw hk1
    obtain ⟨F', h5, h6⟩ := RepF.put hF (v := undef) (.tuple .nil) hk1
    exact ⟨o, undef, l, cs, F', st1, ho, hl, hc, fun _ h => h, hR, h5, .inr ⟨hw, rfl⟩, h6⟩
  cases hg : o.guard with
  | none =>
    rw [hg] at hk
    exact exe st h (by simp [Region.wanted, hg]) hk
  | some g =>
    rw [hg] at hk
    obtain ⟨j, want⟩ := g
    obtain ⟨d, hd, hk⟩ := optB_true hk
    obtain ⟨s, hs, hk⟩ := optB_true hk
    obtain ⟨v, h1, h2⟩ := hF.tmp d s hs
    cases ht : svBool s with
    | none =>
      rw [ht] at hk
      obtain ⟨_, htup, hk⟩ := optB_true hk
      rw [svTup_some htup] at h2
      cases h2 with
      | tuple _ =>
        have hy : yielded ops a.tmps j = none := by
          unfold yielded
          have : (ops[j]?).bind (·.dst) = some d := hd
          simp [this, h1]
        have hw : Region.wanted o (yielded ops a.tmps) = false := by simp [Region.wanted, hg, hy]
        exact skp st h hw hk
    | some t =>
    rw [ht] at hk
    rw [svBool_some ht] at h2
    cases h2 with
    | bool hle =>
      have hy : yielded ops a.tmps j = some (t.ev σ != 0) := by
        unfold yielded
        have : (ops[j]?).bind (·.dst) = some d := hd
        simp [this, h1]
      have hw : Region.wanted o (yielded ops a.tmps) = ((t.ev σ != 0) == want) := by simp [Region.wanted, hg, hy]
      rcases br_ok h hk with ⟨e, st', hR, _, _, hk'⟩ | ⟨e, st', hR, _, _, hk'⟩
      · have e1 : (t.ev σ != 0) = true := by simpa using e
        cases want
        · exact skp st' hR (by rw [hw, e1]; rfl) hk'
        · exact exe st' hR (by rw [hw, e1]; rfl) hk'
      · have e1 : (t.ev σ != 0) = false := by simpa using e
        cases want
        · exact exe st' hR (by rw [hw, e1]; rfl) hk'
        · exact skp st' hR (by rw [hw, e1]; rfl) hk'

theorem runD_ok {P : Program} {rc : RC} (hrc : RCok P rc) {σ w0} {ops : Array Oper} {Q : Exit → Act → World → Prop} (hQ : ∀ c a w, ¬ Q (.panic c) a w) (hsel : noSel ops = true) : ∀ (n : Nat) (listed : Array Bool) {s : Sch} {β} {st : St} {w : World} {F : Fr} {a : Act} {l : List SE} {cs : List (TypeId × Addr × Value)} {k : Fr → St → Bool},
    sched ops n listed = some s → Rep σ w0 β st w → RepF σ β F a → StabR σ β l cs → CI P cs w → runD P rc ops s l F st k = true →
    (∀ β' F' st' a' w', Ext β β' → Rep σ w0 β' st' w' → RepF σ β' F' a' → k F' st' = true → Q .normal a' w') → wpAnyI P .any ops Q (CI P cs) n listed a w := by
  intro n
  induction n with
  | zero =>
    intro listed s β st w F a l cs k hs h hF hl hc hk hn
    unfold sched at hs
    split at hs
    · rename_i he
      cases hs
      exact ⟨hc, by simpa using he, hn _ _ _ _ _ (Ext.refl β) h hF hk⟩
    · cases hs
  | succ n ih =>
    intro listed s β st w F a l cs k hs h hF hl hc hk hn
    unfold sched at hs
    cases hr : Region.ready .any ops listed with
    | nil =>
      rw [hr] at hs
      cases hs
      exact wpAnyI_done _ hc hr (hn _ _ _ _ _ (Ext.refl β) h hF hk)
    | cons x r =>
      rw [hr] at hs
      dsimp only at hs
      -- one that is forced
      have forced : ∀ (i : Nat) (s' : Sch), i ∈ Region.ready .any ops listed → sched ops n (listed.setIfInBounds i true) = some s' →
          (stepI P rc ops i F st fun F st => bc (chk P l st) (runD P rc ops s' l F st k) false) = true → wpOp P ops Q i (wpAnyI P .any ops Q (CI P cs) n (listed.setIfInBounds i true)) a w := by
        intro i s' hi hs' hk'
        refine stepI_ok hrc h hF hk' ?_
        intro β' F' st' a' w' h1 h2 h3 h4
        obtain ⟨h5, h6⟩ := bc_false_true h4
        exact ih _ hs' h2 h3 (hl.mono h1) (chk_ok h2 (hl.mono h1) h5) h6 fun β2 F2 st2 a2 w2 k1 k2 k3 k4 => hn _ _ _ _ _ (h1.trans k1) k2 k3 k4
      cases hf : (x :: r).find? (eagerOK ops listed) with
      | some i =>
        rw [hf] at hs
        dsimp only at hs
        cases hs' : sched ops n (listed.setIfInBounds i true) with
        | none => rw [hs'] at hs; cases hs
        | some s' =>
          rw [hs'] at hs
          cases hs
          have hmem : i ∈ Region.ready .any ops listed := by rw [hr]; exact List.mem_of_find?_eq_some hf
          have hok := List.find?_some hf
          unfold eagerOK at hok
          rw [Bool.and_eq_true] at hok
          obtain ⟨o, v, l', cs', F', st', h1, h2, h3, h4, h5, h6, h7, h8⟩ := eagerI_ok h hF hl hc (k := fun l F st => runD P rc ops s' l F st k) hk
          have key := ih (listed.setIfInBounds i true) hs' h5 h6 h2 h3 h8 hn
          exact wpAnyI_weaken h4 _ _ _ _ (wpAnyI_first hQ h1 (noSel_spec hsel) n listed a w (freeAt_spec h1 hok.2) hmem h7 h3 key)
      | none =>
        rw [hf] at hs
        dsimp only at hs
        cases r with
        | nil =>
          dsimp only at hs
          cases hs' : sched ops n (listed.setIfInBounds x true) with
          | none => rw [hs'] at hs; cases hs
          | some s' =>
            rw [hs'] at hs
            cases hs
            refine ⟨hc, (fun e => by rw [hr] at e; cases e), fun i hi => ?_⟩
            have : i = x := by rw [hr] at hi; simpa using hi
            subst this
            exact forced i s' hi hs' hk
        | cons y r =>
          cases r with
          | cons _ _ => cases hs
          | nil =>
            dsimp only at hs
            cases hsx : sched ops n (listed.setIfInBounds x true) with
            | none => rw [hsx] at hs; cases hs
            | some sx =>
              rw [hsx] at hs
              cases hsy : sched ops n (listed.setIfInBounds y true) with
              | none => rw [hsy] at hs; cases hs
              | some sy =>
                rw [hsy] at hs
                cases hs
                obtain ⟨hkx, hky⟩ := band_eq hk
                refine ⟨hc, (fun e => by rw [hr] at e; cases e), fun i hi => ?_⟩
                have hi' := hi
                rw [hr] at hi
                rcases List.mem_cons.1 hi with e | hi
                · subst e; exact forced i sx hi' hsx hkx
                · have : i = y := by simpa using hi
                  subst this
                  exact forced i sy hi' hsy hky

theorem rounds_ok {P : Program} {rc : RC} (hrc : RCok P rc) {σ w0} {body : Code} {Q : Exit → Act → World → Prop} : ∀ (n : Nat) {β} {st : St} {w : World} {F : Fr} {a : Act} {k : KC},
    Rep σ w0 β st w → RepF σ β F a → rounds rc body n F st k = true →
    (∀ e β' F' st' a' w', Ext β β' → Rep σ w0 β' st' w' → RepF σ β' F' a' → k e F' st' = true → Q e.to a' w') → Code.rounds P body Q n a w
  | 0, _, _, _, _, _, _, _, _, hk, _ => by cases hk
  | n + 1, β, st, w, F, a, k, h, hF, hk, hn => by
    rw [rounds_succ]
    refine hrc σ w0 β st w body F a _ _ h hF hk ?_
    intro e β' F' st' a' w' h1 h2 h3 h4
    cases e with
    | nrm => exact rounds_ok hrc n h2 h3 h4 fun e β2 F2 st2 a2 w2 k1 k2 k3 k4 => hn e _ _ _ _ _ (h1.trans k1) k2 k3 k4
    | ext id => exact hn (.ext id) _ _ _ _ _ h1 h2 h3 h4
    | ret => exact hn .ret _ _ _ _ _ h1 h2 h3 h4

theorem codeS_ok {P : Program} (hm : P.follows .mixedOrders = true) {LF : Nat} {rc : RC} (hrc : RCok P rc) : RCok P (fun c => codeS P LF rc c) := by
  intro σ w0 β st w c F a k Q h hF hk hn
  cases c with
  | skip => exact wp_skip (hn .nrm _ _ _ _ _ (Ext.refl β) h hF hk)
  | region id ops draw =>
    cases draw
    · exact wp_region (runI_ok hrc _ h hF hk fun β' F' st' a' w' h1 h2 h3 h4 => hn .nrm _ _ _ _ _ h1 h2 h3 h4)
    · change (optB (schedOf ops) fun s => runD P rc ops s [] F st fun F st => k .nrm F st) = true at hk
      obtain ⟨s, hs, hk⟩ := optB_true hk
      unfold schedOf at hs
      split at hs
      · rename_i hsel
        have hw : (Code.region id ops true).wp P (fun e a w => match e with | .normal => Q .normal a w | _ => False) a w := by
          refine wp_region_any hm (wpAnyI_any (I := CI P []) _ _ _ _ ?_)
          exact runD_ok hrc (fun _ _ _ h => h) hsel ops.size _ hs h.drew hF .nil (fun e he => by cases he) hk fun β' F' st' a' w' h1 h2 h3 h4 => hn .nrm _ _ _ _ _ h1 h2 h3 h4
        refine wp_mono hw fun e a w he => ?_
        cases e <;> first | exact he | exact he.elim
      · cases hs
  | seq x y =>
    refine wp_seq (hrc σ w0 β st w x F a _ _ h hF hk ?_)
    intro e β' F' st' a' w' h1 h2 h3 h4
    cases e with
    | nrm => exact hrc σ w0 β' st' w' y F' a' _ _ h2 h3 h4 fun e β2 F2 st2 a2 w2 k1 k2 k3 k4 => hn e _ _ _ _ _ (h1.trans k1) k2 k3 k4
    | ext id => exact hn (.ext id) _ _ _ _ _ h1 h2 h3 h4
    | ret => exact hn .ret _ _ _ _ _ h1 h2 h3 h4
  | cond x thn els =>
    obtain ⟨s, hs, hk⟩ := optB_true hk
    obtain ⟨t, ht, hk⟩ := optB_true hk
    have hd := opnd_ok hF hs
    rw [svBool_some ht] at hd
    generalize hv : a.eval x = v at hd
    cases hd with
    | bool hle =>
      rcases br_ok h hk with ⟨e, st', hR, _, _, hk'⟩ | ⟨e, st', hR, _, _, hk'⟩
      · have e1 : (t.ev σ != 0) = true := by simpa using e
        rw [e1] at hv
        exact wp_cond_true hv (hrc σ w0 β st' w thn F a _ _ hR hF hk' hn)
      · have e1 : (t.ev σ != 0) = false := by simpa using e
        rw [e1] at hv
        exact wp_cond_false hv (hrc σ w0 β st' w els F a _ _ hR hF hk' hn)
  | block id body =>
    refine wp_block (hrc σ w0 β st w body F a _ _ h hF hk ?_)
    intro e β' F' st' a' w' h1 h2 h3 h4
    cases e with
    | nrm => exact hn .nrm _ _ _ _ _ h1 h2 h3 h4
    | ext id' =>
      change bc (Nat.beq id' id) _ _ = true at h4
      show (if id' = id then _ else _)
      by_cases e : id' = id
      · rw [if_pos e]; rw [nbeq_t e] at h4; exact hn .nrm _ _ _ _ _ h1 h2 h3 h4
      · rw [if_neg e]; rw [nbeq_f e] at h4; exact hn (.ext id') _ _ _ _ _ h1 h2 h3 h4
    | ret => exact hn .ret _ _ _ _ _ h1 h2 h3 h4
  | loop body => exact wp_loop_rounds LF (rounds_ok hrc LF h hF hk hn)
  | rangeFunc _ _ _ _ => cases hk
  | exit id => exact wp_exit (hn (.ext id) _ _ _ _ _ (Ext.refl β) h hF hk)
  | scope body =>
    refine wp_scope_straight (hrc σ w0 β st w body F a _ _ h hF hk ?_)
    intro e β' F' st' a' w' h1 h2 h3 h4
    cases e with
    | nrm => exact hn .nrm _ _ _ _ _ h1 h2 h3 h4
    | ext id' => exact hn (.ext id') _ _ _ _ _ h1 h2 h3 h4
    | ret => exact hn .ret _ _ _ _ _ h1 h2 h3 h4
  | label l => exact wp_label (hn .nrm _ _ _ _ _ (Ext.refl β) h hF hk)
  | goto _ => cases hk
  | ret => exact wp_ret (hn .ret _ _ _ _ _ (Ext.refl β) h hF hk)
  | refuse _ => cases hk

theorem exec_ok {P : Program} (hm : P.follows .mixedOrders = true) (LF : Nat) : ∀ n, RCok P (exec P LF n)
  | 0 => fun _ _ _ _ _ _ _ _ _ _ _ _ hk _ => by cases hk
  | n + 1 => codeS_ok hm (exec_ok hm LF n)

end Go.Sx
end

section
/- A law from one symbolic run. -/
namespace Go.Sx
open Go.RowKit

noncomputable def st0 (cz : Nat) (hs : List Hint) (lems : List Vc) : St := ⟨.nil, 0, ⟨[], [], [], [], lems, cz, hs⟩⟩
theorem rep0 (σ : Nat → Nat) {cz : Nat} {hs : List Hint} {lems : List Vc} (hl : ∀ v ∈ lems, v.ok σ) (w : World) : Rep σ w (fun _ => none) (st0 cz hs lems) w := by
  refine ⟨⟨?_, ?_, ?_, ?_, hl⟩, Below.refl _ _, fun _ _ => rfl, ?_, ?_⟩
  · intro t h; cases h
  · intro t h; cases h
  · intro t h; cases h
  · intro t h; cases h
  · intro o he h
    change Tr.get .nil o = some he at h
    rw [Tr.get_nil] at h; cases h
  · intro o o' he he' b c c' h
    change Tr.get .nil o = some he at h
    rw [Tr.get_nil] at h; cases h

/-- The end of a law: true. -/
noncomputable def endTrue (s : SV) (st : St) : Bool := optB (svBool s) fun t => br st t (fun _ => true) (fun _ => false)
/-- What is assumed on this way, ahead of all. -/
noncomputable def pcA (pc : PC) (asm : List Tm) : PC := List.rec pc (fun t _ ih => PC.add ih t false) asm
theorem pcA_ok {σ} {pc : PC} (h : pc.ok σ) {asm : List Tm} (ha : ∀ t ∈ asm, t.ev σ ≠ 0) : (pcA pc asm).ok σ := by
  induction asm with
  | nil => exact h
  | cons t l ih => exact PC.add_ok (ih fun x hx => ha x (List.mem_cons_of_mem _ hx)) (t := t) (neg := false) ⟨fun _ => ha t List.mem_cons_self, (fun h => by cases h)⟩
noncomputable def lawRun (P : Program) (cz : Nat) (hs : List Hint) (LF n f : Nat) (lems : List Vc) (asm : List Tm) (args : List SV) : Bool :=
  forcePC (pcA (st0 cz hs lems).pc asm) fun pc => eCall P (exec P LF n) f args ⟨.nil, 0, pc⟩ endTrue

theorem lawRun_ok {P : Program} (hm : P.follows .mixedOrders = true) {cz : Nat} {hs : List Hint} {LF n f : Nat} {lems : List Vc} {asm : List Tm} {args : List SV} (h : lawRun P cz hs LF n f lems asm args = true) (σ : Nat → Nat) (hl : ∀ v ∈ lems, v.ok σ)
    (ha : ∀ t ∈ asm, t.ev σ ≠ 0) {vs : List Value} (hv : DenL σ (fun _ => none) args vs) (w : World) :
    Calls P f vs.toArray w fun e w' => e = .returned (.bool true) ∧ Below w.heap.size w w' := by
  unfold lawRun at h
  rw [forcePC_eq] at h
  have h0 := rep0 (cz := cz) (hs := hs) σ hl w
  obtain ⟨h1, _⟩ := eCall_ok (exec_ok hm LF n) (h0.assume (pcA_ok h0.pc ha)) hv h
  refine Calls.mono h1 fun e w' he => ?_
  obtain ⟨v, β', st', s, rfl, _, h4, h5, h6⟩ := he
  refine ⟨?_, h4.below⟩
  obtain ⟨t, ht, h6⟩ := optB_true h6
  rw [svBool_some ht] at h5
  cases h5 with
  | bool hlt =>
    rcases br_ok h4 h6 with ⟨h7, _⟩ | ⟨_, _, _, _, _, h7⟩
    · congr 2
      simpa using h7
    · cases h7

end Go.Sx
end

section
/- A row from one symbolic run: parameters that are numbers, truths, and structs and arrays of these. -/
namespace Go.Sx
open Go.RowKit Go.ChangeShapes Go.WideShapes

/-- The symbolic value of a cell's type; its variable's number. -/
noncomputable def symCell (P : Program) (t : TypeId) (i : Nat) : Option SV :=
  match P.underlying t with
  | some (.int k) => some (.int k (.var i k.bits))
  | some .bool => some (.bool (.var i 1))
  | _ => none
noncomputable def symCells (P : Program) (ts : List TypeId) : Nat → Option (List SV) :=
  List.rec (motive := fun _ => Nat → Option (List SV)) (fun _ => some []) (fun t _ ih i => (symCell P t i).bind fun s => (ih (Nat.succ i)).bind fun l => some (s :: l)) ts
noncomputable def symOne (P : Program) (t : TypeId) (i : Nat) : Option (SV × Nat) :=
  match P.underlying t with
  | some (.struct _) | some (.array _ _) => (P.cellTypes P.depth t).bind fun ts => bc (Nat.beq (P.cellsOf t) ts.length) ((symCells P ts i).bind fun l => some (.agg l, i + ts.length)) none
  | _ => (symCell P t i).bind fun s => some (s, i + 1)
noncomputable def symArgs (P : Program) (ts : List TypeId) : Nat → Option (List SV) :=
  List.rec (motive := fun _ => Nat → Option (List SV)) (fun _ => some []) (fun t _ ih i => (symOne P t i).bind fun s => (ih s.2).bind fun l => some (s.1 :: l)) ts

theorem wrap_has {k : IntKind} {n : Int} (h : k.has n) : k.wrap n = n := by
  obtain ⟨h1, h2⟩ := h
  have hp : (2 : Int) ^ k.bits = 2 * 2 ^ (k.bits - 1) := by
    have := bits_pos k
    conv => lhs; rw [show k.bits = (k.bits - 1) + 1 by omega, Int.pow_succ]
    omega
  have hpos : (0 : Int) < 2 ^ (k.bits - 1) := by exact_mod_cast Nat.two_pow_pos (k.bits - 1)
  unfold IntKind.min at h1
  unfold IntKind.max at h2
  unfold IntKind.wrap
  cases hs : k.signed
  · rw [hs] at h1 h2
    simp only [Bool.false_eq_true, if_false] at h1 h2
    have : n % 2 ^ k.bits = n := Int.emod_eq_of_lt (by omega) (by omega)
    simp [this]
  · rw [hs] at h1 h2
    simp only [if_true] at h1 h2
    by_cases h0 : 0 ≤ n
    · have : n % 2 ^ k.bits = n := Int.emod_eq_of_lt h0 (by omega)
      simp only [this, Bool.true_and]
      rw [if_neg (by simp; omega)]
    · have : n % 2 ^ k.bits = n + 2 ^ k.bits := by
        rw [← Int.add_emod_right, Int.emod_eq_of_lt (by omega) (by omega)]
      simp only [this, Bool.true_and]
      rw [if_pos (by simp; omega)]
      omega
theorem int_bits {k : IntKind} {n : Int} (h : k.has n) : ofB k ((n % 2 ^ k.bits).toNat) = n := by
  have hp : (0 : Int) < 2 ^ k.bits := by exact_mod_cast Nat.two_pow_pos k.bits
  have h0 : 0 ≤ n % 2 ^ k.bits := Int.emod_nonneg _ (by omega)
  have h1 : ((n % 2 ^ k.bits).toNat : Int) = n % 2 ^ k.bits := Int.toNat_of_nonneg h0
  have h2 : k.wrap n = n := wrap_has h
  unfold ofB
  rw [h1]
  conv => rhs; rw [← h2]
  exact wrap_congr (Int.emod_emod_of_dvd _ (Int.dvd_refl _))
theorem int_lt (k : IntKind) (n : Int) : (n % 2 ^ k.bits).toNat < 2 ^ k.bits := by
  have hp : (0 : Int) < 2 ^ k.bits := by exact_mod_cast Nat.two_pow_pos k.bits
  have h0 : 0 ≤ n % 2 ^ k.bits := Int.emod_nonneg _ (by omega)
  have h1 := Int.emod_lt_of_pos n hp
  have h2 : ((n % 2 ^ k.bits).toNat : Int) = n % 2 ^ k.bits := Int.toNat_of_nonneg h0
  have : ((n % 2 ^ k.bits).toNat : Int) < ((2 ^ k.bits : Nat) : Int) := by rw [h2]; exact_mod_cast h1
  exact_mod_cast this

theorem symCell_ok {P : Program} {W : World} {r : Reach} {b : Nat} {t : TypeId} {v : Value} {i : Nat} {s : SV} (hv : Cell.okWide P W r b t v) (hs : symCell P t i = some s) :
    ∃ n : Nat, ∀ (σ : Nat → Nat) (β : Nat → Option (Nat × Nat)), σ i = n → Den σ β s v := by
  unfold symCell at hs
  unfold Cell.okWide at hv
  cases hu : P.underlying t with
  | none => rw [hu] at hs; cases hs
  | some d =>
    rw [hu] at hs hv
    cases d <;> first | (cases hs; done) | skip
    · cases hs
      cases v <;> simp only [Cell.ok, hu] at hv
      rename_i x
      refine ⟨x.toNat, fun σ β h => ?_⟩
      have e : (Tm.var i 1).ev σ = x.toNat := by
        show σ i % 2 ^ 1 = _
        rw [h]; cases x <;> rfl
      have := Den.bool (σ := σ) (β := β) (t := .var i 1) (by rw [e]; cases x <;> decide)
      rw [e] at this
      have e2 : (x.toNat != 0) = x := by cases x <;> rfl
      rw [e2] at this; exact this
    · cases hs
      rename_i k
      cases v <;> simp only [Cell.ok, hu] at hv
      rename_i k' n
      obtain ⟨rfl, hn⟩ := hv
      refine ⟨(n % 2 ^ k'.bits).toNat, fun σ β h => ?_⟩
      have e : (Tm.var i k'.bits).ev σ = (n % 2 ^ k'.bits).toNat := by
        show σ i % 2 ^ k'.bits = _
        rw [h]; exact Nat.mod_eq_of_lt (int_lt k' n)
      have := Den.int (σ := σ) (β := β) (k := k') (t := .var i k'.bits) (by rw [e]; exact int_lt k' n)
      rw [e, int_bits hn] at this; exact this

theorem symCells_ok {P : Program} {W : World} {r : Reach} {b : Nat} : ∀ {ts : List TypeId} {vs : List Value} {i : Nat} {l : List SV}, (∀ (j : Nat) (v : Value), vs[j]? = some v → ∃ u, ts[j]? = some u ∧ Cell.okWide P W r b u v) → vs.length = ts.length → symCells P ts i = some l →
    ∃ f : Nat → Nat, ∀ (σ : Nat → Nat) (β : Nat → Option (Nat × Nat)), (∀ j, i ≤ j → j < i + ts.length → σ j = f j) → DenL σ β l vs
  | [], [], i, l, _, _, hs => by
    cases hs
    exact ⟨fun _ => 0, fun _ _ _ => .nil⟩
  | [], _ :: _, _, _, _, hl, _ => by cases hl
  | _ :: _, [], _, _, _, hl, _ => by cases hl
  | t :: ts, v :: vs, i, l, hv, hl, hs => by
    change (symCell P t i).bind (fun s => (symCells P ts (Nat.succ i)).bind fun l => some (s :: l)) = some l at hs
    cases h1 : symCell P t i with
    | none => rw [h1] at hs; cases hs
    | some s =>
      rw [h1] at hs
      change (symCells P ts (Nat.succ i)).bind (fun l => some (s :: l)) = some l at hs
      cases h2 : symCells P ts (Nat.succ i) with
      | none => rw [h2] at hs; cases hs
      | some l' =>
        rw [h2] at hs
        cases hs
        obtain ⟨u, hu, hc⟩ := hv 0 v rfl
        cases hu
        obtain ⟨n, hn⟩ := symCell_ok hc h1
        obtain ⟨f, hf⟩ := symCells_ok (ts := ts) (vs := vs) (fun j v h => hv (j + 1) v h) (by simpa using hl) h2
        refine ⟨fun j => if j = i then n else f j, fun σ β h => ?_⟩
        refine .cons (hn σ β ?_) (hf σ β fun j h1 h2 => ?_)
        · rw [h i (Nat.le_refl _) (by simp)]; exact if_pos rfl
        · have : ¬ j = i := by intro e; subst e; exact absurd h1 (Nat.not_succ_le_self _)
          rw [h j (Nat.le_of_succ_le h1) (by simp only [List.length_cons]; rw [Nat.succ_eq_add_one] at h1 h2; omega)]; exact if_neg this

theorem symOne_ok {P : Program} {W : World} {r : Reach} {b : Nat} {t : TypeId} {v : Value} {i : Nat} {s : SV × Nat} (hv : Value.okWide P W r b t v) (hs : symOne P t i = some s) :
    i ≤ s.2 ∧ ∃ f : Nat → Nat, ∀ (σ : Nat → Nat) (β : Nat → Option (Nat × Nat)), (∀ j, i ≤ j → j < s.2 → σ j = f j) → Den σ β s.1 v := by
  have cell : ∀ {s : SV × Nat}, Cell.okWide P W r b t v → ((symCell P t i).bind fun s => some (s, i + 1)) = some s →
      i ≤ s.2 ∧ ∃ f : Nat → Nat, ∀ (σ : Nat → Nat) (β : Nat → Option (Nat × Nat)), (∀ j, i ≤ j → j < s.2 → σ j = f j) → Den σ β s.1 v := by
    intro s hv hs
    cases h1 : symCell P t i with
    | none => rw [h1] at hs; cases hs
    | some x =>
      rw [h1] at hs; cases hs
      obtain ⟨n, hn⟩ := symCell_ok hv h1
      exact ⟨Nat.le_succ i, fun _ => n, fun σ β h => hn σ β (h i (Nat.le_refl _) (Nat.lt_succ_self _))⟩
  have agg : ∀ {s : SV × Nat}, (∃ cs, v = .agg cs ∧ cs.size = P.cellsOf t ∧ Row.okWide P W r b t cs) →
      ((P.cellTypes P.depth t).bind fun ts => bc (Nat.beq (P.cellsOf t) ts.length) ((symCells P ts i).bind fun l => some (.agg l, i + ts.length)) none) = some s →
      i ≤ s.2 ∧ ∃ f : Nat → Nat, ∀ (σ : Nat → Nat) (β : Nat → Option (Nat × Nat)), (∀ j, i ≤ j → j < s.2 → σ j = f j) → Den σ β s.1 v := by
    rintro s ⟨cs, rfl, hsz, ts, hts, -, hrow⟩ hs
    rw [hts] at hs
    change bc (Nat.beq (P.cellsOf t) ts.length) ((symCells P ts i).bind fun l => some (SV.agg l, i + ts.length)) none = some s at hs
    cases hb : Nat.beq (P.cellsOf t) ts.length
    · rw [hb] at hs; cases hs
    · rw [hb] at hs
      change (symCells P ts i).bind (fun l => some (SV.agg l, i + ts.length)) = some s at hs
      cases h2 : symCells P ts i with
      | none => rw [h2] at hs; cases hs
      | some l =>
        rw [h2] at hs; cases hs
        have hlen : cs.toList.length = ts.length := by rw [Array.length_toList, hsz]; exact of_nbeq hb
        obtain ⟨f, hf⟩ := symCells_ok (ts := ts) (vs := cs.toList) (i := i) (l := l) (fun j x hx => by
          obtain ⟨u, hu, hc⟩ := hrow j x (by rw [← Array.getElem?_toList]; exact hx)
          have hj : j < ts.length := by
            rw [← hlen]
            exact (List.getElem?_eq_some_iff.1 hx).1
          rw [Nat.mod_eq_of_lt hj] at hu
          exact ⟨u, hu, hc⟩) hlen h2
        exact ⟨Nat.le_add_right _ _, f, fun σ β h => .agg (vs := cs.toList) (hf σ β h)⟩
  unfold symOne at hs
  unfold Value.okWide at hv
  cases hu : P.underlying t with
  | none => rw [hu] at hs hv; exact cell hv hs
  | some d =>
    rw [hu] at hs hv
    cases d <;> first | exact cell hv hs | exact agg hv hs

theorem symArgs_ok {P : Program} {W : World} {r : Reach} {b : Nat} : ∀ {ts : List TypeId} {vs : List Value} {i : Nat} {l : List SV}, (∀ (j : Nat) (t : TypeId) (v : Value), ts[j]? = some t → vs[j]? = some v → Value.okWide P W r b t v) → vs.length = ts.length → symArgs P ts i = some l →
    ∃ f : Nat → Nat, ∀ (σ : Nat → Nat) (β : Nat → Option (Nat × Nat)), (∀ j, i ≤ j → σ j = f j) → DenL σ β l vs
  | [], [], i, l, _, _, hs => by
    cases hs
    exact ⟨fun _ => 0, fun _ _ _ => .nil⟩
  | [], _ :: _, _, _, _, hl, _ => by cases hl
  | _ :: _, [], _, _, _, hl, _ => by cases hl
  | t :: ts, v :: vs, i, l, hv, hl, hs => by
    change (symOne P t i).bind (fun s => (symArgs P ts s.2).bind fun l => some (s.1 :: l)) = some l at hs
    cases h1 : symOne P t i with
    | none => rw [h1] at hs; cases hs
    | some s =>
      rw [h1] at hs
      change (symArgs P ts s.2).bind (fun l => some (s.1 :: l)) = some l at hs
      cases h2 : symArgs P ts s.2 with
      | none => rw [h2] at hs; cases hs
      | some l' =>
        rw [h2] at hs
        cases hs
        obtain ⟨hle, g, hg⟩ := symOne_ok (hv 0 t v rfl rfl) h1
        obtain ⟨f, hf⟩ := symArgs_ok (ts := ts) (vs := vs) (fun j t v h => hv (j + 1) t v h) (by simpa using hl) h2
        refine ⟨fun j => if j < s.2 then g j else f j, fun σ β h => ?_⟩
        refine .cons (hg σ β fun j h1 h2 => ?_) (hf σ β fun j h1 => ?_)
        · rw [h j h1]; exact if_pos h2
        · rw [h j (Nat.le_trans hle h1)]; exact if_neg (Nat.not_lt.2 h1)

/-! ### The row -/
section
variable {H : Type} {enc : TypeId × Value → H} {P : Program}

theorem trodAll_len {w : World} {base : Nat} {sp : Nat → Bool} {held : Bool} : ∀ {ts : List TypeId} {vs : List Value} {ds : List (DataW H)} {ps : List MemPlace}, DataW.TrodAll enc P w base sp held ts vs ds ps → vs.length = ts.length ∧ ds.length = ts.length
  | [], vs, ds, ps, h => by obtain ⟨rfl, rfl, rfl⟩ := trodAll_nil h; exact ⟨rfl, rfl⟩
  | t :: ts, vs, ds, ps, h => by
    obtain ⟨v, vs', d, ds', p, q, rfl, rfl, rfl, _, hr⟩ := trodAll_cons h
    obtain ⟨h1, h2⟩ := trodAll_len hr
    exact ⟨by simp [h1], by simp [h2]⟩
theorem trodAll_below (hl : laidOutB P = true) {W W' : World} (hb : Below W.heap.size W W') : ∀ {ts : List TypeId} {vs : List Value} {ds : List (DataW H)} {ps : List MemPlace}, (ts.all fun t => P.readableRec t && decide (t < P.types.size)) = true →
    DataW.TrodAll enc P W 0 (fun _ => true) true ts vs ds ps → (∀ x ∈ ps, x.block < W.heap.size) → DataW.TrodAll enc P W' 0 (fun b => decide (b < W.heap.size)) true ts vs ds ps
  | [], vs, ds, ps, _, h, _ => by obtain ⟨rfl, rfl, rfl⟩ := trodAll_nil h; exact trodAll_mk0
  | t :: ts, vs, ds, ps, hr, h, hlt => by
    obtain ⟨v, vs', d, ds', p, q, rfl, rfl, rfl, h1, h2⟩ := trodAll_cons h
    simp only [List.all_cons, Bool.and_eq_true, decide_eq_true_eq] at hr
    exact trodAll_cons_mk (Below.trod hl hr.1.1 hr.1.2 h1 hb fun x hx => hlt x (List.mem_append_left _ hx)) (trodAll_below hl hb (by simpa using hr.2) h2 fun x hx => hlt x (List.mem_append_right _ hx))

theorem law_contract (hm : P.follows .mixedOrders = true) (hl : laidOutB P = true) {fn : Func} {s : ChangeSpec} {f : Nat} {svs : List SV} {tb : TypeId}
    (hsym : symArgs P fn.params.toList 0 = some svs) (hrun : ∀ σ : Nat → Nat, ∃ cz hs LF n lems asm, lawRun P cz hs LF n f lems asm svs = true ∧ (∀ v ∈ lems, v.ok σ) ∧ ∀ t ∈ asm, t.ev σ ≠ 0)
    (hrow : (fn.params.toList.all fun t => P.readableRec t && decide (t < P.types.size)) = true) (hvars : s.vars = []) (hres : fn.resultTypes = #[tb]) (htb : P.underlying tb = some .bool)
    (hfn : ∀ ds : List (DataW H), ds.length = fn.params.toList.length → s.fn H ds = { results := [.lit (.bool true)], args := ds })
    (W : World) (base : Nat) (args : Array Value) (ds gs : List (DataW H)) (before : List MemPlace)
    (hval : ∀ (j : Nat) t v, fn.params[j]? = some t → args[j]? = some v → Value.okWide P W .any base t v)
    (hW : DataW.Whole enc P fn.params.toList s.vars false W args.toList ds gs before) :
    Calls P f args W fun e W' => ∃ v, e = .returned v ∧ s.post enc P fn false true false false W args v W' := by
  have hW' := hW
  obtain ⟨p, q, hA, hV, rfl, hfz, hnd⟩ := hW
  obtain ⟨hlen, hdl⟩ := trodAll_len hA
  rw [hvars] at hV
  obtain ⟨rfl, rfl⟩ := trodVars_none hV
  obtain ⟨g, hg⟩ := symArgs_ok (ts := fn.params.toList) (vs := args.toList) (i := 0) (fun j t v ht hv => hval j t v (by rw [← Array.getElem?_toList]; exact ht) (by rw [← Array.getElem?_toList]; exact hv)) hlen hsym
  obtain ⟨cz, hs, LF, n, lems, asm, hrun, hlems, hasm⟩ := hrun g
  have hc := lawRun_ok hm hrun g hlems hasm (vs := args.toList) (hg g _ fun _ _ => rfl) W
  refine Calls.mono hc fun e W' he => ?_
  obtain ⟨rfl, hb⟩ := he
  have hlt : ∀ x ∈ p, x.block < W.heap.size := fun x hx => by simpa using hW'.lt x (List.mem_append_left _ hx)
  refine ⟨_, rfl, ds, [], p ++ [], [], p, [], hW', ?_, ?_, ?_, ?_, fun h => by cases h⟩
  all_goals first
    | (rw [List.append_nil, hfn ds hdl]
       first
         | (rw [hres]; exact trodAll_mk1 (shut_bool htb true))
         | exact trodAll_below hl hb hrow hA hlt
         | (rw [hvars]; exact rfl)
         | exact hb.frame _)
    | exact hb.frame _
end

end Go.Sx
end
