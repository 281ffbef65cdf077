/- A symbolic run of the program: effects, regions. -/
import Derived.Test.YthbdkghbkoibdaaSyC
import Derived.Deep.AppendSrc
import Derived.Orders
import Derived.Scope
import Derived.LoopN

section
/- append. -/
namespace Go.Sy
open Go.RowKit

theorem growBy_le (need : Nat) : ∀ (r c : Nat), c < need → Builtin.growBy need r c ≤ 2 * need + 200
  | 0, c, h => by simp only [Builtin.growBy]; omega
  | r + 1, c, h => by
    simp only [Builtin.growBy]
    split
    · omega
    · by_cases h' : c + (c + 768) / 4 < need
      · exact growBy_le need r _ h'
      · cases r with
        | zero => simp only [Builtin.growBy]; omega
        | succ r => simp only [Builtin.growBy]; rw [if_pos (by omega)]; omega
theorem nextslicecap_le {need c : Nat} (h : c < need) : Builtin.nextslicecap need c ≤ 2 * need + 200 := by
  unfold Builtin.nextslicecap
  split
  · omega
  · split
    · omega
    · exact growBy_le need 4 c h
theorem grownCap_ge (w : World) (need old : Nat) (e : TypeId) : need ≤ grownCap w need old e := Nat.le_add_right _ _
theorem zeroCells_len (z : Array Value) (n : Nat) : (Builtin.zeroCells z n).toList.length = n * z.size := by simp [Builtin.zeroCells]

/-- What is known of an object's cells, under all that agree; the object itself. -/
theorem cellsOb_C {M σ w0 β} {st : St} {w : World} (h : RepC M σ w0 β st w) {o : Nat} {cs : List SV} (hc : cellsOb st o = some cs) {b c : Nat} (hb : β o = some (b, c)) :
    ∃ vs, DenLC st.pc.nv σ β cs vs ∧ ∀ j v, vs[j]? = some v → w.cell? (⟨b, j, none⟩ : Addr) = some v := by
  obtain ⟨vs, h1, h2⟩ := cellsOb_ok (h.2 σ (Ag.refl _ _)) hc hb
  refine ⟨vs, fun σ' ha => ?_, h2⟩
  obtain ⟨vs', h3, h4⟩ := cellsOb_ok (h.2 σ' ha) hc hb
  have : vs' = vs := by
    apply List.ext_getElem?
    intro i
    have l1 := h1.length
    have l3 := h3.length
    by_cases hi : i < vs.length
    · have hi' : i < vs'.length := by omega
      have e1 := h2 i _ (List.getElem?_eq_getElem hi)
      have e2 := h4 i _ (List.getElem?_eq_getElem hi')
      rw [e1] at e2
      rw [List.getElem?_eq_getElem hi, List.getElem?_eq_getElem hi']
      exact e2.symm
    · rw [List.getElem?_eq_none (by omega), List.getElem?_eq_none (by omega)]
  rw [this] at h3; exact h3
theorem DenLC.take {nv σ β a va} (h : DenLC nv σ β a va) (n : Nat) : DenLC nv σ β (a.take n) (va.take n) := fun σ' ha => (h σ' ha).take n
theorem DenLC.drop {nv σ β a va} (h : DenLC nv σ β a va) (n : Nat) : DenLC nv σ β (a.drop n) (va.drop n) := fun σ' ha => (h σ' ha).drop n
/-- n cells from a place on. -/
theorem mid_C {M σ w0 β} {st : St} {w : World} (h : RepC M σ w0 β st w) {o off n : Nat} {cs m : List SV} (hc : cellsOb st o = some cs) (hm : midR cs off n = some m) {b c : Nat} (hb : β o = some (b, c)) :
    ∃ vs, DenLC st.pc.nv σ β m vs ∧ vs.length = n ∧ ∀ j v, vs[j]? = some v → w.cell? ((⟨b, off, none⟩ : Addr).add j) = some v := by
  obtain ⟨vs, h1, h2⟩ := cellsOb_C h hc hb
  obtain ⟨e1, e2⟩ := midR_some hm
  have hd : DenLC st.pc.nv σ β m ((vs.drop off).take n) := by rw [e1]; exact (h1.drop off).take n
  have hl := (hd σ (Ag.refl _ _)).length
  refine ⟨(vs.drop off).take n, hd, by omega, fun j v hj => ?_⟩
  have hjn : j < n := by
    rcases Nat.lt_or_ge j n with hjn | hjn
    · exact hjn
    · rw [List.getElem?_eq_none (by omega)] at hj; cases hj
  rw [List.getElem?_take_of_lt hjn, List.getElem?_drop] at hj
  rw [add_off]; exact h2 _ _ hj

/-- The cells of n elements from a slice's place on. -/
noncomputable def slCells (st : St) (q : SlV) (k : Nat) : Option (List SV) := Option.rec (ow (Nat.beq k 0) (some [])) (fun p => ob (cellsOb st p.1) fun cs => midR cs p.2 k) q.at_
noncomputable def srcS (P : Program) (st : St) (tx : TypeId) (z : Nat) (x : SV) : Option (Nat × List SV) :=
  Option.rec (ob (svStr x) fun b => ow (band (isStrT P tx) (Nat.beq z 1)) (some (lenR b, b)))
    (fun q => ob (sliOf P tx) fun _ => ob (slCells st q (Nat.mul q.len z)) fun cs => some (q.len, cs)) (svSl x)
theorem srcS_ok {P : Program} {M σ w0 β} {st : St} {w : World} (h : RepC M σ w0 β st w) {tx : TypeId} {z : Nat} {x : SV} {v : Value} (hd : DenC st.pc.nv σ β x v) {r : Nat × List SV} (hr : srcS P st tx z x = some r) (h1 : allOne r.2 = true) :
    ∃ news, Src P z tx v r.1 news w ∧ DenLC st.pc.nv σ β r.2 news := by
  unfold srcS at hr
  cases hq : svSl x with
  | none =>
    rw [hq] at hr
    obtain ⟨b, hb, hr⟩ := ob_some hr
    obtain ⟨hc, hr⟩ := ow_some hr
    obtain ⟨hc1, hc2⟩ := band_eq hc
    cases hr
    have h0 := svStr_some hb hd.at
    generalize hv : v = vv at h0
    cases h0 with
    | str hl =>
      rename_i bs
      have := of_nbeq hc2
      subst this
      refine ⟨byteCells bs, ?_, fun σ' ha => ?_⟩
      · have e : lenR b = bs.size := by rw [lenR_eq, hl.length, byteVals_length]
        rw [e]
        exact Src.ofString w (isStrT_some hc1) bs
      · have h1 := svStr_some hb (hd σ' ha)
        rw [hv] at h1
        cases h1 with
        | str hl' => exact hl'
  | some q =>
    rw [hq] at hr
    obtain ⟨e', he', hr⟩ := ob_some hr
    obtain ⟨cs, hcs, hr⟩ := ob_some hr
    cases hr
    unfold slCells at hcs
    rcases svSl_den hq hd.at with ⟨k1, k2, k3, rfl⟩ | ⟨o, off, b, c, cap, k1, k2, rfl, k3, k4⟩
    · rw [k1] at hcs
      obtain ⟨hz, hcs⟩ := ow_some hcs
      cases hcs
      rw [k2]
      exact ⟨[], Src.ofNil w (sliOf_some he') 0, DenLC.nil⟩
    · rw [k1] at hcs
      obtain ⟨cs0, hc0, hcs⟩ := ob_some hcs
      obtain ⟨vs, j1, j2, j3⟩ := mid_C h hc0 hcs k2
      exact ⟨vs, Src.ofSlice w (sliOf_some he') ⟨b, off, none⟩ q.len cap vs j2 j3 (allOne_ok (j1 σ (Ag.refl _ _)) h1), j1⟩

/-- The prefix that is known of an object that may grow. -/
noncomputable def grownAt (st : St) (o z : Nat) : Option (List SV × Nat) := ob (st.hp.get o) fun he => bc he.ro none (SObj.rec (fun _ _ => none) (fun cs e z' => ow (Nat.beq z' z) (some (cs, e))) (fun _ => none) (fun _ _ _ => none) (fun _ _ _ _ => none) (fun _ => none) (fun _ _ => none) (fun _ => none) he.ob)
noncomputable def stRename (st : St) (o : Nat) (ob : SObj) (k : St → Ans) : Ans := forceTr ((st.hp.set o none).set st.nn (some ⟨ob, false⟩)) fun hp => forceN (Nat.succ st.nn) fun nn => k ⟨hp, nn, st.pc⟩
theorem stRename_eq (st : St) (o : Nat) (ob : SObj) (k : St → Ans) : stRename st o ob k = k (st.rename o ob) := by unfold stRename; rw [forceTr_eq, forceN_eq]; rfl

noncomputable def appK (P : Program) (tx e z bytes : Nat) (st : St) (s x : SV) (k : SV → St → Ans) : Ans :=
  oa 130 (svSl s) fun q => oa 131 (srcS P st tx z x) fun r => wa 132 (allOne r.2) (forceN (Nat.add q.len r.1) fun need => forceN st.nn fun nn =>
    Option.rec (motive := fun _ => Ans)
      (oa 133 q.at_ fun p => wa 133 (Nat.beq p.2 0) (oa 134 (grownAt st p.1 z) fun g => oa 135 (midR g.1 0 (Nat.mul q.len z)) fun olds =>
        wa 136 (band (Nat.beq g.2 e) (band (Nat.blt need 4294967296) (Nat.ble (Nat.mul (Nat.add (Nat.mul 2 need) 200) bytes) 281474976710656)))
          (forceL (appR olds r.2) fun cs => stRename st p.1 (.grown cs e z) fun st' => k (.sliceU nn need) st')))
      (fun cap => bc (Nat.ble need cap)
        (Option.rec (motive := fun _ => Ans) (wa 137 (Nat.beq r.1 0) (k .snil st)) (fun p => storeCs st p.1 (Nat.add p.2 (Nat.mul q.len z)) r.2 fun st' => k (.slice p.1 p.2 need cap) st') q.at_)
        (oa 138 (slCells st q (Nat.mul q.len z)) fun olds =>
          wa 139 (band (Nat.blt need 4294967296) (Nat.ble (Nat.mul (Builtin.nextslicecap need cap) bytes) 281474976710656))
            (forceL (appR olds r.2) fun cs => stNew st (.grown cs e z) fun st' => k (.sliceU nn need) st'))) q.cap)

theorem DenLC.at'' {nv σ β l m} (h : DenLC nv σ β l m) : DenL σ β l m := h σ (Ag.refl _ _)

theorem appK_ok {P : Program} {L M σ w0 β} {st : St} {w : World} (h : RepC M σ w0 β st w) {t tx e : TypeId} {i : TypeInfo} {zv : Value} (hu : P.underlying t = some (.slice e)) (hi : P.info? e = some i) (hzv : i.zero = some zv) (hzsz : zv.cells.size = i.size)
    {s x : SV} {vS vX : Value} (hs : DenC st.pc.nv σ β s vS) (hx : DenC st.pc.nv σ β x vX) {k : SV → St → Ans} (hk : (appK P tx e i.size i.bytes st s x k).sat L σ) (ty : TypeId) :
    ∃ v w' β' st' r, (Builtin.append_ #[t, tx] ty #[vS, vX]).run P w = .ok v w' ∧ Ext β β' ∧ st'.pc = st.pc ∧ RepC M σ w0 β' st' w' ∧ DenC st.pc.nv σ β' r v ∧ (k r st').sat L σ := by
  obtain ⟨q, hq, hk⟩ := oa_sat hk
  obtain ⟨src, hsrc, hk⟩ := oa_sat hk
  obtain ⟨h1, hk⟩ := wa_sat hk
  rw [forceN_eq, forceN_eq] at hk
  obtain ⟨news, hS, hN⟩ := srcS_ok (P := P) h hx hsrc h1
  have hnl : news.length = src.1 * i.size := hS.newsLen
  have hsAll : ∀ σ', Ag st.pc.nv σ σ' → Den σ' β s vS := hs
  rcases svSl_den hq hs.at with ⟨k1, k2, k3, rfl⟩ | ⟨o, off, b, c, cap, k1, k2, rfl, k3, k4⟩
  · -- nil
    rw [k3] at hk
    change (bc (Nat.ble (q.len + src.1) 0) _ _ : Ans).sat L σ at hk
    rw [k2, k1] at hk
    cases hle : Nat.ble (0 + src.1) 0
    · rw [hle] at hk
      obtain ⟨olds, ho, hk⟩ := oa_sat hk
      obtain ⟨hb, hk⟩ := wa_sat hk
      obtain ⟨hb1, hb2⟩ := band_eq hb
      rw [forceL_eq, stNew_eq, appR_eq] at hk
      unfold slCells at ho
      rw [k1] at ho
      obtain ⟨_, ho⟩ := ow_some ho
      cases ho
      have hpos : 0 < 0 + src.1 := by
        rcases Nat.eq_zero_or_pos (0 + src.1) with hh | hh
        · rw [hh] at hle; cases hle
        · exact hh
      have hb1' := of_nblt hb1
      have hb2' := of_nble hb2
      have hg := run_append_grow_src (P := P) w t tx ty e i zv hu hi hzv none 0 0 [] (by simp [Builtin.firstCells]) vX src.1 news hS hpos (by change 0 + src.1 < _ at hb1'; omega) hb2'
      have hgc : 0 + src.1 ≤ grownCap w (0 + src.1) 0 e := grownCap_ge _ _ _ _
      obtain ⟨j1, j2, j3⟩ := (h.drew).new (c := grownCap w (0 + src.1) 0 e) (ob := .grown ([] ++ src.2) e i.size)
        (x := .cells ((news ++ (Builtin.zeroCells zv.cells (grownCap w (0 + src.1) 0 e - (0 + src.1))).toList).toArray) e (0, 0))
        (fun σ' ha => .grown (by exact hN σ' ha) (by rw [List.length_append, hnl, zeroCells_len, hzsz, ← Nat.add_mul]; congr 1; omega))
      refine ⟨_, _, _, st.new (.grown ([] ++ src.2) e i.size), .sliceU st.nn (0 + src.1), hg, j1, rfl, ?_, fun σ' _ => .sliceU j2 hgc (fun _ => rfl), hk⟩
      have : ((([] ++ news).toArray ++ Builtin.zeroCells zv.cells (grownCap w (0 + src.1) 0 e - (0 + src.1))) : Array Value) = (news ++ (Builtin.zeroCells zv.cells (grownCap w (0 + src.1) 0 e - (0 + src.1))).toList).toArray := by
        apply Array.ext'; simp
      rw [this]
      exact j3
    · rw [hle] at hk
      obtain ⟨h0, hk⟩ := wa_sat hk
      have hn0 := of_nbeq h0
      refine ⟨.slice none 0 0, w, β, st, .snil, ?_, Ext.refl β, rfl, h, fun _ _ => .snil, hk⟩
      have hne : news = [] := by
        have : news.length = 0 := by rw [hnl, hn0, Nat.zero_mul]
        exact List.eq_nil_of_length_eq_zero this
      subst hne
      rw [hn0] at hS
      rcases hS.kind with ⟨e', hkk⟩ | hkk <;> simp [Builtin.append_, run_underlying' hu, run_underlying' hkk, sizeOf, typeInfo, hi, hS.len, hS.cells]
  · cases hcap : q.cap with
    | none =>
      rw [hcap] at hk
      obtain ⟨p, hp, hk⟩ := oa_sat hk
      rw [k1] at hp; cases hp
      obtain ⟨hoff, hk⟩ := wa_sat hk
      have hoff : off = 0 := of_nbeq hoff
      subst hoff
      obtain ⟨sh, _, _, hcapc, hlc, hz0⟩ := k4 hcap
      have hsh := hz0 rfl
      subst hsh
      have hcapc : cap = c := hcapc
      subst hcapc
      obtain ⟨g, hg, hk⟩ := oa_sat hk
      obtain ⟨olds, ho, hk⟩ := oa_sat hk
      obtain ⟨hb, hk⟩ := wa_sat hk
      obtain ⟨hb0, hb⟩ := band_eq hb
      obtain ⟨hb1, hb2⟩ := band_eq hb
      rw [forceL_eq, stRename_eq, appR_eq] at hk
      have hfin := hk
      clear hk
      have hge := of_nbeq hb0
      have hb1' := of_nblt hb1
      have hb2' := of_nble hb2
      -- the object
      unfold grownAt at hg
      obtain ⟨he0, hhe, hg⟩ := ob_some hg
      obtain ⟨ob0, ro0⟩ := he0
      cases ro0 with
      | true => cases hg
      | false =>
        cases ob0 with
        | cells _ _ => cases hg
        | map _ => cases hg
        | iter _ _ _ => cases hg
        | sym _ _ _ _ => cases hg
        | imap _ => cases hg
        | siter _ _ => cases hg
        | tab _ => cases hg
        | grown cs0 e0 z0 =>
          obtain ⟨hz0, hg⟩ := ow_some hg
          cases hg
          have hz0' := of_nbeq hz0
          subst hz0'
          change e0 = e at hge
          subst hge
          have hcs0 : cellsOb st o = some cs0 := by unfold cellsOb; rw [hhe]; rfl
          obtain ⟨vs0, hC, _⟩ := cellsOb_C h hcs0 k2
          have objAt : ∀ σ', Ag st.pc.nv σ σ' → ∃ rest, w.heap[b]? = some (.cells (vs0 ++ rest).toArray e0 (0, 0)) ∧ (vs0 ++ rest).length = cap * i.size := fun σ' ha => by
            obtain ⟨b1, c1, xo, m1, m2, m3, m4⟩ := (h.2 σ' ha).heap o _ hhe
            rw [k2] at m1; simp at m1; obtain ⟨rfl, rfl⟩ := m1
            generalize hxo : xo = xx at m3
            cases m3 with
            | grown hd hcz =>
              rename_i vs1 rest
              subst hxo
              have hpre : vs1 = vs0 := by
                obtain ⟨vs2, hd2, hcell⟩ := cellsOb_ok (h.2 σ' ha) hcs0 k2
                have e2 : vs2 = vs0 := by rw [hd2.det (hC σ' ha)]
                subst e2
                have l1 := hd.length
                have l2 := hd2.length
                apply List.ext_getElem?
                intro j
                by_cases hj : j < vs2.length
                · have hj1 : j < vs1.length := by omega
                  have := hcell j _ (List.getElem?_eq_getElem hj)
                  simp only [World.cell?, m2] at this
                  rw [List.getElem?_eq_getElem hj]
                  simp [List.getElem?_append_left hj1] at this
                  simpa using this
                · rw [List.getElem?_eq_none (by omega), List.getElem?_eq_none (by omega)]
              subst hpre
              exact ⟨rest, m2, hcz⟩
          obtain ⟨rest, m2, hcz⟩ := objAt σ (Ag.refl _ _)
          obtain ⟨n1, n2⟩ := midR_some ho
          have hod : DenLC st.pc.nv σ β olds (vs0.take (q.len * i.size)) := by
            rw [n1]; simpa using hC.take (q.len * i.size)
          have hol : (vs0.take (q.len * i.size)).length = q.len * i.size := by rw [← hod.at''.length, n2]; rfl
          by_cases hroom : q.len + src.1 ≤ cap
          · -- there is room
            have hfit : q.len * i.size + news.length ≤ (vs0 ++ rest).length := by
              rw [hcz, hnl, ← Nat.add_mul]; exact Nat.mul_le_mul_right _ hroom
            have hst := run_storeCells_at (P := P) b (q.len * i.size) e0 news 0 (vs0 ++ rest).toArray w m2 (by simp at hfit ⊢; omega) hS.one
            rw [setRow_eq m2] at hst
            simp only [Nat.add_zero] at hst
            have hlist : ((vs0 ++ rest).toArray.toList.take (q.len * i.size) ++ news ++ (vs0 ++ rest).toArray.toList.drop (q.len * i.size + news.length)) = ((vs0.take (q.len * i.size) ++ news) ++ ((vs0 ++ rest).drop (q.len * i.size + news.length))) := by
              have hle : q.len * i.size ≤ vs0.length := by
                have := hol; rw [List.length_take] at this; omega
              show ((vs0 ++ rest).take (q.len * i.size) ++ news ++ (vs0 ++ rest).drop (q.len * i.size + news.length)) = _
              rw [List.take_append_of_le_length hle]
            rw [hlist] at hst
            have hrun : (Builtin.append_ #[t, tx] ty #[.slice (some ⟨b, 0, none⟩) q.len cap, vX]).run P w = .ok (.slice (some ⟨b, 0, none⟩) (q.len + src.1) cap)
                { w with heap := w.heap.setIfInBounds b (.cells ((vs0.take (q.len * i.size) ++ news) ++ ((vs0 ++ rest).drop (q.len * i.size + news.length))).toArray e0 (0, 0)) } := by
              rcases hS.kind with ⟨e', hkk⟩ | hkk <;>
                (simp only [Builtin.append_]
                 simp [run_underlying' hu, run_underlying' hkk, sizeOf, typeInfo, hi, hS.len, hroom, hS.cells, add_off, hst])
            have hx' : ∀ σ', Ag st.pc.nv σ σ' → ObjDen σ' β cap (.grown (olds ++ src.2) e0 i.size) (.cells ((vs0.take (q.len * i.size) ++ news) ++ ((vs0 ++ rest).drop (q.len * i.size + news.length))).toArray e0 (0, 0)) := by
              intro σ' ha
              refine .grown ((hod σ' ha).append (hN σ' ha)) ?_
              rw [List.length_append, List.length_append, hol, List.length_drop]
              omega
            obtain ⟨j1, j2, j3⟩ := h.rename hhe k2 hx'
            exact ⟨_, _, _, st.rename o (.grown (olds ++ src.2) e0 i.size), .sliceU st.nn (q.len + src.1), hrun, j1, rfl, j3, fun σ' _ => .sliceU j2 hroom (fun _ => rfl), hfin⟩
          · -- a new block
            have hlt : cap < q.len + src.1 := Nat.lt_of_not_le hroom
            have hf : (Builtin.firstCells i.size q.len (.slice (some ⟨b, 0, none⟩) q.len cap)).run P w.drew = .ok (vs0.take (q.len * i.size)).toArray w.drew := by
              refine run_firstCells_some (P := P) w.drew i.size q.len ⟨b, 0, none⟩ q.len cap (vs0.take (q.len * i.size)) hol ?_
              intro j u hj
              have hjl : j < q.len * i.size := by
                rcases Nat.lt_or_ge j (q.len * i.size) with hh | hh
                · exact hh
                · rw [List.getElem?_eq_none (by omega)] at hj; cases hj
              rw [add_off, Nat.zero_add]
              show w.cell? _ = _
              rw [List.getElem?_take_of_lt hjl] at hj
              have hlt2 : j < vs0.length := (List.getElem?_eq_some_iff.1 hj).1
              simp [World.cell?, m2, List.getElem?_append_left hlt2, hj]
            have hncap := nextslicecap_le hlt
            have hfit2 : Builtin.nextslicecap (q.len + src.1) cap * i.bytes ≤ 281474976710656 := Nat.le_trans (Nat.mul_le_mul_right _ hncap) hb2'
            have hg := run_append_grow_src (P := P) w t tx ty e0 i zv hu hi hzv (some ⟨b, 0, none⟩) q.len cap _ hf vX src.1 news hS hlt (by change q.len + src.1 < _ at hb1'; omega) hfit2
            have hgc : q.len + src.1 ≤ grownCap w (q.len + src.1) cap e0 := grownCap_ge _ _ _ _
            obtain ⟨j1, j2, j3⟩ := ((h.kill o).drew).new (c := grownCap w (q.len + src.1) cap e0) (ob := .grown (olds ++ src.2) e0 i.size)
              (x := .cells ((vs0.take (q.len * i.size) ++ news) ++ (Builtin.zeroCells zv.cells (grownCap w (q.len + src.1) cap e0 - (q.len + src.1))).toList).toArray e0 (0, 0))
              (fun σ' ha => .grown ((hod σ' ha).append (hN σ' ha)) (by
                rw [List.length_append, List.length_append, hol, hnl, zeroCells_len, hzsz, ← Nat.add_mul, ← Nat.add_mul]; congr 1; omega))
            refine ⟨_, _, _, st.rename o (.grown (olds ++ src.2) e0 i.size), .sliceU st.nn (q.len + src.1), hg, j1, rfl, ?_, fun σ' _ => .sliceU j2 hgc (fun _ => rfl), hfin⟩
            have : (((vs0.take (q.len * i.size) ++ news).toArray ++ Builtin.zeroCells zv.cells (grownCap w (q.len + src.1) cap e0 - (q.len + src.1))) : Array Value) = ((vs0.take (q.len * i.size) ++ news) ++ (Builtin.zeroCells zv.cells (grownCap w (q.len + src.1) cap e0 - (q.len + src.1))).toList).toArray := by
              apply Array.ext'; simp
            rw [this]
            exact j3
    | some cap0 =>
      have hcc := k3 cap0 hcap
      subst hcc
      rw [hcap] at hk
      change (bc (Nat.ble (q.len + src.1) cap) _ _ : Ans).sat L σ at hk
      cases hle : Nat.ble (q.len + src.1) cap
      · rw [hle] at hk
        obtain ⟨olds, ho, hk⟩ := oa_sat hk
        obtain ⟨hb, hk⟩ := wa_sat hk
        obtain ⟨hb1, hb2⟩ := band_eq hb
        rw [forceL_eq, stNew_eq, appR_eq] at hk
        have hb1' := of_nblt hb1
        have hb2' := of_nble hb2
        unfold slCells at ho
        rw [k1] at ho
        obtain ⟨cs0, hcs0, ho⟩ := ob_some ho
        obtain ⟨ovs, j1, j2, j3⟩ := mid_C h hcs0 ho k2
        have hlt : cap < q.len + src.1 := by
          rcases Nat.lt_or_ge cap (q.len + src.1) with hh | hh
          · exact hh
          · rw [nble_t hh] at hle; cases hle
        have hf : (Builtin.firstCells i.size q.len (.slice (some ⟨b, off, none⟩) q.len cap)).run P w.drew = .ok ovs.toArray w.drew :=
          run_firstCells_some (P := P) w.drew i.size q.len ⟨b, off, none⟩ q.len cap ovs j2 (fun j u hj => j3 j u hj)
        have hg := run_append_grow_src (P := P) w t tx ty e i zv hu hi hzv (some ⟨b, off, none⟩) q.len cap _ hf vX src.1 news hS hlt (by change q.len + src.1 < _ at hb1'; omega) hb2'
        have hgc : q.len + src.1 ≤ grownCap w (q.len + src.1) cap e := grownCap_ge _ _ _ _
        obtain ⟨m1, m2, m3⟩ := (h.drew).new (c := grownCap w (q.len + src.1) cap e) (ob := .grown (olds ++ src.2) e i.size)
          (x := .cells ((ovs ++ news) ++ (Builtin.zeroCells zv.cells (grownCap w (q.len + src.1) cap e - (q.len + src.1))).toList).toArray e (0, 0))
          (fun σ' ha => .grown ((j1 σ' ha).append (hN σ' ha)) (by
            rw [List.length_append, List.length_append, j2, hnl, zeroCells_len, hzsz]
            show q.len * i.size + _ + _ = _
            rw [← Nat.add_mul, ← Nat.add_mul]; congr 1; omega))
        refine ⟨_, _, _, st.new (.grown (olds ++ src.2) e i.size), .sliceU st.nn (q.len + src.1), hg, m1, rfl, ?_, fun σ' _ => .sliceU m2 hgc (fun _ => rfl), hk⟩
        have : (((ovs ++ news).toArray ++ Builtin.zeroCells zv.cells (grownCap w (q.len + src.1) cap e - (q.len + src.1))) : Array Value) = ((ovs ++ news) ++ (Builtin.zeroCells zv.cells (grownCap w (q.len + src.1) cap e - (q.len + src.1))).toList).toArray := by
          apply Array.ext'; simp
        rw [this]
        exact m3
      · rw [hle, k1] at hk
        have hroom := of_nble hle
        obtain ⟨st', w', j1, e1, e2, j2, hk⟩ := storeCs_ok (P := P) h hN hS.one hk k2
        refine ⟨.slice (some ⟨b, off, none⟩) (q.len + src.1) cap, w', β, st', _, ?_, Ext.refl β, e1, j2, fun σ' _ => .slice k2, hk⟩
        have j1' : (storeCells ⟨b, off + q.len * i.size, none⟩ news).run P w = .ok () w' := j1
        rcases hS.kind with ⟨e', hkk⟩ | hkk <;> simp [Builtin.append_, run_underlying' hu, run_underlying' hkk, sizeOf, typeInfo, hi, hS.len, hroom, hS.cells, add_off, j1']

end Go.Sy
end

section
/- Operations that turn the world, or part the ways. -/
namespace Go.Sy
open Go.RowKit

abbrev CallF := Nat → List SV → St → (SV → St → Ans) → Ans
structure HX where
  run : CallF → F3 → St → (SV → St → Ans) → Ans
noncomputable def hbad (n : Nat) : HX := ⟨fun _ _ _ _ => .bad n⟩

/-- What follows a step may rely on. -/
def Foll (L : (Nat → Nat) → SV → Prop) (M : Md) (σ : Nat → Nat) (w0 : World) (β : Nat → Option (Nat × Nat)) (nv : Nat) (k : SV → St → Ans) (next : Value → World → Prop) : Prop :=
  ∀ σ' β' st' w' s v, Ag nv σ σ' → nv ≤ st'.pc.nv → Ext β β' → RepC M σ' w0 β' st' w' → DenC st'.pc.nv σ' β' s v → (k s st').sat L σ' → next v w'
theorem Foll.step {L M σ w0 β nv k next} (h : Foll L M σ w0 β nv k next) {β' st' w' s v} (hn : st'.pc.nv = nv) (he : Ext β β') (hR : RepC M σ w0 β' st' w') (hd : DenC nv σ β' s v) (hs : (k s st').sat L σ) : next v w' :=
  h σ β' st' w' s v (Ag.refl _ _) (by omega) he hR (by rw [hn]; exact hd) hs

/-- Calls that are to be trusted. -/
def CallOk (P : Program) (L : (Nat → Nat) → SV → Prop) (M : Md) (cf : CallF) : Prop :=
  ∀ σ w0 β st w f args vs k next, RepC M σ w0 β st w → DenLC st.pc.nv σ β args vs → (cf f args st k).sat L σ → Foll L M σ w0 β st.pc.nv k next →
    Calls P f vs.toArray w (fun e w' => ∃ v, e = .returned v ∧ next v w') ∧ (callFunc f vs.toArray).run P w = .ok (.enter f vs.toArray) w

/-- A step that is to be trusted. -/
def HXok (P : Program) (L : (Nat → Nat) → SV → Prop) (M : Md) (N : Nat) (o : Oper) (h : HX) : Prop :=
  ∀ cf, (∀ M, CallOk P L M cf) → ∀ σ w0 β st w F a k (next : Act → World → Prop) Q, RepC M σ w0 β st w → RepFC st.pc.nv σ β N F a → (h.run cf F st k).sat L σ →
    Foll L M σ w0 β st.pc.nv k (fun v w' => next (a.put o.dst v) w') → o.wp P a w next Q
theorem hbad_ok {P L M N o n} : HXok P L M N o (hbad n) := fun _ _ _ _ _ _ _ _ _ _ _ _ _ _ h _ => h.elim
noncomputable def ho {α : Type} (n : Nat) (x : Option α) (f : α → HX) : HX := Option.rec (hbad n) f x
noncomputable def hw (n : Nat) (c : Bool) (f : HX) : HX := bc c f (hbad n)
theorem ho_ok {α : Type} {P L M N o n} {x : Option α} {f : α → HX} (h : ∀ a, x = some a → HXok P L M N o (f a)) : HXok P L M N o (ho n x f) := by
  cases x with
  | none => exact hbad_ok
  | some a => exact h a rfl
theorem hw_ok {P L M N o n} {c : Bool} {f : HX} (h : c = true → HXok P L M N o f) : HXok P L M N o (hw n c f) := by
  cases c with
  | false => exact hbad_ok
  | true => exact h rfl

def DenOC (nv : Nat) (σ : Nat → Nat) (β : Nat → Option (Nat × Nat)) (s : SV) (v : Value) : Prop := ∀ σ', Ag nv σ σ' → DenO σ' β s v
theorem cO_C {nv σ β N F a} (h : RepFC nv σ β N F a) (x : Operand) : DenOC nv σ β ((cO x).g F) (a.eval x) := fun σ' ha => cO_o (h σ' ha) x
theorem DenOC.of {nv σ β s v} (h : DenOC nv σ β s v) (hn : s.1 ≠ 19) : DenC nv σ β s v := fun σ' ha => (h σ' ha).of hn
theorem DenOC.at0 {nv σ β s v} (h : DenOC nv σ β s v) : DenO σ β s v := h σ (Ag.refl _ _)
theorem cOs_C {nv σ β N F a} (h : RepFC nv σ β N F a) (xs : List Operand) (hn : ∀ x ∈ xs.map cO, (x.g F).1 ≠ 19) : DenLC nv σ β ((xs.map cO).map fun x => x.g F) (xs.map a.eval) := fun σ' ha => cOs_ok (h σ' ha) xs hn

/-- One value for all that agree. -/
theorem classify {P : Program} {nv σ β r} {s : Sem Value} {w : World} (h : ∀ σ', Ag nv σ σ' → ∃ v, s.run P w = .ok v w ∧ Den σ' β r v) : ∃ v, s.run P w = .ok v w ∧ DenC nv σ β r v := by
  obtain ⟨v, h1, _⟩ := h σ (Ag.refl _ _)
  refine ⟨v, h1, fun σ' ha => ?_⟩
  obtain ⟨v', h2, h3⟩ := h σ' ha
  rw [h1] at h2
  simp at h2
  rw [h2]; exact h3

/-- An operation that gives a value. -/
noncomputable def hPure (h : VP) : HX := ⟨fun _ F st k => h.f F st.pc fun s => k s st⟩
theorem hPure_ok {P L M N o} {h : VP} (hh : VPok P N o h) : HXok P L M N o (hPure h) := by
  intro cf _ σ w0 β st w F a k next Q hR hF hs hn
  obtain ⟨r, hr, hk⟩ := (hh F st.pc (fun s => k s st)).sat hs
  have h1 : ∀ σ', Ag st.pc.nv σ σ' → ∃ v, (execOp a.eval o).run P w = .ok (.value v) w ∧ Den σ' β r v := fun σ' ha => hr σ' β a w (hF σ' ha) (hR.1 σ' ha)
  obtain ⟨v, h2, _⟩ := h1 σ (Ag.refl _ _)
  have hd : DenC st.pc.nv σ β r v := fun σ' ha => by
    obtain ⟨v', h3, h4⟩ := h1 σ' ha
    rw [h2] at h3; simp at h3; rw [h3]; exact h4
  unfold Oper.wp
  rw [h2]
  exact hn.step rfl (Ext.refl β) hR hd hk

/-! ### Loads and stores -/
noncomputable def hLoad (P : Program) (t : TypeId) (x : Operand) : HX := ⟨fun _ F st k => (cLoad P t).f st ((cO x).g F) fun s => k s st⟩
theorem hLoad_ok {P L M N t x dst ty pos af g} : HXok P L M N ⟨dst, .load t x, ty, pos, af, g⟩ (hLoad P t x) := by
  intro cf _ σ w0 β st w F a k next Q hR hF hs hn
  obtain ⟨r, hr, hk⟩ := (cLoad_ok P t st ((cO x).g F) (fun s => k s st)).sat hs
  obtain ⟨v, h2, hd⟩ := classify (P := P) (fun σ' ha => hr M σ' w0 β (a.eval x) w (hR.2 σ' ha) (hR.1 σ' ha) (cO_C hF x σ' ha))
  have hrun : (execOp a.eval ⟨dst, .load t x, ty, pos, af, g⟩).run P w = .ok (.value v) w := by simp [execOp, h2]
  unfold Oper.wp
  rw [hrun]
  exact hn.step rfl (Ext.refl β) hR hd hk

noncomputable def hStore (P : Program) (t : TypeId) (x y : Operand) : HX :=
  ho 140 (szOf P t) fun n => ⟨fun _ F st k => oa 141 (svPtr ((cO x).g F)) fun p => kn ((cO y).g F) fun s => storeK n st p s fun st' => k (.tuple []) st'⟩
theorem hStore_ok {P L M N t x y dst ty pos af g} : HXok P L M N ⟨dst, .store t x y, ty, pos, af, g⟩ (hStore P t x y) := by
  refine ho_ok fun n hsz => ?_
  intro cf _ σ w0 β st w F a k next Q hR hF hs hn
  obtain ⟨p, hp, hs⟩ := oa_sat hs
  obtain ⟨hk, hs⟩ := kn_sat hs
  have hd := svPtr_o hp (cO_C hF x).at0
  have hd2 := (cO_C hF y).of hk
  generalize hv : a.eval x = v at hd
  cases hd with
  | ptr hb =>
    obtain ⟨st', w', h1, e1, e2, h2, h3⟩ := storeK_ok (P := P) hR hsz hd2 hs hb
    have hrun : (execOp a.eval ⟨dst, .store t x y, ty, pos, af, g⟩).run P w = .ok .skip w' := by simp [execOp, Instr.storeAt, Instr.sureAddr, hv, h1]
    unfold Oper.wp
    rw [hrun]
    exact hn.step (s := .tuple []) (by rw [e1]) (Ext.refl β) h2 (fun _ _ => .tuple .nil) h3

/-! ### New objects -/
theorem new_ok {P : Program} {M σ w0 β} {st : St} {w : World} (h : RepC M σ w0 β st w) {cs : List SV} {vs : List Value} (hd : DenLC st.pc.nv σ β cs vs) (e : TypeId) :
    ∃ β' w', (newRow e vs.toArray).run P w = .ok ⟨w.heap.size, 0, none⟩ w' ∧ Ext β β' ∧ RepC M σ w0 β' (st.new (.cells cs e)) w' ∧ β' st.nn = some (w.heap.size, 0) := by
  obtain ⟨h1, h2, h3⟩ := h.new (c := 0) (ob := .cells cs e) (x := .cells vs.toArray e (0, 0)) (fun σ' ha => .cells (hd σ' ha))
  exact ⟨_, _, by simp [newRow], h1, h3, h2⟩
noncomputable def newK (st : St) (cs : List SV) (e : Nat) (k : Nat → St → Ans) : Ans := forceN st.nn fun n => stNew st (.cells cs e) fun st' => k n st'
theorem newK_eq (st : St) (cs : List SV) (e : Nat) (k : Nat → St → Ans) : newK st cs e k = k st.nn (st.new (.cells cs e)) := by unfold newK; rw [forceN_eq, stNew_eq]

noncomputable def hAlloc (P : Program) (e : TypeId) : HX := zeroK (hbad 142) P e fun z => ⟨fun _ _ st k => newK st z e fun n st' => k (.ptr n 0) st'⟩
theorem hAlloc_ok {P L M N e dst ty pos af g} : HXok P L M N ⟨dst, .alloc e, ty, pos, af, g⟩ (hAlloc P e) := by
  unfold hAlloc
  rcases zeroK_ok (bad := hbad 142) (P := P) (t := e) (k := fun z => (⟨fun _ _ st k => newK st z e fun n st' => k (.ptr n 0) st'⟩ : HX)) with he | ⟨z, he, zv, _, hzr, hzd⟩
  · rw [he]; exact hbad_ok
  · rw [he]
    intro cf _ σ w0 β st w F a k next Q hR hF hs hn
    change (newK st z e fun n st' => k (.ptr n 0) st').sat L σ at hs
    rw [newK_eq] at hs
    obtain ⟨β', w', h3, h4, h5, h6⟩ := new_ok (P := P) hR (cs := z) (vs := zv.cells.toList) (fun σ' _ => hzd σ' β) e
    have hrun : (execOp a.eval ⟨dst, .alloc e, ty, pos, af, g⟩).run P w = .ok (.value (.pointer (some ⟨w.heap.size, 0, none⟩))) w' := by
      simp only [Array.toArray_toList] at h3
      simp only [execOp, Instr.alloc, Sem.run_bind, hzr, Result.andThen_ok, newVar]
      simp [h3]
    unfold Oper.wp
    rw [hrun]
    exact hn.step (st' := st.new _) rfl h4 h5 (fun _ _ => .ptr h6) hs

noncomputable def hBox (e : TypeId) (x : Operand) : HX := ⟨fun _ F st k => kn ((cO x).g F) fun s => newK st (cellsOf s) e fun n st' => k (.ptr n 0) st'⟩
theorem hBox_ok {P L M N e x dst ty pos af g} : HXok P L M N ⟨dst, .box e x, ty, pos, af, g⟩ (hBox e x) := by
  intro cf _ σ w0 β st w F a k next Q hR hF hs hn
  obtain ⟨hk, hs⟩ := kn_sat hs
  rw [newK_eq] at hs
  have hd : DenLC st.pc.nv σ β (cellsOf ((cO x).g F)) (a.eval x).cells.toList := fun σ' ha => cellsOf_den ((cO_C hF x).of hk σ' ha)
  obtain ⟨β', w', h3, h4, h5, h6⟩ := new_ok (P := P) hR hd e
  have hrun : (execOp a.eval ⟨dst, .box e x, ty, pos, af, g⟩).run P w = .ok (.value (.pointer (some ⟨w.heap.size, 0, none⟩))) w' := by
    simp only [Array.toArray_toList] at h3
    simp [execOp, Instr.box, newVar, h3]
  unfold Oper.wp
  rw [hrun]
  exact hn.step (st' := st.new _) rfl h4 h5 (fun _ _ => .ptr h6) hs

noncomputable def repl {α : Type} (n : Nat) (l : List α) : List α := Nat.rec [] (fun _ ih => appR l ih) n
theorem repl_ok {σ β} {z : List SV} {zs : List Value} (hz : DenL σ β z zs) : ∀ n, DenL σ β (repl n z) (List.replicate n zs).flatten
  | 0 => .nil
  | n + 1 => by
    show DenL σ β (appR z (repl n z)) _
    rw [appR_eq, List.replicate_succ, List.flatten_cons]
    exact hz.append (repl_ok hz n)
theorem range_map_mod (zs : List Value) (hz : 0 < zs.length) : ∀ n, ((Array.range (n * zs.length)).map (fun i => zs.toArray[i % zs.toArray.size]!)).toList = (List.replicate n zs).flatten := by
  intro n
  apply List.ext_getElem?
  intro i
  have hlen : (List.replicate n zs).flatten.length = n * zs.length := by simp
  by_cases hi : i < n * zs.length
  · have h1 : ((Array.range (n * zs.length)).map (fun i => zs.toArray[i % zs.toArray.size]!)).toList[i]? = zs[i % zs.length]? := by
      have : i % zs.length < zs.length := Nat.mod_lt _ hz
      simp [hi, this]
    rw [h1]
    induction n generalizing i with
    | zero => simp at hi
    | succ n ih =>
      rw [List.replicate_succ, List.flatten_cons]
      by_cases h2 : i < zs.length
      · rw [List.getElem?_append_left h2, Nat.mod_eq_of_lt h2]
      · rw [List.getElem?_append_right (by omega)]
        have hi' : i - zs.length < n * zs.length := by rw [Nat.succ_mul] at hi; omega
        rw [← ih (i - zs.length) (by simp) hi' (by
          have : (i - zs.length) % zs.length < zs.length := Nat.mod_lt _ hz
          simp [hi', this])]
        congr 1
        rw [← Nat.sub_add_cancel (Nat.le_of_not_lt h2), Nat.add_sub_cancel, Nat.add_mod_right]
  · rw [List.getElem?_eq_none (by simp; omega), List.getElem?_eq_none (by rw [hlen]; omega)]

noncomputable def hBuildSlice (P : Program) (t : TypeId) (len : Nat) (ps : List (Nat × Operand)) : HX :=
  ho 143 (sliOf P t) fun e => ho 144 (szOf P e) fun n => zeroK (hbad 145) P e fun z => hw 146 (band (Nat.blt 0 n) (band (Nat.beq (lenR z) n) (Nat.ble (Nat.mul len n) 16777216)))
    (ho 147 (placed (fun i => some (Nat.mul i n, n)) ps) fun l => ⟨fun _ F st k => fillK l F (repl len z) fun cs => newK st cs e fun nn st' => k (.slice nn 0 len len) st'⟩)
theorem hBuildSlice_ok {P L M N t len ps dst ty pos af g} : HXok P L M N ⟨dst, .buildSlice t len ps, ty, pos, af, g⟩ (hBuildSlice P t len ps.toList) := by
  refine ho_ok fun e he => ho_ok fun n hn' => ?_
  rcases zeroK_ok (bad := hbad 145) (P := P) (t := e) (k := fun z => hw 146 (band (Nat.blt 0 n) (band (Nat.beq (lenR z) n) (Nat.ble (Nat.mul len n) 16777216)))
    (ho 147 (placed (fun i => some (Nat.mul i n, n)) ps.toList) fun l => ⟨fun _ F st k => fillK l F (repl len z) fun cs => newK st cs e fun nn st' => k (.slice nn 0 len len) st'⟩)) with hz | ⟨z, hz, zv, _, h1, hzd⟩
  · rw [hz]; exact hbad_ok
  · rw [hz]
    refine hw_ok fun hc => ho_ok fun l hl => ?_
    obtain ⟨hc1, hc2⟩ := band_eq hc
    obtain ⟨hc2, hc3⟩ := band_eq hc2
    intro cf _ σ w0 β st w F a k next Q hR hF hs hn
    change (fillK l F (repl len z) fun cs => newK st cs e fun nn st' => k (.slice nn 0 len len) st').sat L σ at hs
    rcases fillK_ok _ ps.toList l hl F (repl len z) (fun cs => newK st cs e fun nn st' => k (.slice nn 0 len len) st') with ⟨m, hb⟩ | ⟨r, hb, hfill⟩
    · rw [hb] at hs; exact hs.elim
    · rw [hb, newK_eq] at hs
      have hn0 := of_nblt hc1
      have hzl : zv.cells.toList.length = n := by rw [← (hzd σ β).length, ← lenR_eq]; exact of_nbeq hc2
      have hcells : ((Array.range (len * n)).map (fun i => zv.cells[i % zv.cells.size]!)).toList = (List.replicate len zv.cells.toList).flatten := by
        have := range_map_mod zv.cells.toList (by omega) len
        rw [hzl] at this
        simpa using this
      have hfa : ∀ σ', Ag st.pc.nv σ σ' → ∃ arr', Instr.fill (fun i => some (i * n, n)) ((Array.range (len * n)).map (fun i => zv.cells[i % zv.cells.size]!)) (ps.toList.map fun (i, x) => (i, a.eval x)) = some arr' ∧ DenL σ' β r arr'.toList :=
        fun σ' ha => hfill σ' β N a _ (hF σ' ha) (by rw [hcells]; exact repl_ok (hzd σ' β) len)
      obtain ⟨arr, h3', _⟩ := hfa σ (Ag.refl _ _)
      have h4 : DenLC st.pc.nv σ β r arr.toList := fun σ' ha => by
        obtain ⟨arr', k1, k2⟩ := hfa σ' ha
        rw [h3'] at k1; cases k1; exact k2
      obtain ⟨β', w', h5, h6, h7, h8⟩ := new_ok (P := P) hR h4 e
      have hle : ¬ len * n > 2 ^ 24 := by have := of_nble hc3; show ¬ len * n > 16777216; have h' : len * n ≤ 16777216 := this; omega
      have hrun : (execOp a.eval ⟨dst, .buildSlice t len ps, ty, pos, af, g⟩).run P w = .ok (.value (.slice (some ⟨w.heap.size, 0, none⟩) len len)) w' := by
        simp only [Array.toArray_toList] at h5
        simp only [execOp, Instr.buildSlice, Sem.run_bind, run_underlying' (sliOf_some he), Result.andThen_ok, run_sizeOf' hn', hle, if_false, Sem.run_ite]
        by_cases h0 : len * n = 0
        · rw [if_pos h0]
          simp only [Sem.run_pure, Result.andThen_ok]
          have hlen : len = 0 := by
            rcases Nat.mul_eq_zero.1 h0 with h' | h'
            · exact h'
            · omega
          subst hlen
          have er : Array.range 0 = #[] := rfl
          rw [Nat.zero_mul, er] at h3'
          rw [Nat.zero_mul, er]
          simp only [List.map_toArray, List.map_nil] at h3' ⊢
          simp [h3', h5]
        · rw [if_neg h0]
          simp only [h1, Result.andThen_ok, Sem.run_pure]
          simp [h3', h5]
      unfold Oper.wp
      rw [hrun]
      exact hn.step (st' := st.new _) rfl h6 h7 (fun _ _ => .slice h8) hs

/-! ### append and calls -/
noncomputable def hAppend (P : Program) (args : List Operand) (ats : List TypeId) : HX :=
  List.rec (hbad 150) (fun t ts _ => List.rec (hbad 150) (fun tx _ _ => List.rec (hbad 151) (fun s xs _ => List.rec (hbad 151) (fun x _ _ =>
    ho 152 (sliOf P t) fun e => ho 153 (P.info? e) fun i => zeroK (hbad 154) P e fun z => hw 155 (Nat.beq (lenR z) i.size) ⟨fun _ F st k => kn ((cO s).g F) fun s => kn ((cO x).g F) fun x => appK P tx e i.size i.bytes st s x k⟩) xs) args) ts) ats
theorem hAppend_ok {P L M N args ats dst ty pos af g} : HXok P L M N ⟨dst, .call ⟨.builtin .append, args, ats⟩, ty, pos, af, g⟩ (hAppend P args.toList ats.toList) := by
  cases hats : ats.toList with
  | nil => exact hbad_ok
  | cons t ts => cases ts with
    | nil => exact hbad_ok
    | cons tx ts => cases hargs : args.toList with
      | nil => exact hbad_ok
      | cons s xs => cases xs with
        | nil => exact hbad_ok
        | cons x xs =>
          refine ho_ok fun e he => ho_ok fun i hi => ?_
          rcases zeroK_ok (bad := hbad 154) (P := P) (t := e) (k := fun z => hw 155 (Nat.beq (lenR z) i.size) (⟨fun _ F st k => kn ((cO s).g F) fun s => kn ((cO x).g F) fun x => appK P tx e i.size i.bytes st s x k⟩ : HX)) with hz | ⟨z, hz, zv, ⟨i', hi', hzv⟩, _, hzd⟩
          · rw [hz]; exact hbad_ok
          · rw [hz]
            refine hw_ok fun hzl => ?_
            intro cf _ σ w0 β st w F a k next Q hR hF hs hn
            obtain ⟨hk1, hs⟩ := kn_sat hs
            obtain ⟨hk2, hs⟩ := kn_sat hs
            rw [hi] at hi'; cases hi'
            have hzsz : zv.cells.size = i.size := by
              rw [← of_nbeq hzl, lenR_eq, (hzd σ β).length]; simp
            obtain ⟨v, w', β', st', r, h1, h2, e1, h3, h4, h5⟩ := appK_ok (P := P) hR (t := t) (sliOf_some he) hi hzv hzsz ((cO_C hF s).of hk1) ((cO_C hF x).of hk2) hs ty
            have hcut : Builtin.append_ ats ty (args.map a.eval) = Builtin.append_ #[t, tx] ty #[a.eval s, a.eval x] := by
              have h0t : ats[0]? = some t := by rw [← Array.getElem?_toList, hats]; rfl
              have h1t : ats[1]? = some tx := by rw [← Array.getElem?_toList, hats]; rfl
              have h0a : (args.map a.eval)[0]? = some (a.eval s) := by rw [Array.getElem?_map, ← Array.getElem?_toList, hargs]; rfl
              have h1a : (args.map a.eval)[1]? = some (a.eval x) := by rw [Array.getElem?_map, ← Array.getElem?_toList, hargs]; rfl
              unfold Builtin.append_
              rw [h0t, h1t, h0a, h1a]
              rfl
            have hrun : (execOp a.eval ⟨dst, .call ⟨.builtin .append, args, ats⟩, ty, pos, af, g⟩).run P w = .ok (.value v) w' := by
              simp [execOp, resolve, invoke, builtin, hcut, h1]
            unfold Oper.wp
            rw [hrun]
            exact hn.step (by rw [e1]) h2 h3 h4 h5

noncomputable def hCall (x : Operand) (args : List Operand) : HX := ⟨fun cf F st k => oa 156 (svFunc ((cO x).g F)) fun f => knL (cOs args) F fun xs => cf f.1 (appR xs f.2) st k⟩
theorem hCall_ok {P L M N x args ats dst ty pos af g} : HXok P L M N ⟨dst, .call ⟨.value x, args, ats⟩, ty, pos, af, g⟩ (hCall x args.toList) := by
  intro cf hcf σ w0 β st w F a k next Q hR hF hs hn
  obtain ⟨f, hf, hs⟩ := oa_sat hs
  obtain ⟨hkn, hs⟩ := knL_sat hs
  rw [cOs_eq] at hkn hs
  rw [appR_eq] at hs
  have hl := cOs_C hF args.toList hkn
  have hd : ∀ σ', Ag st.pc.nv σ σ' → Den σ' β (.func f.1 f.2) (a.eval x) := fun σ' ha => svFunc_o hf (cO_C hF x σ' ha)
  have hd0 := hd σ (Ag.refl _ _)
  generalize hv : a.eval x = v at hd hd0
  cases hd0 with
  | func hcap0 =>
    rename_i cvs
    have hcap : DenLC st.pc.nv σ β f.2 cvs := fun σ' ha => by
      have := hd σ' ha
      generalize hvv : Value.func (.func f.1) #[] cvs.toArray = vv at this
      cases this with
      | func h' => injection hvv with _ _ h3; have := congrArg Array.toList h3; simp at this; rw [this]; exact h'
    obtain ⟨h1, h2⟩ := hcf M σ w0 β st w f.1 _ _ k _ hR (hl.append hcap) hs hn
    have hargs : (Array.map a.eval args ++ cvs.toArray) = (List.map a.eval args.toList ++ cvs).toArray := by
      apply Array.ext'; simp
    have hrun : (execOp a.eval ⟨dst, .call ⟨.value x, args, ats⟩, ty, pos, af, g⟩).run P w = .ok (.enter f.1 (List.map a.eval args.toList ++ cvs).toArray) w := by
      simp only [execOp, resolve, hv, Deferred.ofValue, Sem.run_bind, Sem.run_pure, Result.andThen_ok, invoke]
      rw [show (#[] ++ Array.map a.eval args ++ cvs.toArray) = (List.map a.eval args.toList ++ cvs).toArray from by rw [← hargs]; simp]
      exact h2
    unfold Oper.wp
    rw [hrun]
    refine Calls.mono h1 fun e w' he => ?_
    obtain ⟨v, rfl, h3⟩ := he
    exact h3

end Go.Sy
end

section
/- Regions whose order is drawn: in which order one run serves all. -/
namespace Go.Sy
open Go.RowKit

section
variable {P : Program} {ops : Array Oper} {Q : Exit → Act → World → Prop} {md : Region.Mode}

/-- Whatever order, and something that holds of the world all along. -/
def wpAnyI (P : Program) (md : Region.Mode) (ops : Array Oper) (Q : Exit → Act → World → Prop) (I : Array Bool → World → Prop) : Nat → Array Bool → Act → World → Prop
  | 0, listed, a, w => I listed w ∧ Region.ready md ops listed = [] ∧ Q .normal a w
  | n + 1, listed, a, w => I listed w ∧ (Region.ready md ops listed = [] → Q .normal a w) ∧
    ∀ i ∈ Region.ready md ops listed, wpOp P ops Q i (wpAnyI P md ops Q I n (listed.setIfInBounds i true)) a w

/-- What stays listed. -/
theorem wpAnyI_weaken {I J : Array Bool → World → Prop} {S : Array Bool → Prop} (hS : ∀ l i, S l → S (l.setIfInBounds i true)) (h : ∀ l w, S l → I l w → J l w) : ∀ (n : Nat) (listed : Array Bool) (a : Act) (w : World), S listed → wpAnyI P md ops Q I n listed a w → wpAnyI P md ops Q J n listed a w
  | 0, _, _, _, hs, hh => ⟨h _ _ hs hh.1, hh.2⟩
  | n + 1, _, _, _, hs, hh => ⟨h _ _ hs hh.1, hh.2.1, fun i hi => wpOp_mono (fun a w => wpAnyI_weaken hS h n _ a w (hS _ i hs)) (hh.2.2 i hi)⟩
theorem wpAnyI_any {I : Array Bool → World → Prop} : ∀ (n : Nat) (listed : Array Bool) (a : Act) (w : World), wpAnyI P md ops Q I n listed a w → wpAny P md ops Q n listed a w
  | 0, _, _, _, hh => hh.2
  | n + 1, _, _, _, hh => ⟨hh.2.1, fun i hi => wpOp_mono (fun a w => wpAnyI_any n _ a w) (hh.2.2 i hi)⟩
theorem wpAnyI_done {I : Array Bool → World → Prop} (n : Nat) {listed : Array Bool} {a : Act} {w : World} (hI : I listed w) (hr : Region.ready md ops listed = []) (hq : Q .normal a w) : wpAnyI P md ops Q I n listed a w := by
  cases n with
  | zero => exact ⟨hI, hr, hq⟩
  | succ n => exact ⟨hI, fun _ => hq, fun i hi => by rw [hr] at hi; cases hi⟩

/-- j comes after i, in any order. -/
inductive Anc (md : Region.Mode) (ops : Array Oper) (i : Nat) : Nat → Prop
  | here {j : Nat} {o : Oper} {e : Edge} (ho : ops[j]? = some o) (he : e ∈ o.after) (hb : Region.binds md e = true) (h : e.on = i) : Anc md ops i j
  | far {j : Nat} {o : Oper} {e : Edge} (ho : ops[j]? = some o) (he : e ∈ o.after) (hb : Region.binds md e = true) (h : Anc md ops i e.on) : Anc md ops i j
/-- What is listed has what it needs listed. -/
def Closed (md : Region.Mode) (ops : Array Oper) (listed : Array Bool) : Prop := ∀ j o, ops[j]? = some o → listed.getD j false = true → ∀ e ∈ o.after, Region.binds md e = true → listed.getD e.on false = true
theorem Closed.anc {listed : Array Bool} (h : Closed md ops listed) {i j : Nat} (ha : Anc md ops i j) : listed.getD j false = true → listed.getD i false = true := by
  induction ha with
  | here ho he hb hi => intro hl; rw [← hi]; exact h _ _ ho hl _ he hb
  | far ho he hb _ ih => intro hl; exact ih (h _ _ ho hl _ he hb)
theorem Closed.set {listed : Array Bool} (h : Closed md ops listed) {i : Nat} (hi : i ∈ Region.ready md ops listed) : Closed md ops (listed.setIfInBounds i true) := by
  intro j o ho hl e he hb
  by_cases hij : i = j
  · subst hij
    obtain ⟨_, o', ho', hall⟩ := mem_ready.1 hi
    rw [ho] at ho'; cases ho'
    exact getD_set_true (hall e he hb)
  · rw [getD_set_ne false hij] at hl
    exact getD_set_true (h j o ho hl e he hb)

/-- Wherever I holds the operation leaves v, and the world as it was. -/
def YieldsI (P : Program) (ops : Array Oper) (I : World → Prop) (o : Oper) (v : Value) (a : Act) : Prop :=
  (Region.wanted o (yielded ops a.tmps) = true ∧ ∀ w, I w → (execOp a.eval o).run P w = .ok (.value v) w) ∨
  (Region.wanted o (yielded ops a.tmps) = false ∧ v = undef)

theorem YieldsI.of_same {I : World → Prop} {o : Oper} {v : Value} {a a' : Act} (hy : YieldsI P ops I o v a) (he : execOp a'.eval o = execOp a.eval o)
    (hw : Region.wanted o (yielded ops a'.tmps) = Region.wanted o (yielded ops a.tmps)) : YieldsI P ops I o v a' := by
  unfold YieldsI at *
  rw [he, hw]
  exact hy
theorem YieldsI.wpOp {I : World → Prop} {i : Nat} {o : Oper} {v : Value} {a : Act} (hi : ops[i]? = some o) (hy : YieldsI P ops I o v a)
    {K : Act → World → Prop} {w : World} (hI : I w) (h : K (a.put o.dst v) w) : wpOp P ops Q i K a w := by
  unfold Go.wpOp
  simp only [hi]
  rcases hy with ⟨hw, hv⟩ | ⟨hw, rfl⟩
  · simp only [hw, if_true, Oper.wp, hv w hI, Oper.upon]; exact .inl h
  · simp only [hw, Bool.false_eq_true, if_false]; exact h

/-- An operation that is apart from one that yields its value anyway. -/
theorem wpOp_putI {I : World → Prop} {j : Nat} {oi oj : Oper} {v : Value} (hj : ops[j]? = some oj) (hap : oi.apart ops oj = true)
    (hsi : ∀ cs b, oi.op ≠ .select cs b) (hsj : ∀ cs b, oj.op ≠ .select cs b)
    (hQ : ∀ c a w, ¬ Q (.panic c) a w) {K : Act → World → Prop} {a : Act} {w : World}
    (hy : YieldsI P ops I oi v a) (h : wpOp P ops Q j K (a.put oi.dst v) w) :
    wpOp P ops Q j (fun a' w' => YieldsI P ops I oi v a' ∧ K (a'.put oi.dst v) w') a w := by
  obtain ⟨h1, h2, h3⟩ := Oper.apart_spec hap
  have keep : ∀ (a : Act), YieldsI P ops I oi v a → ∀ u, YieldsI P ops I oi v (a.put oj.dst u) := fun a hy u =>
    hy.of_same (execOp_put oi hsi a oj.dst u h3) (wanted_put oi a oj.dst u h3)
  have keepD : ∀ d, YieldsI P ops I oi v { a with defers := d :: a.defers } := fun d => hy.of_same rfl rfl
  unfold wpOp at *
  simp only [hj] at *
  rw [wanted_put oj a oi.dst v h1] at h
  split
  · rename_i hw
    simp only [hw, if_true] at h
    rcases h with h | ⟨hasks, hlets⟩
    case inr => exact .inr ⟨by unfold Oper.asks at *; rw [execOp_put oj hsj a oi.dst v h1] at hasks; exact hasks, hlets⟩
    refine .inl ?_
    unfold Oper.wp at *
    rw [execOp_put oj hsj a oi.dst v h1] at h
    generalize (execOp a.eval oj).run P w = r at *
    cases r with
    | ok n w' =>
      cases n <;> simp only [Oper.upon] at h ⊢
      case value u => exact ⟨keep a hy u, by rw [← Act.put_comm a v u h2]; exact h⟩
      case skip => exact ⟨keep a hy _, by rw [← Act.put_comm a v undef h2]; exact h⟩
      case defer d =>
        refine ⟨keep _ (keepD d) _, ?_⟩
        rw [← Act.put_comm _ v undef h2, ← Act.put_defers]
        exact h
      case enter f args =>
        refine Calls.mono h fun e w'' he => ?_
        cases e with
        | returned u => exact ⟨keep a hy u, by rw [← Act.put_comm a v u h2]; exact he⟩
        | panicked c => exact absurd he (hQ _ _ _)
        | outgrown => exact he
      case row row args => exact Rows.mono h fun u w'' he => ⟨keep a hy u, by rw [← Act.put_comm a v u h2]; exact he⟩
    | halt x w' =>
      cases x <;> simp only [Oper.upon] at h ⊢
      case panic u => exact absurd h (hQ _ _ _)
  · rename_i hw
    simp only [hw] at h
    exact ⟨keep a hy _, by rw [← Act.put_comm a v undef h2]; exact h⟩

/-- What yields its value anyway may be taken first. -/
theorem wpAnyI_first {I : Array Bool → World → Prop} {J : World → Prop} {D : List Nat} (hQ : ∀ c a w, ¬ Q (.panic c) a w) {i : Nat} {oi : Oper} {v : Value} (hi : ops[i]? = some oi) (hsel : ∀ (j : Nat) (o : Oper) cs b, ops[j]? = some o → o.op ≠ .select cs b)
    (hIJ : ∀ l w, (∀ j ∈ D, l.getD j false = false) → I l w → J w) (hIi : ∀ l w, l.getD i true = false → I (l.setIfInBounds i true) w → I l w) (hD : ∀ j ∈ D, Anc md ops i j) (hiD : i ∉ D) :
    ∀ (fuel : Nat) (listed : Array Bool) (a : Act) (w : World), Closed md ops listed →
      (∀ j oj, ops[j]? = some oj → j ≠ i → listed.getD j true = false → (∀ e ∈ oj.after, Region.binds md e = true → e.on ≠ i) → oi.apart ops oj = true) →
      i ∈ Region.ready md ops listed → YieldsI P ops J oi v a →
      wpAnyI P md ops Q I fuel (listed.setIfInBounds i true) (a.put oi.dst v) w → wpAnyI P md ops Q I (fuel + 1) listed a w := by
  intro fuel
  have now : ∀ (listed : Array Bool) (w : World), Closed md ops listed → i ∈ Region.ready md ops listed → I (listed.setIfInBounds i true) w → J w ∧ I listed w := by
    intro listed w hc hr hI
    have h0 := (mem_ready.1 hr).1
    refine ⟨hIJ _ _ (fun j hj => ?_) hI, hIi _ _ h0 hI⟩
    have hne : i ≠ j := fun e => hiD (by rw [e]; exact hj)
    rw [getD_set_ne false hne]
    cases hl : listed.getD j false
    · rfl
    · exfalso
      have h1 := hc.anc (hD j hj) hl
      rcases Nat.lt_or_ge i listed.size with h' | h'
      · simp [h'] at h0 h1; rw [h0] at h1; cases h1
      · simp [Array.getElem?_eq_none h'] at h1
  induction fuel with
  | zero =>
    intro listed a w hc _ hr hy H
    obtain ⟨hJ, hI⟩ := now listed w hc hr H.1
    refine ⟨hI, fun h => (by rw [h] at hr; cases hr), fun j hj => ?_⟩
    by_cases hji : j = i
    · subst hji; exact hy.wpOp hi hJ H
    · have := ready_mono hj hji
      rw [H.2.1] at this
      cases this
  | succ fuel ih =>
    intro listed a w hc hfree hr hy H
    obtain ⟨hJ, hI⟩ := now listed w hc hr H.1
    refine ⟨hI, fun h => (by rw [h] at hr; cases hr), fun j hj => ?_⟩
    by_cases hji : j = i
    · subst hji; exact hy.wpOp hi hJ H
    · have h1 := H.2.2 j (ready_mono hj hji)
      obtain ⟨hjun, oj, hoj, hall⟩ := mem_ready.1 hj
      have hnot : ∀ e ∈ oj.after, Region.binds md e = true → e.on ≠ i := fun e he hb heq => by
        have h1 := hall e he hb
        have h0 := (mem_ready.1 hr).1
        rw [heq] at h1
        rcases Nat.lt_or_ge i listed.size with h' | h'
        · simp [h'] at h0 h1; rw [h0] at h1; cases h1
        · simp [Array.getElem?_eq_none h'] at h1
      have h2 := wpOp_putI hoj (hfree j oj hoj hji hjun hnot) (fun cs b => hsel i oi cs b hi) (fun cs b => hsel j oj cs b hoj) hQ hy h1
      have hfree' : ∀ k ok, ops[k]? = some ok → k ≠ i → (listed.setIfInBounds j true).getD k true = false →
          (∀ e ∈ ok.after, Region.binds md e = true → e.on ≠ i) → oi.apart ops ok = true := fun k ok hk hki hun hno => by
        refine hfree k ok hk hki ?_ hno
        by_cases hjk : j = k
        · subst hjk; exact hjun
        · rw [getD_set_ne true hjk] at hun; exact hun
      refine wpOp_mono (fun a' w' h3 => ?_) h2
      have h4 := h3.2
      rw [Array.setIfInBounds_comm _ _ (Ne.symm hji)] at h4
      exact ih (listed.setIfInBounds j true) a' w' (hc.set hj) hfree' (ready_mono hr (Ne.symm hji)) h3.1 h4
end

/-! ### A schedule -/
inductive Sch
  | done
  | eager (i : Nat) (d : List Nat) (s : Sch)
  | forced (i : Nat) (s : Sch)
  | two (i j : Nat) (a b : Sch)

def isEager : Op → Bool
  | .move _ | .assign _ | .pick .. | .build .. | .nilCheck _ | .binOp .. | .unOp .. | .convert .. | .makeFunc .. | .slice .. | .fieldAddr .. | .field .. | .indexAddr .. | .index .. | .extract .. | .load .. => true
  | .call { callee := .builtin b, .. } => b == .len || b == .min || b == .max
  | _ => false
def freeAt (ops : Array Oper) (listed : Array Bool) (i : Nat) : Bool :=
  match ops[i]? with
  | none => false
  | some oi => (List.range ops.size).all fun j => j == i || listed.getD j true || match ops[j]? with
    | none => true
    | some oj => (oj.after.any fun e => Region.binds .any e && e.on == i) || oi.apart ops oj
/-- What comes after, of all. -/
def descs (ops : Array Oper) (i : Nat) : List Nat → List Nat → List Nat
  | [], acc => acc
  | j :: l, acc => match ops[j]? with
    | some o => if o.after.any (fun e => Region.binds .any e && (e.on == i || acc.contains e.on)) then descs ops i l (j :: acc) else descs ops i l acc
    | none => descs ops i l acc
def notEager (ops : Array Oper) (j : Nat) : Bool := match ops[j]? with | some o => !isEager o.op | none => false
/-- What may turn the world only after i was done. -/
def dOf (ops : Array Oper) (i : Nat) : List Nat := match ops[i]? with
  | some o => (match o.op with | .load .. => (descs ops i (List.range ops.size) []).filter (notEager ops) | _ => [])
  | none => []
theorem descs_anc {ops : Array Oper} {i : Nat} : ∀ (l acc : List Nat), (∀ j ∈ acc, Anc .any ops i j) → ∀ j ∈ descs ops i l acc, Anc .any ops i j
  | [], acc, h, j, hj => h j hj
  | x :: l, acc, h, j, hj => by
    unfold descs at hj
    split at hj
    · rename_i o ho
      split at hj
      · rename_i hc
        refine descs_anc l (x :: acc) (fun k hk => ?_) j hj
        rcases List.mem_cons.1 hk with rfl | hk
        · rw [Array.any_eq_true'] at hc
          obtain ⟨e, he, hc⟩ := hc
          simp only [Bool.and_eq_true, Bool.or_eq_true, beq_iff_eq, List.contains_iff_mem] at hc
          rcases hc.2 with h1 | h1
          · exact .here ho he hc.1 h1
          · exact .far ho he hc.1 (h _ h1)
        · exact h k hk
      · exact descs_anc l acc h j hj
    · exact descs_anc l acc h j hj
theorem dOf_ok {ops : Array Oper} {i : Nat} {o : Oper} (ho : ops[i]? = some o) (_ : isEager o.op = true) : (∀ j ∈ dOf ops i, Anc .any ops i j) ∧ (∀ j ∈ dOf ops i, notEager ops j = true) := by
  unfold dOf
  rw [ho]
  dsimp only
  split
  · exact ⟨fun j hj => descs_anc _ _ (fun _ h => by cases h) j (List.mem_filter.1 hj).1, fun j hj => (List.mem_filter.1 hj).2⟩
  · exact ⟨fun _ h => (by cases h), fun _ h => (by cases h)⟩
def eagerOK (ops : Array Oper) (listed : Array Bool) (i : Nat) : Bool := (match ops[i]? with | some o => isEager o.op | none => false) && freeAt ops listed i
def sched (ops : Array Oper) : Nat → Array Bool → Option Sch
  | 0, l => if (Region.ready .any ops l).isEmpty then some .done else none
  | n + 1, l =>
    match Region.ready .any ops l with
    | [] => some .done
    | x :: r =>
      match (x :: r).find? (eagerOK ops l) with
      | some i => (sched ops n (l.setIfInBounds i true)).map (.eager i (dOf ops i))
      | none =>
        match r with
        | [] => (sched ops n (l.setIfInBounds x true)).map (.forced x)
        | [y] => (sched ops n (l.setIfInBounds x true)).bind fun s => (sched ops n (l.setIfInBounds y true)).map fun t => .two x y s t
        | _ => none
def noSel (ops : Array Oper) : Bool := ops.all fun o => match o.op with | .select .. => false | _ => true
noncomputable def schedOf (ops : Array Oper) : Option Sch := if noSel ops then sched ops ops.size (Array.replicate ops.size false) else none

theorem freeAt_spec {ops : Array Oper} {listed : Array Bool} {i : Nat} {oi : Oper} (hi : ops[i]? = some oi) (h : freeAt ops listed i = true) :
    ∀ j oj, ops[j]? = some oj → j ≠ i → listed.getD j true = false → (∀ e ∈ oj.after, Region.binds .any e = true → e.on ≠ i) → oi.apart ops oj = true := by
  intro j oj hj hji hun hno
  unfold freeAt at h
  simp only [hi] at h
  have hlt : j < ops.size := (Array.getElem?_eq_some_iff.1 hj).1
  have := List.all_eq_true.1 h j (List.mem_range.2 hlt)
  simp only [hj, hun] at this
  have hb : (oj.after.any fun e => Region.binds .any e && e.on == i) = false := by
    rw [Array.any_eq_false]
    intro k hk
    have := hno oj.after[k] (Array.getElem_mem hk)
    cases hbb : Region.binds .any oj.after[k]
    · simp
    · simp [this hbb]
  simpa [hb, hji] using this
theorem noSel_spec {ops : Array Oper} (h : noSel ops = true) : ∀ (j : Nat) (o : Oper) cs b, ops[j]? = some o → o.op ≠ .select cs b := by
  intro j o cs b hj e
  unfold noSel at h
  have hm : o ∈ ops := by
    obtain ⟨hlt, he⟩ := Array.getElem?_eq_some_iff.1 hj
    rw [← he]; exact Array.getElem_mem hlt
  have := Array.all_eq_true_iff_forall_mem.1 h o hm
  rw [e] at this
  cases this

end Go.Sy
end

section
/- Operations that give a value in every world, but may part the ways. -/
namespace Go.Sy
open Go.RowKit

/-! ### Equal values -/
noncomputable def allB {α : Type} (p : α → α → Bool) (l : List α) : List α → Bool :=
  List.rec (motive := fun _ => List α → Bool) (fun m => List.rec true (fun _ _ _ => false) m) (fun x _ ih m => List.rec false (fun y t _ => band (p x y) (ih t)) m) l
theorem allB_eq {α : Type} {p : α → α → Bool} (hp : ∀ x y, p x y = true → x = y) : ∀ {l m : List α}, allB p l m = true → l = m
  | [], [], _ => rfl
  | [], _ :: _, h => by cases h
  | _ :: _, [], h => by cases h
  | x :: l, y :: m, h => by
    obtain ⟨h1, h2⟩ := band_eq h
    rw [hp x y h1, allB_eq hp (l := l) (m := m) h2]
noncomputable def sameS (n : Nat) : SV → SV → Bool :=
  Nat.rec (motive := fun _ => SV → SV → Bool) (fun _ _ => false) (fun _ ih a b =>
    bc (Nat.beq a.1 b.1) (bc (Nat.beq a.2.ctorIdx b.2.ctorIdx) (bc (Nat.beq a.3 b.3) (bc (Nat.beq a.4 b.4) (bc (a.5.same b.5) (bc (a.6.same b.6) (bc (a.7.same b.7) (allB ih a.8 b.8) false) false) false) false) false) false) false) n
theorem bc_tf {c x : Bool} (h : bc c x false = true) : c = true ∧ x = true := by cases c with | false => cases h | true => exact ⟨rfl, h⟩
theorem sameS_eq : ∀ (n : Nat) {a b : SV}, sameS n a b = true → a = b
  | 0, _, _, h => by cases h
  | n + 1, a, b, h => by
    obtain ⟨h1, h⟩ := bc_tf h
    obtain ⟨h2, h⟩ := bc_tf h
    obtain ⟨h3, h⟩ := bc_tf h
    obtain ⟨h4, h⟩ := bc_tf h
    obtain ⟨h5, h⟩ := bc_tf h
    obtain ⟨h6, h⟩ := bc_tf h
    obtain ⟨h7, h⟩ := bc_tf h
    have h8 := allB_eq (fun x y => sameS_eq n) h
    obtain ⟨a1, a2, a3, a4, a5, a6, a7, a8⟩ := a
    obtain ⟨b1, b2, b3, b4, b5, b6, b7, b8⟩ := b
    rw [show a1 = b1 from of_nbeq h1, show a2 = b2 from kind_idx (of_nbeq h2), show a3 = b3 from of_nbeq h3, show a4 = b4 from of_nbeq h4,
      show a5 = b5 from Tm.same_eq h5, show a6 = b6 from Tm.same_eq h6, show a7 = b7 from Tm.same_eq h7, show a8 = b8 from h8]

/-! ### Values with forks -/
structure VX where
  run : F3 → PC → (SV → PC → Ans) → Ans
noncomputable def xvbad (n : Nat) : VX := ⟨fun _ _ _ => .bad n⟩
def VXok (P : Program) (N : Nat) (o : Oper) (h : VX) : Prop :=
  ∀ L σ β F (a : Act) pc k, pc.okC σ → RepFC pc.nv σ β N F a → (h.run F pc k).sat L σ →
    ∃ v r pc', pc'.okC σ ∧ pc'.nv = pc.nv ∧ (∀ w, (execOp a.eval o).run P w = .ok (.value v) w) ∧ DenC pc.nv σ β r v ∧ (k r pc').sat L σ
theorem xvbad_ok {P N o n} : VXok P N o (xvbad n) := fun _ _ _ _ _ _ _ _ _ h => h.elim
noncomputable def xPure (h : VP) : VX := ⟨fun F pc k => h.f F pc fun s => k s pc⟩
/-- What holds under each assignment that agrees, of one value. -/
theorem lift_all {P : Program} {N : Nat} {o : Oper} {σ β F pc r} {a : Act} (hp : PC.okC σ pc) (hF : RepFC pc.nv σ β N F a) (hr : Yl P N o F pc r) :
    ∃ v, (∀ w, (execOp a.eval o).run P w = .ok (.value v) w) ∧ DenC pc.nv σ β r v := by
  have h1 : ∀ σ', Ag pc.nv σ σ' → ∀ w, ∃ v, (execOp a.eval o).run P w = .ok (.value v) w ∧ Den σ' β r v := fun σ' ha w => hr σ' β a w (hF σ' ha) (hp σ' ha)
  obtain ⟨v, h2, hd⟩ := h1 σ (Ag.refl _ _) default
  refine ⟨v, fun w => ?_, fun σ' ha => ?_⟩
  · obtain ⟨v', h3, h4⟩ := h1 σ (Ag.refl _ _) w
    rw [h3, Den.det hd h4]
  · obtain ⟨v', h3, h4⟩ := h1 σ' ha default
    rw [h2] at h3; simp at h3; rw [h3]; exact h4
theorem xPure_ok {P N o} {h : VP} (hh : VPok P N o h) : VXok P N o (xPure h) := by
  intro L σ β F a pc k hp hF hs
  obtain ⟨r, hr, hk⟩ := (hh F pc (fun s => k s pc)).sat hs
  obtain ⟨v, h1, h2⟩ := lift_all hp hF hr
  exact ⟨v, r, pc, hp, rfl, h1, h2, hk⟩

theorem int_VS {nv σ β s v} {x : IntKind × Tm} (h : svInt s = some x) (hd : DenOC nv σ β s v) : VS nv σ x.2 ∧ v = .int x.1 (ofB x.1 (x.2.ev σ)) ∧ x.2.ev σ < 2 ^ x.1.bits := by
  obtain ⟨h1, h2⟩ := (svInt_o h hd.at0).int_inv
  refine ⟨fun σ' ha => ?_, h1, h2⟩
  obtain ⟨h3, h4⟩ := (svInt_o h (hd σ' ha)).int_inv
  rw [h1] at h3
  injection h3 with _ h3
  exact ofB_inj h4 h2 h3.symm
theorem bool_TS {nv σ β s v} {t : Tm} (h : svBool s = some t) (hd : DenOC nv σ β s v) : TS nv σ t ∧ v = .bool (t.ev σ != 0) := by
  have key : ∀ σ', Ag nv σ σ' → v = .bool (t.ev σ' != 0) := fun σ' ha => by
    have := svBool_o h (hd σ' ha)
    cases this with
    | bool _ => rfl
  have h0 := key σ (Ag.refl _ _)
  refine ⟨fun σ' ha => ?_, h0⟩
  have h1 := key σ' ha
  rw [h0] at h1
  injection h1 with h1
  by_cases e : t.ev σ = 0
  · by_cases e' : t.ev σ' = 0
    · simp [e, e']
    · simp [e] at h1; exact absurd h1 e'
  · by_cases e' : t.ev σ' = 0
    · simp [e'] at h1; exact absurd h1 e
    · simp [e, e']

/-- Whether a number that was found is one of its kind that is not below 0. -/
noncomputable def ixOk (kd : IntKind) (n : Nat) : Bool := bc kd.signed (Nat.blt n (p2 (Nat.sub kd.bits 1))) true
theorem ixOk_eq {kd : IntKind} {n : Nat} (h : ixOk kd n = true) (hl : n < 2 ^ kd.bits) : ofB kd n = (n : Int) := by
  unfold ixOk at h
  cases hs : kd.signed
  · exact ofB_unsigned hs hl
  · rw [hs] at h
    have : n < 2 ^ (kd.bits - 1) := of_nblt h
    rw [ofB_signed hs hl, if_neg (Nat.not_le_of_lt this)]

/-- An operation with an index. -/
noncomputable def xIx (h : VIx) (x ix : Operand) (tk : SV → IntKind → Tm → PC → (SV → PC → Ans) → Ans) : VX :=
  ⟨fun F pc k => oa 160 (svInt ((cO ix).g F)) fun i => bc (Nat.beq ((cO x).g F).1 17) (tk ((cO x).g F) i.1 i.2 pc k)
    (concr 256 i.1.bits i.2 pc (fun n pc => wa 161 (ixOk i.1 n) (h.f ((cO x).g F) n fun s => k s pc)) (.bad 162))⟩
/-- An element of a slice of terms. -/
noncomputable def tkAddr (z : Nat) (s : SV) (kd : IntKind) (t : Tm) (pc : PC) (k : SV → PC → Ans) : Ans :=
  oa 163 (svSlT s) fun q => wa 164 (Nat.beq q.z z) (wa 166 (nonneg pc kd t) (wa 167 (Nat.beq (decT pc (.bin .ult 64 t q.len)) 1) (forceT (redT pc.subs t) fun t => k (.ptrT q.o 0 t q.z q.i q.l) pc)))
noncomputable def xIndexAddr (P : Program) (t : TypeId) (x ix : Operand) : VX :=
  xIx (cIndexAddr P t) x ix (fun s kd i pc k => oa 168 (sliOf P t) fun e => oa 169 (szOf P e) fun z => tkAddr z s kd i pc k)
noncomputable def xIndex (P : Program) (t : TypeId) (x ix : Operand) : VX := xIx (cIndex P t) x ix (fun _ _ _ _ _ => .bad 170)

theorem xIx_ok {P N o} {h : VIx} {x ix : Operand} {tk : SV → IntKind → Tm → PC → (SV → PC → Ans) → Ans} {run : Value → Value → Sem Value}
    (he : ∀ ρ, execOp ρ o = (do pure (.value (← run (ρ x) (ρ ix)))))
    (hh : ∀ s n k, Rsv (h.f s n k) k fun r => ∀ σ β v kd w, DenO σ β s v → ∃ u, (run v (.int kd (n : Int))).run P w = .ok u w ∧ Den σ β r u)
    (ht : ∀ (L : (Nat → Nat) → SV → Prop) (σ : Nat → Nat) (β : Nat → Option (Nat × Nat)) (s : SV) (v : Value) (i : IntKind × Tm) (pc : PC) (k : SV → PC → Ans), pc.okC σ → DenOC pc.nv σ β s v → VS pc.nv σ i.2 → i.2.ev σ < 2 ^ i.1.bits → (tk s i.1 i.2 pc k).sat L σ →
      ∃ u r pc', pc'.okC σ ∧ pc'.nv = pc.nv ∧ (∀ w, (run v (.int i.1 (ofB i.1 (i.2.ev σ)))).run P w = .ok u w) ∧ DenC pc.nv σ β r u ∧ (k r pc').sat L σ) : VXok P N o (xIx h x ix tk) := by
  intro L σ β F a pc k hp hF hs
  obtain ⟨i, hi, hs⟩ := oa_sat hs
  obtain ⟨hvs, hvi, hli⟩ := int_VS hi (cO_C hF ix)
  have hx := cO_C hF x
  cases h17 : Nat.beq ((cO x).g F).1 17
  · rw [h17] at hs
    rcases concr_ok hp hvs hs with ⟨pc', hp', hnv, hs'⟩ | hs'
    · obtain ⟨hix, hs'⟩ := wa_sat hs'
      obtain ⟨r, hr, hk⟩ := (hh ((cO x).g F) (i.2.ev σ) (fun s => k s pc')).sat hs'
      have hN := ixOk_eq hix hli
      have hall : ∀ σ', Ag pc.nv σ σ' → ∀ w, ∃ u, (run (a.eval x) (a.eval ix)).run P w = .ok u w ∧ Den σ' β r u := fun σ' ha w => by
        obtain ⟨u, h1, h2⟩ := hr σ' β (a.eval x) i.1 w (hx σ' ha)
        exact ⟨u, by rw [hvi, hN]; exact h1, h2⟩
      obtain ⟨u, h1, h2⟩ := hall σ (Ag.refl _ _) default
      refine ⟨u, r, pc', hp', hnv, fun w => ?_, fun σ' ha => ?_, hk⟩
      · obtain ⟨u', h3, h4⟩ := hall σ (Ag.refl _ _) w
        rw [he]; simp [h3, Den.det h2 h4]
      · obtain ⟨u', h3, h4⟩ := hall σ' ha default
        rw [h1] at h3; simp at h3; rw [h3]; exact h4
    · exact hs'.elim
  · rw [h17] at hs
    obtain ⟨u, r, pc', h1, h2, h3, h4, h5⟩ := ht L σ β _ _ i pc k hp hx hvs hli hs
    refine ⟨u, r, pc', h1, h2, fun w => ?_, h4, h5⟩
    have := h3 w
    rw [← hvi] at this
    rw [he]; simp [this]

theorem xIndexAddr_ok {P N t x ix dst ty pos af g} : VXok P N ⟨dst, .indexAddr t x ix, ty, pos, af, g⟩ (xIndexAddr P t x ix) := by
  refine xIx_ok (run := fun v i => Instr.indexAt t v i) (fun _ => rfl) (fun s n k => cIndexAddr_ok P t s n k) ?_
  intro L σ β s v i pc k hp hd hvs hli hs
  obtain ⟨e, he, hs⟩ := oa_sat hs
  obtain ⟨z, hz, hs⟩ := oa_sat hs
  obtain ⟨q, hq, hs⟩ := oa_sat hs
  obtain ⟨hzz, hs⟩ := wa_sat hs
  obtain ⟨hnn, hs⟩ := wa_sat hs
  obtain ⟨hlt, hs⟩ := wa_sat hs
  rw [forceT_eq] at hs
  have hfin := hs
  clear hs
  have hzz := of_nbeq hzz
  have hN := nonneg_ok hp.ok hli hnn
  have key : ∀ σ', Ag pc.nv σ σ' → ∃ b n, β q.o = some (b, n) ∧ v = .slice (some ⟨b, offB q.l n + q.i.ev σ', none⟩) (q.len.ev σ') (q.cap.ev σ') ∧ i.2.ev σ' < q.len.ev σ' := fun σ' ha => by
    obtain ⟨b, n, hb, hv, h1, h2⟩ := svSlT_den hq (hd σ' ha)
    refine ⟨b, n, hb, hv, ?_⟩
    · have := (decT_ok (hp σ' ha) (t := .bin .ult 64 i.2 q.len)).1 (of_nbeq hlt)
      change b2n (Nat.blt (i.2.ev σ') (q.len.ev σ')) ≠ 0 at this
      rcases Nat.lt_or_ge (i.2.ev σ') (q.len.ev σ') with hh | hh
      · exact hh
      · rw [nblt_f (by omega)] at this; exact absurd rfl this
  obtain ⟨b, n, hb, hv, hl⟩ := key σ (Ag.refl _ _)
  refine ⟨.pointer (some ⟨b, offB q.l n + (q.i.ev σ + i.2.ev σ * z), none⟩), .ptrT q.o 0 (redT pc.subs i.2) q.z q.i q.l, pc, hp, rfl, fun w => ?_, fun σ' ha => ?_, hfin⟩
  · rw [hv, hN]
    have hl' : ¬ q.len.ev σ ≤ i.2.ev σ := by omega
    have hnar : ∀ n e, P.underlying t ≠ some (.array n e) := fun n e h => by have := sliOf_some he; rw [h] at this; cases this
    simp [Instr.indexAt, asIntOf, run_underlying' (sliOf_some he), hl, run_sizeOf' hz, add_off]
    omega
  · have he1 : (redT pc.subs i.2).ev σ' = i.2.ev σ := by rw [redT_ev (hp σ' ha).2.1]; exact hvs σ' ha
    have := Den.ptrT (σ := σ') (β := β) (k := .u8) (o := q.o) (f := 0) (i := redT pc.subs i.2) (z := q.z) (c := q.i) (l := q.l) hb
    have hq : q.i.ev σ' = q.i.ev σ := by
      obtain ⟨b', n', hb', hv', _⟩ := key σ' ha
      rw [hb] at hb'; cases hb'
      rw [hv] at hv'; injection hv' with hv' _ _; injection hv' with hv'; injection hv' with _ hv' _; omega
    rw [he1, hzz, Nat.add_zero, hq] at this
    rw [hzz]; exact this
theorem xIndex_ok {P N t x ix dst ty pos af g} : VXok P N ⟨dst, .index t x ix, ty, pos, af, g⟩ (xIndex P t x ix) :=
  xIx_ok (run := fun v i => Instr.index t v i) (fun _ => rfl) (fun s n k => cIndex_ok P t s n k) fun _ _ _ _ _ _ _ _ _ _ _ _ hs => hs.elim

/-- All operations that give a value in every world. -/
noncomputable def cVal (P : Program) (o : Op) : Option VX :=
  match o with
  | .indexAddr t x ix => some (xIndexAddr P t x ix)
  | .index t x ix => some (xIndex P t x ix)
  | o => Option.rec none (fun h => some (xPure h)) (cPure P o)
theorem cVal_ok {P N} {o : Oper} {h : VX} (hc : cVal P o.op = some h) : VXok P N o h := by
  obtain ⟨dst, op, ty, pos, af, g⟩ := o
  unfold cVal at hc
  split at hc
  · rename_i he; change op = _ at he; subst he; cases hc; exact xIndexAddr_ok
  · rename_i he; change op = _ at he; subst he; cases hc; exact xIndex_ok
  · dsimp only at hc
    cases hp : cPure P op with
    | none => rw [hp] at hc; cases hc
    | some h' => rw [hp] at hc; cases hc; exact xPure_ok (cPure_ok (o := ⟨dst, op, ty, pos, af, g⟩) hp)
noncomputable def hVal (h : VX) : HX := ⟨fun _ F st k => h.run F st.pc fun s pc => k s ⟨st.hp, st.nn, pc⟩⟩
theorem hVal_ok {P L M N o} {h : VX} (hh : VXok P N o h) : HXok P L M N o (hVal h) := by
  intro cf _ σ w0 β st w F a k next Q hR hF hs hn
  obtain ⟨v, r, pc', h1, h2, h3, h4, h5⟩ := hh L σ β F a st.pc _ hR.1 hF hs
  unfold Oper.wp
  rw [h3 w]
  exact hn.step (st' := ⟨st.hp, st.nn, pc'⟩) h2 (Ext.refl β) (hR.assume h1 h2) h4 h5

end Go.Sy
end

section
/- A loop with what stays: a state with fresh variables, met at the loop's head again and again. -/
namespace Go.Sy
open Go.RowKit

/-! ### A state that is another one, with terms in the stead of fresh variables -/
/-- Which fresh variable a term is: from nv on. -/
noncomputable def freshI (nv w : Nat) (t : Tm) : Option Nat :=
  Tm.rec (fun _ => none) (fun i w' => bc (Nat.ble nv i) (bc (Nat.beq w' w) (some (Nat.sub i nv)) none) none) (fun _ _ _ _ => none) (fun _ _ _ _ _ _ => none) (fun _ _ _ _ _ _ => none) (fun _ _ _ _ => none) t
theorem freshI_some {nv w j : Nat} {t : Tm} (h : freshI nv w t = some j) : t = .var (nv + j) w := by
  cases t with
  | var i w' =>
    change bc (Nat.ble nv i) (bc (Nat.beq w' w) (some (Nat.sub i nv)) none) none = some j at h
    cases h1 : Nat.ble nv i
    · rw [h1] at h; cases h
    · rw [h1] at h
      change bc (Nat.beq w' w) (some (Nat.sub i nv)) none = some j at h
      cases h2 : Nat.beq w' w
      · rw [h2] at h; cases h
      · rw [h2] at h; cases h
        have := of_nble h1
        show Tm.var i w' = Tm.var (nv + (i - nv)) w
        rw [of_nbeq h2, show nv + (i - nv) = i by omega]
  | _ => cases h
/-- All variables below nv. -/
noncomputable def belowT (nv : Nat) (t : Tm) : Bool := Tm.rec (fun _ => true) (fun i _ => Nat.blt i nv) (fun _ _ _ x => x) (fun _ _ _ _ x y => bc x y false) (fun _ _ _ x y z => bc x (bc y z false) false) (fun f _ _ x => bc (Nat.ble 4294967296 f) x false) t
/-- The same on what is fixed. -/
def Fx (σ σ' : Nat → Nat) : Prop := ∀ f x, 4294967296 ≤ f → σ' (appAt f x) = σ (appAt f x)
theorem belowT_ok {nv : Nat} {σ σ' : Nat → Nat} (ha : ∀ i, i < nv → σ' i = σ i) (hb : Fx σ σ') : ∀ {t : Tm}, belowT nv t = true → t.ev σ' = t.ev σ := by
  intro t
  induction t with
  | lit n => intro _; rfl
  | var i w => intro h; show σ' i % 2 ^ w = σ i % 2 ^ w; rw [ha i (of_nblt h)]
  | un o w a ih => intro h; show o.ev w (a.ev σ') = o.ev w (a.ev σ); rw [ih h]
  | bin o w a b iha ihb =>
    intro h
    obtain ⟨h1, h2⟩ := bc_tf h
    show o.ev w (a.ev σ') (b.ev σ') = o.ev w (a.ev σ) (b.ev σ)
    rw [iha h1, ihb h2]
  | ite c a b ihc iha ihb =>
    intro h
    obtain ⟨h1, h2⟩ := bc_tf h
    obtain ⟨h2, h3⟩ := bc_tf h2
    show bc (Nat.beq (c.ev σ') 0) (b.ev σ') (a.ev σ') = bc (Nat.beq (c.ev σ) 0) (b.ev σ) (a.ev σ)
    rw [ihc h1, iha h2, ihb h3]
  | app f w a ih =>
    intro h
    obtain ⟨h1, h2⟩ := bc_tf h
    show σ' (appAt f (a.ev σ')) % 2 ^ w = σ (appAt f (a.ev σ)) % 2 ^ w
    rw [ih h2, hb f _ (of_nble h1)]
/-- The fresh variable j is there what sub says. -/
noncomputable def subIs (sub : List Tm) (j : Nat) (y : Tm) : Bool := Option.rec false (fun x => Tm.same x y) (nthR sub j)
theorem subIs_ok {sub : List Tm} {j : Nat} {y : Tm} (h : subIs sub j y = true) : sub[j]? = some y := by
  unfold subIs at h
  rw [nthR_eq] at h
  cases hs : sub[j]? with
  | none => rw [hs] at h; cases h
  | some x => rw [hs] at h; rw [Tm.same_eq h]
/-- Two terms of the same worth. -/
noncomputable def eqT (pc : PC) (w : Nat) (x y : Tm) : Bool := bc (Tm.same x y) true (bc (Nat.beq (decT pc (.bin .eq w x y)) 1) true (Option.rec false (fun n => Nat.blt 0 n) (isLit (simpT pc (redT pc.subs (.bin .eq w x y))))))
theorem eqT_ok {σ} {pc : PC} (hp : pc.ok σ) {w : Nat} {x y : Tm} (h : eqT pc w x y = true) : x.ev σ = y.ev σ := by
  unfold eqT at h
  have fin : (Tm.bin .eq w x y).ev σ ≠ 0 → x.ev σ = y.ev σ := fun this => by
    change b2n (Nat.beq (x.ev σ) (y.ev σ)) ≠ 0 at this
    by_cases e : x.ev σ = y.ev σ
    · exact e
    · rw [nbeq_f e] at this; exact absurd rfl this
  cases h1 : Tm.same x y
  · rw [h1] at h
    cases h2 : Nat.beq (decT pc (.bin .eq w x y)) 1
    · rw [h2] at h
      cases hl : isLit (simpT pc (redT pc.subs (.bin .eq w x y))) with
      | none => rw [hl] at h; cases h
      | some n =>
        rw [hl] at h
        refine fin ?_
        rw [← redT_ev hp.2.1, ← simpT_ev hp, isLit_some hl]
        exact Nat.ne_of_gt (of_nblt h)
    · exact fin ((decT_ok hp (t := .bin .eq w x y)).1 (of_nbeq h2))
  · rw [Tm.same_eq h1]
/-- The fresh variable j is there worth that. -/
noncomputable def subEq (pc : PC) (w : Nat) (sub : List Tm) (j : Nat) (y : Tm) : Bool := Option.rec false (fun x => eqT pc w x y) (nthR sub j)
theorem subEq_ok {σ} {pc : PC} (hp : pc.ok σ) {w : Nat} {sub : List Tm} {j : Nat} {y : Tm} (h : subEq pc w sub j y = true) : ∃ x, sub[j]? = some x ∧ x.ev σ = y.ev σ := by
  unfold subEq at h
  rw [nthR_eq] at h
  cases hs : sub[j]? with
  | none => rw [hs] at h; cases h
  | some x => rw [hs] at h; exact ⟨x, rfl, eqT_ok hp h⟩
/-- How wide a number or a truth is; 0: neither. -/
noncomputable def wide1 (s : SV) : Nat := bc (Nat.beq s.1 0) s.2.bits (bc (Nat.beq s.1 1) 1 0)
/-- A name of the template, there: below nn the same, beyond as the list says. -/
noncomputable def nmR (nn : Nat) (ρ : List Nat) (o : Nat) : Option Nat := bc (Nat.blt o nn) (some o) (nthR ρ (Nat.sub o nn))
/-- Which tags bear names. -/
noncomputable def isNm (g : Nat) : Bool := bc (Nat.beq g 3) true (bc (Nat.beq g 5) true (bc (Nat.beq g 6) true (bc (Nat.beq g 8) true (bc (Nat.beq g 16) true (Nat.beq g 17)))))
noncomputable def nameOk (nn : Nat) (ρ : List Nat) (a b : SV) : Bool :=
  bc (isNm a.1) (Option.rec false (fun o => Nat.beq o b.3) (nmR nn ρ a.3)) (bc (Nat.beq a.1 18) (bc (Nat.ble 4294967296 a.3) (Nat.beq a.3 b.3) false) (bc (Nat.beq a.1 19) false (Nat.beq a.3 b.3)))
noncomputable def allM (f : SV → SV → Bool) (l : List SV) : List SV → Bool :=
  List.rec (motive := fun _ => List SV → Bool) (fun m => List.rec true (fun _ _ _ => false) m) (fun x _ ih m => List.rec false (fun y t _ => bc (f x y) (ih t) false) m) l
/-- Who agrees: below nv; each fresh variable is what sub says; the names below nn stay, those beyond are as ρ says. -/
structure Mt (nv nn : Nat) (ρ : List Nat) (sub : List Tm) (σ : Nat → Nat) (β : Nat → Option (Nat × Nat)) (σ' : Nat → Nat) (β' : Nat → Option (Nat × Nat)) : Prop where
  old : ∀ i, i < nv → σ' i = σ i
  fix : Fx σ σ'
  new : ∀ j y, sub[j]? = some y → σ' (nv + j) = y.ev σ
  nam : ∀ o o', nmR nn ρ o = some o' → ∀ b, β o' = some b → β' o = some b

theorem bc_none {α : Type} {c : Bool} {x : Option α} {y : α} (h : bc c x none = some y) : c = true ∧ x = some y := by
  cases c
  · cases h
  · exact ⟨rfl, h⟩
/-- Of so many bits: cut, if that is needed. -/
noncomputable def trN (w : Nat) (y : Tm) : Tm := withB (rng [] y) fun r => bc (Nat.blt r.hi (p2 w)) y (mkUn .tr w y)
theorem trN_ev (σ : Nat → Nat) (w : Nat) (y : Tm) : (trN w y).ev σ = y.ev σ % 2 ^ w := by
  unfold trN
  rw [withB_eq]
  cases h : Nat.blt (rng [] y).hi (p2 w)
  · show (mkUn .tr w y).ev σ = _
    rw [mkUn_ev]; rfl
  · have h1 := of_nblt h
    have h2 := (rng_ok (σ := σ) (l := []) (by intro b hb; cases hb) y).2
    rw [p2_eq] at h1
    exact (Nat.mod_eq_of_lt (Nat.lt_of_le_of_lt h2 h1)).symm
/-- A fact about fresh variables, with what they stand for in their stead. -/
noncomputable def substT (nv : Nat) (sub : List Tm) (t : Tm) : Option Tm :=
  Tm.rec (fun n => some (.lit n)) (fun i w => bc (Nat.blt i nv) (some (.var i w)) (ob (nthR sub (Nat.sub i nv)) fun y => some (trN w y))) (fun o w _ x => ob x fun a => some (mkUn o w a))
    (fun o w _ _ x y => ob x fun a => ob y fun b => some (mkBin o w a b)) (fun _ _ _ x y z => ob x fun c => ob y fun a => ob z fun b => some (mkIte c a b)) (fun f w _ x => bc (Nat.ble 4294967296 f) (ob x fun a => some (.app f w a)) none) t
theorem substT_ev {nv nn : Nat} {ρ : List Nat} {sub : List Tm} {σ σ' : Nat → Nat} {β β' : Nat → Option (Nat × Nat)} (hm : Mt nv nn ρ sub σ β σ' β') : ∀ {t t' : Tm}, substT nv sub t = some t' → t'.ev σ = t.ev σ' := by
  intro t
  induction t with
  | lit n => intro t' h; cases h; rfl
  | var i w =>
    intro t' h
    change bc (Nat.blt i nv) (some (.var i w)) (ob (nthR sub (Nat.sub i nv)) fun y => some (trN w y)) = some t' at h
    cases hb : Nat.blt i nv
    · rw [hb] at h
      obtain ⟨y, hy, h⟩ := ob_some h
      cases h
      rw [nthR_eq] at hy
      have hge : nv ≤ i := by
        rcases Nat.lt_or_ge i nv with hh | hh
        · rw [nblt_t hh] at hb; cases hb
        · exact hh
      have := hm.new _ y hy
      rw [show nv + Nat.sub i nv = i by show nv + (i - nv) = i; omega] at this
      rw [trN_ev]
      show y.ev σ % 2 ^ w = σ' i % 2 ^ w
      rw [this]
    · rw [hb] at h; cases h
      show σ i % 2 ^ w = σ' i % 2 ^ w
      rw [hm.old i (of_nblt hb)]
  | un o w a ih =>
    intro t' h
    obtain ⟨a', ha, h⟩ := ob_some h
    cases h
    rw [mkUn_ev, ih ha]; rfl
  | bin o w a b iha ihb =>
    intro t' h
    obtain ⟨a', ha, h⟩ := ob_some h
    obtain ⟨b', hb, h⟩ := ob_some h
    cases h
    rw [mkBin_ev, iha ha, ihb hb]; rfl
  | ite c a b ihc iha ihb =>
    intro t' h
    obtain ⟨c', hc, h⟩ := ob_some h
    obtain ⟨a', ha, h⟩ := ob_some h
    obtain ⟨b', hb, h⟩ := ob_some h
    cases h
    rw [mkIte_ev, ihc hc, iha ha, ihb hb, ev_ite]
  | app f w a ih =>
    intro t' h
    obtain ⟨h1, h⟩ := bc_none (show bc (Nat.ble 4294967296 f) (ob (substT nv sub a) fun a => some (.app f w a)) none = some t' from h)
    obtain ⟨a', ha, h⟩ := ob_some h
    cases h
    show σ (appAt f (a'.ev σ)) % 2 ^ w = σ' (appAt f (a.ev σ')) % 2 ^ w
    rw [ih ha, hm.fix f _ (of_nble h1)]

/-- One value is another, with terms in the stead of fresh variables. -/
noncomputable def matS (pc : PC) (nv nn : Nat) (ρ : List Nat) (sub : List Tm) (n : Nat) : SV → SV → Bool :=
  Nat.rec (motive := fun _ => SV → SV → Bool) (fun _ _ => false) (fun _ ih a b =>
    bc (Nat.beq a.1 b.1) (bc (Nat.beq a.2.ctorIdx b.2.ctorIdx) (bc (nameOk nn ρ a b) (bc (Nat.beq a.4 b.4)
      (bc (Option.rec (bc (bc (Tm.same a.5 b.5) (belowT nv a.5) false) true (bc (Nat.blt 0 (wide1 a)) (Option.rec false (fun x => eqT pc (wide1 a) x b.5) (substT nv sub a.5)) false)) (fun j => subEq pc (wide1 a) sub j b.5) (bc (Nat.blt 0 (wide1 a)) (freshI nv (wide1 a) a.5) none))
        (bc (Tm.same a.6 b.6) (bc (belowT nv a.6) (bc (Tm.same a.7 b.7) (bc (belowT nv a.7) (allM ih a.8 b.8) false) false) false) false) false) false) false) false) false) n

theorem allM_den {f : SV → SV → Bool} {σ σ' : Nat → Nat} {β β' : Nat → Option (Nat × Nat)} (hf : ∀ {a b : SV} {v : Value}, f a b = true → Den σ β b v → Den σ' β' a v) :
    ∀ {l m : List SV} {vs : List Value}, allM f l m = true → DenL σ β m vs → DenL σ' β' l vs
  | [], m, vs, h, hd => by
    cases m with
    | nil => cases hd; exact .nil
    | cons _ _ => cases h
  | x :: l, m, vs, h, hd => by
    cases m with
    | nil => cases h
    | cons y t =>
      obtain ⟨h1, h2⟩ := bc_tf (show bc (f x y) (allM f l t) false = true from h)
      cases hd with
      | cons hx htl => exact .cons (hf h1 hx) (allM_den hf h2 htl)
theorem allM_off {f : SV → SV → Bool} : ∀ {l m : List SV}, allM f l m = true → ∀ {n : Nat}, offB l n = offB m n
  | [], [], _, _ => rfl
  | [], _ :: _, h, _ => by cases h
  | _ :: _, [], h, _ => by cases h
  | _ :: _, _ :: _, _, _ => rfl
theorem matS_den {pc : PC} {nv nn : Nat} {ρ : List Nat} {sub : List Tm} {σ σ' : Nat → Nat} {β β' : Nat → Option (Nat × Nat)} (hp : pc.ok σ) (hm : Mt nv nn ρ sub σ β σ' β') : ∀ (n : Nat) {a b : SV} {v : Value}, matS pc nv nn ρ sub n a b = true → Den σ β b v → Den σ' β' a v
  | 0, _, _, _, h, _ => by cases h
  | n + 1, a, b, v, h, hd => by
    obtain ⟨h1, h⟩ := bc_tf h
    obtain ⟨h2, h⟩ := bc_tf h
    obtain ⟨hN, h⟩ := bc_tf h
    obtain ⟨h4, h⟩ := bc_tf h
    obtain ⟨h5, h⟩ := bc_tf h
    obtain ⟨h6, h⟩ := bc_tf h
    obtain ⟨h6', h⟩ := bc_tf h
    obtain ⟨h7, h⟩ := bc_tf h
    obtain ⟨h7', h8⟩ := bc_tf h
    obtain ⟨tag, k, x, y, t, u, c, l⟩ := a
    obtain ⟨tag', k', x', y', t', u', c', l'⟩ := b
    have e1 : tag = tag' := of_nbeq h1
    have e2 : k = k' := kind_idx (of_nbeq h2)
    have e4 : y = y' := of_nbeq h4
    have e6 : u = u' := Tm.same_eq h6
    have e7 : c = c' := Tm.same_eq h7
    clear h1 h2 h4 h6 h7
    subst e1; subst e2; subst e4; subst e6; subst e7
    have eu : u.ev σ' = u.ev σ := belowT_ok hm.old hm.fix h6'
    have ec : c.ev σ' = c.ev σ := belowT_ok hm.old hm.fix h7'
    have hl : ∀ vs, DenL σ β l' vs → DenL σ' β' l vs := fun vs => allM_den (fun h hd => matS_den hp hm n h hd) h8
    have offE : ∀ {n : Nat}, offB l n = offB l' n := fun {_} => allM_off h8
    -- names
    have nm : isNm tag = true → ∀ b, β x' = some b → β' x = some b := fun e b hb => by
      change bc (isNm tag) (Option.rec false (fun o => Nat.beq o x') (nmR nn ρ x)) _ = true at hN
      rw [e] at hN
      cases ho : nmR nn ρ x with
      | none => rw [ho] at hN; cases hN
      | some o =>
        rw [ho] at hN
        have : o = x' := of_nbeq hN
        subst this
        exact hm.nam x o ho b hb
    have nn' : isNm tag = false → Nat.beq tag 18 = false → Nat.beq tag 19 = false → x = x' := fun e1 e2 e3 => by
      change bc (isNm tag) _ (bc (Nat.beq tag 18) _ (bc (Nat.beq tag 19) false (Nat.beq x x'))) = true at hN
      rw [e1, e2, e3] at hN
      exact of_nbeq hN
    -- the first term
    have ht : (t = t' ∧ t.ev σ' = t.ev σ) ∨ ((tag = 0 ∨ tag = 1) ∧ ∀ w, wide1 (.mk tag k x y t u c l) = w → t'.ev σ < 2 ^ w → t.ev σ' = t'.ev σ) := by
      change (Option.rec (bc (bc (Tm.same t t') (belowT nv t) false) true (bc (Nat.blt 0 (wide1 (.mk tag k x y t u c l))) (Option.rec false (fun x' => eqT pc (wide1 (.mk tag k x y t u c l)) x' t') (substT nv sub t)) false)) (fun j => subEq pc (wide1 (.mk tag k x y t u c l)) sub j t') (bc (Nat.blt 0 (wide1 (.mk tag k x y t u c l))) (freshI nv (wide1 (.mk tag k x y t u c l)) t) none) : Bool) = true at h5
      have tags : Nat.blt 0 (wide1 (.mk tag k x y t u c l)) = true → (tag = 0 ∨ tag = 1) := fun hw => by
        have hp := of_nblt hw
        change 0 < bc (Nat.beq tag 0) k.bits (bc (Nat.beq tag 1) 1 0) at hp
        by_cases e : tag = 0
        · exact .inl e
        · rw [nbeq_f e] at hp
          by_cases e' : tag = 1
          · exact .inr e'
          · rw [nbeq_f e'] at hp; exact absurd hp (Nat.lt_irrefl 0)
      cases hf : (bc (Nat.blt 0 (wide1 (.mk tag k x y t u c l))) (freshI nv (wide1 (.mk tag k x y t u c l)) t) none : Option Nat) with
      | none =>
        rw [hf] at h5
        change bc (bc (Tm.same t t') (belowT nv t) false) true (bc (Nat.blt 0 (wide1 (.mk tag k x y t u c l))) (Option.rec false (fun x' => eqT pc (wide1 (.mk tag k x y t u c l)) x' t') (substT nv sub t)) false) = true at h5
        cases hs : bc (Tm.same t t') (belowT nv t) false
        · rw [hs] at h5
          obtain ⟨hw, h5⟩ := bc_tf (show bc (Nat.blt 0 (wide1 (.mk tag k x y t u c l))) _ false = true from h5)
          cases hx : substT nv sub t with
          | none => rw [hx] at h5; cases h5
          | some z =>
            rw [hx] at h5
            refine .inr ⟨tags hw, fun w _ _ => ?_⟩
            rw [← substT_ev hm hx]; exact eqT_ok hp h5
        · obtain ⟨e1, e2⟩ := bc_tf hs
          exact .inl ⟨Tm.same_eq e1, belowT_ok hm.old hm.fix e2⟩
      | some j =>
        rw [hf] at h5
        right
        cases hw : Nat.blt 0 (wide1 (.mk tag k x y t u c l))
        · rw [hw] at hf; cases hf
        · rw [hw] at hf
          have e1 := freshI_some hf
          obtain ⟨z, hz, hz'⟩ := subEq_ok hp h5
          have e2 := hm.new j z hz
          refine ⟨tags hw, fun w hww hlt => ?_⟩
          rw [e1, hww]
          show σ' (nv + j) % 2 ^ w = _
          rw [e2, hz', Nat.mod_eq_of_lt hlt]
    have same : ¬ (tag = 0 ∨ tag = 1) → t = t' ∧ t.ev σ' = t.ev σ := fun hn => ht.elim id fun h => absurd h.1 hn
    cases hd with
    | int hlt =>
      have e : t.ev σ' = t'.ev σ := by
        rcases ht with ⟨rfl, e⟩ | ⟨_, e⟩
        · exact e
        · exact e k.bits rfl hlt
      rw [← e] at hlt ⊢
      exact .int hlt
    | bool hlt =>
      have e : t.ev σ' = t'.ev σ := by
        rcases ht with ⟨rfl, e⟩ | ⟨_, e⟩
        · exact e
        · exact e 1 rfl (by omega)
      rw [← e] at hlt ⊢
      exact .bool hlt
    | pnil => exact .pnil
    | ptr g => exact .ptr (nm rfl _ g)
    | snil => exact .snil
    | slice g =>
      obtain ⟨rfl, _⟩ := same (by decide)
      exact .slice (nm rfl _ g)
    | sliceU g hl' hz' =>
      obtain ⟨rfl, _⟩ := same (by decide)
      exact .sliceU (nm rfl _ g) hl' hz'
    | mnil => exact .mnil
    | map g => exact .map (nm rfl _ g)
    | func g =>
      have := nn' rfl rfl rfl
      subst this
      exact .func (hl _ g)
    | bfn g =>
      have := nn' rfl rfl rfl
      subst this
      exact .bfn (hl _ g)
    | fnil => exact .fnil
    | str g => exact .str (hl _ g)
    | inil => exact .inil
    | agg g => exact .agg (hl _ g)
    | tuple g => exact .tuple (hl _ g)
    | iface g =>
      have := nn' rfl rfl rfl
      subst this
      have := hl _ (.cons g .nil)
      cases this with
      | cons h1 h2 => cases h2 with
        | nil => exact .iface h1
    | ptrT g =>
      obtain ⟨rfl, e⟩ := same (by decide)
      rw [← e, ← ec, ← offE]
      exact .ptrT (nm rfl _ g)
    | sliceT g hl' hc =>
      obtain ⟨rfl, e⟩ := same (by decide)
      rw [← e, ← eu, ← ec, ← offE]
      rw [← eu, ← ec] at hl'
      rw [← ec] at hc
      exact .sliceT (nm rfl _ g) hl' hc
    | strT hlen hby =>
      obtain ⟨rfl, e⟩ := same (by decide)
      obtain ⟨f1, f2⟩ := bc_tf (show bc (Nat.ble 4294967296 x) (Nat.beq x x') false = true from hN)
      have := of_nbeq f2
      subst this
      refine .strT (by rw [e]; exact hlen) fun i v hv => ?_
      rw [hm.fix x i (of_nble f1)]; exact hby i v hv

/-! ### Objects, memory, frames -/
noncomputable def kindEq (a b : Option IntKind) : Bool := Option.rec (Option.rec true (fun _ => false) b) (fun x => Option.rec false (fun y => Nat.beq x.ctorIdx y.ctorIdx) b) a
theorem kindEq_ok {a b : Option IntKind} (h : kindEq a b = true) : a = b := by
  cases a with
  | none => cases b with
    | none => rfl
    | some _ => cases h
  | some x => cases b with
    | none => cases h
    | some y => rw [kind_idx (of_nbeq h)]
noncomputable def kindsEq (l : List (Option IntKind)) : List (Option IntKind) → Bool :=
  List.rec (motive := fun _ => List (Option IntKind) → Bool) (fun m => List.rec true (fun _ _ _ => false) m) (fun x _ ih m => List.rec false (fun y t _ => bc (kindEq x y) (ih t) false) m) l
theorem kindsEq_ok : ∀ {l m : List (Option IntKind)}, kindsEq l m = true → l = m
  | [], [], _ => rfl
  | [], _ :: _, h => by cases h
  | _ :: _, [], h => by cases h
  | x :: l, y :: m, h => by
    obtain ⟨h1, h2⟩ := bc_tf (show bc (kindEq x y) (kindsEq l m) false = true from h)
    rw [kindEq_ok h1, kindsEq_ok h2]
noncomputable def matSym (nv : Nat) (d : Tm) (fs : List (Option IntKind)) (base : Nat) (len : Tm) (d' : Tm) (fs' : List (Option IntKind)) (base' : Nat) (len' : Tm) : Bool :=
  bc (bc (Tm.same d d') (belowT nv d) false) (bc (kindsEq fs fs') (bc (bc (Nat.beq base base') (Nat.ble 4294967296 base) false) (bc (Tm.same len len') (belowT nv len) false) false) false) false
/-- Keys that are the same numbers. -/
noncomputable def keyLit (a b : SV) : Bool := bc (Nat.beq a.1 0) (bc (Nat.beq b.1 0) (bc (Nat.beq a.2.ctorIdx b.2.ctorIdx) (Option.rec false (fun x => Option.rec false (fun y => Nat.beq x y) (isLit b.5)) (isLit a.5)) false) false) false
theorem keyLit_ok {a b : SV} (h : keyLit a b = true) {v : Value} {τ β} (hd : Den τ β b v) : ∀ τ' β', Den τ' β' a v := by
  obtain ⟨tag, k, x, y, t, u, c, l⟩ := a
  obtain ⟨tag', k', x', y', t', u', c', l'⟩ := b
  obtain ⟨h1, h⟩ := bc_tf h
  obtain ⟨h2, h⟩ := bc_tf h
  obtain ⟨h3, h⟩ := bc_tf h
  have e1 : tag = 0 := of_nbeq h1
  have e2 : tag' = 0 := of_nbeq h2
  have e3 : k = k' := kind_idx (of_nbeq h3)
  subst e1; subst e2; subst e3
  change (Option.rec false (fun x => Option.rec false (fun y => Nat.beq x y) (isLit t')) (isLit t) : Bool) = true at h
  cases ha : isLit t with
  | none => rw [ha] at h; cases h
  | some n =>
    rw [ha] at h
    change (Option.rec false (fun y => Nat.beq n y) (isLit t') : Bool) = true at h
    cases hb : isLit t' with
    | none => rw [hb] at h; cases h
    | some n' =>
      rw [hb] at h
      have := of_nbeq h
      subst this
      have e4 := isLit_some ha
      have e5 := isLit_some hb
      subst e4; subst e5
      intro τ' β'
      cases hd with
      | int hlt => exact Den.int (σ := τ') (β := β') hlt
noncomputable def matES (f : SV → SV → Bool) (l : List ME) : List ME → Bool :=
  List.rec (motive := fun _ => List ME → Bool) (fun m => List.rec true (fun _ _ _ => false) m) (fun x _ ih m => List.rec false (fun y t _ => bc (keyLit x.key y.key) (bc (f x.val y.val) (ih t) false) false) m) l
theorem matES_den {f : SV → SV → Bool} {σ σ' : Nat → Nat} {β β' : Nat → Option (Nat × Nat)} (hf : ∀ {a b : SV} {v : Value}, f a b = true → Den σ β b v → Den σ' β' a v) :
    ∀ {l m : List ME} {vs : List (Value × Value)}, matES f l m = true → DenK σ β m vs → DenK σ' β' l vs
  | [], m, vs, h, hd => by
    cases m with
    | nil => cases hd; exact .nil
    | cons _ _ => cases h
  | x :: l, m, vs, h, hd => by
    cases m with
    | nil => cases h
    | cons y t =>
      obtain ⟨h1, h⟩ := bc_tf (show bc (keyLit x.key y.key) (bc (f x.val y.val) (matES f l t) false) false = true from h)
      obtain ⟨h2, h3⟩ := bc_tf h
      cases hd with
      | cons hk hv tl => exact .cons (fun τ => keyLit_ok h1 (hk σ) τ β') (hf h2 hv) (matES_den hf h3 tl)
noncomputable def matOb (nv : Nat) (f : SV → SV → Bool) (a b : SObj) : Bool :=
  SObj.rec (fun cs e => SObj.rec (fun cs' e' => bc (Nat.beq e e') (allM f cs cs') false) (fun _ _ _ => false) (fun _ => false) (fun _ _ _ => false) (fun _ _ _ _ => false) (fun _ => false) (fun _ _ => false) (fun _ => false) b)
    (fun cs e z => SObj.rec (fun _ _ => false) (fun cs' e' z' => bc (Nat.beq e e') (bc (Nat.beq z z') (allM f cs cs') false) false) (fun _ => false) (fun _ _ _ => false) (fun _ _ _ _ => false) (fun _ => false) (fun _ _ => false) (fun _ => false) b)
    (fun _ => false) (fun m cs lst => SObj.rec (fun _ _ => false) (fun _ _ _ => false) (fun _ => false) (fun m' cs' _ => bc (Nat.beq lst 0) (bc (f (.sliceU m 0) (.sliceU m' 0)) (allM f cs cs') false) false) (fun _ _ _ _ => false) (fun _ => false) (fun _ _ => false) (fun _ => false) b)
    (fun d fs base len => SObj.rec (fun _ _ => false) (fun _ _ _ => false) (fun _ => false) (fun _ _ _ => false) (fun d' fs' base' len' => matSym nv d fs base len d' fs' base' len') (fun _ => false) (fun _ _ => false) (fun _ => false) b)
    (fun es => SObj.rec (fun _ _ => false) (fun _ _ _ => false) (fun _ => false) (fun _ _ _ => false) (fun _ _ _ _ => false) (fun es' => matES f es es') (fun _ _ => false) (fun _ => false) b) (fun _ _ => false) (fun cs => SObj.rec (fun _ _ => false) (fun _ _ _ => false) (fun _ => false) (fun _ _ _ => false) (fun _ _ _ _ => false) (fun _ => false) (fun _ _ => false) (fun cs' => allM f cs cs') b) a
theorem matOb_den {nv : Nat} {f : SV → SV → Bool} {σ σ' : Nat → Nat} {β β' : Nat → Option (Nat × Nat)} (ho : ∀ i, i < nv → σ' i = σ i) (hx : Fx σ σ') (hf : ∀ {a b : SV} {v : Value}, f a b = true → Den σ β b v → Den σ' β' a v) {a b : SObj} {c : Nat} {x : Obj}
    (h : matOb nv f a b = true) (hd : ObjDen σ β c b x) : ObjDen σ' β' c a x := by
  cases a with
  | cells cs e =>
    cases b with
    | cells cs' e' =>
      obtain ⟨h1, h2⟩ := bc_tf (show bc (Nat.beq e e') (allM f cs cs') false = true from h)
      have := of_nbeq h1
      subst this
      cases hd with
      | cells g => exact .cells (allM_den hf h2 g)
    | _ => cases h
  | grown cs e z =>
    cases b with
    | grown cs' e' z' =>
      obtain ⟨h1, h2⟩ := bc_tf (show bc (Nat.beq e e') (bc (Nat.beq z z') (allM f cs cs') false) false = true from h)
      obtain ⟨h2, h3⟩ := bc_tf h2
      have e1 := of_nbeq h1
      have e2 := of_nbeq h2
      subst e1; subst e2
      cases hd with
      | grown g hc => exact .grown (allM_den hf h3 g) hc
    | _ => cases h
  | sym d fs base len =>
    cases b with
    | sym d' fs' base' len' =>
      obtain ⟨h1, h⟩ := bc_tf (show bc (bc (Tm.same d d') (belowT nv d) false) (bc (kindsEq fs fs') (bc (bc (Nat.beq base base') (Nat.ble 4294967296 base) false) (bc (Tm.same len len') (belowT nv len) false) false) false) false = true from h)
      obtain ⟨h2, h⟩ := bc_tf h
      obtain ⟨h3, h4⟩ := bc_tf h
      obtain ⟨a1, a2⟩ := bc_tf h1
      obtain ⟨b1, b2⟩ := bc_tf h3
      obtain ⟨c1, c2⟩ := bc_tf h4
      have := Tm.same_eq a1; subst this
      have := kindsEq_ok h2; subst this
      have := of_nbeq b1; subst this
      have := Tm.same_eq c1; subst this
      have b2 := of_nble b2
      cases hd with
      | sym g =>
        refine .sym fun i j k hi hj => ?_
        rw [belowT_ok ho hx a2]
        rw [belowT_ok ho hx c2] at hi
        rw [g i j k hi hj]
        have : σ' (appAt (base + j) i) = σ (appAt (base + j) i) := hx _ _ (by omega)
        cases k with
        | some k => show some (Value.int k _) = some (Value.int k _); rw [this]
        | none => show some (Value.bool _) = some (Value.bool _); rw [this]
    | _ => cases h
  | iter m cs lst =>
    cases b with
    | iter m' cs' lst' =>
      obtain ⟨h1, h⟩ := bc_tf (show bc (Nat.beq lst 0) (bc (f (.sliceU m 0) (.sliceU m' 0)) (allM f cs cs') false) false = true from h)
      obtain ⟨h2, h3⟩ := bc_tf h
      have := of_nbeq h1
      subst this
      cases hd with
      | iter g hn hd hl hs ht =>
        have := hf h2 (Den.sliceU (k := .u8) (off := 0) (sh := 0) (c := .lit 0) (l := []) g (Nat.zero_le _) (fun _ => rfl))
        generalize hvv : Value.slice _ 0 _ = vv at this
        cases this with
        | sliceU g' _ _ =>
          injection hvv with e1 e2 e3
          injection e1 with e1
          injection e1 with e1
          subst e1
          subst e3
          exact .iter g' hn (allM_den hf h3 hd) hl hs (.inl rfl)
    | _ => cases h
  | imap es =>
    cases b with
    | imap es' =>
      cases hd with
      | imap g hp hs hc => exact .imap (matES_den hf h g) hp hs hc
    | _ => cases h
  | map _ => cases h
  | siter _ _ => cases h
  | tab cs =>
    cases b with
    | tab cs' =>
      cases hd with
      | tab g hc => exact .tab (allM_den hf (show allM f cs cs' = true from h) g) hc
    | _ => cases h
noncomputable def matHE (nv : Nat) (f : SV → SV → Bool) (a b : HE) : Bool := bc (Bool.rec (Bool.not b.ro) b.ro a.ro) (matOb nv f a.ob b.ob) false
noncomputable def matO (nv : Nat) (f : SV → SV → Bool) (a b : Option HE) : Bool := Option.rec true (fun a => Option.rec false (fun b => matHE nv f a b) b) a
/-- Every object that is known here is there. -/
noncomputable def matTr (nv : Nat) (f : SV → SV → Bool) (t : Tr HE) : Tr HE → Bool :=
  Tr.rec (motive := fun _ => Tr HE → Bool) (fun _ => true)
    (fun v _ _ _ _ ia ib ic id t' => Tr.rec (motive := fun _ => Bool) (bc (matO nv f v none) (bc (ia .nil) (bc (ib .nil) (bc (ic .nil) (id .nil) false) false) false) false)
      (fun v' a b c d _ _ _ _ => bc (matO nv f v v') (bc (ia a) (bc (ib b) (bc (ic c) (id d) false) false) false) false) t') t
theorem matTr_getD {nv : Nat} {f : SV → SV → Bool} : ∀ (xs : List D) {t t' : Tr HE}, matTr nv f t t' = true → ∀ {he : HE}, Tr.getD xs t = some he → ∃ he', Tr.getD xs t' = some he' ∧ matHE nv f he he' = true := by
  intro xs
  induction xs with
  | nil =>
    intro t t' h he hg
    cases t with
    | nil => rw [Tr.getD_nil] at hg; cases hg
    | node v a b c d =>
      change v = some he at hg
      subst hg
      cases t' with
      | nil => cases h
      | node v' a' b' c' d' =>
        obtain ⟨h1, _⟩ := bc_tf (show bc (matO nv f (some he) v') _ false = true from h)
        cases v' with
        | none => cases h1
        | some he' => exact ⟨he', rfl, h1⟩
  | cons x xs ih =>
    intro t t' h he hg
    cases t with
    | nil => rw [Tr.getD_nil] at hg; cases hg
    | node v a b c d =>
      cases t' with
      | nil =>
        obtain ⟨_, h2⟩ := bc_tf (show bc (matO nv f v none) (bc (matTr nv f a .nil) (bc (matTr nv f b .nil) (bc (matTr nv f c .nil) (matTr nv f d .nil) false) false) false) false = true from h)
        obtain ⟨ha, h2⟩ := bc_tf h2
        obtain ⟨hb, h2⟩ := bc_tf h2
        obtain ⟨hc, hdd⟩ := bc_tf h2
        have none' : ∀ {t : Tr HE}, matTr nv f t .nil = true → Tr.getD xs t = some he → False := fun h1 h2 => by
          obtain ⟨he', e, _⟩ := ih h1 h2
          rw [Tr.getD_nil] at e; cases e
        cases x
        · exact (none' ha hg).elim
        · exact (none' hb hg).elim
        · exact (none' hc hg).elim
        · exact (none' hdd hg).elim
      | node v' a' b' c' d' =>
        obtain ⟨_, h2⟩ := bc_tf (show bc (matO nv f v v') (bc (matTr nv f a a') (bc (matTr nv f b b') (bc (matTr nv f c c') (matTr nv f d d') false) false) false) false = true from h)
        obtain ⟨ha, h2⟩ := bc_tf h2
        obtain ⟨hb, h2⟩ := bc_tf h2
        obtain ⟨hc, hdd⟩ := bc_tf h2
        cases x
        · exact ih ha hg
        · exact ih hb hg
        · exact ih hc hg
        · exact ih hdd hg
theorem matTr_get {nv : Nat} {f : SV → SV → Bool} {t t' : Tr HE} (h : matTr nv f t t' = true) {o : Nat} {he : HE} (hg : t.get o = some he) : ∃ he', t'.get o = some he' ∧ matHE nv f he he' = true := matTr_getD _ h hg
theorem matHE_ok {nv : Nat} {f : SV → SV → Bool} {a b : HE} (h : matHE nv f a b = true) : a.ro = b.ro ∧ matOb nv f a.ob b.ob = true := by
  obtain ⟨h1, h2⟩ := bc_tf h
  refine ⟨?_, h2⟩
  cases ha : a.ro <;> cases hb : b.ro <;> rw [ha, hb] at h1 <;> first | rfl | cases h1
/-- A slot that is not known may be anything. -/
noncomputable def matSl (f : SV → SV → Bool) (a b : SV) : Bool := bc (Nat.beq a.1 19) true (f a b)
noncomputable def matN {α : Type} (f : α → α → Bool) (x y : N8 α) : Bool :=
  N8.rec (fun a b c d e g h i => N8.rec (fun a' b' c' d' e' g' h' i' => bc (f a a') (bc (f b b') (bc (f c c') (bc (f d d') (bc (f e e') (bc (f g g') (bc (f h h') (f i i') false) false) false) false) false) false) false) y) x
theorem matN_get {α : Type} {f : α → α → Bool} {x y : N8 α} (h : matN f x y = true) (d : Nat) : f (n8get d x) (n8get d y) = true := by
  obtain ⟨a, b, c, d', e, g, i, j⟩ := x
  obtain ⟨a', b', c', d'', e', g', i', j'⟩ := y
  obtain ⟨h1, h⟩ := bc_tf h
  obtain ⟨h2, h⟩ := bc_tf h
  obtain ⟨h3, h⟩ := bc_tf h
  obtain ⟨h4, h⟩ := bc_tf h
  obtain ⟨h5, h⟩ := bc_tf h
  obtain ⟨h6, h⟩ := bc_tf h
  obtain ⟨h7, h8⟩ := bc_tf h
  unfold n8get
  cases Nat.beq d 0 <;> cases Nat.beq d 1 <;> cases Nat.beq d 2 <;> cases Nat.beq d 3 <;> cases Nat.beq d 4 <;> cases Nat.beq d 5 <;> cases Nat.beq d 6 <;> assumption
noncomputable def matF (f : SV → SV → Bool) (F G : F3) : Bool := bc (bc (Nat.beq ((mkG 511).g F).1 19) (Nat.beq ((mkG 511).g G).1 19) true) (matN (matN (matN (matSl f))) F G) false
theorem matF_get {f : SV → SV → Bool} {F G : F3} (h : matF f F G = true) (i : Nat) : matSl f (getF i F) (getF i G) = true := by
  obtain ⟨_, h⟩ := bc_tf h
  unfold getF
  exact matN_get (matN_get (matN_get h _) _) _
theorem matF_def {f : SV → SV → Bool} {F G : F3} (h : matF f F G = true) (hu : (getF 511 F).1 = 19) : (getF 511 G).1 = 19 := by
  obtain ⟨h, _⟩ := bc_tf h
  rw [mkG_eq, mkG_eq, nbeq_t hu] at h
  exact of_nbeq h
theorem matF_rep {pc : PC} {nv nn : Nat} {ρ : List Nat} {sub : List Tm} {σ σ' : Nat → Nat} {β β' : Nat → Option (Nat × Nat)} (hp : pc.ok σ) (hm : Mt nv nn ρ sub σ β σ' β') {n N : Nat} {F G : F3} {a : Act} (h : matF (matS pc nv nn ρ sub n) F G = true) (hgl : ∀ g, g < 64 → β' g = some (g, 0)) (hG : RepF σ β N G a) : RepF σ' β' N F a := by
  refine ⟨hG.size, ?_, fun i hi => ?_, hgl⟩
  · cases h19 : Nat.beq (getF 511 F).1 19
    · right
      have hs := matF_get h 511
      unfold matSl at hs
      rw [h19] at hs
      rcases hG.defers with ⟨hu, _⟩ | hd
      · exfalso
        have hs : matS pc nv nn ρ sub n (getF 511 F) (getF 511 G) = true := hs
        cases n with
        | zero => cases hs
        | succ n =>
          obtain ⟨h1, _⟩ := bc_tf hs
          have := of_nbeq h1
          rw [hu] at this
          rw [this] at h19; cases h19
      · exact matS_den hp hm n hs hd
    · left
      refine ⟨of_nbeq h19, ?_⟩
      have hu := matF_def h (of_nbeq h19)
      rcases hG.defers with ⟨_, hd⟩ | hd
      · exact hd
      · exfalso
        generalize getF 511 G = s at hu hd
        cases hd; cases hu
  have hs := matF_get h i
  unfold matSl at hs
  cases h19 : Nat.beq (getF i F).1 19
  · rw [h19] at hs
    right
    rcases hG.tmp i hi with hu | ⟨v, h1, h2⟩
    · exfalso
      -- a known slot does not meet an unknown one
      have hs : matS pc nv nn ρ sub n (getF i F) (getF i G) = true := hs
      cases n with
      | zero => cases hs
      | succ n =>
        obtain ⟨h1, _⟩ := bc_tf hs
        have := of_nbeq h1
        rw [hu] at this
        rw [this] at h19; cases h19
    · exact ⟨v, h1, matS_den hp hm n hs h2⟩
  · exact .inl (of_nbeq h19)


/-! ### The loop -/
/-- Memory, with names beyond nn for what ρ says. -/
noncomputable def viewR (hp0 : Tr HE) (ρ : List Nat) : Nat → Tr HE → Tr HE := List.rec (motive := fun _ => Nat → Tr HE → Tr HE) (fun _ h => h) (fun o _ ih i h => ih (Nat.succ i) (h.set i (hp0.get o))) ρ
theorem viewR_get (hp0 : Tr HE) : ∀ (ρ : List Nat) (i : Nat) (h : Tr HE) (o : Nat), (viewR hp0 ρ i h).get o = if i ≤ o ∧ o < i + ρ.length then hp0.get (ρ.getD (o - i) 0) else h.get o
  | [], i, h, o => by
    show h.get o = _
    rw [if_neg (by simp)]
  | x :: ρ, i, h, o => by
    show (viewR hp0 ρ (i + 1) (h.set i (hp0.get x))).get o = _
    rw [viewR_get hp0 ρ (i + 1) _ o]
    by_cases e : o = i
    · subst e
      rw [if_neg (by omega), Tr.get_set_eq, if_pos (by simp)]
      simp
    · rw [Tr.get_set_ne _ _ e]
      by_cases h1 : i ≤ o ∧ o < i + (x :: ρ).length
      · rw [if_pos h1, if_pos (by simp only [List.length_cons] at h1; omega)]
        rw [show o - i = (o - (i + 1)) + 1 by omega]
        simp
      · rw [if_neg h1, if_neg (by simp only [List.length_cons] at h1; omega)]
/-- Names that are not among others. -/
noncomputable def memNat (o : Nat) (l : List Nat) : Bool := List.rec false (fun x _ ih => bc (Nat.beq x o) true ih) l
noncomputable def isNoneB {α : Type} (x : Option α) : Bool := Option.rec true (fun _ => false) x
noncomputable def rhoOk (nn : Nat) (hp : Tr HE) (ρ : List Nat) : Bool := List.rec true (fun o l ih => bc (memNat o l) false (bc (bc (Nat.blt o nn) (isNoneB (hp.get o)) true) ih false)) ρ
theorem memNat_f {o : Nat} : ∀ {l : List Nat}, memNat o l = false → o ∉ l
  | [], _ => by simp
  | x :: l, h => by
    change bc (Nat.beq x o) true (memNat o l) = false at h
    by_cases e : x = o
    · rw [nbeq_t e] at h; cases h
    · rw [nbeq_f e] at h
      simp only [List.mem_cons, not_or]
      exact ⟨fun e' => e e'.symm, memNat_f h⟩
theorem rhoOk_ok {nn : Nat} {hp : Tr HE} : ∀ {ρ : List Nat}, rhoOk nn hp ρ = true → ρ.Nodup ∧ ∀ o ∈ ρ, o < nn → hp.get o = none
  | [], _ => ⟨.nil, fun _ h => by cases h⟩
  | o :: l, h => by
    change bc (memNat o l) false (bc (bc (Nat.blt o nn) (isNoneB (hp.get o)) true) (rhoOk nn hp l) false) = true at h
    cases h1 : memNat o l
    · rw [h1] at h
      obtain ⟨h2, h3⟩ := bc_tf h
      obtain ⟨k1, k2⟩ := rhoOk_ok h3
      refine ⟨List.nodup_cons.2 ⟨memNat_f h1, k1⟩, fun x hx hlt => ?_⟩
      rcases List.mem_cons.1 hx with rfl | hx
      · rw [nblt_t hlt] at h2
        cases hg : hp.get x with
        | none => rfl
        | some y => rw [hg] at h2; cases h2
      · exact k2 x hx hlt
    · rw [h1] at h; cases h

/-- What stays at a loop's head: the frame, memory, with m fresh variables, of which fs holds; how these are read off; which one counts, and to what; how many names are new, and how these are read off. -/
structure LT where
  F : F3
  hp : Tr HE
  m : Nat
  fs : List Tm
  rd : F3 → St → Option (List Tm)
  jc : Nat
  B : Nat
  kn : Nat
  rn : F3 → St → Option (List Nat)
  /-- What becomes less each time, in the counter's stead. -/
  mu : Option Tm
  /-- Which is so: one way for each. -/
  sp : List Tm
noncomputable def factsB (pc : PC) (nv : Nat) (sub fs : List Tm) : Bool := List.rec true (fun t _ ih => Option.rec false (fun t' => bc (Option.rec (Nat.beq (decT pc t') 1) (fun n => Nat.blt 0 n) (isLit (simpT pc t'))) ih false) (substT nv sub t)) fs
theorem factsB_ok {nv nn : Nat} {ρ : List Nat} {sub : List Tm} {σ σ' : Nat → Nat} {β β' : Nat → Option (Nat × Nat)} (hm : Mt nv nn ρ sub σ β σ' β') {pc : PC} (hp : pc.ok σ) : ∀ {fs : List Tm}, factsB pc nv sub fs = true → ∀ t ∈ fs, t.ev σ' ≠ 0
  | [], _, _, ht => by cases ht
  | f :: fs, h, t, ht => by
    change (Option.rec false (fun t' => bc (Option.rec (Nat.beq (decT pc t') 1) (fun n => Nat.blt 0 n) (isLit (simpT pc t'))) (factsB pc nv sub fs) false) (substT nv sub f) : Bool) = true at h
    cases hs : substT nv sub f with
    | none => rw [hs] at h; cases h
    | some f' =>
      rw [hs] at h
      obtain ⟨h1, h2⟩ := bc_tf h
      rcases List.mem_cons.1 ht with rfl | ht
      · rw [← substT_ev hm hs]
        cases hl : isLit (simpT pc f') with
        | none => rw [hl] at h1; exact (decT_ok hp).1 (of_nbeq h1)
        | some n =>
          rw [hl] at h1
          rw [← simpT_ev hp f', isLit_some hl]
          exact Nat.ne_of_gt (of_nblt h1)
      · exact factsB_ok hm hp h2 t ht
noncomputable def headB (T : LT) (nv nn : Nat) (F : F3) (st : St) (sub : List Tm) (ρ : List Nat) : Bool :=
  bc (bc (Nat.beq (lenR sub) T.m) (Nat.beq (lenR ρ) T.kn) false) (bc (matF (matS st.pc nv nn ρ sub 8) T.F F) (bc (matTr nv (matS st.pc nv nn ρ sub 8) T.hp (viewR st.hp ρ nn st.hp)) (bc (rhoOk nn T.hp ρ) (factsB st.pc nv sub T.fs) false) false) false) false
/-- Sums of small numbers, one less than the other. -/
noncomputable def hiS (pc : PC) (l : List Tm) : Nat := List.rec 0 (fun t _ ih => withB (rng pc.bnds t) fun r => Nat.add r.hi ih) l
theorem hiS_ok {σ} {pc : PC} (h : pc.ok σ) : ∀ l : List Tm, sumE σ l ≤ hiS pc l
  | [] => Nat.le_refl _
  | t :: l => by
    show t.ev σ + sumE σ l ≤ (withB (rng pc.bnds t) fun r => Nat.add r.hi (hiS pc l))
    rw [withB_eq]
    have h1 := (rng_ok h.2.2.1 t).2
    have h2 := hiS_ok h l
    show _ ≤ (rng pc.bnds t).hi + hiS pc l
    omega
noncomputable def loS (pc : PC) (l : List Tm) : Nat := List.rec 0 (fun t _ ih => bc (Nat.beq (decF pc t 2) 1) (Nat.succ ih) (withB (rng pc.bnds t) fun r => Nat.add r.lo ih)) l
theorem loS_ok {σ} {pc : PC} (h : pc.ok σ) : ∀ l : List Tm, loS pc l ≤ sumE σ l
  | [] => Nat.le_refl _
  | t :: l => by
    have h2 := loS_ok h l
    show bc (Nat.beq (decF pc t 2) 1) (Nat.succ (loS pc l)) (withB (rng pc.bnds t) fun r => Nat.add r.lo (loS pc l)) ≤ t.ev σ + sumE σ l
    cases hb : Nat.beq (decF pc t 2) 1
    · rw [bc_false, withB_eq]
      have h1 := (rng_ok h.2.2.1 t).1
      show (rng pc.bnds t).lo + loS pc l ≤ _
      omega
    · rw [bc_true]
      have := (decF_ok h (Vok.two (t := t))).1 (of_nbeq hb)
      show loS pc l + 1 ≤ _
      omega
noncomputable def small (pc : PC) (a : Tm) (f : LF) : Bool := withB (rng pc.bnds a) fun r => bc (Nat.blt r.hi 18446744073709551616) (Nat.blt (Nat.add (hiS pc f.l) f.c) 18446744073709551616) false
theorem small_ok {σ} {pc : PC} (h : pc.ok σ) {a : Tm} (hs : small pc a (flat1 pc.facts a) = true) : a.ev σ = sumE σ (flat1 pc.facts a).l + (flat1 pc.facts a).c := by
  unfold small at hs
  rw [withB_eq] at hs
  obtain ⟨h1, h2⟩ := bc_tf hs
  have h1 := of_nblt h1
  have h2 := of_nblt h2
  change hiS pc (flat1 pc.facts a).l + (flat1 pc.facts a).c < _ at h2
  have h3 := hiS_ok h (flat1 pc.facts a).l
  have h4 := (rng_ok h.2.2.1 a).2
  have fa := flat1_ok h.1 a
  change (sumE σ (flat1 pc.facts a).l + (flat1 pc.facts a).c) % 18446744073709551616 = a.ev σ % 18446744073709551616 at fa
  omega
noncomputable def ltSum (pc : PC) (a b : Tm) : Bool :=
  bc (small pc a (flat1 pc.facts a)) (bc (small pc b (flat1 pc.facts b)) (Nat.blt (Nat.add (hiS pc (cancelT (flat1 pc.facts a).l (flat1 pc.facts b).l).a) (flat1 pc.facts a).c) (Nat.add (loS pc (cancelT (flat1 pc.facts a).l (flat1 pc.facts b).l).b) (flat1 pc.facts b).c)) false) false
theorem ltSum_ok {σ} {pc : PC} (h : pc.ok σ) {a b : Tm} (hl : ltSum pc a b = true) : a.ev σ < b.ev σ := by
  obtain ⟨h1, hl⟩ := bc_tf hl
  obtain ⟨h2, hl⟩ := bc_tf hl
  have e1 := small_ok h h1
  have e2 := small_ok h h2
  have hl := of_nblt hl
  have h3 := hiS_ok h (cancelT (flat1 pc.facts a).l (flat1 pc.facts b).l).a
  have h4 := loS_ok h (cancelT (flat1 pc.facts a).l (flat1 pc.facts b).l).b
  have h6 := cancelT_ok (σ := σ) (flat1 pc.facts a).l (flat1 pc.facts b).l
  change hiS pc _ + _ < loS pc _ + _ at hl
  omega
noncomputable def muB (nv : Nat) (pc : PC) (sub : List Tm) (mu : Tm) : Bool := Option.rec false (fun m' => bc (Nat.beq (decT pc (.bin .ult 64 m' mu)) 1) true (ltSum pc m' mu)) (substT nv sub mu)
noncomputable def cntB (T : LT) (nv : Nat) (pc : PC) (sub : List Tm) : Bool :=
  Option.rec (bc (subIs sub T.jc (.bin .add 64 (.var (Nat.add nv T.jc) 64) (.lit 1))) (Nat.blt (rng pc.bnds (.var (Nat.add nv T.jc) 64)).hi T.B) false) (fun mu => muB nv pc sub mu) T.mu
/-- What counts, may. -/
noncomputable def muOk (T : LT) (nv : Nat) : Bool := Option.rec (bc (Nat.blt T.jc T.m) (Nat.blt T.B 9223372036854775808) false) (fun mu => bc (belowT (Nat.add nv T.m) mu) (Nat.blt (rng [] mu).hi 18446744073709551616) false) T.mu
noncomputable def LT.meas (T : LT) (nv : Nat) (σ : Nat → Nat) : Nat := match T.mu with
  | none => T.B - σ (nv + T.jc) % 2 ^ 64
  | some mu => mu.ev σ
noncomputable def pcL (pc : PC) (n : Nat) : PC := ⟨pc.facts, pc.subs, pc.bnds, pc.kv, pc.lems, pc.cz, pc.hints, n⟩
noncomputable def pcF (pc : PC) (fs : List Tm) : PC := List.rec pc (fun t _ ih => PC.add ih t false) fs
theorem pcF_nv (pc : PC) : ∀ fs : List Tm, (pcF pc fs).nv = pc.nv
  | [] => rfl
  | _ :: fs => (PC.add_nv _ _ _).trans (pcF_nv pc fs)
noncomputable def allBelow (nv : Nat) (fs : List Tm) : Bool := List.rec true (fun t _ ih => bc (belowT nv t) ih false) fs
theorem Ag.fx {nv : Nat} {σ σ' : Nat → Nat} (h : Ag nv σ σ') : Fx σ σ' := fun f x hf => h.2 f x (.inr hf)
theorem pcF_ok {σ} {pc : PC} (h : pc.okC σ) : ∀ {fs : List Tm}, allBelow pc.nv fs = true → (∀ t ∈ fs, t.ev σ ≠ 0) → (pcF pc fs).okC σ
  | [], _, _ => h
  | t :: fs, hv, ha => by
    obtain ⟨h1, h2⟩ := bc_tf (show bc (belowT pc.nv t) (allBelow pc.nv fs) false = true from hv)
    refine PC.add_okC (pcF_ok h h2 fun x hx => ha x (List.mem_cons_of_mem _ hx)) (t := t) (neg := false) ⟨fun _ => ha t List.mem_cons_self, (fun h => by cases h)⟩ ?_
    intro σ' hg
    rw [pcF_nv] at hg
    rw [belowT_ok hg.1 hg.fx h1]
/-- All that is known there is known here, at the same names. -/
noncomputable def presTr (T : Tr HE) (hp : Tr HE) : Bool :=
  Tr.rec (motive := fun _ => Tr HE → Bool) (fun _ => true)
    (fun v _ _ _ _ ia ib ic id t' => Tr.rec (motive := fun _ => Bool) (bc (isNoneB v) (bc (ia .nil) (bc (ib .nil) (bc (ic .nil) (id .nil) false) false) false) false)
      (fun v' a b c d _ _ _ _ => bc (bc (isNoneB v) true (Bool.not (isNoneB v'))) (bc (ia a) (bc (ib b) (bc (ic c) (id d) false) false) false) false) t') T hp
theorem presTr_getD : ∀ (xs : List D) {t t' : Tr HE}, presTr t t' = true → ∀ {he : HE}, Tr.getD xs t = some he → ∃ he', Tr.getD xs t' = some he' := by
  intro xs
  induction xs with
  | nil =>
    intro t t' h he hg
    cases t with
    | nil => rw [Tr.getD_nil] at hg; cases hg
    | node v a b c d =>
      change v = some he at hg
      subst hg
      cases t' with
      | nil => cases h
      | node v' a' b' c' d' =>
        obtain ⟨h1, _⟩ := bc_tf (show bc (bc (isNoneB (some he)) true (Bool.not (isNoneB v'))) _ false = true from h)
        cases v' with
        | none => cases h1
        | some he' => exact ⟨he', rfl⟩
  | cons x xs ih =>
    intro t t' h he hg
    cases t with
    | nil => rw [Tr.getD_nil] at hg; cases hg
    | node v a b c d =>
      cases t' with
      | nil =>
        obtain ⟨_, h2⟩ := bc_tf (show bc (isNoneB v) (bc (presTr a .nil) (bc (presTr b .nil) (bc (presTr c .nil) (presTr d .nil) false) false) false) false = true from h)
        obtain ⟨ha, h2⟩ := bc_tf h2
        obtain ⟨hb, h2⟩ := bc_tf h2
        obtain ⟨hc, hdd⟩ := bc_tf h2
        have none' : ∀ {t : Tr HE}, presTr t .nil = true → Tr.getD xs t = some he → False := fun h1 h2 => by
          obtain ⟨he', e⟩ := ih h1 h2
          rw [Tr.getD_nil] at e; cases e
        cases x
        · exact (none' ha hg).elim
        · exact (none' hb hg).elim
        · exact (none' hc hg).elim
        · exact (none' hdd hg).elim
      | node v' a' b' c' d' =>
        obtain ⟨_, h2⟩ := bc_tf (show bc (bc (isNoneB v) true (Bool.not (isNoneB v'))) (bc (presTr a a') (bc (presTr b b') (bc (presTr c c') (presTr d d') false) false) false) false = true from h)
        obtain ⟨ha, h2⟩ := bc_tf h2
        obtain ⟨hb, h2⟩ := bc_tf h2
        obtain ⟨hc, hdd⟩ := bc_tf h2
        cases x
        · exact ih ha hg
        · exact ih hb hg
        · exact ih hc hg
        · exact ih hdd hg
theorem presTr_get {t t' : Tr HE} (h : presTr t t' = true) {o : Nat} {he : HE} (hg : t.get o = some he) : ∃ he', t'.get o = some he' := presTr_getD _ h hg

/-- One way for each of these, and one for none. -/
noncomputable def splitK (sp : List Tm) (k : PC → Ans) : PC → Ans := List.rec (motive := fun _ => PC → Ans) k (fun t _ ih pc => br pc t k ih) sp
theorem splitK_ok {L : (Nat → Nat) → SV → Prop} {σ : Nat → Nat} {k : PC → Ans} : ∀ {sp : List Tm} {pc : PC}, pc.okC σ → allBelow pc.nv sp = true → (splitK sp k pc).sat L σ → ∃ pc', pc'.okC σ ∧ pc'.nv = pc.nv ∧ (k pc').sat L σ
  | [], pc, h, _, hs => ⟨pc, h, rfl, hs⟩
  | t :: sp, pc, h, hb, hs => by
    obtain ⟨h1, h2⟩ := bc_tf (show bc (belowT pc.nv t) (allBelow pc.nv sp) false = true from hb)
    have hts : TS pc.nv σ t := fun σ' ha => by rw [belowT_ok ha.1 ha.fx h1]
    rcases br_ok h hts hs with ⟨_, pc', g1, g2, g3⟩ | ⟨_, pc', g1, g2, g3⟩
    · exact ⟨pc', g1, g2, g3⟩
    · obtain ⟨pc2, k1, k2, k3⟩ := splitK_ok (sp := sp) g1 (g2 ▸ h2) g3
      exact ⟨pc2, k1, k2.trans g2, k3⟩

/-! ### A template out of a hint (nothing is to be shown of it: it is met, or not) -/
/-- A place: a slot, and from there on the cells by which one goes. -/
structure GP where
  d : Nat
  path : List Nat
structure LH where
  clr : List Nat
  gen : List (List GP)
  fs : List Tm
  jc : Nat
  B : Nat
  /-- Values that slots have there; terms that places have there; pointers whose names are new. -/
  put : List (Nat × SV) := []
  set : List (GP × Tm) := []
  ren : List (List GP) := []
  /-- Fresh variables behind these, that are terms of the others. -/
  dfs : List Tm := []
  sp : List Tm := []
  mu : Option Tm := none
  /-- Slots that are these numbers: else the loop goes on as it is. -/
  when : List (Nat × Nat) := []
  whenT : List Tm := []
noncomputable def baseOf (s : SV) : Option (Nat × Nat) := bc (Nat.beq s.1 3) (some (s.3, s.4)) (bc (Nat.beq s.1 5) (some (s.3, s.4)) (bc (Nat.beq s.1 6) (some (s.3, 0)) none))
/-- An object's cells; an iterator's: what is still to come. -/
noncomputable def cellsT (st : St) (o : Nat) : Option (List SV) := ob (st.hp.get o) fun he => SObj.rec (fun cs _ => some cs) (fun cs _ _ => some cs) (fun _ => none) (fun _ cs _ => some cs) (fun _ _ _ _ => none) (fun _ => none) (fun _ _ => none) (fun _ => none) he.ob
noncomputable def cellAt (st : St) (o j : Nat) : Option SV := ob (cellsT st o) fun cs => nthR cs j
/-- Where a path ends: the object and its cell. -/
noncomputable def walkP (st : St) (path : List Nat) : SV → Option (Nat × Nat) :=
  List.rec (motive := fun _ => SV → Option (Nat × Nat)) (fun _ => none) (fun j t ih s => ob (baseOf s) fun p => List.rec (some (p.1, Nat.add p.2 j)) (fun _ _ _ => ob (cellAt st p.1 (Nat.add p.2 j)) ih) t) path
noncomputable def readP (F : F3) (st : St) (g : GP) : Option SV := List.rec (some (getF g.d F)) (fun _ _ _ => ob (walkP st g.path (getF g.d F)) fun p => cellAt st p.1 p.2) g.path
noncomputable def firstP (F : F3) (st : St) (l : List GP) : Option Tm := List.rec none (fun g _ _ => ob (readP F st g) fun s => bc (Nat.blt 0 (wide1 s)) (some s.5) none) l
noncomputable def readAll (F : F3) (st : St) (l : List (List GP)) : Option (List Tm) := List.rec (some []) (fun g _ ih => ob (firstP F st g) fun t => ob ih fun r => some (t :: r)) l
noncomputable def firstN (F : F3) (st : St) (l : List GP) : Option Nat := List.rec none (fun g _ _ => ob (readP F st g) fun s => bc (isNm s.1) (some s.3) none) l
noncomputable def readNs (F : F3) (st : St) (l : List (List GP)) : Option (List Nat) := List.rec (some []) (fun g _ ih => ob (firstN F st g) fun t => ob ih fun r => some (t :: r)) l
noncomputable def putV (i : Nat) (s : SV) : SV := .mk s.1 s.2 s.3 s.4 (.var i (wide1 s)) s.6 s.7 s.8
noncomputable def putTV (x : Tm) (s : SV) : SV := .mk s.1 s.2 s.3 s.4 x s.6 s.7 s.8
noncomputable def putNV (o : Nat) (s : SV) : SV := .mk s.1 s.2 o s.4 s.5 s.6 s.7 s.8
noncomputable def putOb (f : List SV → Option (List SV)) (x : SObj) : Option SObj := SObj.rec (fun cs e => ob (f cs) fun cs => some (.cells cs e)) (fun cs e z => ob (f cs) fun cs => some (.grown cs e z)) (fun _ => none) (fun m cs _ => ob (f cs) fun cs => some (.iter m cs 0)) (fun _ _ _ _ => none) (fun _ => none) (fun _ _ => none) (fun _ => none) x
/-- A place is turned: reached by the way that it was at first. -/
noncomputable def modP (F0 : F3) (st0 : St) (f : SV → SV) (g : GP) (x : F3 × Tr HE) : Option (F3 × Tr HE) :=
  List.rec (some (setF g.d (f (getF g.d x.1)) x.1, x.2))
    (fun _ _ _ => ob (walkP st0 g.path (getF g.d F0)) fun p => ob (x.2.get p.1) fun he => ob (putOb (fun cs => ob (nthR cs p.2) fun s => layR cs [f s] p.2) he.ob) fun y => some (x.1, x.2.set p.1 (some ⟨y, he.ro⟩))) g.path
noncomputable def genL (F0 : F3) (st0 : St) (f : SV → SV) (l : List GP) (x : F3 × Tr HE) : Option (F3 × Tr HE) := List.rec (some x) (fun g _ ih => ob ih fun y => modP F0 st0 f g y) l
noncomputable def genA (F0 : F3) (st0 : St) (f : Nat → SV → SV) (l : List (List GP)) : Nat → (F3 × Tr HE) → Option (F3 × Tr HE) :=
  List.rec (motive := fun _ => Nat → (F3 × Tr HE) → Option (F3 × Tr HE)) (fun _ x => some x) (fun g _ ih i x => ob (genL F0 st0 (f i) g x) fun y => ih (Nat.succ i) y) l
noncomputable def clrL (l : List Nat) (F : F3) : F3 := List.rec F (fun d _ ih => setF d .unk ih) l
/-- Fresh variables are written from 1048576 on in a hint; from 2097152 on what a slot's term is; from 4194304 on what is shifted there. -/
noncomputable def shT (F : F3) (nv : Nat) (t : Tm) : Tm :=
  Tm.rec (fun n => .lit n) (fun i w => bc (Nat.ble 8388608 i) (.var i w) (bc (Nat.ble 4194304 i) (Option.rec (.lit 0) (fun p => p.1) (shrOf (getF (Nat.sub i 4194304) F).5)) (bc (Nat.ble 2097152 i) (getF (Nat.sub i 2097152) F).5 (bc (Nat.ble 1048576 i) (.var (Nat.add nv (Nat.sub i 1048576)) w) (.var i w))))) (fun o w _ a => .un o w a) (fun o w _ _ a b => .bin o w a b) (fun _ _ _ c a b => .ite c a b) (fun f w _ a => .app f w a) t
noncomputable def shL (F : F3) (nv : Nat) (l : List Tm) : List Tm := List.rec [] (fun t _ ih => shT F nv t :: ih) l
noncomputable def shS (F : F3) (nv : Nat) (s : SV) : SV := SV.rec (motive_1 := fun _ => SV) (motive_2 := fun _ => List SV) (fun tag k a b t u c _ l => .mk tag k a b (shT F nv t) (shT F nv u) (shT F nv c) l) [] (fun _ _ x l => x :: l) s
noncomputable def putL (F0 : F3) (nv : Nat) (l : List (Nat × SV)) (F : F3) : F3 := List.rec F (fun d _ ih => setF d.1 (shS F0 nv d.2) ih) l
/-- From 8388608 on what is there itself. -/
noncomputable def hereT (x t : Tm) : Tm := Tm.rec (fun n => .lit n) (fun i w => bc (Nat.ble 8388608 i) x (.var i w)) (fun o w _ a => .un o w a) (fun o w _ _ a b => .bin o w a b) (fun _ _ _ c a b => .ite c a b) (fun f w _ a => .app f w a) t
noncomputable def setL (F0 : F3) (st0 : St) (nv : Nat) (l : List (GP × Tm)) (x : F3 × Tr HE) : Option (F3 × Tr HE) := List.rec (some x) (fun g _ ih => ob ih fun y => modP F0 st0 (fun s => putTV (hereT s.5 (shT F0 nv g.2)) s) g.1 y) l
/-- Objects that can be met again are kept, others given up. -/
noncomputable def keepOb (x : Option HE) : Option HE := Option.rec none (fun he => SObj.rec (fun _ _ => some he) (fun _ _ _ => some he) (fun _ => none) (fun m cs _ => some ⟨.iter m cs 0, he.ro⟩) (fun _ _ _ _ => some he) (fun _ => some he) (fun _ _ => none) (fun _ => some he) he.ob) x
noncomputable def keepTr (t : Tr HE) : Tr HE := Tr.rec .nil (fun v _ _ _ _ a b c d => .node (keepOb v) a b c d) t
/-- Objects get new names: they are known by these alone. -/
noncomputable def renO (ρ : List Nat) (nn : Nat) (hp : Tr HE) : Tr HE := List.rec (motive := fun _ => Tr HE) (viewR hp ρ nn hp) (fun o _ ih => ih.set o none) ρ
noncomputable def subsL (nv : Nat) (sub : List Tm) (l : List Tm) : Option (List Tm) := List.rec (some []) (fun t _ ih => ob (substT nv sub t) fun x => ob ih fun r => some (x :: r)) l
noncomputable def mkLT (h : LH) (F : F3) (st : St) : Option LT :=
  ob (readNs F st h.ren) fun ρ =>
  ob (genA F st (fun i => putV i) h.gen st.pc.nv (putL F st.pc.nv h.put (clrL h.clr F), keepTr st.hp)) fun x => ob (setL F st st.pc.nv h.set x) fun x =>
  ob (genA F st (fun o => putNV o) h.ren st.nn x) fun x => some ⟨x.1, renO ρ st.nn x.2, Nat.add (lenR h.gen) (lenR h.dfs), shL F st.pc.nv h.fs, (fun F1 st1 => ob (readAll F1 st1 h.gen) fun l => ob (subsL st.pc.nv l (shL F st.pc.nv h.dfs)) fun r => some (appR l r)), h.jc, h.B, lenR h.ren, fun F st => readNs F st h.ren, Option.rec none (fun t => some (shT F st.pc.nv t)) h.mu, shL F st.pc.nv h.sp⟩
/-- The first region's number, and how many there are. -/
noncomputable def firstId (c : Code) : Nat := Code.rec (motive := fun _ => Nat) 0 (fun id _ _ => Nat.succ id) (fun _ _ a b => bc (Nat.beq a 0) b a) (fun _ _ _ a b => bc (Nat.beq a 0) b a) (fun _ _ a => a) (fun _ a => a) (fun _ _ _ _ _ _ => 0) (fun _ => 0) (fun _ a => a) (fun _ => 0) (fun _ => 0) 0 (fun _ => 0) c
noncomputable def regions (c : Code) : Nat := Code.rec (motive := fun _ => Nat) 0 (fun _ _ _ => 1) (fun _ _ a b => Nat.add a b) (fun _ _ _ a b => Nat.add a b) (fun _ _ a => a) (fun _ a => a) (fun _ _ _ _ _ _ => 0) (fun _ => 0) (fun _ a => a) (fun _ => 0) (fun _ => 0) 0 (fun _ => 0) c
/-- A hint for the loop whose body's first region, and how many, are these; for the place ahead of code whose first region, and how many, are these. -/
structure LK where
  id : Nat
  many : Nat
  h : LH
  /-- How many operations, if that must be told. -/
  ops : Nat := 0
noncomputable def opsN (c : Code) : Nat := Code.rec (motive := fun _ => Nat) 0 (fun _ o _ => o.size) (fun _ _ a b => Nat.add a b) (fun _ _ _ a b => Nat.add a b) (fun _ _ a => a) (fun _ a => a) (fun _ _ _ _ _ _ => 0) (fun _ => 0) (fun _ a => a) (fun _ => 0) (fun _ => 0) 0 (fun _ => 0) c
/-- A hint for a place within a region: the region's number, how many operations it has, ahead of which of them. -/
structure RJ where
  id : Nat
  many : Nat
  pos : Nat
  h : LH
noncomputable def rjOf (l : List RJ) (id n : Nat) : Option (Nat × (F3 → St → Option LT)) :=
  List.rec none (fun x _ ih => bc (Nat.beq x.id id) (bc (Nat.beq x.many n) (some (x.pos, mkLT x.h)) ih) ih) l
/-- Whether code is what a hint is for. -/
noncomputable def isAt (c : Code) (id many ops : Nat) : Bool := bc (Nat.beq (firstId c) (Nat.succ id)) (bc (Nat.beq (regions c) many) (bc (Nat.beq ops 0) true (Nat.beq ops (opsN c))) false) false
noncomputable def tgOf (l : List (Nat × Nat)) (c : Code) : Bool := List.rec false (fun x _ ih => bc (isAt c x.1 x.2 0) true ih) l
/-- A hint: when it is taken, and what it says. -/
structure HL where
  wh : F3 → PC → Bool
  tpl : F3 → St → Option LT
/-- Whether slots are these numbers. -/
noncomputable def whenB (l : List (Nat × Nat)) (ts : List Tm) (F : F3) (pc : PC) : Bool := List.rec (List.rec true (fun t _ ih => bc (Option.rec (Nat.beq (decT pc (shT F pc.nv t)) 1) (fun n => Nat.blt 0 n) (isLit (simpT pc (shT F pc.nv t)))) ih false) ts) (fun x _ ih => bc (bc (isN x.2 (getF x.1 F).5) true (bc (Nat.beq (getF x.1 F).1 1) (Nat.beq (decT pc (getF x.1 F).5) x.2) false)) ih false) l
/-- Of several hints for one place, the first whose slots are as it says. -/
noncomputable def liOf (l : List LK) (c : Code) : Option (F3 → St → Option LT) :=
  List.rec none (fun x _ ih => bc (Nat.beq (firstId c) (Nat.succ x.id)) (bc (bc (Nat.beq (regions c) x.many) (bc (Nat.beq x.ops 0) true (Nat.beq x.ops (opsN c))) false) (some fun F st => bc (whenB x.h.when x.h.whenT F st.pc) (mkLT x.h F st) (Option.rec none (fun g => g F st) ih)) ih) ih) l
/-- All hints for a loop. -/
noncomputable def hlOf (l : List LK) (c : Code) : List HL :=
  List.rec [] (fun x _ ih => bc (Nat.beq (firstId c) (Nat.succ x.id)) (bc (bc (Nat.beq (regions c) x.many) (bc (Nat.beq x.ops 0) true (Nat.beq x.ops (opsN c))) false) (⟨fun F pc => whenB x.h.when x.h.whenT F pc, mkLT x.h⟩ :: ih) ih) ih) l

end Go.Sy
end

section
/- Values that are closed: numbers, and lists of them; what is known of calls with such. -/
namespace Go.Sy

/-- What it denotes hangs on nothing. -/
def Clo (s : SV) (v : Value) : Prop := ∀ σ β, Den σ β s v
def CloL (l : List SV) (vs : List Value) : Prop := ∀ σ β, DenL σ β l vs
noncomputable def qvK (k : IntKind) (c : IntKind → Ans) : Ans :=
  IntKind.rec (motive := fun _ => Ans) (c .i8) (c .i16) (c .i32) (c .i64) (c .u8) (c .u16) (c .u32) (c .u64) k
theorem qvK_eq (k : IntKind) (c : IntKind → Ans) : qvK k c = c k := by cases k <;> rfl
noncomputable def qvT (t : Tm) (k : Tm → Ans) (els : Ans) : Ans :=
  Tm.rec (motive := fun _ => Ans) (fun n => forceN n fun n => k (.lit n)) (fun _ _ => els) (fun _ _ _ _ => els) (fun _ _ _ _ _ _ => els) (fun _ _ _ _ _ _ => els) (fun _ _ _ _ => els) t
theorem qvT_ok (t : Tm) (k : Tm → Ans) (els : Ans) : qvT t k els = els ∨ ∃ n, t = .lit n ∧ qvT t k els = k (.lit n) := by
  cases t with
  | lit n => right; refine ⟨n, rfl, ?_⟩; show (forceN n fun n => k (.lit n)) = _; rw [forceN_eq]
  | var i w => exact .inl rfl
  | un o w a => exact .inl rfl
  | bin o w a b => exact .inl rfl
  | ite c a b => exact .inl rfl
  | app f w a => exact .inl rfl
noncomputable def qvM (ih : (List SV → Ans) → Ans → Ans) (tag : Nat) (kd : IntKind) (t : Tm) (k : SV → Ans) (els : Ans) : Ans :=
  bc (Nat.beq tag 0) (qvT t (fun t => qvK kd fun kd => k (.int kd t)) els) (bc (Nat.beq tag 1) (qvT t (fun t => k (.bool t)) els)
    (bc (Nat.beq tag 13) (ih (fun l => k (.agg l)) els) (bc (Nat.beq tag 14) (ih (fun l => k (.tuple l)) els) (bc (Nat.beq tag 11) (ih (fun l => k (.str l)) els) els))))
/-- A closed value, written out. -/
noncomputable def qvS (s : SV) : (SV → Ans) → Ans → Ans :=
  SV.rec (motive_1 := fun _ => (SV → Ans) → Ans → Ans) (motive_2 := fun _ => (List SV → Ans) → Ans → Ans) (fun tag kd _ _ t _ _ _ ih => qvM ih tag kd t) (fun k _ => k []) (fun _ _ ihx ihl k els => ihx (fun x => ihl (fun l => k (x :: l)) els) els) s
noncomputable def qvL (l : List SV) : (List SV → Ans) → Ans → Ans :=
  SV.rec_1 (motive_1 := fun _ => (SV → Ans) → Ans → Ans) (motive_2 := fun _ => (List SV → Ans) → Ans → Ans) (fun tag kd _ _ t _ _ _ ih => qvM ih tag kd t) (fun k _ => k []) (fun _ _ ihx ihl k els => ihx (fun x => ihl (fun l => k (x :: l)) els) els) l
def QvSok (s : SV) : Prop := ∀ k els, qvS s k els = els ∨ ∃ s', qvS s k els = k s' ∧ ∀ σ β v, Den σ β s v → Clo s' v
def QvLok (l : List SV) : Prop := ∀ k els, qvL l k els = els ∨ ∃ l', qvL l k els = k l' ∧ ∀ σ β vs, DenL σ β l vs → CloL l' vs
theorem qvM_ok {tag : Nat} {kd : IntKind} {a b : Nat} {t u c : Tm} {l : List SV} (h : QvLok l) : QvSok (.mk tag kd a b t u c l) := by
  intro k els
  show qvM (qvL l) tag kd t k els = els ∨ ∃ s', qvM (qvL l) tag kd t k els = k s' ∧ _
  unfold qvM
  cases h0 : Nat.beq tag 0
  · skip
    cases h1 : Nat.beq tag 1
    · skip
      cases h2 : Nat.beq tag 13
      · skip
        cases h3 : Nat.beq tag 14
        · skip
          cases h4 : Nat.beq tag 11
          · exact .inl rfl
          · skip
            have := of_nbeq h4
            subst this
            refine (h _ els).imp id fun ⟨l', e1, e2⟩ => ⟨_, e1, fun σ β v hd => ?_⟩
            cases hd with
            | str hl => exact fun σ' β' => .str (e2 σ β _ hl σ' β')
        · skip
          have := of_nbeq h3
          subst this
          refine (h _ els).imp id fun ⟨l', e1, e2⟩ => ⟨_, e1, fun σ β v hd => ?_⟩
          cases hd with
          | tuple hl => exact fun σ' β' => .tuple (e2 σ β _ hl σ' β')
      · skip
        have := of_nbeq h2
        subst this
        refine (h _ els).imp id fun ⟨l', e1, e2⟩ => ⟨_, e1, fun σ β v hd => ?_⟩
        cases hd with
        | agg hl => exact fun σ' β' => .agg (e2 σ β _ hl σ' β')
    · skip
      have := of_nbeq h1
      subst this
      rcases qvT_ok t (fun t => k (.bool t)) els with e | ⟨n, rfl, e⟩
      · exact .inl e
      · refine .inr ⟨_, e, fun σ β v hd => ?_⟩
        cases hd with
        | bool h => exact fun σ' β' => .bool h
  · skip
    have := of_nbeq h0
    subst this
    rcases qvT_ok t (fun t => qvK kd fun kd => k (.int kd t)) els with e | ⟨n, rfl, e⟩
    · exact .inl e
    · rw [qvK_eq] at e
      refine .inr ⟨_, e, fun σ β v hd => ?_⟩
      cases hd with
      | int h => exact fun σ' β' => .int h
theorem qvNil_ok : QvLok [] := fun k els => .inr ⟨[], rfl, fun σ β vs h => by cases h; exact fun _ _ => .nil⟩
theorem qvCons_ok {x : SV} {l : List SV} (hx : QvSok x) (hl : QvLok l) : QvLok (x :: l) := by
  intro k els
  show qvS x (fun x => qvL l (fun l => k (x :: l)) els) els = els ∨ ∃ l', qvS x (fun x => qvL l (fun l => k (x :: l)) els) els = k l' ∧ _
  rcases hx (fun x => qvL l (fun l => k (x :: l)) els) els with e | ⟨x', e, ex⟩
  · exact .inl e
  · rw [e]
    rcases hl (fun l => k (x' :: l)) els with e2 | ⟨l', e2, el⟩
    · exact .inl e2
    · refine .inr ⟨_, e2, fun σ β vs hd => ?_⟩
      cases hd with
      | cons h t => exact fun σ' β' => .cons (ex σ β _ h σ' β') (el σ β _ t σ' β')
theorem qvS_ok (s : SV) : QvSok s :=
  SV.rec (motive_1 := QvSok) (motive_2 := QvLok) (fun _ _ _ _ _ _ _ _ ih => qvM_ok ih) qvNil_ok (fun _ _ hx hl => qvCons_ok hx hl) s
theorem qvL_ok (l : List SV) : QvLok l :=
  SV.rec_1 (motive_1 := QvSok) (motive_2 := QvLok) (fun _ _ _ _ _ _ _ _ ih => qvM_ok ih) qvNil_ok (fun _ _ hx hl => qvCons_ok hx hl) l

/-! ### A number for a value: for tools alone -/
noncomputable def tok (n m : Nat) : Nat := Nat.add (Nat.mul n 1208925819614629174706176) m
noncomputable def litN (t : Tm) : Nat := Option.rec 0 (fun n => n) (isLit t)
noncomputable def enT (t : Tm) : Nat → Nat :=
  Tm.rec (motive := fun _ => Nat → Nat) (fun m n => tok n (Nat.add 6 (Nat.mul 16 m))) (fun i w n => tok n (Nat.add 7 (Nat.mul 16 (Nat.add (Nat.mul i 1024) w)))) (fun o w _ ih n => ih (tok n (Nat.add 8 (Nat.mul 16 (Nat.add (Nat.mul o.code 1024) w)))))
    (fun o w _ _ iha ihb n => ihb (iha (tok n (Nat.add 9 (Nat.mul 16 (Nat.add (Nat.mul o.code 1024) w)))))) (fun _ _ _ ihc iha ihb n => ihb (iha (ihc (tok n 10)))) (fun f w _ ih n => ih (tok n (Nat.add 11 (Nat.mul 16 (Nat.add (Nat.mul f 1024) w))))) t
noncomputable def enS (s : SV) : Nat → Nat :=
  SV.rec (motive_1 := fun _ => Nat → Nat) (motive_2 := fun _ => Nat → Nat) (fun tag kd _ _ t _ _ _ ih n => bc (Nat.beq tag 0) (Option.rec (enT t (tok n (Nat.add 12 (Nat.mul 16 kd.ctorIdx)))) (fun _ => tok n (Nat.add 1 (Nat.add (Nat.mul 16 kd.ctorIdx) (Nat.mul 256 (litN t))))) (isLit t)) (bc (Nat.beq tag 1) (Option.rec (enT t (tok n 13)) (fun _ => tok n (Nat.add 2 (Nat.mul 256 (litN t)))) (isLit t)) (tok (ih (tok n (Nat.add 3 (Nat.mul 16 tag)))) 4))) (fun n => n) (fun _ _ ihx ihl n => ihl (ihx n)) s
noncomputable def enC (f : Nat) (l : List SV) : Nat := List.rec (motive := fun _ => Nat → Nat) (fun n => n) (fun x _ ih n => ih (enS x n)) l (tok 1 (Nat.add 5 (Nat.mul 256 f)))

/-! ### What is known of calls -/
structure MT where
  f : Nat
  args : List SV
  s : SV
noncomputable def lookM (mt : List MT) (f : Nat) (args : List SV) : Option SV := List.rec none (fun e _ ih => bc (Nat.beq e.f f) (bc (allB (sameS 8) e.args args) (some e.s) ih) ih) mt
theorem lookM_some : ∀ {mt : List MT} {f : Nat} {args : List SV} {s : SV}, lookM mt f args = some s → ∃ e ∈ mt, e.f = f ∧ e.args = args ∧ e.s = s
  | [], _, _, _, h => by cases h
  | e :: mt, f, args, s, h => by
    change bc (Nat.beq e.f f) (bc (allB (sameS 8) e.args args) (some e.s) (lookM mt f args)) (lookM mt f args) = some s at h
    have rest : lookM mt f args = some s → ∃ e' ∈ e :: mt, e'.f = f ∧ e'.args = args ∧ e'.s = s := fun h => by
      obtain ⟨e', h1, h2⟩ := lookM_some h
      exact ⟨e', List.mem_cons_of_mem _ h1, h2⟩
    cases h1 : Nat.beq e.f f
    · rw [h1] at h; exact rest h
    · rw [h1] at h
      change bc (allB (sameS 8) e.args args) (some e.s) (lookM mt f args) = some s at h
      cases h2 : allB (sameS 8) e.args args
      · rw [h2] at h; exact rest h
      · rw [h2] at h
        cases h
        exact ⟨e, List.mem_cons_self, of_nbeq h1, allB_eq (fun x y => sameS_eq 8) h2, rfl⟩
end Go.Sy
end

section
/- Calls that are known of all numbers of some kinds: what is known is over variables of its own. -/
namespace Go.Sy

/-! ### What is put for variables -/
noncomputable def subT (l : List Tm) (t : Tm) : Tm :=
  Tm.rec (fun n => .lit n) (fun i _ => Option.rec (.lit 0) (fun x => x) (nthR l i)) (fun o w _ x => .un o w x) (fun o w _ _ x y => .bin o w x y) (fun _ _ _ c x y => .ite c x y) (fun f w _ x => .app f w x) t
/-- Of these variables alone, each as wide as it is. -/
noncomputable def cltT (ws : List Nat) (t : Tm) : Bool :=
  Tm.rec (fun _ => true) (fun i w => Option.rec false (fun m => Nat.beq m w) (nthR ws i)) (fun _ _ _ x => x) (fun _ _ _ _ x y => bc x y false) (fun _ _ _ c x y => bc c (bc x y false) false) (fun _ _ _ _ => false) t
noncomputable def sgm (l : List Tm) (σ : Nat → Nat) (i : Nat) : Nat := match l[i]? with | some t => t.ev σ | none => 0
structure Fit (ws : List Nat) (l : List Tm) (σ : Nat → Nat) : Prop where
  len : ws.length = l.length
  lt : ∀ (i m : Nat) (t : Tm), ws[i]? = some m → l[i]? = some t → t.ev σ < 2 ^ m
theorem cltT_ag {ws : List Nat} {σ σ' : Nat → Nat} (ha : ∀ i, i < ws.length → σ' i = σ i) : ∀ {t : Tm}, cltT ws t = true → t.ev σ' = t.ev σ := by
  intro t
  induction t with
  | lit n => intro _; rfl
  | var i w =>
    intro h
    change Option.rec false (fun m => Nat.beq m w) (nthR ws i) = true at h
    rw [nthR_eq] at h
    cases hw : ws[i]? with
    | none => rw [hw] at h; cases h
    | some m => show σ' i % 2 ^ w = σ i % 2 ^ w; rw [ha i (List.getElem?_eq_some_iff.1 hw).1]
  | un o w a ih => intro h; rw [ev_un, ev_un, ih h]
  | bin o w a b iha ihb => intro h; obtain ⟨h1, h2⟩ := bc_tf h; rw [ev_bin, ev_bin, iha h1, ihb h2]
  | ite c a b ihc iha ihb => intro h; obtain ⟨h1, h2⟩ := bc_tf h; obtain ⟨h2, h3⟩ := bc_tf h2; rw [ev_ite, ev_ite, ihc h1, iha h2, ihb h3]
  | app f w a _ => intro h; cases h
theorem subT_ev {ws : List Nat} {l : List Tm} {σ : Nat → Nat} (hf : Fit ws l σ) : ∀ {t : Tm}, cltT ws t = true → (subT l t).ev σ = t.ev (sgm l σ) := by
  intro t
  induction t with
  | lit n => intro _; rfl
  | var i w =>
    intro h
    change Option.rec false (fun m => Nat.beq m w) (nthR ws i) = true at h
    rw [nthR_eq] at h
    cases hw : ws[i]? with
    | none => rw [hw] at h; cases h
    | some m =>
      rw [hw] at h
      have hle : m ≤ w := Nat.le_of_eq (of_nbeq h)
      have hi := (List.getElem?_eq_some_iff.1 hw).1
      have hil : i < l.length := hf.len ▸ hi
      have hl : l[i]? = some l[i] := List.getElem?_eq_getElem hil
      show (Option.rec (.lit 0) (fun x => x) (nthR l i) : Tm).ev σ = sgm l σ i % 2 ^ w
      rw [nthR_eq, hl]
      have e : sgm l σ i = l[i].ev σ := by unfold sgm; rw [hl]
      rw [e]
      exact (Nat.mod_eq_of_lt (Nat.lt_of_lt_of_le (hf.lt i m _ hw hl) (Nat.pow_le_pow_right (by omega) hle))).symm
  | un o w a ih => intro h; show O1.ev o w ((subT l a).ev σ) = _; rw [ih h]; rfl
  | bin o w a b iha ihb => intro h; obtain ⟨h1, h2⟩ := bc_tf h; show O2.ev o w ((subT l a).ev σ) ((subT l b).ev σ) = _; rw [iha h1, ihb h2]; rfl
  | ite c a b ihc iha ihb => intro h; obtain ⟨h1, h2⟩ := bc_tf h; obtain ⟨h2, h3⟩ := bc_tf h2; show (Tm.ite (subT l c) (subT l a) (subT l b)).ev σ = _; rw [ev_ite, ev_ite, ihc h1, iha h2, ihb h3]
  | app f w a _ => intro h; cases h

/-! ### Values without memory -/
noncomputable def flM (ws : List Nat) (ih : Bool) (tag : Nat) (t : Tm) : Bool :=
  bc (Nat.beq tag 0) (cltT ws t) (bc (Nat.beq tag 1) (cltT ws t) (bc (Nat.beq tag 13) ih (bc (Nat.beq tag 14) ih (bc (Nat.beq tag 11) ih false))))
noncomputable def flS (ws : List Nat) (s : SV) : Bool :=
  SV.rec (motive_1 := fun _ => Bool) (motive_2 := fun _ => Bool) (fun tag _ _ _ t _ _ _ ih => flM ws ih tag t) true (fun _ _ x l => bc x l false) s
noncomputable def flL (ws : List Nat) (l : List SV) : Bool :=
  SV.rec_1 (motive_1 := fun _ => Bool) (motive_2 := fun _ => Bool) (fun tag _ _ _ t _ _ _ ih => flM ws ih tag t) true (fun _ _ x l => bc x l false) l
noncomputable def subV (x : List Tm) (s : SV) : SV :=
  SV.rec (motive_1 := fun _ => SV) (motive_2 := fun _ => List SV) (fun tag k a b t u c _ l => .mk tag k a b (subT x t) u c l) [] (fun _ _ x l => x :: l) s
noncomputable def subW (x : List Tm) (l : List SV) : List SV :=
  SV.rec_1 (motive_1 := fun _ => SV) (motive_2 := fun _ => List SV) (fun tag k a b t u c _ l => .mk tag k a b (subT x t) u c l) [] (fun _ _ x l => x :: l) l
theorem flM_cases {ws : List Nat} {ih : Bool} {tag : Nat} {t : Tm} (h : flM ws ih tag t = true) : (tag = 0 ∧ cltT ws t = true) ∨ (tag = 1 ∧ cltT ws t = true) ∨ ((tag = 13 ∨ tag = 14 ∨ tag = 11) ∧ ih = true) := by
  unfold flM at h
  by_cases e0 : tag = 0
  · rw [nbeq_t e0] at h; exact .inl ⟨e0, h⟩
  rw [nbeq_f e0] at h
  by_cases e1 : tag = 1
  · rw [show bc false (cltT ws t) _ = _ from rfl, nbeq_t e1] at h; exact .inr (.inl ⟨e1, h⟩)
  rw [show bc false (cltT ws t) _ = _ from rfl, nbeq_f e1] at h
  by_cases e2 : tag = 13
  · rw [show bc false (cltT ws t) _ = _ from rfl, nbeq_t e2] at h; exact .inr (.inr ⟨.inl e2, h⟩)
  rw [show bc false (cltT ws t) _ = _ from rfl, nbeq_f e2] at h
  by_cases e3 : tag = 14
  · rw [show bc false ih _ = _ from rfl, nbeq_t e3] at h; exact .inr (.inr ⟨.inr (.inl e3), h⟩)
  rw [show bc false ih _ = _ from rfl, nbeq_f e3] at h
  by_cases e4 : tag = 11
  · rw [show bc false ih _ = _ from rfl, nbeq_t e4] at h; exact .inr (.inr ⟨.inr (.inr e4), h⟩)
  rw [show bc false ih _ = _ from rfl, nbeq_f e4] at h
  cases h
/-- Two readings of a value: by one assignment, and by another. -/
theorem fl_den {ws : List Nat} {σ σ' : Nat → Nat} {x y : List Tm} (he : ∀ t, cltT ws t = true → (subT x t).ev σ = (subT y t).ev σ') (s : SV) :
    flS ws s = true → ∀ β β' v, Den σ β (subV x s) v → Den σ' β' (subV y s) v :=
  SV.rec (motive_1 := fun s => flS ws s = true → ∀ β β' v, Den σ β (subV x s) v → Den σ' β' (subV y s) v)
    (motive_2 := fun l => flL ws l = true → ∀ β β' vs, DenL σ β (subW x l) vs → DenL σ' β' (subW y l) vs)
    (fun tag k a b t u c l ih h β β' v hd => by
      change flM ws (flL ws l) tag t = true at h
      change Den σ β (.mk tag k a b (subT x t) u c (subW x l)) v at hd
      show Den σ' β' (.mk tag k a b (subT y t) u c (subW y l)) v
      rcases flM_cases h with ⟨rfl, h1⟩ | ⟨rfl, h1⟩ | ⟨e, h1⟩
      · cases hd with
        | int hl => rw [he t h1] at hl ⊢; exact .int hl
      · cases hd with
        | bool hl => rw [he t h1] at hl ⊢; exact .bool hl
      · rcases e with rfl | rfl | rfl
        · cases hd with
          | agg hl => exact .agg (ih h1 β β' _ hl)
        · cases hd with
          | tuple hl => exact .tuple (ih h1 β β' _ hl)
        · cases hd with
          | str hl => exact .str (ih h1 β β' _ hl))
    (fun _ β β' vs hd => by cases hd; exact .nil)
    (fun s l ihs ihl h β β' vs hd => by
      obtain ⟨h1, h2⟩ := bc_tf (show bc (flS ws s) (flL ws l) false = true from h)
      cases (show DenL σ β (subV x s :: subW x l) vs from hd) with
      | cons hv ht => exact .cons (ihs h1 β β' _ hv) (ihl h2 β β' _ ht)) s
theorem fl_denL {ws : List Nat} {σ σ' : Nat → Nat} {x y : List Tm} (he : ∀ t, cltT ws t = true → (subT x t).ev σ = (subT y t).ev σ') : ∀ {l : List SV}, flL ws l = true → ∀ β β' vs, DenL σ β (subW x l) vs → DenL σ' β' (subW y l) vs
  | [], _, _, _, vs, hd => by cases hd; exact .nil
  | s :: l, h, β, β', vs, hd => by
    obtain ⟨h1, h2⟩ := bc_tf (show bc (flS ws s) (flL ws l) false = true from h)
    cases (show DenL σ β (subV x s :: subW x l) vs from hd) with
    | cons hv ht => exact .cons (fl_den he s h1 β β' _ hv) (fl_denL he h2 β β' _ ht)
/-- The variables themselves. -/
noncomputable def idL (ws : List Nat) : List Tm := (List.range ws.length).map fun i => .var i (ws.getD i 0)

theorem idL_ev {ws : List Nat} {σ : Nat → Nat} : ∀ {t : Tm}, cltT ws t = true → (subT (idL ws) t).ev σ = t.ev σ := by
  intro t
  induction t with
  | lit n => intro _; rfl
  | var i w =>
    intro h
    change Option.rec false (fun m => Nat.beq m w) (nthR ws i) = true at h
    rw [nthR_eq] at h
    cases hw : ws[i]? with
    | none => rw [hw] at h; cases h
    | some m =>
      rw [hw] at h
      have hmw : m = w := of_nbeq h
      subst hmw
      obtain ⟨hi, hm⟩ := List.getElem?_eq_some_iff.1 hw
      show (Option.rec (.lit 0) (fun x => x) (nthR (idL ws) i) : Tm).ev σ = _
      have hl : (idL ws)[i]? = some (.var i m) := by
        unfold idL
        rw [List.getElem?_map, List.getElem?_range hi]
        simp [hw]
      rw [nthR_eq, hl]
  | un o w a ih => intro h; show O1.ev o w ((subT (idL ws) a).ev σ) = _; rw [ih h]; rfl
  | bin o w a b iha ihb => intro h; obtain ⟨h1, h2⟩ := bc_tf h; show O2.ev o w ((subT (idL ws) a).ev σ) ((subT (idL ws) b).ev σ) = _; rw [iha h1, ihb h2]; rfl
  | ite c a b ihc iha ihb => intro h; obtain ⟨h1, h2⟩ := bc_tf h; obtain ⟨h2, h3⟩ := bc_tf h2; show (Tm.ite (subT (idL ws) c) (subT (idL ws) a) (subT (idL ws) b)).ev σ = _; rw [ev_ite, ev_ite, ihc h1, iha h2, ihb h3]
  | app f w a _ => intro h; cases h

/-! ### What fits -/
noncomputable def setO (t : Tm) (i : Nat) : List (Option Tm) → List (Option Tm) :=
  Nat.rec (motive := fun _ => List (Option Tm) → List (Option Tm)) (fun acc => List.rec [] (fun x r _ => Option.rec (some t :: r) (fun y => some y :: r) x) acc) (fun _ ih acc => List.rec [] (fun x r _ => x :: ih r) acc) i
noncomputable def mtT (p : Tm) : Tm → List (Option Tm) → List (Option Tm) :=
  Tm.rec (motive := fun _ => Tm → List (Option Tm) → List (Option Tm)) (fun _ _ acc => acc) (fun i _ t acc => setO t i acc)
    (fun _ _ _ ih t acc => Tm.rec (fun _ => acc) (fun _ _ => acc) (fun _ _ a _ => ih a acc) (fun _ _ _ _ _ _ => acc) (fun _ _ _ _ _ _ => acc) (fun _ _ _ _ => acc) t)
    (fun _ _ _ _ iha ihb t acc => Tm.rec (fun _ => acc) (fun _ _ => acc) (fun _ _ _ _ => acc) (fun _ _ a b _ _ => ihb b (iha a acc)) (fun _ _ _ _ _ _ => acc) (fun _ _ _ _ => acc) t)
    (fun _ _ _ ihc iha ihb t acc => Tm.rec (fun _ => acc) (fun _ _ => acc) (fun _ _ _ _ => acc) (fun _ _ _ _ _ _ => acc) (fun c a b _ _ _ => ihb b (iha a (ihc c acc))) (fun _ _ _ _ => acc) t)
    (fun _ _ _ _ _ acc => acc) p
noncomputable def mtS (p : SV) : SV → List (Option Tm) → List (Option Tm) :=
  SV.rec (motive_1 := fun _ => SV → List (Option Tm) → List (Option Tm)) (motive_2 := fun _ => List SV → List (Option Tm) → List (Option Tm)) (fun _ _ _ _ t _ _ _ ih s acc => ih s.8 (mtT t s.5 acc)) (fun _ acc => acc) (fun _ _ ihx ihl l acc => List.rec acc (fun s r _ => ihl r (ihx s acc)) l) p
noncomputable def mtL (p : List SV) : List SV → List (Option Tm) → List (Option Tm) := List.rec (motive := fun _ => List SV → List (Option Tm) → List (Option Tm)) (fun _ acc => acc) (fun x _ ih l acc => List.rec acc (fun s r _ => ih r (mtS x s acc)) l) p
noncomputable def noneL (ws : List Nat) : List (Option Tm) := List.rec [] (fun _ _ ih => none :: ih) ws
noncomputable def allO (l : List (Option Tm)) : Option (List Tm) := List.rec (some []) (fun x _ ih => Option.rec none (fun t => Option.rec none (fun r => some (t :: r)) ih) x) l
noncomputable def vltT (nv : Nat) (t : Tm) : Bool := Tm.rec (fun _ => true) (fun i _ => Nat.blt i nv) (fun _ _ _ x => x) (fun _ _ _ _ x y => bc x y false) (fun _ _ _ x y z => bc x (bc y z false) false) (fun f _ _ x => bc (bc (Nat.blt f nv) true (Nat.ble 4294967296 f)) x false) t
theorem vltT_ok {nv : Nat} {σ σ' : Nat → Nat} (ha : Ag nv σ σ') : ∀ {t : Tm}, vltT nv t = true → t.ev σ' = t.ev σ := by
  intro t
  induction t with
  | lit n => intro _; rfl
  | var i w => intro h; show σ' i % 2 ^ w = σ i % 2 ^ w; rw [ha.1 i (of_nblt h)]
  | un o w a ih => intro h; rw [ev_un, ev_un, ih h]
  | bin o w a b iha ihb => intro h; obtain ⟨h1, h2⟩ := bc_tf h; rw [ev_bin, ev_bin, iha h1, ihb h2]
  | ite c a b ihc iha ihb => intro h; obtain ⟨h1, h2⟩ := bc_tf h; obtain ⟨h2, h3⟩ := bc_tf h2; rw [ev_ite, ev_ite, ihc h1, iha h2, ihb h3]
  | app f w a ih =>
    intro h
    obtain ⟨h1, h2⟩ := bc_tf h
    have hf : f < nv ∨ 4294967296 ≤ f := by
      cases hb : Nat.blt f nv
      · rw [hb] at h1; exact .inr (Nat.le_of_ble_eq_true h1)
      · exact .inl (of_nblt hb)
    rw [ev_app, ev_app, ih h2, ha.2 f _ hf]
/-- Each term is as wide as its variable, and old. -/
noncomputable def fitB (pc : PC) (ws : List Nat) : List Tm → Bool :=
  List.rec (motive := fun _ => List Tm → Bool) (fun l => List.rec true (fun _ _ _ => false) l) (fun w _ ih l => List.rec false (fun t r _ => bc (withB (rng pc.bnds t) fun b => Nat.blt b.hi (p2 w)) (bc (vltT pc.nv t) (ih r) false) false) l) ws
theorem fitB_len {pc : PC} : ∀ {ws : List Nat} {l : List Tm}, fitB pc ws l = true → ws.length = l.length
  | [], [], _ => rfl
  | [], _ :: _, h => by cases h
  | _ :: _, [], h => by cases h
  | w :: ws, t :: l, h => by
    obtain ⟨_, h⟩ := bc_tf (show bc (withB (rng pc.bnds t) fun b => Nat.blt b.hi (p2 w)) (bc (vltT pc.nv t) (fitB pc ws l) false) false = true from h)
    obtain ⟨_, h⟩ := bc_tf h
    simp [fitB_len h]
theorem fitB_at {pc : PC} : ∀ {ws : List Nat} {l : List Tm}, fitB pc ws l = true → ∀ (i m : Nat) (t : Tm), ws[i]? = some m → l[i]? = some t → (∀ σ, pc.ok σ → t.ev σ < 2 ^ m) ∧ vltT pc.nv t = true
  | [], _, _, i, m, t, hw, _ => by simp at hw
  | _ :: _, [], h, _, _, _, _, _ => by cases h
  | w :: ws, x :: l, h, i, m, t, hw, hl => by
    obtain ⟨h1, h⟩ := bc_tf (show bc (withB (rng pc.bnds x) fun b => Nat.blt b.hi (p2 w)) (bc (vltT pc.nv x) (fitB pc ws l) false) false = true from h)
    obtain ⟨h2, h⟩ := bc_tf h
    cases i with
    | zero =>
      simp at hw hl; subst hw; subst hl
      refine ⟨fun σ hp => ?_, h2⟩
      rw [withB_eq] at h1
      have h3 := of_nblt h1
      have h4 := rng_ok hp.2.2.1 x
      exact Nat.lt_of_le_of_lt h4.2 h3
    | succ i => simp at hw hl; exact fitB_at h i m t hw hl
theorem fitB_fit {pc : PC} {ws : List Nat} {l : List Tm} (h : fitB pc ws l = true) {σ : Nat → Nat} (hp : pc.ok σ) : Fit ws l σ := ⟨fitB_len h, fun i m t hw hl => (fitB_at h i m t hw hl).1 σ hp⟩

/-! ### What is known -/
structure SM where
  f : Nat
  ws : List Nat
  args : List SV
  s : SV
noncomputable def okSM (e : SM) : Bool := bc (flL e.ws e.args) (flS e.ws e.s) false
noncomputable def lookS (sm : List SM) (f : Nat) (pc : PC) (args : List SV) : Option SV :=
  List.rec none (fun e _ ih => bc (Nat.beq e.f f) (Option.rec ih (fun l => bc (bc (fitB pc e.ws l) (allB (sameS 8) (subW l e.args) args) false) (some (subV l e.s)) ih) (allO (mtL e.args args (noneL e.ws)))) ih) sm
theorem lookS_some : ∀ {sm : List SM} {f : Nat} {pc : PC} {args : List SV} {s : SV}, lookS sm f pc args = some s → ∃ e ∈ sm, e.f = f ∧ ∃ l, fitB pc e.ws l = true ∧ subW l e.args = args ∧ s = subV l e.s
  | [], _, _, _, _, h => by cases h
  | e :: sm, f, pc, args, s, h => by
    have rest : lookS sm f pc args = some s → ∃ e' ∈ e :: sm, e'.f = f ∧ ∃ l, fitB pc e'.ws l = true ∧ subW l e'.args = args ∧ s = subV l e'.s := fun h => by
      obtain ⟨e', h1, h2⟩ := lookS_some h
      exact ⟨e', List.mem_cons_of_mem _ h1, h2⟩
    change bc (Nat.beq e.f f) (Option.rec (lookS sm f pc args) (fun l => bc (bc (fitB pc e.ws l) (allB (sameS 8) (subW l e.args) args) false) (some (subV l e.s)) (lookS sm f pc args)) (allO (mtL e.args args (noneL e.ws)))) (lookS sm f pc args) = some s at h
    cases h1 : Nat.beq e.f f
    · rw [h1] at h; exact rest h
    rw [h1] at h
    change Option.rec (lookS sm f pc args) (fun l => bc (bc (fitB pc e.ws l) (allB (sameS 8) (subW l e.args) args) false) (some (subV l e.s)) (lookS sm f pc args)) (allO (mtL e.args args (noneL e.ws))) = some s at h
    cases h2 : allO (mtL e.args args (noneL e.ws)) with
    | none => rw [h2] at h; exact rest h
    | some l =>
      rw [h2] at h
      change bc (bc (fitB pc e.ws l) (allB (sameS 8) (subW l e.args) args) false) (some (subV l e.s)) (lookS sm f pc args) = some s at h
      cases h3 : (bc (fitB pc e.ws l) (allB (sameS 8) (subW l e.args) args) false : Bool)
      · rw [h3] at h; exact rest h
      · rw [h3] at h
        cases h
        obtain ⟨h4, h5⟩ := bc_tf h3
        exact ⟨e, List.mem_cons_self, of_nbeq h1, l, h4, allB_eq (fun x y => sameS_eq 8) h5, rfl⟩
/-- A value, all its terms written out. -/
noncomputable def deepS (s : SV) : (SV → Ans) → Ans :=
  SV.rec (motive_1 := fun _ => (SV → Ans) → Ans) (motive_2 := fun _ => (List SV → Ans) → Ans) (fun tag kd a b t u c _ ih k => deepT t fun t => ih fun l => k (.mk tag kd a b t u c l)) (fun k => k []) (fun _ _ ihx ihl k => ihx fun x => ihl fun l => k (x :: l)) s
theorem deepS_eq (s : SV) : ∀ k, deepS s k = k s :=
  SV.rec (motive_1 := fun s => ∀ k, deepS s k = k s) (motive_2 := fun l => ∀ k : List SV → Ans, (SV.rec_1 (motive_1 := fun _ => (SV → Ans) → Ans) (motive_2 := fun _ => (List SV → Ans) → Ans) (fun tag kd a b t u c _ ih k => deepT t fun t => ih fun l => k (.mk tag kd a b t u c l)) (fun k => k []) (fun _ _ ihx ihl k => ihx fun x => ihl fun l => k (x :: l)) l : (List SV → Ans) → Ans) k = k l)
    (fun tag kd a b t u c l ih k => by
      show deepT t (fun t => _) = _
      rw [deepT_eq]
      exact ih _)
    (fun _ => rfl)
    (fun x l ihx ihl k => by
      show deepS x (fun x => _) = _
      rw [ihx]
      exact ihl _) s
end Go.Sy
end

section
/- The symbolic run: regions, code, calls. -/
namespace Go.Sy
open Go.RowKit

inductive Ex
  | nrm
  | ext (id : Nat)
  | ret

/-- A table of the program's own: which variable, its numbers. -/
structure Tab where
  g : Nat
  k : IntKind
  ns : List Nat
noncomputable def tabS (k : IntKind) (ns : List Nat) : List SV := List.rec [] (fun n _ ih => .int k (.lit n) :: ih) ns
noncomputable def numIs (k : IntKind) (s : SV) (n : Nat) : Bool := Option.rec false (fun i => bc (Nat.beq i.1.ctorIdx k.ctorIdx) (Option.rec false (fun m => Nat.beq m n) (isLit i.2)) false) (svInt s)
noncomputable def sameTab (k : IntKind) (ns : List Nat) : List SV → Bool := List.rec (motive := fun _ => List SV → Bool) (fun _ => true) (fun n _ ih cs => List.rec false (fun s t _ => bc (numIs k s n) (ih t) false) cs) ns
noncomputable def hasTab (t : Tab) (hp : Tr HE) : Bool := Option.rec false (fun he => SObj.rec (fun _ _ => false) (fun _ _ _ => false) (fun _ => false) (fun _ _ _ => false) (fun _ _ _ _ => false) (fun _ => false) (fun _ _ => false) (fun cs => sameTab t.k t.ns cs) he.ob) (hp.get t.g)
/-- The tables are known. -/
noncomputable def hasTabs (l : List Tab) (hp : Tr HE) : Bool := List.rec true (fun t _ ih => bc (bc (Nat.blt t.g 64) (hasTab t hp) false) ih false) l
/-- What a program is run with. -/
structure Env where
  P : Program
  /-- How often a loop is run at most. -/
  LF : Nat
  /-- Whether places are noted. -/
  dbg : Bool
  eff : Op → Option HX
  /-- What stays in loops. -/
  li : Code → List HL
  /-- Where ways meet: ahead of which code. -/
  ji : Code → Option (F3 → St → Option LT)
  rj : Nat → Nat → Option (Nat × (F3 → St → Option LT)) := fun _ _ => none
  /-- Where ways up to a place meet: from which code on; the places. -/
  jw : Code → Option (F3 → St → Option LT) := fun _ => none
  tg : Code → Bool := fun _ => false
  /-- Functions that see no memory, and leave none. -/
  fr : Nat → Bool := fun _ => false
  /-- Functions without parameters that are known to return true. -/
  tr : Nat → Bool := fun _ => false
  /-- Tables that are known. -/
  gt : List Tab := []
  /-- Functions of which calls are known. -/
  mf : Nat → Bool := fun _ => false
  mm : Nat → List SV → Option SV := fun _ _ => none
  /-- Calls that are known of all numbers. -/
  ms : Nat → PC → List SV → Option SV := fun _ _ _ => none

/-- An operation. -/
noncomputable def cOp (E : Env) (o : Op) : HX := Option.rec (Option.rec (hbad 200) (fun h => h) (E.eff o)) (fun v => hVal v) (cVal E.P o)

structure RS where
  run : CallF → F3 → St → (F3 → St → Ans) → Ans
noncomputable def rbad (n : Nat) : RS := ⟨fun _ _ _ _ => .bad n⟩
structure PU where
  put : SV → F3 → (F3 → Ans) → Ans
/-- Where a value goes. -/
noncomputable def cPut (N : Nat) (d : Option Tmp) : PU := Option.rec ⟨fun _ F k => k F⟩ (fun d => bc (band (Nat.blt d N) (Nat.blt d 511)) ⟨(mkS d).s⟩ ⟨fun _ _ _ => .bad 201⟩) d
noncomputable def dstOf (ops : Array Oper) (i : Nat) : Option Tmp := (ops[i]?).bind (·.dst)
noncomputable def sDo (h : HX) (u : PU) : RS := ⟨fun cf F st k => h.run cf F st fun s st' => u.put s F fun F' => k F' st'⟩
noncomputable def sSkip (u : PU) : RS := ⟨fun _ F st k => u.put (.tuple []) F fun F' => k F' st⟩
noncomputable def sGuard (g : GO) (yes no tup : RS) : RS :=
  ⟨fun cf F st k => Option.rec (motive := fun _ => Ans) (oa 202 (svTup (g.g F)) fun _ => tup.run cf F st k)
    (fun t => br st.pc t (fun pc => yes.run cf F ⟨st.hp, st.nn, pc⟩ k) (fun pc => no.run cf F ⟨st.hp, st.nn, pc⟩ k)) (svBool (g.g F))⟩
/-- An operation with its guard: wanted, or not. -/
noncomputable def cGuard (ops : Array Oper) (o : Oper) (do_ skip : RS) : RS :=
  Option.rec do_ (fun g => Option.rec (rbad 203) (fun d => bc g.2 (sGuard (cO (.tmp d)) do_ skip skip) (sGuard (cO (.tmp d)) skip do_ skip)) (dstOf ops g.1)) o.guard
/-- A call that is deferred. -/
noncomputable def defOf (o : Op) : Option (Operand × List Operand) := match o with | .defer ⟨.value x, args, _⟩ => some (x, args.toList) | _ => none
noncomputable def defsOf (s : SV) : Option (List SV) := bc (Nat.beq s.1 19) (some []) (svTup s)
noncomputable def sDef (x : Operand) (args : List Operand) (u : PU) : RS := ⟨fun _ F st k => oa 225 (svFunc ((cO x).g F)) fun f => knL (cOs args) F fun xs => oa 226 (defsOf ((mkG 511).g F)) fun l =>
  (mkS 511).s (.tuple (.tuple [.func f.1 f.2, .tuple xs] :: l)) F fun F => u.put (.tuple []) F fun F' => k F' st⟩
noncomputable def sStep (E : Env) (N : Nat) (ops : Array Oper) (i : Nat) : RS :=
  Option.rec (rbad 204) (fun o => cGuard ops o (Option.rec (sDo (cOp E o.op) (cPut N o.dst)) (fun d => sDef d.1 d.2 (cPut N o.dst)) (defOf o.op)) (sSkip (cPut N o.dst))) (ops[i]?)
noncomputable def sNote (E : Env) (n : Nat) (r : RS) : RS := bc E.dbg ⟨fun cf F st k => .note n (r.run cf F st k)⟩ r
noncomputable def sDone : RS := ⟨fun _ F st k => k F st⟩
noncomputable def sSeq (a b : RS) : RS := ⟨fun cf F st k => a.run cf F st fun F st => b.run cf F st k⟩
noncomputable def sList (E : Env) (N : Nat) (ops : Array Oper) (l : List Nat) : RS := List.rec sDone (fun i _ ih => sSeq (sStep E N ops i) ih) l

/-! ### A region whose order is drawn -/
/-- What was read, and must stand. -/
structure SE where
  d : List Nat
  t : TypeId
  p : SV
  v : SV
noncomputable def chk (P : Program) (l : List SE) (st : St) (k : Ans) : Ans := List.rec k (fun e _ ih => (cLoad P e.t).f st e.p fun v => wa 205 (sameS 8 v e.v) ih) l
structure RD where
  run : CallF → List SE → F3 → St → (List SE → F3 → St → Ans) → Ans
noncomputable def dbad (n : Nat) : RD := ⟨fun _ _ _ _ _ => .bad n⟩
structure RL where
  run : List SE → F3 → St → (List SE → SV → PC → Ans) → Ans
/-- What may be done ahead of others: a value; a load, which is to stand. -/
noncomputable def cEager (E : Env) (d : List Nat) (o : Op) : RL :=
  Option.rec (match o with
    | .load t x => ⟨fun l F st k => kn ((cO x).g F) fun p => (cLoad E.P t).f st p fun v => k (⟨d, t, p, v⟩ :: l) v st.pc⟩
    | _ => ⟨fun _ _ _ _ => .bad 206⟩) (fun v => ⟨fun l F st k => v.run F st.pc fun s pc => k l s pc⟩) (cVal E.P o)
noncomputable def dDo (h : RL) (u : PU) : RD := ⟨fun _ l F st k => h.run l F st fun l s pc => u.put s F fun F' => k l F' ⟨st.hp, st.nn, pc⟩⟩
noncomputable def dSkip (u : PU) : RD := ⟨fun _ l F st k => u.put (.tuple []) F fun F' => k l F' st⟩
noncomputable def dGuard (g : GO) (yes no tup : RD) : RD :=
  ⟨fun cf l F st k => Option.rec (motive := fun _ => Ans) (oa 202 (svTup (g.g F)) fun _ => tup.run cf l F st k)
    (fun t => br st.pc t (fun pc => yes.run cf l F ⟨st.hp, st.nn, pc⟩ k) (fun pc => no.run cf l F ⟨st.hp, st.nn, pc⟩ k)) (svBool (g.g F))⟩
noncomputable def dCase (ops : Array Oper) (g : Option (Nat × Bool)) (do_ skip : RD) : RD :=
  Option.rec do_ (fun g => Option.rec (dbad 203) (fun d => bc g.2 (dGuard (cO (.tmp d)) do_ skip skip) (dGuard (cO (.tmp d)) skip do_ skip)) (dstOf ops g.1)) g
noncomputable def dEager (E : Env) (N : Nat) (ops : Array Oper) (i : Nat) (d : List Nat) : RD :=
  Option.rec (dbad 207) (fun o => dCase ops o.guard (dDo (cEager E d o.op) (cPut N o.dst)) (dSkip (cPut N o.dst))) (ops[i]?)
noncomputable def memN (j : Nat) (l : List Nat) : Bool := List.rec false (fun x _ ih => bc (Nat.beq x j) true ih) l
/-- What must stand still, when j is done. -/
noncomputable def stillK (j : Nat) (l : List SE) : (List SE → Ans) → Ans := List.rec (motive := fun _ => (List SE → Ans) → Ans) (fun k => k []) (fun e _ ih k => bc (memN j e.d) (ih k) (ih fun r => k (e :: r))) l
noncomputable def stillR (j : Nat) (l : List SE) : List SE := List.rec [] (fun e _ ih => bc (memN j e.d) ih (e :: ih)) l
noncomputable def dForced (E : Env) (N : Nat) (ops : Array Oper) (i : Nat) : RD := ⟨fun cf l F st k => stillK i l fun l => (sStep E N ops i).run cf F st fun F st => chk E.P l st (k l F st)⟩
noncomputable def dSeq (a b : RD) : RD := ⟨fun cf l F st k => a.run cf l F st fun l F st => b.run cf l F st k⟩
noncomputable def dBoth (a b : RD) : RD := ⟨fun cf l F st k => .both (a.run cf l F st k) (b.run cf l F st k)⟩
noncomputable def dDone : RD := ⟨fun _ l F st k => k l F st⟩
noncomputable def dSch (E : Env) (N : Nat) (ops : Array Oper) (s : Sch) : RD :=
  Sch.rec dDone (fun i d _ ih => dSeq (dEager E N ops i d) ih) (fun i _ ih => dSeq (dForced E N ops i) ih) (fun i j _ _ iha ihb => dBoth (dSeq (dForced E N ops i) iha) (dSeq (dForced E N ops j) ihb)) s
/-! ### A map's literal: its entries are put in, in whatever order -/
structure LI where
  i : Nat
  key : Value
  y : Operand
structure LM where
  im : Nat
  dm : Nat
  t : Nat
  kt : Nat
  kind : TypeDesc
inductive SchL
  | adopt (t : List Nat)
  | eager (i : Nat) (s : SchL)
  | forced (i : Nat) (s : SchL)
def edgeTo (o : Oper) (j : Nat) : Bool := o.after.any fun e => Region.binds .any e && e.on == j
def liAt (ops : Array Oper) (lm : LM) (i : Nat) : Option LI :=
  match ops[i]? with
  | some o => match o.op with
    | .insert t (.tmp m) (.const key) y => if t == lm.t && m == lm.dm && o.dst.isNone && o.guard.isNone && edgeTo o lm.im then some ⟨i, key, y⟩ else none
    | _ => none
  | none => none
def insOf (ops : Array Oper) (lm : LM) : List LI := (List.range ops.size).filterMap (liAt ops lm)
def isIns (ops : Array Oper) (lm : LM) (i : Nat) : Bool := (liAt ops lm i).isSome
def isLate (ops : Array Oper) (lm : LM) (i : Nat) : Bool := i == lm.im || isIns ops lm i
/-- Keys that differ. -/
def pwB (kind : TypeDesc) : List LI → Bool
  | [] => true
  | x :: l => (match Instr.sameNow kind x.key x.key with | some true => true | _ => false) &&
    (l.all fun y => (match Instr.sameNow kind x.key y.key with | some false => true | _ => false) && (match Instr.sameNow kind y.key x.key with | some false => true | _ => false)) && pwB kind l
/-- What comes after all that is late. -/
def isTail (ops : Array Oper) (lm : LM) (i : Nat) : Bool := !isLate ops lm i && (match ops[i]? with | some o => edgeTo o lm.im && (insOf ops lm).all (fun x => edgeTo o x.i) | none => false)
def isCore (ops : Array Oper) (lm : LM) (i : Nat) : Bool := !isLate ops lm i && !isTail ops lm i
/-- An operation that is neither, beside those that are late. -/
def besideB (ops : Array Oper) (lm : LM) (ins : List LI) (j : Nat) (o : Oper) : Bool :=
  (o.after.all fun e => !Region.binds .any e || isCore ops lm e.on) && (o.dst != some lm.dm) &&
  ins.all fun x => match x.y with | .tmp t => (o.dst != some t) || (match ops[x.i]? with | some ox => edgeTo ox j | none => false) | _ => true
def insB (ops : Array Oper) (lm : LM) (x : LI) : Bool := match ops[x.i]? with | some o => (o.after.all fun e => !Region.binds .any e || (e.on == lm.im || (isCore ops lm e.on && decide (e.on < ops.size)))) | none => false
def lmOK (N : Nat) (ops : Array Oper) (lm : LM) : Bool :=
  decide (lm.dm < N) && decide (lm.dm < 511) && pwB lm.kind (insOf ops lm) && ((insOf ops lm).all fun x => insB ops lm x) &&
  (List.range ops.size).all fun j => !isCore ops lm j || (match ops[j]? with | some o => besideB ops lm (insOf ops lm) j o | none => false)
def makeAt (o : Oper) : Option Nat := match o.op, o.dst, o.guard with | .makeMap _ none, some d, none => if o.after.isEmpty then some d else none | _, _, _ => none
def insT (d : Nat) : List Oper → Option Nat
  | [] => none
  | o :: l => match o.op with | .insert t (.tmp m) _ _ => if m == d then some t else insT d l | _ => insT d l
noncomputable def lmAt (P : Program) (N : Nat) (ops : Array Oper) (i : Nat) : Option LM :=
  (ops[i]?).bind fun o => (makeAt o).bind fun d => (insT d ops.toList).bind fun t => (mapTyD P t).bind fun kt => bc (flatTD P kt) ((P.underlying kt).bind fun kind => if lmOK N ops ⟨i, d, t, kt, kind⟩ then some ⟨i, d, t, kt, kind⟩ else none) none
where
  mapTyD (P : Program) (t : TypeId) : Option TypeId := match P.underlying t with | some (.map k _) => some k | _ => none
  flatTD (P : Program) (t : TypeId) : Bool := match P.underlying t with | some (.int _) => true | some .string => true | some .bool => true | _ => false
noncomputable def lateOf (P : Program) (N : Nat) (ops : Array Oper) : Option LM := (List.range ops.size).findSome? (lmAt P N ops)
def allL (core : Nat → Bool) (n : Nat) (lf : Array Bool) : Bool := (List.range n).all fun j => !core j || lf.getD j true
/-- Something late still waits for what is not done. -/
def blocked (ops : Array Oper) (lm : LM) (lf : Array Bool) : Bool := (insOf ops lm).any fun x => match ops[x.i]? with | some o => (o.after.any fun e => Region.binds .any e && isCore ops lm e.on && !lf.getD e.on false) | none => false
def schedT (ops : Array Oper) : Nat → Array Bool → Option (List Nat)
  | 0, l => match Region.ready .any ops l with | [] => some [] | _ => none
  | n + 1, l => match Region.ready .any ops l with
    | [] => some []
    | [x] => (schedT ops n (l.setIfInBounds x true)).map (x :: ·)
    | _ => none
/-- All is done but what comes after. -/
def fullOf (ops : Array Oper) (lm : LM) : Array Bool := (Array.range ops.size).map fun j => !isTail ops lm j
def schedL (ops : Array Oper) (lm : LM) : Nat → Array Bool → Option SchL
  | 0, lf => if allL (isCore ops lm) ops.size lf then (schedT ops ops.size (fullOf ops lm)).map .adopt else none
  | n + 1, lf => if allL (isCore ops lm) ops.size lf then (schedT ops ops.size (fullOf ops lm)).map .adopt else
    match (Region.ready .any ops lf).filter (isCore ops lm) with
    | [] => none
    | x :: r => match (x :: r).find? (eagerOK ops lf) with
      | some i => (schedL ops lm n (lf.setIfInBounds i true)).map (.eager i)
      | none => match r with
        | [] => if blocked ops lm lf then (schedL ops lm n (lf.setIfInBounds x true)).map (.forced x) else none
        | _ => none
/-! ### The order of a region, found more quickly: by functions in the stead of arrays -/
noncomputable def rngA (n : Nat) : List Nat → List Nat := Nat.rec (motive := fun _ => List Nat → List Nat) (fun acc => acc) (fun m ih acc => forceN m fun m => ih (m :: acc)) n
theorem rngA_eq : ∀ (n : Nat) (acc : List Nat), rngA n acc = List.range.loop n acc
  | 0, _ => rfl
  | n + 1, acc => by
    show (forceN n fun m => rngA n (m :: acc)) = List.range.loop n (n :: acc)
    rw [forceN_eq]; exact rngA_eq n _
noncomputable def rngL (n : Nat) : List Nat := rngA n []
theorem rngL_eq (n : Nat) : rngL n = List.range n := rngA_eq n []
noncomputable def filR {α : Type} (p : α → Bool) (l : List α) : List α := List.rec [] (fun x _ ih => bc (p x) (x :: ih) ih) l
theorem filR_eq {α : Type} (p : α → Bool) : ∀ l : List α, filR p l = l.filter p
  | [] => rfl
  | x :: l => by
    show bc (p x) (x :: filR p l) (filR p l) = _
    rw [filR_eq p l]
    cases h : p x <;> simp [h]
noncomputable def allR {α : Type} (p : α → Bool) (l : List α) : Bool := List.rec true (fun x _ ih => bc (p x) ih false) l
theorem allR_eq {α : Type} (p : α → Bool) : ∀ l : List α, allR p l = l.all p
  | [] => rfl
  | x :: l => by
    show bc (p x) (allR p l) false = _
    rw [allR_eq p l]
    cases h : p x <;> simp [h]
noncomputable def anyR {α : Type} (p : α → Bool) (l : List α) : Bool := List.rec false (fun x _ ih => bc (p x) true ih) l
theorem anyR_eq {α : Type} (p : α → Bool) : ∀ l : List α, anyR p l = l.any p
  | [] => rfl
  | x :: l => by
    show bc (p x) true (anyR p l) = _
    rw [anyR_eq p l]
    cases h : p x <;> simp [h]
noncomputable def finR {α : Type} (p : α → Bool) (l : List α) : Option α := List.rec none (fun x _ ih => bc (p x) (some x) ih) l
theorem finR_eq {α : Type} (p : α → Bool) : ∀ l : List α, finR p l = l.find? p
  | [] => rfl
  | x :: l => by
    show bc (p x) (some x) (finR p l) = _
    rw [finR_eq p l]
    cases h : p x <;> simp [h]

theorem nbeqB (a b : Nat) : Nat.beq a b = (a == b) := by
  by_cases e : a = b
  · subst e; rw [nbeq_t rfl]; simp
  · rw [nbeq_f e]; simp [e]
/-! ### What is ready, what is free -/
noncomputable def readyF (n : Nat) (op : Nat → Option Oper) (l : Nat → Bool) : List Nat :=
  filR (fun i => bc (l i) false (Option.rec false (fun o => allR (fun e => bc (Region.binds .any e) (l e.on) true) o.after.toList) (op i))) (rngL n)
noncomputable def freeF (ops : Array Oper) (n : Nat) (op : Nat → Option Oper) (l : Nat → Bool) (i : Nat) : Bool :=
  Option.rec false (fun oi => allR (fun j => bc (Nat.beq j i) true (bc (l j) true (Option.rec true (fun oj => bc (anyR (fun e => bc (Region.binds .any e) (Nat.beq e.on i) false) oj.after.toList) true (oi.apart ops oj)) (op j)))) (rngL n)) (op i)
noncomputable def eagerF (ops : Array Oper) (n : Nat) (op : Nat → Option Oper) (l : Nat → Bool) (i : Nat) : Bool := bc (Option.rec false (fun o => isEager o.op) (op i)) (freeF ops n op l i) false
noncomputable def upF (l : Nat → Bool) (i : Nat) : Nat → Bool := fun j => bc (Nat.beq j i) true (l j)

structure Sm (ops : Array Oper) (op : Nat → Option Oper) (l : Nat → Bool) (lf : Array Bool) : Prop where
  op : ∀ i, op i = ops[i]?
  l : ∀ j, l j = lf.getD j false
  sz : lf.size = ops.size
theorem getD_in {lf : Array Bool} {i : Nat} (h : i < lf.size) : lf.getD i true = lf.getD i false := by
  simp [Array.getD_eq_getD_getElem?, Array.getElem?_eq_getElem h]
theorem Sm.readyF {ops : Array Oper} {op : Nat → Option Oper} {l : Nat → Bool} {lf : Array Bool} (h : Sm ops op l lf) : readyF ops.size op l = Region.ready .any ops lf := by
  unfold Go.Sy.readyF Region.ready
  rw [filR_eq, rngL_eq]
  apply List.filter_congr
  intro i hi
  have hi := List.mem_range.1 hi
  rw [getD_in (by rw [h.sz]; exact hi), h.l i, h.op i]
  cases lf.getD i false with
  | true => rfl
  | false =>
    cases ops[i]? with
    | none => rfl
    | some o =>
      show allR _ o.after.toList = (o.after.all _)
      rw [allR_eq, ← Array.all_toList]
      congr 1
      funext e
      rw [h.l e.on]
      cases Region.binds .any e <;> rfl
theorem Sm.freeF {ops : Array Oper} {op : Nat → Option Oper} {l : Nat → Bool} {lf : Array Bool} (h : Sm ops op l lf) (i : Nat) : freeF ops ops.size op l i = freeAt ops lf i := by
  unfold Go.Sy.freeF freeAt
  rw [h.op i]
  cases ops[i]? with
  | none => rfl
  | some oi =>
    show allR _ (rngL ops.size) = (List.range ops.size).all _
    rw [allR_eq, rngL_eq]
    have : ∀ j ∈ List.range ops.size, (bc (Nat.beq j i) true (bc (l j) true (Option.rec true (fun oj => bc (anyR (fun e => bc (Region.binds .any e) (Nat.beq e.on i) false) oj.after.toList) true (oi.apart ops oj)) (op j))) : Bool) =
        (j == i || lf.getD j true || match ops[j]? with | none => true | some oj => (oj.after.any fun e => Region.binds .any e && e.on == i) || oi.apart ops oj) := by
      intro j hj
      have hj := List.mem_range.1 hj
      rw [getD_in (by rw [h.sz]; exact hj), h.l j, h.op j]
      have hb : Nat.beq j i = (j == i) := nbeqB j i
      rw [hb]
      cases (j == i) with
      | true => rfl
      | false =>
        cases lf.getD j false with
        | true => rfl
        | false =>
          cases ops[j]? with
          | none => rfl
          | some oj =>
            show bc (anyR _ oj.after.toList) true (oi.apart ops oj) = ((oj.after.any _) || oi.apart ops oj)
            rw [anyR_eq, ← Array.any_toList]
            have e1 : (fun e : Edge => bc (Region.binds .any e) (Nat.beq e.on i) false) = fun e => Region.binds .any e && e.on == i := by
              funext e
              rw [nbeqB]
              cases Region.binds .any e <;> rfl
            rw [e1]
            cases oj.after.toList.any fun e => Region.binds .any e && e.on == i <;> rfl
    rw [Bool.eq_iff_iff, List.all_eq_true, List.all_eq_true]
    exact ⟨fun hh j hj => (this j hj) ▸ hh j hj, fun hh j hj => (this j hj).symm ▸ hh j hj⟩
theorem Sm.eagerF {ops : Array Oper} {op : Nat → Option Oper} {l : Nat → Bool} {lf : Array Bool} (h : Sm ops op l lf) (i : Nat) : eagerF ops ops.size op l i = eagerOK ops lf i := by
  unfold Go.Sy.eagerF eagerOK
  rw [h.freeF i, h.op i]
  cases ops[i]? with
  | none => rfl
  | some o => show bc (isEager o.op) _ false = (isEager o.op && _); cases isEager o.op <;> rfl
theorem Sm.up {ops : Array Oper} {op : Nat → Option Oper} {l : Nat → Bool} {lf : Array Bool} (h : Sm ops op l lf) {i : Nat} (hi : i < ops.size) : Sm ops op (upF l i) (lf.setIfInBounds i true) := by
  refine ⟨h.op, fun j => ?_, by rw [Array.size_setIfInBounds]; exact h.sz⟩
  show bc (Nat.beq j i) true (l j) = _
  rw [Array.getD_eq_getD_getElem?, Array.getElem?_setIfInBounds]
  by_cases e : i = j
  · subst e
    rw [nbeq_t rfl, if_pos rfl, if_pos (by rw [h.sz]; exact hi)]; rfl
  · rw [nbeq_f (fun h => e h.symm), if_neg e, bc_false, h.l j, Array.getD_eq_getD_getElem?]
theorem ready_lt {ops : Array Oper} {lf : Array Bool} {i : Nat} (h : i ∈ Region.ready .any ops lf) : i < ops.size := by
  unfold Region.ready at h
  exact List.mem_range.1 (List.mem_filter.1 h).1

/-! ### What comes after -/
noncomputable def descsF (op : Nat → Option Oper) (i : Nat) (l : List Nat) : List Nat → List Nat :=
  List.rec (motive := fun _ => List Nat → List Nat) (fun acc => acc) (fun j _ ih acc => Option.rec (ih acc) (fun o => bc (anyR (fun e => bc (Region.binds .any e) (bc (Nat.beq e.on i) true (memN e.on acc)) false) o.after.toList) (ih (j :: acc)) (ih acc)) (op j)) l
theorem memN_eq (j : Nat) : ∀ l : List Nat, memN j l = l.contains j
  | [] => rfl
  | x :: l => by
    show bc (Nat.beq x j) true (memN j l) = _
    rw [memN_eq j l]
    by_cases e : x = j
    · subst e; simp
    · rw [nbeq_f e]
      have : ¬ j = x := fun h => e h.symm
      simp [this]
theorem descsF_eq {ops : Array Oper} {op : Nat → Option Oper} (h : ∀ i, op i = ops[i]?) (i : Nat) : ∀ (l acc : List Nat), descsF op i l acc = descs ops i l acc
  | [], acc => rfl
  | j :: l, acc => by
    show (Option.rec (descsF op i l acc) (fun o => bc (anyR (fun e => bc (Region.binds .any e) (bc (Nat.beq e.on i) true (memN e.on acc)) false) o.after.toList) (descsF op i l (j :: acc)) (descsF op i l acc)) (op j) : List Nat) = _
    unfold descs
    rw [h j, descsF_eq h i l (j :: acc), descsF_eq h i l acc]
    cases ops[j]? with
    | none => rfl
    | some o =>
      have e1 : (fun e : Edge => bc (Region.binds .any e) (bc (Nat.beq e.on i) true (memN e.on acc)) false) = fun e => Region.binds .any e && (e.on == i || acc.contains e.on) := by
        funext e
        rw [memN_eq]
        have hb : Nat.beq e.on i = (e.on == i) := nbeqB e.on i
        rw [hb]
        cases Region.binds .any e <;> cases (e.on == i) <;> rfl
      show bc (anyR _ o.after.toList) _ _ = if (o.after.any fun e => Region.binds .any e && (e.on == i || acc.contains e.on)) = true then _ else _
      rw [anyR_eq, e1, ← Array.any_toList]
      cases o.after.toList.any fun e => Region.binds .any e && (e.on == i || acc.contains e.on) <;> rfl
noncomputable def dOfF (_ : Array Oper) (n : Nat) (op : Nat → Option Oper) (i : Nat) : List Nat := match op i with
  | some o => (match o.op with | .load .. => filR (fun j => Option.rec false (fun o => Bool.not (isEager o.op)) (op j)) (descsF op i (rngL n) []) | _ => [])
  | none => []
theorem dOfF_eq {ops : Array Oper} {op : Nat → Option Oper} (h : ∀ i, op i = ops[i]?) (i : Nat) : dOfF ops ops.size op i = dOf ops i := by
  unfold dOfF dOf
  rw [h i]
  cases ops[i]? with
  | none => rfl
  | some o =>
    have e1 : (fun j => (Option.rec false (fun o : Oper => Bool.not (isEager o.op)) (op j) : Bool)) = notEager ops := by
      funext j
      unfold notEager
      rw [h j]
      cases ops[j]? <;> rfl
    have e2 : filR (fun j => (Option.rec false (fun o : Oper => Bool.not (isEager o.op)) (op j) : Bool)) (descsF op i (rngL ops.size) []) = (descs ops i (List.range ops.size) []).filter (notEager ops) := by
      rw [filR_eq, descsF_eq h, rngL_eq, e1]
    dsimp only
    rw [e2]
    all_goals (generalize o.op = p; cases p <;> rfl)
/-! ### A schedule -/
noncomputable def schedF (ops : Array Oper) (n : Nat) (op : Nat → Option Oper) (m : Nat) : (Nat → Bool) → Option Sch :=
  Nat.rec (motive := fun _ => (Nat → Bool) → Option Sch) (fun l => List.rec (some .done) (fun _ _ _ => none) (readyF n op l))
    (fun _ ih l => List.rec (some .done) (fun x r _ => Option.rec
      (List.rec (Option.rec none (fun s => some (.forced x s)) (ih (upF l x))) (fun y r' _ => List.rec (Option.rec none (fun s => Option.rec none (fun t => some (.two x y s t)) (ih (upF l y))) (ih (upF l x))) (fun _ _ _ => none) r') r)
      (fun i => Option.rec none (fun s => some (.eager i (dOfF ops n op i) s)) (ih (upF l i))) (finR (eagerF ops n op l) (x :: r))) (readyF n op l)) m
theorem schedF_eq {ops : Array Oper} {op : Nat → Option Oper} : ∀ (m : Nat) {l : Nat → Bool} {lf : Array Bool}, Sm ops op l lf → schedF ops ops.size op m l = sched ops m lf
  | 0, l, lf, h => by
    show (List.rec (some .done) (fun _ _ _ => none) (readyF ops.size op l) : Option Sch) = _
    unfold sched
    rw [h.readyF]
    cases Region.ready .any ops lf <;> rfl
  | m + 1, l, lf, h => by
    show (List.rec (some .done) (fun x r _ => Option.rec
      (List.rec (Option.rec none (fun s => some (.forced x s)) (schedF ops ops.size op m (upF l x))) (fun y r' _ => List.rec (Option.rec none (fun s => Option.rec none (fun t => some (.two x y s t)) (schedF ops ops.size op m (upF l y))) (schedF ops ops.size op m (upF l x))) (fun _ _ _ => none) r') r)
      (fun i => Option.rec none (fun s => some (.eager i (dOfF ops ops.size op i) s)) (schedF ops ops.size op m (upF l i))) (finR (eagerF ops ops.size op l) (x :: r))) (readyF ops.size op l) : Option Sch) = _
    unfold sched
    rw [h.readyF]
    have hlt : ∀ i, i ∈ Region.ready .any ops lf → i < ops.size := fun i => ready_lt
    generalize Region.ready .any ops lf = rl at hlt
    have hee : eagerF ops ops.size op l = eagerOK ops lf := funext h.eagerF
    have rec1 : ∀ i, i ∈ rl → schedF ops ops.size op m (upF l i) = sched ops m (lf.setIfInBounds i true) := fun i hi => schedF_eq m (h.up (hlt i hi))
    cases rl with
    | nil => rfl
    | cons x r =>
      show (Option.rec (List.rec (Option.rec none (fun s => some (.forced x s)) (schedF ops ops.size op m (upF l x))) (fun y r' _ => List.rec (Option.rec none (fun s => Option.rec none (fun t => some (.two x y s t)) (schedF ops ops.size op m (upF l y))) (schedF ops ops.size op m (upF l x))) (fun _ _ _ => none) r') r)
        (fun i => Option.rec none (fun s => some (.eager i (dOfF ops ops.size op i) s)) (schedF ops ops.size op m (upF l i))) (finR (eagerF ops ops.size op l) (x :: r)) : Option Sch) = _
      rw [finR_eq, hee]
      dsimp only
      cases hf : (x :: r).find? (eagerOK ops lf) with
      | some i =>
        have hi : i ∈ x :: r := List.mem_of_find?_eq_some hf
        show (Option.rec none (fun s => some (.eager i (dOfF ops ops.size op i) s)) (schedF ops ops.size op m (upF l i)) : Option Sch) = (sched ops m (lf.setIfInBounds i true)).map (.eager i (dOf ops i))
        rw [rec1 i hi, dOfF_eq h.op]
        cases sched ops m (lf.setIfInBounds i true) <;> rfl
      | none =>
        show (List.rec (Option.rec none (fun s => some (.forced x s)) (schedF ops ops.size op m (upF l x))) (fun y r' _ => List.rec (Option.rec none (fun s => Option.rec none (fun t => some (.two x y s t)) (schedF ops ops.size op m (upF l y))) (schedF ops ops.size op m (upF l x))) (fun _ _ _ => none) r') r : Option Sch) = _
        cases r with
        | nil =>
          show (Option.rec none (fun s => some (.forced x s)) (schedF ops ops.size op m (upF l x)) : Option Sch) = (sched ops m (lf.setIfInBounds x true)).map (.forced x)
          rw [rec1 x List.mem_cons_self]
          cases sched ops m (lf.setIfInBounds x true) <;> rfl
        | cons y r' =>
          cases r' with
          | nil =>
            show (Option.rec none (fun s => Option.rec none (fun t => some (.two x y s t)) (schedF ops ops.size op m (upF l y))) (schedF ops ops.size op m (upF l x)) : Option Sch) = (sched ops m (lf.setIfInBounds x true)).bind fun s => (sched ops m (lf.setIfInBounds y true)).map fun t => .two x y s t
            rw [rec1 x List.mem_cons_self, rec1 y (by simp)]
            cases sched ops m (lf.setIfInBounds x true) with
            | none => rfl
            | some s => cases sched ops m (lf.setIfInBounds y true) <;> rfl
          | cons z r'' => rfl
noncomputable def opR (ol : List Oper) (i : Nat) : Option Oper := nthR ol i
theorem sm0 (ops : Array Oper) : Sm ops (opR ops.toList) (fun _ => false) (Array.replicate ops.size false) := by
  refine ⟨fun i => ?_, fun j => ?_, by simp⟩
  · unfold opR; rw [nthR_eq]; simp
  · rw [Array.getD_eq_getD_getElem?, Array.getElem?_replicate]; split <;> rfl
noncomputable def schedX (ops : Array Oper) : Option Sch := if noSel ops then schedF ops ops.size (opR ops.toList) ops.size (fun _ => false) else none
theorem schedX_eq (ops : Array Oper) : schedX ops = schedOf ops := by
  unfold schedX schedOf
  rw [schedF_eq ops.size (sm0 ops)]

/-! ### With a map's literal -/
noncomputable def forceBL {α : Type} (l : List Bool) : (List Bool → α) → α := List.rec (motive := fun _ => (List Bool → α) → α) (fun k => k []) (fun b _ ih k => Bool.rec (ih fun r => k (false :: r)) (ih fun r => k (true :: r)) b) l
theorem forceBL_eq {α : Type} : ∀ (l : List Bool) (k : List Bool → α), forceBL l k = k l
  | [], k => rfl
  | b :: l, k => by
    show (Bool.rec (forceBL l fun r => k (false :: r)) (forceBL l fun r => k (true :: r)) b : α) = _
    cases b
    · exact forceBL_eq l _
    · exact forceBL_eq l _
noncomputable def tabL (n : Nat) (f : Nat → Bool) : List Bool := List.rec [] (fun j _ ih => f j :: ih) (rngL n)
theorem tabL_eq (n : Nat) (f : Nat → Bool) : tabL n f = (List.range n).map f := by
  unfold tabL
  rw [rngL_eq]
  generalize List.range n = l
  induction l with
  | nil => rfl
  | cons x l ih => exact congrArg (f x :: ·) ih
noncomputable def lookB (L : List Bool) (f : Nat → Bool) (j : Nat) : Bool := Option.rec (f j) (fun b => b) (nthR L j)
theorem lookB_eq (n : Nat) (f : Nat → Bool) (j : Nat) : lookB (tabL n f) f j = f j := by
  unfold lookB
  rw [nthR_eq, tabL_eq, List.getElem?_map]
  by_cases h : j < n
  · rw [List.getElem?_range h]; rfl
  · rw [List.getElem?_eq_none (by simpa using h)]; rfl
noncomputable def schedTF (n : Nat) (op : Nat → Option Oper) (m : Nat) : (Nat → Bool) → Option (List Nat) :=
  Nat.rec (motive := fun _ => (Nat → Bool) → Option (List Nat)) (fun l => List.rec (some []) (fun _ _ _ => none) (readyF n op l))
    (fun _ ih l => List.rec (some []) (fun x r _ => List.rec (Option.rec none (fun t => some (x :: t)) (ih (upF l x))) (fun _ _ _ => none) r) (readyF n op l)) m
theorem schedTF_eq {ops : Array Oper} {op : Nat → Option Oper} : ∀ (m : Nat) {l : Nat → Bool} {lf : Array Bool}, Sm ops op l lf → schedTF ops.size op m l = schedT ops m lf
  | 0, l, lf, h => by
    show (List.rec (some []) (fun _ _ _ => none) (readyF ops.size op l) : Option (List Nat)) = _
    unfold schedT
    rw [h.readyF]
    cases Region.ready .any ops lf <;> rfl
  | m + 1, l, lf, h => by
    show (List.rec (some []) (fun x r _ => List.rec (Option.rec none (fun t => some (x :: t)) (schedTF ops.size op m (upF l x))) (fun _ _ _ => none) r) (readyF ops.size op l) : Option (List Nat)) = _
    unfold schedT
    rw [h.readyF]
    have hlt : ∀ i, i ∈ Region.ready .any ops lf → i < ops.size := fun i => ready_lt
    generalize Region.ready .any ops lf = rl at hlt
    match rl, hlt with
    | [], _ => rfl
    | [x], hlt =>
      show (Option.rec none (fun t => some (x :: t)) (schedTF ops.size op m (upF l x)) : Option (List Nat)) = _
      rw [schedTF_eq m (h.up (hlt x List.mem_cons_self))]
      cases hs : schedT ops m (lf.setIfInBounds x true) <;> simp [hs]
    | x :: y :: r, _ => rfl
noncomputable def blockF (ins : List LI) (op : Nat → Option Oper) (core l : Nat → Bool) : Bool :=
  anyR (fun x => Option.rec false (fun o => anyR (fun e => bc (Region.binds .any e) (bc (core e.on) (bc (l e.on) false true) false) false) o.after.toList) (op x.i)) ins
noncomputable def doneF (n : Nat) (core l : Nat → Bool) : Bool := allR (fun j => bc (core j) (l j) true) (rngL n)
noncomputable def schedLF (ops : Array Oper) (n : Nat) (ins : List LI) (op : Nat → Option Oper) (core full : Nat → Bool) (m : Nat) : (Nat → Bool) → Option SchL :=
  Nat.rec (motive := fun _ => (Nat → Bool) → Option SchL) (fun l => bc (doneF n core l) (Option.rec none (fun t => some (.adopt t)) (schedTF n op n full)) none)
    (fun _ ih l => bc (doneF n core l) (Option.rec none (fun t => some (.adopt t)) (schedTF n op n full))
      (List.rec none (fun x r _ => Option.rec (List.rec (bc (blockF ins op core l) (Option.rec none (fun s => some (.forced x s)) (ih (upF l x))) none) (fun _ _ _ => none) r)
        (fun i => Option.rec none (fun s => some (.eager i s)) (ih (upF l i))) (finR (eagerF ops n op l) (x :: r))) (filR core (readyF n op l)))) m
theorem doneF_eq {ops : Array Oper} {op : Nat → Option Oper} {lm : LM} {core l : Nat → Bool} {lf : Array Bool} (h : Sm ops op l lf) (hc : ∀ j, core j = isCore ops lm j) : doneF ops.size core l = allL (isCore ops lm) ops.size lf := by
  unfold doneF allL
  rw [allR_eq, rngL_eq, Bool.eq_iff_iff, List.all_eq_true, List.all_eq_true]
  have : ∀ j ∈ List.range ops.size, bc (core j) (l j) true = (!isCore ops lm j || lf.getD j true) := by
    intro j hj
    have hj := List.mem_range.1 hj
    rw [getD_in (by rw [h.sz]; exact hj), hc j, h.l j]
    cases isCore ops lm j <;> rfl
  exact ⟨fun hh j hj => (this j hj) ▸ hh j hj, fun hh j hj => (this j hj).symm ▸ hh j hj⟩
theorem blockF_eq {ops : Array Oper} {op : Nat → Option Oper} {lm : LM} {core l : Nat → Bool} {lf : Array Bool} (h : Sm ops op l lf) (hc : ∀ j, core j = isCore ops lm j) : blockF (insOf ops lm) op core l = blocked ops lm lf := by
  unfold blockF blocked
  rw [anyR_eq]
  congr 1
  funext x
  rw [h.op x.i]
  cases ops[x.i]? with
  | none => rfl
  | some o =>
    show anyR _ o.after.toList = o.after.any _
    rw [anyR_eq, ← Array.any_toList]
    congr 1
    funext e
    rw [hc e.on, h.l e.on]
    cases Region.binds .any e <;> cases isCore ops lm e.on <;> cases lf.getD e.on false <;> rfl
theorem schedLF_eq {ops : Array Oper} {op : Nat → Option Oper} {lm : LM} {core full : Nat → Bool} (hc : ∀ j, core j = isCore ops lm j) (hf : Sm ops op full (fullOf ops lm)) :
    ∀ (m : Nat) {l : Nat → Bool} {lf : Array Bool}, Sm ops op l lf → schedLF ops ops.size (insOf ops lm) op core full m l = schedL ops lm m lf
  | 0, l, lf, h => by
    show bc (doneF ops.size core l) (Option.rec none (fun t => some (SchL.adopt t)) (schedTF ops.size op ops.size full)) none = _
    unfold schedL
    rw [doneF_eq h hc, schedTF_eq ops.size hf]
    cases allL (isCore ops lm) ops.size lf with
    | false => rfl
    | true =>
      show (Option.rec none (fun t => some (.adopt t)) (schedT ops ops.size (fullOf ops lm)) : Option SchL) = _
      rw [if_pos rfl]
      cases schedT ops ops.size (fullOf ops lm) <;> rfl
  | m + 1, l, lf, h => by
    show bc (doneF ops.size core l) (Option.rec none (fun t => some (SchL.adopt t)) (schedTF ops.size op ops.size full))
      (List.rec none (fun x r _ => Option.rec (List.rec (bc (blockF (insOf ops lm) op core l) (Option.rec none (fun s => some (.forced x s)) (schedLF ops ops.size (insOf ops lm) op core full m (upF l x))) none) (fun _ _ _ => none) r)
        (fun i => Option.rec none (fun s => some (.eager i s)) (schedLF ops ops.size (insOf ops lm) op core full m (upF l i))) (finR (eagerF ops ops.size op l) (x :: r))) (filR core (readyF ops.size op l)) : Option SchL) = _
    unfold schedL
    rw [doneF_eq h hc, schedTF_eq ops.size hf, h.readyF, filR_eq, funext hc, blockF_eq h (fun j => rfl), funext h.eagerF]
    cases allL (isCore ops lm) ops.size lf with
    | true =>
      show (Option.rec none (fun t => some (.adopt t)) (schedT ops ops.size (fullOf ops lm)) : Option SchL) = _
      rw [if_pos rfl]
      cases schedT ops ops.size (fullOf ops lm) <;> rfl
    | false =>
      rw [bc_false, if_neg (by decide)]
      have hlt : ∀ i, i ∈ (Region.ready .any ops lf).filter (isCore ops lm) → i < ops.size := fun i hi => ready_lt (List.mem_filter.1 hi).1
      have hcc : core = isCore ops lm := funext hc
      subst hcc
      generalize (Region.ready .any ops lf).filter (isCore ops lm) = rl at hlt
      have rec1 : ∀ i, i ∈ rl → schedLF ops ops.size (insOf ops lm) op (isCore ops lm) full m (upF l i) = schedL ops lm m (lf.setIfInBounds i true) := fun i hi => schedLF_eq hc hf m (h.up (hlt i hi))
      cases rl with
      | nil => rfl
      | cons x r =>
        show (Option.rec (List.rec (bc (blocked ops lm lf) (Option.rec none (fun s => some (.forced x s)) (schedLF ops ops.size (insOf ops lm) op (isCore ops lm) full m (upF l x))) none) (fun _ _ _ => none) r)
          (fun i => Option.rec none (fun s => some (.eager i s)) (schedLF ops ops.size (insOf ops lm) op (isCore ops lm) full m (upF l i))) (finR (eagerOK ops lf) (x :: r)) : Option SchL) = _
        rw [finR_eq]
        dsimp only
        cases hfd : (x :: r).find? (eagerOK ops lf) with
        | some i =>
          show (Option.rec none (fun s => some (.eager i s)) (schedLF ops ops.size (insOf ops lm) op (isCore ops lm) full m (upF l i)) : Option SchL) = (schedL ops lm m (lf.setIfInBounds i true)).map (.eager i)
          rw [rec1 i (List.mem_of_find?_eq_some hfd)]
          cases schedL ops lm m (lf.setIfInBounds i true) <;> rfl
        | none =>
          cases r with
          | nil =>
            show (bc (blocked ops lm lf) (Option.rec none (fun s => some (.forced x s)) (schedLF ops ops.size (insOf ops lm) op (isCore ops lm) full m (upF l x))) none : Option SchL) = _
            rw [rec1 x List.mem_cons_self]
            cases blocked ops lm lf with
            | false => rfl
            | true =>
              show (Option.rec none (fun s => some (.forced x s)) (schedL ops lm m (lf.setIfInBounds x true)) : Option SchL) = (schedL ops lm m (lf.setIfInBounds x true)).map (.forced x)
              cases schedL ops lm m (lf.setIfInBounds x true) <;> rfl
          | cons y r' => rfl
/-- The order of a region with a map's literal. -/
noncomputable def schedLX (ops : Array Oper) (lm : LM) : Option SchL :=
  forceBL (tabL ops.size (isCore ops lm)) fun CL => forceBL (tabL ops.size fun j => !isTail ops lm j) fun TL =>
    schedLF ops ops.size (insOf ops lm) (opR ops.toList) (lookB CL (isCore ops lm)) (fun j => bc (Nat.blt j ops.size) (lookB TL (fun j => !isTail ops lm j) j) false) ops.size (fun _ => false)
theorem schedLX_eq (ops : Array Oper) (lm : LM) : schedLX ops lm = schedL ops lm ops.size (Array.replicate ops.size false) := by
  unfold schedLX
  rw [forceBL_eq, forceBL_eq]
  refine schedLF_eq (lookB_eq _ _) ⟨(sm0 ops).op, fun j => ?_, by simp [fullOf]⟩ ops.size (sm0 ops)
  rw [lookB_eq, Array.getD_eq_getD_getElem?]
  unfold fullOf
  by_cases hj : j < ops.size
  · rw [nblt_t hj]
    simp [hj]
  · rw [nblt_f hj]
    simp [hj]
noncomputable def unkAt (d : Nat) (F : F3) (k : Ans) : Ans := wa 253 (Nat.beq ((cO (.tmp d)).g F).1 19) k
structure ES where
  f : F3 → (List ME → Ans) → Ans
noncomputable def entK (l : List LI) : ES := List.rec ⟨fun _ k => k []⟩ (fun x _ ih => ⟨fun F k => kn ((cConst x.key).g F) fun s => kn ((cO x.y).g F) fun v => ih.f F fun r => k (⟨s, v⟩ :: r)⟩) l
/-- The map, with all its entries. -/
noncomputable def adoptK (d : Nat) (e : ES) (F : F3) (st : St) (k : F3 → St → Ans) : Ans :=
  e.f F fun es => forceN st.nn fun n => stNew st (.map es) fun st' => (mkS d).s (.map n) F fun F' => k F' st'
noncomputable def noSE (l : List SE) (k : Ans) : Ans := List.rec k (fun _ _ _ => .bad 254) l
structure RK where
  run : CallF → F3 → St → (F3 → St → Ans) → Ans
noncomputable def tRun (E : Env) (N : Nat) (ops : Array Oper) (t : List Nat) : RK := List.rec ⟨fun _ F st k => k F st⟩ (fun i _ ih => ⟨fun cf F st k => (sStep E N ops i).run cf F st fun F st => ih.run cf F st k⟩) t
noncomputable def dSchL (E : Env) (N : Nat) (ops : Array Oper) (lm : LM) (s : SchL) : RK :=
  SchL.rec (fun t => ⟨fun cf F st k => adoptK lm.dm (entK (insOf ops lm)) F st fun F st => (tRun E N ops t).run cf F st k⟩)
    (fun i _ ih => ⟨fun cf F st k => (dEager E N ops i []).run cf [] F st fun l F st => noSE l (unkAt lm.dm F (ih.run cf F st k))⟩)
    (fun i _ ih => ⟨fun cf F st k => (sStep E N ops i).run cf F st fun F st => unkAt lm.dm F (ih.run cf F st k)⟩) s
noncomputable def sDrawL (E : Env) (N : Nat) (ops : Array Oper) : RS :=
  bc (noSel ops) (Option.rec (rbad 208) (fun lm => Option.rec (rbad 209) (fun s => ⟨fun cf F st k => unkAt lm.dm F ((dSchL E N ops lm s).run cf F st k)⟩) (schedLX ops lm)) (lateOf E.P N ops)) (rbad 208)
noncomputable def sDraw0 (E : Env) (N : Nat) (ops : Array Oper) : RS := Option.rec (sDrawL E N ops) (fun s => ⟨fun cf F st k => (dSch E N ops s).run cf [] F st fun _ F st => k F st⟩) (schedX ops)

/-! ### A new variable in a region of any order: it is taken when all else is done -/
structure LA where
  ia : Nat
  da : Nat
  t : TypeId
def isTailA (ops : Array Oper) (m : LA) (i : Nat) : Bool := i != m.ia && (match ops[i]? with | some o => edgeTo o m.ia | none => false)
def isCoreA (ops : Array Oper) (m : LA) (i : Nat) : Bool := i != m.ia && !isTailA ops m i
def besideA (ops : Array Oper) (m : LA) (o : Oper) : Bool := (o.after.all fun e => !Region.binds .any e || isCoreA ops m e.on) && (o.dst != some m.da)
def laOK (N : Nat) (ops : Array Oper) (m : LA) : Bool :=
  decide (m.da < N) && decide (m.da < 511) && (List.range ops.size).all fun j => !isCoreA ops m j || (match ops[j]? with | some o => besideA ops m o | none => false)
def allocAt (o : Oper) : Option (Nat × TypeId) := match o.op, o.dst, o.guard with | .alloc e, some d, none => if o.after.isEmpty then some (d, e) else none | _, _, _ => none
noncomputable def laAt (P : Program) (N : Nat) (ops : Array Oper) (i : Nat) : Option LA :=
  (ops[i]?).bind fun o => (allocAt o).bind fun d => ((P.info? d.2).bind fun i => i.zero).bind fun _ => if laOK N ops ⟨i, d.1, d.2⟩ then some ⟨i, d.1, d.2⟩ else none
noncomputable def allocOf (P : Program) (N : Nat) (ops : Array Oper) : Option LA := (List.range ops.size).findSome? (laAt P N ops)
def fullA (ops : Array Oper) (m : LA) : Array Bool := (Array.range ops.size).map fun j => !isTailA ops m j
/-- All that waits for the variable waits for something else, too. -/
def waitA (ops : Array Oper) (m : LA) (lf : Array Bool) : Bool := (List.range ops.size).all fun j => !isTailA ops m j || (match ops[j]? with | some o => (o.after.any fun e => Region.binds .any e && isCoreA ops m e.on && !lf.getD e.on false) | none => false)
inductive SchA
  | adopt (t : Sch)
  | eager (i : Nat) (d : List Nat) (s : SchA)
  | forced (i : Nat) (s : SchA)
def schedA (ops : Array Oper) (m : LA) : Nat → Array Bool → Option SchA
  | 0, lf => if allL (isCoreA ops m) ops.size lf then (sched ops ops.size (fullA ops m)).map .adopt else none
  | n + 1, lf => if allL (isCoreA ops m) ops.size lf then (sched ops ops.size (fullA ops m)).map .adopt else
    match (Region.ready .any ops lf).filter (isCoreA ops m) with
    | [] => none
    | x :: r => match (x :: r).find? (eagerOK ops lf) with
      | some i => (schedA ops m n (lf.setIfInBounds i true)).map (.eager i (dOf ops i))
      | none => match r with
        | [] => if waitA ops m lf then (schedA ops m n (lf.setIfInBounds x true)).map (.forced x) else none
        | _ => none
noncomputable def adoptA (P : Program) (m : LA) (F : F3) (st : St) (k : F3 → St → Ans) : Ans := zeroK (.bad 254) P m.t fun z => newK st z m.t fun n st' => (mkS m.da).s (.ptr n 0) F fun F => k F st'
structure RKL where
  run : CallF → List SE → F3 → St → (F3 → St → Ans) → Ans
noncomputable def dSchA (E : Env) (N : Nat) (ops : Array Oper) (m : LA) (s : SchA) : RKL :=
  SchA.rec (fun t => ⟨fun cf l F st k => chk E.P l st (adoptA E.P m F st fun F st => chk E.P l st ((dSch E N ops t).run cf l F st fun _ F st => k F st))⟩)
    (fun i d _ ih => ⟨fun cf l F st k => chk E.P l st ((dEager E N ops i d).run cf l F st fun l F st => unkAt m.da F (ih.run cf l F st k))⟩)
    (fun i _ ih => ⟨fun cf l F st k => chk E.P l st (stillK i l fun l => (sStep E N ops i).run cf F st fun F st => unkAt m.da F (ih.run cf l F st k))⟩) s
noncomputable def sDrawA (E : Env) (N : Nat) (ops : Array Oper) : Option RS :=
  bc (noSel ops) (Option.rec none (fun m => Option.rec none (fun s => some ⟨fun cf F st k => (mkS m.da).s .unk F fun F => (dSchA E N ops m s).run cf [] F st k⟩) (schedA ops m ops.size (Array.replicate ops.size false))) (allocOf E.P N ops)) none
noncomputable def sDraw (E : Env) (N : Nat) (ops : Array Oper) : RS := Option.rec (sDraw0 E N ops) (fun r => r) (sDrawA E N ops)

/-! ### Code -/
abbrev KC := Ex → F3 → St → Ans
structure HC where
  run : CallF → F3 → St → KC → Ans
noncomputable def cbad (n : Nat) : HC := ⟨fun _ _ _ _ => .bad n⟩
noncomputable def rounds (h : HC) (n : Nat) : CallF → F3 → St → KC → Ans :=
  Nat.rec (motive := fun _ => CallF → F3 → St → KC → Ans) (fun _ _ _ _ => .bad 210) (fun _ ih cf F st k => h.run cf F st fun e F st => Ex.rec (ih cf F st k) (fun id => k (.ext id) F st) (k .ret F st) e) n
/-- A bound that leaves no number: this way is none. -/
noncomputable def deadR (l : List Bnd) : List Bnd → Bool := List.rec false (fun b _ ih => withB (rng l b.t) fun r => bc (Nat.blt r.hi r.lo) true ih)
theorem deadR_ok {σ} {l : List Bnd} (h : ∀ b ∈ l, b.ok σ) : ∀ {m : List Bnd}, deadR l m = true → False
  | [], hd => by cases hd
  | b :: m, hd => by
    change (withB (rng l b.t) fun r => bc (Nat.blt r.hi r.lo) true (deadR l m)) = true at hd
    rw [withB_eq] at hd
    cases hb : Nat.blt (rng l b.t).hi (rng l b.t).lo
    · rw [hb] at hd; exact deadR_ok h hd
    · have h1 := of_nblt hb
      have h2 := rng_ok h b.t
      unfold In at h2
      omega
/-- A fact that the bits deny. -/
noncomputable def deadF (kv : List KV) (bl : List Bnd) (fs : List Tm) : Bool := List.rec false (fun t _ ih => forceN (truthB (bitsOf kv bl t)) fun r => bc (Nat.beq r 0) true ih) fs
theorem deadF_ok {σ : Nat → Nat} {kv : List KV} {bl : List Bnd} (hk : ∀ v ∈ kv, v.ok σ) (hb : ∀ b ∈ bl, b.ok σ) : ∀ {fs : List Tm}, (∀ t ∈ fs, t.ev σ ≠ 0) → deadF kv bl fs = true → False
  | [], _, h => by cases h
  | t :: fs, hf, h => by
    change (forceN (truthB (bitsOf kv bl t)) fun r => bc (Nat.beq r 0) true (deadF kv bl fs)) = true at h
    rw [forceN_eq] at h
    cases h2 : Nat.beq (truthB (bitsOf kv bl t)) 0
    · rw [h2] at h; exact deadF_ok hk hb (fun x hx => hf x (List.mem_cons_of_mem _ hx)) h
    · have hbt := truthB_ok (bitsOf_ok hk hb t)
      rw [of_nbeq h2] at hbt
      exact hf t List.mem_cons_self (Classical.not_not.1 (of_decide_eq_false hbt.of0))
/-- This way is none. -/
noncomputable def deadPC (pc : PC) : Bool := bc (deadR pc.bnds pc.bnds) true (bc (deadL pc.kv pc.bnds pc.subs pc.facts) true (deadF pc.kv pc.bnds pc.facts))
theorem deadPC_ok {σ} {pc : PC} (h : pc.ok σ) (hd : deadPC pc = true) : False := by
  unfold deadPC at hd
  cases h1 : deadR pc.bnds pc.bnds
  · rw [h1] at hd
    cases h2 : deadL pc.kv pc.bnds pc.subs pc.facts
    · rw [h2] at hd; exact deadF_ok h.2.2.2.1 h.2.2.1 h.1 hd
    · exact deadL_ok h.2.2.2.1 h.2.2.1 h.2.1 h.1 h2
  · exact deadR_ok h.2.2.1 h1
noncomputable def wd (pc : PC) (n : Nat) (c : Bool) (k : Ans) : Ans := bc c k (bc (deadPC pc) .ok (.bad n))
theorem wd_sat {L σ} {pc : PC} (hp : pc.ok σ) {n : Nat} {c : Bool} {k : Ans} (h : (wd pc n c k).sat L σ) : c = true ∧ k.sat L σ := by
  cases c
  · change (bc (deadPC pc) .ok (.bad n) : Ans).sat L σ at h
    cases hd : deadPC pc
    · rw [hd] at h; exact h.elim
    · exact (deadPC_ok hp hd).elim
  · exact ⟨rfl, h⟩
/-- A state is met. -/
noncomputable def headW (n : Nat) (T : LT) (nv nn : Nat) (F : F3) (st : St) (sub : List Tm) (ρ : List Nat) (k : Ans) : Ans :=
  wa n (bc (Nat.beq (lenR sub) T.m) (Nat.beq (lenR ρ) T.kn) false) (wd st.pc (Nat.add n 1) (matF (matS st.pc nv nn ρ sub 8) T.F F) (wd st.pc (Nat.add n 2) (matTr nv (matS st.pc nv nn ρ sub 8) T.hp (viewR st.hp ρ nn st.hp)) (wa (Nat.add n 3) (rhoOk nn T.hp ρ) (wd st.pc (Nat.add n 4) (factsB st.pc nv sub T.fs) k))))
theorem headW_sat {L σ} {n : Nat} {T : LT} {nv nn : Nat} {F : F3} {st : St} {sub : List Tm} {ρ : List Nat} {k : Ans} (hp : st.pc.ok σ) (h : (headW n T nv nn F st sub ρ k).sat L σ) : headB T nv nn F st sub ρ = true ∧ k.sat L σ := by
  obtain ⟨h1, h⟩ := wa_sat h
  obtain ⟨h2, h⟩ := wd_sat hp h
  obtain ⟨h3, h⟩ := wd_sat hp h
  obtain ⟨h4, h⟩ := wa_sat h
  obtain ⟨h5, h⟩ := wd_sat hp h
  refine ⟨?_, h⟩
  unfold headB
  rw [h1, h2, h3, h4, h5]
noncomputable def backK (T : LT) (nv nn : Nat) (F : F3) (st : St) : Ans := oa 313 (T.rd F st) fun sub => oa 317 (T.rn F st) fun ρ => headW 350 T nv nn F st sub ρ (wd st.pc 315 (cntB T nv st.pc sub) .ok)
noncomputable def loopI (mk : F3 → St → Option LT) (wh : F3 → PC → Bool) (li : HC) (h : HC) : HC := ⟨fun cf F st k => oa 310 (mk F st) fun T => forceN st.pc.nv fun nv => forceN st.nn fun nn =>
  oa 311 (T.rd F st) fun sub => oa 318 (T.rn F st) fun ρ => headW 340 T nv nn F st sub ρ (wa 316 (bc (muOk T nv) (bc (allBelow (Nat.add nv T.m) T.sp) (bc (Nat.ble (Nat.add nv T.m) 4294967296) (bc (allBelow (Nat.add nv T.m) T.fs) (presTr T.hp (viewR st.hp ρ nn st.hp)) false) false) false) false)
    (.hav nv (forceN (Nat.add nn T.kn) fun nn' => forcePC (pcF (pcL st.pc (Nat.add nv T.m)) T.fs) fun pcT => splitK T.sp (fun pcT => h.run cf T.F ⟨T.hp, nn', pcT⟩ fun e F1 st1 => Ex.rec (bc (wh F1 st1.pc) (li.run cf F1 st1 k) (backK T nv nn F1 st1)) (fun id => k (.ext id) F1 st1) (k .ret F1 st1) e) pcT)))⟩
/-- A loop whose hint is taken some time. -/
noncomputable def loopD (wh : F3 → PC → Bool) (li : HC) (h : HC) (n : Nat) : HC :=
  Nat.rec (motive := fun _ => HC) (cbad 210) (fun _ ih => ⟨fun cf F st k => bc (wh F st.pc) (li.run cf F st k) (h.run cf F st fun e F st => Ex.rec (ih.run cf F st k) (fun id => k (.ext id) F st) (k .ret F st) e)⟩) n
/-- The hints of a loop: each may go on with a later one. -/
structure LI2 where
  wh : F3 → PC → Bool
  li : HC
noncomputable def lisR (h : HC) (l : List HL) : LI2 :=
  List.rec ⟨fun _ _ => false, cbad 215⟩ (fun x _ ih => ⟨fun F pc => bc (x.wh F pc) true (ih.wh F pc), ⟨fun cf F st k => bc (x.wh F st.pc) ((loopI x.tpl ih.wh ih.li h).run cf F st k) (ih.li.run cf F st k)⟩⟩) l
noncomputable def meetK (T : LT) (nv nn : Nat) (F : F3) (st : St) : Ans := oa 319 (T.rd F st) fun sub => oa 320 (T.rn F st) fun ρ => headW 360 T nv nn F st sub ρ .ok
/-- One code, and another. -/
noncomputable def seqI (a b : HC) : HC := ⟨fun cf F st k => a.run cf F st fun e F st => Ex.rec (b.run cf F st k) (fun id => k (.ext id) F st) (k .ret F st) e⟩
/-- One code, and another: all ways of the first meet in one state. -/
noncomputable def joinI (mk : F3 → St → Option LT) (a b : HC) : HC := ⟨fun cf F st k => Option.rec (motive := fun _ => Ans) ((seqI a b).run cf F st k) (fun T => forceN st.pc.nv fun nv => forceN st.nn fun nn =>
  oa 323 (T.rn F st) fun ρ => wa 324 (Nat.beq (lenR ρ) T.kn) (wa 325 (bc (Nat.ble (Nat.add nv T.m) 4294967296) (bc (allBelow (Nat.add nv T.m) T.fs) (presTr T.hp (viewR st.hp ρ nn st.hp)) false) false)
    (.both (a.run cf F st fun e F1 st1 => Ex.rec (meetK T nv nn F1 st1) (fun id => k (.ext id) F1 st1) (k .ret F1 st1) e)
      (.hav nv (forceN (Nat.add nn T.kn) fun nn' => forcePC (pcF (pcL st.pc (Nat.add nv T.m)) T.fs) fun pcT => b.run cf T.F ⟨T.hp, nn', pcT⟩ k))))) (mk F st)⟩
/-- Some operations, and others: all ways of the first meet in one state. -/
noncomputable def joinS (mk : F3 → St → Option LT) (a b : RS) : RS := ⟨fun cf F st k => oa 322 (mk F st) fun T => forceN st.pc.nv fun nv => forceN st.nn fun nn =>
  oa 323 (T.rn F st) fun ρ => wa 324 (Nat.beq (lenR ρ) T.kn) (wa 325 (bc (Nat.ble (Nat.add nv T.m) 4294967296) (bc (allBelow (Nat.add nv T.m) T.fs) (presTr T.hp (viewR st.hp ρ nn st.hp)) false) false)
    (.both (a.run cf F st fun F1 st1 => meetK T nv nn F1 st1)
      (.hav nv (forceN (Nat.add nn T.kn) fun nn' => forcePC (pcF (pcL st.pc (Nat.add nv T.m)) T.fs) fun pcT => b.run cf T.F ⟨T.hp, nn', pcT⟩ k))))⟩
noncomputable def cRegion (E : Env) (N : Nat) (id : Nat) (ops : Array Oper) (draw : Bool) : HC :=
  ⟨fun cf F st k => (sNote E id (bc draw (sDraw E N ops) (Option.rec (sList E N ops (List.range ops.size)) (fun p => joinS p.2 (sList E N ops ((List.range ops.size).take p.1)) (sList E N ops ((List.range ops.size).drop p.1))) (E.rj id ops.size)))).run cf F st fun F st => k .nrm F st⟩
/-- Code up to a place: what is done there, and behind. -/
structure HCU where
  run : CallF → F3 → St → (F3 → St → Ans) → KC → Ans
structure CC where
  full : HC
  U : HCU
  Y : HC
noncomputable def oneC (h : HC) : CC := ⟨h, ⟨fun _ _ _ _ _ => .bad 216⟩, cbad 215⟩
/-- The place where ways meet, along a sequence. -/
noncomputable def tgtOf (E : Env) (c : Code) : Option Code :=
  Code.rec (motive := fun _ => Option Code) none (fun _ _ _ => none) (fun _ y _ b => bc (E.tg y) (some y) b) (fun _ _ _ _ _ => none) (fun _ _ _ => none) (fun _ _ => none) (fun _ _ _ _ _ _ => none) (fun _ => none) (fun _ _ => none) (fun _ => none) (fun _ => none) none (fun _ => none) c
/-- All ways up to a place meet in one state. -/
noncomputable def joinW (mk : F3 → St → Option LT) (u : HCU) (b : HC) : HC := ⟨fun cf F st k => oa 322 (mk F st) fun T => forceN st.pc.nv fun nv => forceN st.nn fun nn =>
  oa 323 (T.rn F st) fun ρ => wa 324 (Nat.beq (lenR ρ) T.kn) (wa 325 (bc (Nat.ble (Nat.add nv T.m) 4294967296) (bc (allBelow (Nat.add nv T.m) T.fs) (presTr T.hp (viewR st.hp ρ nn st.hp)) false) false)
    (.both (u.run cf F st (fun F1 st1 => meetK T nv nn F1 st1) k)
      (.hav nv (forceN (Nat.add nn T.kn) fun nn' => forcePC (pcF (pcL st.pc (Nat.add nv T.m)) T.fs) fun pcT => b.run cf T.F ⟨T.hp, nn', pcT⟩ k))))⟩
noncomputable def cAll (E : Env) (N : Nat) (c : Code) : CC :=
  Code.rec (motive := fun _ => CC)
    (oneC ⟨fun _ F st k => k .nrm F st⟩)
    (fun id ops draw => oneC (cRegion E N id ops draw))
    (fun x y a b => ⟨Option.rec (Option.rec ⟨fun cf F st k => a.full.run cf F st fun e F st => Ex.rec (b.full.run cf F st k) (fun id => k (.ext id) F st) (k .ret F st) e⟩ (fun mk => joinI mk a.full b.full) (E.ji y))
        (fun mk => joinW mk ⟨fun cf F st kT k => a.full.run cf F st fun e F st => Ex.rec (bc (E.tg y) (kT F st) (b.U.run cf F st kT k)) (fun id => k (.ext id) F st) (k .ret F st) e⟩ (bc (E.tg y) b.full b.Y)) (E.jw (.seq x y)),
      ⟨fun cf F st kT k => a.full.run cf F st fun e F st => Ex.rec (bc (E.tg y) (kT F st) (b.U.run cf F st kT k)) (fun id => k (.ext id) F st) (k .ret F st) e⟩, bc (E.tg y) b.full b.Y⟩)
    (fun x _ _ a b => oneC ⟨fun cf F st k => oa 211 (svBool ((cO x).g F)) fun t => br st.pc t (fun pc => a.full.run cf F ⟨st.hp, st.nn, pc⟩ k) (fun pc => b.full.run cf F ⟨st.hp, st.nn, pc⟩ k)⟩)
    (fun id _ a => oneC ⟨fun cf F st k => a.full.run cf F st fun e F st => Ex.rec (k .nrm F st) (fun id' => bc (Nat.beq id' id) (k .nrm F st) (k (.ext id') F st)) (k .ret F st) e⟩)
    (fun c a => oneC (List.rec ⟨fun cf F st k => rounds a.full E.LF cf F st k⟩ (fun x l _ => loopD (lisR a.full (x :: l)).wh (lisR a.full (x :: l)).li a.full E.LF) (E.li c)))
    (fun _ _ _ _ _ _ => oneC (cbad 212))
    (fun id => oneC ⟨fun _ F st k => k (.ext id) F st⟩)
    (fun _ a => oneC a.full)
    (fun _ => oneC ⟨fun _ F st k => k .nrm F st⟩)
    (fun _ => oneC (cbad 213))
    (oneC ⟨fun _ F st k => k .ret F st⟩)
    (fun _ => oneC (cbad 214)) c
noncomputable def cCode (E : Env) (N : Nat) (c : Code) : HC := (cAll E N c).full

/-! ### Calls -/
/-- The function's body, where it is one of Go's own text. -/
noncomputable def bodyOf (P : Program) (f : Nat) : Option (Func × Code) :=
  match P.funcs[f]? with
  | some fn => if fn.name == "runtime.NumGoroutine" then none else fn.body.map fun c => (fn, c)
  | none => none
structure RV where
  f : F3 → St → (SV → Ans) → Ans
noncomputable def cRes (P : Program) (r : ResultVar) : RV :=
  ResultVar.rec (fun t => ⟨fun F _ k => kn ((cO (.tmp t)).g F) k⟩) (fun a t => ⟨fun F st k => kn ((cO (.tmp a)).g F) fun p => (cLoad P t).f st p k⟩) r
structure RVs where
  f : F3 → St → (List SV → Ans) → Ans
noncomputable def cRess (P : Program) (rs : List ResultVar) : RVs := List.rec ⟨fun _ _ k => k []⟩ (fun r _ ih => ⟨fun F st k => (cRes P r).f F st fun s => ih.f F st fun l => k (s :: l)⟩) rs
noncomputable def oneOr (l : List SV) : SV := List.rec (.tuple []) (fun x t _ => List.rec x (fun y t' _ => .tuple (x :: y :: t')) t) l
noncomputable def oneK (l : List SV) (k : SV → Ans) : Ans := List.rec (motive := fun _ => Ans) (k (.tuple [])) (fun x t _ => List.rec (motive := fun _ => Ans) (k x) (fun y t' _ => k (.tuple (x :: y :: t'))) t) l
noncomputable def setAll (l : List SV) : Nat → F3 → (F3 → Ans) → Ans :=
  List.rec (motive := fun _ => Nat → F3 → (F3 → Ans) → Ans) (fun _ F k => k F) (fun s _ ih i F k => forceN i fun i => (mkS i).s s F fun F => ih (Nat.succ i) F k) l
structure HF where
  run : CallF → List SV → St → (SV → St → Ans) → Ans
structure HB where
  run : CallF → List SV → St → KC → Ans
/-- The function's body, its arguments laid. -/
noncomputable def cEnter (E : Env) (f : Nat) (b : Func × Code) : HB := ⟨fun cf args st kk => wa 221 (band (Nat.ble (lenR args) b.1.ntmps) (Nat.ble (lenR args) 511)) (setAll args 0 blank fun F =>
    (bc E.dbg (⟨fun cf F st k => .note (Nat.add 10000 f) ((cCode E b.1.ntmps b.2).run cf F st k)⟩ : HC) (cCode E b.1.ntmps b.2)).run cf F st kk)⟩
structure RE where
  f : F3 → St → (SV → St → Ans) → Ans
/-- What is handed back. -/
noncomputable def cEnd (E : Env) (fn : Func) : RE := ⟨fun F st k => (cRess E.P fn.results.toList).f F st fun l => oneK l fun s => k s st⟩
/-- A function that defers nothing. -/
noncomputable def cFunB (E : Env) (f : Nat) : HF :=
  Option.rec ⟨fun _ _ _ _ => .note f (.bad 220)⟩ (fun b => ⟨fun cf args st k => (cEnter E f b).run cf args st fun e F st' => wa 227 (Nat.beq ((mkG 511).g F).1 19)
      (Ex.rec ((cEnd E b.1).f F st' k) (fun _ => .bad 222) ((cEnd E b.1).f F st' k) e)⟩) (bodyOf E.P f)
noncomputable def two2 (n : Nat) (l : List SV) (k : SV → SV → Ans) : Ans := List.rec (motive := fun _ => Ans) (.bad n) (fun x t _ => List.rec (motive := fun _ => Ans) (.bad n) (fun y t' _ => List.rec (motive := fun _ => Ans) (k x y) (fun _ _ _ => .bad n) t') t) l
/-- What was deferred is done. -/
noncomputable def runDefs (E : Env) (cf : CallF) (l : List SV) : St → (St → Ans) → Ans :=
  List.rec (motive := fun _ => St → (St → Ans) → Ans) (fun st k => k st) (fun d _ ih st k => oa 226 (svTup d) fun x => two2 226 x fun g y => oa 156 (svFunc g) fun f => oa 226 (svTup y) fun args =>
    forceN f.1 fun n => (cFunB E n).run cf (appR args f.2) st fun _ st' => ih st' k) l
noncomputable def cEndD (E : Env) (fn : Func) (cf : CallF) : RE := ⟨fun F st k => bc (Nat.beq ((mkG 511).g F).1 19) ((cEnd E fn).f F st k) (oa 226 (svTup ((mkG 511).g F)) fun l => runDefs E cf l st fun st => (cEnd E fn).f F st k)⟩
noncomputable def cFun (E : Env) (f : Nat) : HF :=
  Option.rec ⟨fun _ _ _ _ => .note f (.bad 220)⟩ (fun b => ⟨fun cf args st k => (cEnter E f b).run cf args st fun e F st' =>
      Ex.rec ((cEndD E b.1 cf).f F st' k) (fun _ => .bad 222) ((cEndD E b.1 cf).f F st' k) e⟩) (bodyOf E.P f)
noncomputable def callE (E : Env) (ih : CallF) (f : Nat) (args : List SV) (st : St) (k : SV → St → Ans) : Ans :=
  bc (E.fr f) ((cFun E f).run ih args ⟨.nil, st.nn, st.pc⟩ fun s st2 => k s ⟨st.hp, st2.nn, st2.pc⟩) ((cFun E f).run ih args st k)
/-- A call of which nothing is known. -/
noncomputable def noK (E : Env) (f : Nat) (args : List SV) (k : SV → St → Ans) (els : (SV → St → Ans) → Ans) : Ans :=
  bc E.dbg (.note (enC f args) (els fun s st' => .note (enC 0 [s]) (k s st'))) (els k)
/-- A call that may be known; els: if it is not. -/
noncomputable def memK (E : Env) (f : Nat) (args : List SV) (st : St) (k : SV → St → Ans) (els : (SV → St → Ans) → Ans) : Ans :=
  bc (E.mf f) (forceN f fun f => qvL args (fun args => Option.rec (motive := fun _ => Ans) (noK E f args k els) (fun s => k s st) (E.mm f args))
    (Option.rec (motive := fun _ => Ans) (noK E f args k els) (fun s => deepS s fun s => k s st) (E.ms f st.pc args))) (els k)
noncomputable def callN (E : Env) (n : Nat) : CallF := Nat.rec (motive := fun _ => CallF) (fun f _ _ _ => .note f (.bad 223)) (fun _ ih f args st k =>
  bc (E.tr f) (wa 228 (hasTabs E.gt st.hp) (List.rec (motive := fun _ => Ans) (k (.bool (.lit 1)) st) (fun _ _ _ => .bad 224) args)) (memK E f args st k fun k => callE E ih f args st k)) n

/-- What turns the world. -/
noncomputable def eff0 (P : Program) (o : Op) : Option HX :=
  match o with
  | .alloc e => some (hAlloc P e)
  | .box e x => some (hBox e x)
  | .buildSlice t len ps => some (hBuildSlice P t len ps.toList)
  | .load t x => some (hLoad P t x)
  | .store t x y => some (hStore P t x y)
  | .call ⟨.builtin b, args, ats⟩ => bc (Nat.beq b.ctorIdx Builtin.append.ctorIdx) (some (hAppend P args.toList ats.toList)) none
  | .call ⟨.value x, args, _⟩ => some (hCall x args.toList)
  | _ => none

/-! ### A law -/
noncomputable def st0 (lems : List Vc) (nv : Nat) : St := ⟨.nil, 64, ⟨[], [], [], [], lems, 0, [], nv⟩⟩
/-- The end of a law: true. -/
noncomputable def endTrue (s : SV) (st : St) : Ans := oa 230 (svBool s) fun t => br st.pc t (fun _ => .ok) (fun pc => bc (deadPC pc) .ok (.bad 231))
noncomputable def lawRun (E : Env) (n f : Nat) (lems : List Vc) (nv : Nat) (args : List SV) : Ans := callN E n f args (st0 lems nv) endTrue

end Go.Sy
end

section
/- The symbolic run says what the program does. -/
namespace Go.Sy
open Go.RowKit

section
variable {P : Program} {L : (Nat → Nat) → SV → Prop} {M : Md}

/-- What follows a region's step may rely on. -/
def FollF (L : (Nat → Nat) → SV → Prop) (M : Md) (N : Nat) (σ : Nat → Nat) (w0 : World) (β : Nat → Option (Nat × Nat)) (nv : Nat) (k : F3 → St → Ans) (next : Act → World → Prop) : Prop :=
  ∀ σ' β' st' w' F' a', Ag nv σ σ' → nv ≤ st'.pc.nv → Ext β β' → RepC M σ' w0 β' st' w' → RepFC st'.pc.nv σ' β' N F' a' → (k F' st').sat L σ' → next a' w'
theorem FollF.weaken {N σ σ' w0 β β' nv nv' k next} (h : FollF L M N σ w0 β nv k next) (ha : Ag nv σ σ') (hle : nv ≤ nv') (he : Ext β β') : FollF L M N σ' w0 β' nv' k next :=
  fun σ2 β2 st2 w2 F2 a2 h1 h2 h3 h4 h5 h6 => h σ2 β2 st2 w2 F2 a2 (ha.trans (h1.mono hle)) (Nat.le_trans hle h2) (he.trans h3) h4 h5 h6

theorem FollF.now {N σ w0 β} {st : St} {k : F3 → St → Ans} {next : Act → World → Prop} (h : FollF L M N σ w0 β st.pc.nv k next) {w F a} (h1 : RepC M σ w0 β st w) (h2 : RepFC st.pc.nv σ β N F a) (h3 : (k F st).sat L σ) : next a w :=
  h σ β st w F a (Ag.refl _ _) (Nat.le_refl _) (Ext.refl β) h1 h2 h3
theorem cPut_ok {N : Nat} {d : Option Tmp} {nv σ β F a s v} (hF : RepFC nv σ β N F a) (hd : DenC nv σ β s v) {k : F3 → Ans} (h : ((cPut N d).put s F k).sat L σ) : ∃ F', RepFC nv σ β N F' (a.put d v) ∧ (k F').sat L σ := by
  cases d with
  | none => exact ⟨F, hF, h⟩
  | some d =>
    change (PU.put (bc (band (Nat.blt d N) (Nat.blt d 511)) ⟨(mkS d).s⟩ ⟨fun _ _ _ => .bad 201⟩) s F k).sat L σ at h
    cases hb : band (Nat.blt d N) (Nat.blt d 511)
    · rw [hb] at h; exact h.elim
    · rw [hb] at h
      obtain ⟨h1, h2⟩ := band_eq hb
      change ((mkS d).s s F k).sat L σ at h
      rw [mkS_eq] at h
      exact ⟨_, hF.put (of_nblt h1) (of_nblt h2) hd, h⟩

/-- A step of a region that is to be trusted. -/
def RSok (L : (Nat → Nat) → SV → Prop) (M : Md) (P : Program) (N : Nat) (r : RS) (W : (Act → World → Prop) → Act → World → Prop) : Prop :=
  ∀ cf, (∀ M, CallOk P L M cf) → ∀ σ w0 β st w F a k (next : Act → World → Prop), RepC M σ w0 β st w → RepFC st.pc.nv σ β N F a → (r.run cf F st k).sat L σ → FollF L M N σ w0 β st.pc.nv k next → W next a w
theorem rbad_ok {N n W} : RSok L M P N (rbad n) W := fun _ _ _ _ _ _ _ _ _ _ _ _ _ h _ => h.elim

theorem sDo_ok {N : Nat} {o : Oper} {h : HX} {Q : Exit → Act → World → Prop} (hh : HXok P L M N o h) : RSok L M P N (sDo h (cPut N o.dst)) (fun next a w => o.wp P a w next Q) := by
  intro cf hcf σ w0 β st w F a k next hR hF hs hn
  refine hh cf hcf σ w0 β st w F a _ next Q hR hF hs ?_
  intro σ' β' st' w' s v hag hle hext hR' hd hs'
  obtain ⟨F', h1, h2⟩ := cPut_ok ((hF.mono hext).ag hle hag) hd hs'
  exact hn σ' β' st' w' F' _ hag hle hext hR' h1 h2
theorem sSkip_ok {N : Nat} {d : Option Tmp} : RSok L M P N (sSkip (cPut N d)) (fun next a w => next (a.put d undef) w) := by
  intro cf hcf σ w0 β st w F a k next hR hF hs hn
  obtain ⟨F', h1, h2⟩ := cPut_ok (v := undef) hF (fun _ _ => .tuple .nil) hs
  exact hn σ β st w F' _ (Ag.refl _ _) (Nat.le_refl _) (Ext.refl β) hR h1 h2

theorem tmp_get {N : Nat} {nv σ β F a} (hF : RepFC nv σ β N F a) {d : Tmp} {s : SV} (hs : (cO (.tmp d)).g F = s) (hn : s.1 ≠ 19) : ∃ v, a.tmps[d]? = some v ∧ DenC nv σ β s v := by
  change ((bc (Nat.blt d 511) (mkG d) gunk : GO)).g F = s at hs
  cases hb : Nat.blt d 511
  · rw [hb] at hs; change SV.unk = s at hs; subst hs; exact absurd rfl hn
  · rw [hb] at hs
    change (mkG d).g F = s at hs
    rw [mkG_eq] at hs
    obtain ⟨v, h1, _⟩ := ((hF σ (Ag.refl _ _)).tmp d (of_nblt hb)).resolve_left (by rw [hs]; exact hn)
    refine ⟨v, h1, fun σ' ha => ?_⟩
    obtain ⟨v', h3, h4⟩ := ((hF σ' ha).tmp d (of_nblt hb)).resolve_left (by rw [hs]; exact hn)
    rw [h1] at h3; cases h3; rw [← hs]; exact h4
theorem svTup_ne {s : SV} {x : List SV} (h : svTup s = some x) : s.1 ≠ 19 := fun e => by unfold svTup at h; rw [e] at h; cases h
theorem svBool_ne {s : SV} {x : Tm} (h : svBool s = some x) : s.1 ≠ 19 := fun e => by unfold svBool at h; rw [e] at h; cases h

/-- Which way a guard goes. -/
theorem guard_cases {N : Nat} {nv σ β F a} (hF : RepFC nv σ β N F a) {ops : Array Oper} {o : Oper} {j : Nat} {want : Bool} {d : Tmp} (hg : o.guard = some (j, want)) (hd : dstOf ops j = some d) :
    (∀ x, svTup ((cO (.tmp d)).g F) = some x → svBool ((cO (.tmp d)).g F) = none → Region.wanted o (yielded ops a.tmps) = false) ∧
    (∀ t, svBool ((cO (.tmp d)).g F) = some t → TS nv σ t ∧ Region.wanted o (yielded ops a.tmps) = ((t.ev σ != 0) == want)) := by
  constructor
  · intro x hx _
    obtain ⟨v, h1, h2⟩ := tmp_get hF rfl (svTup_ne hx)
    have h3 := svTup_o hx (.inr h2.at)
    cases h3 with
    | tuple _ =>
      have hy : yielded ops a.tmps j = none := by
        unfold yielded
        have : (ops[j]?).bind (·.dst) = some d := hd
        simp [this, h1]
      simp [Region.wanted, hg, hy]
  · intro t ht
    obtain ⟨v, h1, h2⟩ := tmp_get hF rfl (svBool_ne ht)
    obtain ⟨h3, rfl⟩ := bool_TS ht (fun σ' ha => .inr (h2 σ' ha))
    have hy : yielded ops a.tmps j = some (t.ev σ != 0) := by
      unfold yielded
      have : (ops[j]?).bind (·.dst) = some d := hd
      simp [this, h1]
    exact ⟨h3, by simp [Region.wanted, hg, hy]⟩

theorem sGuard_ok {N : Nat} {ops : Array Oper} {o : Oper} {j d : Nat} {want : Bool} {W : (Act → World → Prop) → Act → World → Prop} {yes no tup : RS} (hg : o.guard = some (j, want)) (hd : dstOf ops j = some d)
    (hy : RSok L M P N yes (fun next a w => Region.wanted o (yielded ops a.tmps) = (true == want) → W next a w))
    (hn : RSok L M P N no (fun next a w => Region.wanted o (yielded ops a.tmps) = (false == want) → W next a w))
    (ht : RSok L M P N tup (fun next a w => Region.wanted o (yielded ops a.tmps) = false → W next a w)) : RSok L M P N (sGuard (cO (.tmp d)) yes no tup) W := by
  intro cf hcf σ w0 β st w F a k next hR hF hs hk
  obtain ⟨g1, g2⟩ := guard_cases hF hg hd
  change (Option.rec (motive := fun _ => Ans) (oa 202 (svTup ((cO (.tmp d)).g F)) fun _ => tup.run cf F st k)
    (fun t => br st.pc t (fun pc => yes.run cf F ⟨st.hp, st.nn, pc⟩ k) (fun pc => no.run cf F ⟨st.hp, st.nn, pc⟩ k)) (svBool ((cO (.tmp d)).g F))).sat L σ at hs
  cases hb : svBool ((cO (.tmp d)).g F) with
  | none =>
    rw [hb] at hs
    obtain ⟨x, hx, hs⟩ := oa_sat hs
    exact ht cf hcf σ w0 β st w F a k next hR hF hs hk (g1 x hx hb)
  | some t =>
    rw [hb] at hs
    obtain ⟨h1, h2⟩ := g2 t hb
    rcases br_ok hR.1 h1 hs with ⟨e, pc', hp, hnv, hs'⟩ | ⟨e, pc', hp, hnv, hs'⟩
    · have e1 : (t.ev σ != 0) = true := by simpa using e
      rw [e1] at h2
      exact hy cf hcf σ w0 β _ w F a k next (hR.assume hp hnv) (by simpa [hnv] using hF) hs' (by simpa [hnv] using hk) h2
    · have e1 : (t.ev σ != 0) = false := by simpa using e
      rw [e1] at h2
      exact hn cf hcf σ w0 β _ w F a k next (hR.assume hp hnv) (by simpa [hnv] using hF) hs' (by simpa [hnv] using hk) h2

theorem RSok.imp {N : Nat} {r : RS} {W W' : (Act → World → Prop) → Act → World → Prop} (h : RSok L M P N r W) (i : ∀ next a w, W next a w → W' next a w) : RSok L M P N r W' :=
  fun cf hcf σ w0 β st w F a k next h1 h2 h3 h4 => i _ _ _ (h cf hcf σ w0 β st w F a k next h1 h2 h3 h4)

theorem wpOp_do {ops : Array Oper} {i : Nat} {o : Oper} {Q : Exit → Act → World → Prop} {K : Act → World → Prop} {a : Act} {w : World} (ho : ops[i]? = some o) (hw : Region.wanted o (yielded ops a.tmps) = true) (h : o.wp P a w K Q) : wpOp P ops Q i K a w := by
  unfold wpOp; simp only [ho, hw, if_true]; exact .inl h
theorem wpOp_skip {ops : Array Oper} {i : Nat} {o : Oper} {Q : Exit → Act → World → Prop} {K : Act → World → Prop} {a : Act} {w : World} (ho : ops[i]? = some o) (hw : Region.wanted o (yielded ops a.tmps) = false) (h : K (a.put o.dst undef) w) : wpOp P ops Q i K a w := by
  unfold wpOp; simp only [ho, hw]; exact h

theorem cGuard_ok {N : Nat} {ops : Array Oper} {i : Nat} {o : Oper} {Q : Exit → Act → World → Prop} {do_ skip : RS} (ho : ops[i]? = some o) (h1 : RSok L M P N do_ (fun next a w => o.wp P a w next Q))
    (h2 : RSok L M P N skip (fun next a w => next (a.put o.dst undef) w)) : RSok L M P N (cGuard ops o do_ skip) (fun next a w => wpOp P ops Q i next a w) := by
  unfold cGuard
  cases hg : o.guard with
  | none => exact h1.imp fun next a w h => wpOp_do ho (by simp [Region.wanted, hg]) h
  | some g =>
    obtain ⟨j, want⟩ := g
    show RSok L M P N (Option.rec (rbad 203) (fun d => bc want (sGuard (cO (.tmp d)) do_ skip skip) (sGuard (cO (.tmp d)) skip do_ skip)) (dstOf ops j)) _
    cases hd : dstOf ops j with
    | none => exact rbad_ok
    | some d =>
      have hskip : RSok L M P N skip (fun next a w => Region.wanted o (yielded ops a.tmps) = false → wpOp P ops Q i next a w) := h2.imp fun next a w h hw => wpOp_skip ho hw h
      have hdo : RSok L M P N do_ (fun next a w => Region.wanted o (yielded ops a.tmps) = true → wpOp P ops Q i next a w) := h1.imp fun next a w h hw => wpOp_do ho hw h
      cases want
      · exact sGuard_ok (want := false) hg hd hskip hdo hskip
      · exact sGuard_ok (want := true) hg hd hdo hskip hskip

/-- The tables are there. -/
def TabsIn (l : List Tab) (w : World) : Prop := ∀ t ∈ l, ∃ arr e fr, w.heap[t.g]? = some (.cells arr e fr) ∧ ∀ (j n : Nat), t.ns[j]? = some n → arr[j]? = some (.int t.k (ofB t.k n))
theorem sameTab_ok {σ β} {k : IntKind} : ∀ {ns : List Nat} {cs : List SV} {vs : List Value}, sameTab k ns cs = true → DenL σ β cs vs → ∀ (j n : Nat), ns[j]? = some n → vs[j]? = some (.int k (ofB k n))
  | [], _, _, _, _, j, n, hj => by cases hj
  | x :: ns, [], _, h, _, _, _, _ => by cases h
  | x :: ns, s :: cs, vs, h, hd, j, n, hj => by
    obtain ⟨h1, h2⟩ := bc_tf (show bc (numIs k s x) (sameTab k ns cs) false = true from h)
    cases hd with
    | cons hx tl =>
      cases j with
      | succ j => exact sameTab_ok h2 tl j n hj
      | zero =>
        cases hj
        unfold numIs at h1
        cases hi : svInt s with
        | none => rw [hi] at h1; cases h1
        | some i =>
          rw [hi] at h1
          obtain ⟨h3, h4⟩ := bc_tf (show bc (Nat.beq i.1.ctorIdx k.ctorIdx) (Option.rec false (fun m => Nat.beq m x) (isLit i.2)) false = true from h1)
          cases hm : isLit i.2 with
          | none => rw [hm] at h4; cases h4
          | some m =>
            rw [hm] at h4
            have h4 : m = x := of_nbeq h4
            obtain ⟨hv, _⟩ := (svInt_some hi hx).int_inv
            rw [kind_idx (of_nbeq h3), isLit_some hm, ev_lit, h4] at hv
            rw [hv]; rfl
theorem hasTabs_ok {σ w0 β} {st : St} {w : World} (h : Rep M σ w0 β st w) : ∀ {l : List Tab}, hasTabs l st.hp = true → TabsIn l w
  | [], _ => fun t ht => by cases ht
  | t0 :: l, hh => by
    obtain ⟨h1, h2⟩ := bc_tf (show bc (bc (Nat.blt t0.g 64) (hasTab t0 st.hp) false) (hasTabs l st.hp) false = true from hh)
    intro t ht
    rcases List.mem_cons.1 ht with rfl | ht
    · obtain ⟨h3, h4⟩ := bc_tf h1
      have h3 := of_nblt h3
      unfold hasTab at h4
      cases hg : st.hp.get t.g with
      | none => rw [hg] at h4; cases h4
      | some he =>
        rw [hg] at h4
        obtain ⟨b, c, x, k1, k2, k3, _⟩ := h.heap t.g _ hg
        rw [h.glob t.g h3] at k1
        cases k1
        obtain ⟨ob, ro⟩ := he
        cases ob <;> first | (cases h4; done) | skip
        cases k3 with
        | tab hd hc => exact ⟨_, _, _, k2, fun j n hj => hc j _ (sameTab_ok h4 hd j n hj)⟩
    · exact hasTabs_ok h h2 t ht
/-- A function without parameters that returns true, and leaves what there was as it was. -/
def TrueFn (P : Program) (gt : List Tab) (f : Nat) : Prop := ∀ w : World, TabsIn gt w → (Calls P f #[] w fun e w' => e = .returned (.bool true) ∧ Below w.heap.size w w') ∧ (callFunc f #[]).run P w = .ok (.enter f #[]) w
/-- A function that, of these arguments, returns this, and leaves what there was as it was. -/
def MemFn (P : Program) (f : Nat) (args : List SV) (s : SV) : Prop := ∀ (w : World) (vs : List Value), CloL args vs →
  (Calls P f vs.toArray w fun e w' => ∃ v, e = .returned v ∧ Clo s v ∧ Below w.heap.size w w') ∧ (callFunc f vs.toArray).run P w = .ok (.enter f vs.toArray) w
/-- A function that, of arguments over variables of its own, returns a value over these, and leaves what there was as it was. -/
def SumFn (P : Program) (e : SM) : Prop := okSM e = true ∧ ∀ (σ : Nat → Nat) (w : World) (vs : List Value), (∀ β, DenL σ β (subW (idL e.ws) e.args) vs) →
  (Calls P e.f vs.toArray w fun x w' => ∃ v, x = .returned v ∧ (∀ β, Den σ β (subV (idL e.ws) e.s) v) ∧ Below w.heap.size w w') ∧ (callFunc e.f vs.toArray).run P w = .ok (.enter e.f vs.toArray) w
/-- What a program is run with, to be trusted. -/
structure EnvOk (L : (Nat → Nat) → SV → Prop) (E : Env) : Prop where
  mixed : E.P.follows .mixedOrders = true
  eff : ∀ (M : Md) (N : Nat) (o : Oper) (h : HX), E.eff o.op = some h → HXok E.P L M N o h
  tru : ∀ f, E.tr f = true → TrueFn E.P E.gt f
  mem : ∀ f args s, E.mm f args = some s → MemFn E.P f args s
  sum : ∀ f pc args s, E.ms f pc args = some s → ∀ σ β w (vs : List Value), pc.okC σ → DenLC pc.nv σ β args vs →
    (Calls E.P f vs.toArray w fun x w' => ∃ v, x = .returned v ∧ DenC pc.nv σ β s v ∧ Below w.heap.size w w') ∧ (callFunc f vs.toArray).run E.P w = .ok (.enter f vs.toArray) w

theorem cOp_ok {E : Env} (hE : EnvOk L E) {N : Nat} {o : Oper} : HXok E.P L M N o (cOp E o.op) := by
  unfold cOp
  cases hv : cVal E.P o.op with
  | some v => exact hVal_ok (cVal_ok hv)
  | none => cases he : E.eff o.op with
    | none => exact hbad_ok
    | some h => exact hE.eff M N o h he

theorem defOf_some {o : Op} {d : Operand × List Operand} (h : defOf o = some d) : ∃ args ats, o = .defer ⟨.value d.1, args, ats⟩ ∧ d.2 = args.toList := by
  unfold defOf at h
  split at h
  · cases h; exact ⟨_, _, rfl, rfl⟩
  · cases h
theorem sDef_ok {N : Nat} {x : Operand} {args : Array Operand} {ats : Array TypeId} {dst ty pos af g} {Q : Exit → Act → World → Prop} :
    RSok L M P N (sDef x args.toList (cPut N dst)) (fun next a w => (⟨dst, .defer ⟨.value x, args, ats⟩, ty, pos, af, g⟩ : Oper).wp P a w next Q) := by
  intro cf hcf σ w0 β st w F a k next hR hF hs hn
  obtain ⟨f, hf, hs⟩ := oa_sat hs
  obtain ⟨hkn, hs⟩ := knL_sat hs
  obtain ⟨l, hl0, hs⟩ := oa_sat hs
  rw [cOs_eq] at hkn hs
  have hl := cOs_C hF args.toList hkn
  have hd : ∀ σ', Ag st.pc.nv σ σ' → Den σ' β (.func f.1 f.2) (a.eval x) := fun σ' ha => svFunc_o hf (cO_C hF x σ' ha)
  have hd0 := hd σ (Ag.refl _ _)
  generalize hv : a.eval x = v at hd hd0
  cases hd0 with
  | func hcap0 =>
    rename_i cvs
    rw [mkS_eq] at hs
    have hrun : (execOp a.eval ⟨dst, .defer ⟨.value x, args, ats⟩, ty, pos, af, g⟩).run P w = .ok (.defer { target := .fn (.func f.1) cvs.toArray, args := #[] ++ args.map a.eval }) w := by
      simp only [execOp, resolve, hv, Deferred.ofValue, Sem.run_bind, Sem.run_pure, Result.andThen_ok]
    have hF1 : RepFC st.pc.nv σ β N (setF 511 (.tuple (.tuple [.func f.1 f.2, .tuple ((args.toList.map cO).map fun x => x.g F)] :: l)) F) { a with defers := { target := .fn (.func f.1) cvs.toArray, args := #[] ++ args.map a.eval } :: a.defers } := fun σ' ha => by
      refine (hF σ' ha).def (.inr ?_)
      have h1 : Den σ' β (.tuple [.func f.1 f.2, .tuple ((args.toList.map cO).map fun x => x.g F)]) (.tuple #[.func (.func f.1) #[] cvs.toArray, .tuple (#[] ++ args.map a.eval)]) := by
        refine .tuple (vs := [_, _]) (.cons (hd σ' ha) (.cons ?_ .nil))
        have := Den.tuple (a := 0) (b := 0) (t := .lit 0) (u := .lit 0) (c := .lit 0) (k := .u8) (hl σ' ha)
        rw [show (#[] ++ args.map a.eval) = (List.map a.eval args.toList).toArray from by apply Array.ext'; simp]
        exact this
      unfold defsOf at hl0
      rw [mkG_eq] at hl0
      rcases (hF σ' ha).defers with ⟨hu, hds⟩ | hds
      · rw [nbeq_t hu] at hl0
        cases hl0
        rw [hds]
        exact .tuple (vs := [_]) (.cons h1 .nil)
      · cases hb : Nat.beq (getF 511 F).1 19
        · rw [hb] at hl0
          have := svTup_some hl0 hds
          generalize hvv : Value.tuple (List.map defEnc a.defers).toArray = vv at this
          cases this with
          | tuple h' =>
            injection hvv with h3
            have h3 := congrArg Array.toList h3
            simp at h3
            rw [← h3] at h'
            exact .tuple (vs := defEnc _ :: List.map defEnc a.defers) (.cons h1 h')
        · exfalso
          have hu := of_nbeq hb
          generalize getF 511 F = s at hu hds
          cases hds; cases hu
    obtain ⟨F', h1, h2⟩ := cPut_ok (v := undef) hF1 (fun _ _ => .tuple .nil) hs
    show Oper.wp P _ a w next Q
    unfold Oper.wp
    rw [hrun]
    exact hn σ β st w F' _ (Ag.refl _ _) (Nat.le_refl _) (Ext.refl β) hR h1 h2
theorem sStep_ok {E : Env} (hE : EnvOk L E) {N : Nat} {ops : Array Oper} {i : Nat} {Q : Exit → Act → World → Prop} : RSok L M E.P N (sStep E N ops i) (fun next a w => wpOp E.P ops Q i next a w) := by
  unfold sStep
  cases ho : ops[i]? with
  | none => exact rbad_ok
  | some o =>
    refine cGuard_ok ho ?_ sSkip_ok
    cases hd : defOf o.op with
    | none => exact sDo_ok (cOp_ok hE)
    | some d =>
      obtain ⟨args, ats, h1, h2⟩ := defOf_some hd
      obtain ⟨dst, op, ty, pos, af, g⟩ := o
      change op = _ at h1
      subst h1
      show RSok L M E.P N (sDef d.1 d.2 (cPut N dst)) _
      rw [h2]
      exact sDef_ok

theorem sList_ok {E : Env} (hE : EnvOk L E) {N : Nat} {ops : Array Oper} {Q : Exit → Act → World → Prop} (l : List Nat) :
    ∀ cf, (∀ M, CallOk E.P L M cf) → ∀ σ w0 β st w F a k, RepC M σ w0 β st w → RepFC st.pc.nv σ β N F a → ((sList E N ops l).run cf F st k).sat L σ → FollF L M N σ w0 β st.pc.nv k (Q .normal) → wpOps E.P ops Q l a w := by
  induction l with
  | nil =>
    intro cf hcf σ w0 β st w F a k hR hF hs hk
    exact hk σ β st w F a (Ag.refl _ _) (Nat.le_refl _) (Ext.refl β) hR hF hs
  | cons i l ih =>
    intro cf hcf σ w0 β st w F a k hR hF hs hk
    rw [wpOps_cons]
    refine sStep_ok hE cf hcf σ w0 β st w F a (fun F st => (sList E N ops l).run cf F st k) _ hR hF hs ?_
    intro σ' β' st' w' F' a' h1 h2 h3 h4 h5 h6
    exact ih cf hcf σ' w0 β' st' w' F' a' k h4 h5 h6 (hk.weaken h1 h2 h3)

/-! ### A region whose order is drawn -/
/-- What is read there stands, as long as it is needed. -/
structure CE where
  d : List Nat
  t : TypeId
  p : Value
  v : Value
def CE.holds (P : Program) (e : CE) (w : World) : Prop := (Instr.loadAt e.t e.p).run P w = .ok e.v w
def CI (P : Program) (cs : List CE) (l : Array Bool) (w : World) : Prop := ∀ e ∈ cs, (∀ j ∈ e.d, l.getD j false = false) → e.holds P w
/-- All that was read stands. -/
def CA (P : Program) (cs : List CE) (w : World) : Prop := ∀ e ∈ cs, e.holds P w
inductive StabR (nv : Nat) (σ : Nat → Nat) (β : Nat → Option (Nat × Nat)) : List SE → List CE → Prop
  | nil : StabR nv σ β [] []
  | cons {d : List Nat} {t : TypeId} {p s : SV} {q v : Value} {l : List SE} {cs : List CE} (hq : DenC nv σ β p q) (hv : DenC nv σ β s v) (t' : StabR nv σ β l cs) : StabR nv σ β (⟨d, t, p, s⟩ :: l) (⟨d, t, q, v⟩ :: cs)
theorem StabR.mono {nv σ} {β β' : Nat → Option (Nat × Nat)} (e : Ext β β') : ∀ {l : List SE} {cs : List CE}, StabR nv σ β l cs → StabR nv σ β' l cs
  | _, _, .nil => .nil
  | _, _, .cons hb hv t => .cons (hb.mono e) (hv.mono e) (StabR.mono e t)
theorem StabR.ag {nv nv' σ σ' β} (hle : nv ≤ nv') (ha : Ag nv σ σ') : ∀ {l : List SE} {cs : List CE}, StabR nv σ β l cs → StabR nv' σ' β l cs
  | _, _, .nil => .nil
  | _, _, .cons hb hv t => .cons (hb.ag hle ha) (hv.ag hle ha) (StabR.ag hle ha t)
theorem chk_ok {σ w0 β} {st : St} {w : World} (h : RepC M σ w0 β st w) {k : Ans} : ∀ {l : List SE} {cs : List CE}, StabR st.pc.nv σ β l cs → (chk P l st k).sat L σ → CA P cs w ∧ k.sat L σ
  | _, _, .nil, hk => ⟨(fun e he => by cases he), hk⟩
  | _, _, .cons (d := d) (t := t) (p := p) (q := q) (s := s) (v := v) (l := l) hq hv tl, hk => by
    change ((cLoad P t).f st p fun v => wa 205 (sameS 8 v s) (chk P l st k)).sat L σ at hk
    obtain ⟨r, hr, hk1⟩ := (cLoad_ok P t st p (fun v => wa 205 (sameS 8 v s) (chk P l st k))).sat hk
    obtain ⟨hsm, hk2⟩ := wa_sat hk1
    have := sameS_eq 8 hsm
    subst this
    obtain ⟨u, h1, h2⟩ := hr M σ w0 β q w (h.2 σ (Ag.refl _ _)) h.1.ok (.inr hq.at)
    obtain ⟨h3, h4⟩ := chk_ok h tl hk2
    refine ⟨fun e he => ?_, h4⟩
    rcases List.mem_cons.1 he with rfl | he
    · show (Instr.loadAt t q).run P w = .ok v w
      rw [h1, Den.det h2 hv.at]
    · exact h3 e he
theorem memN_iff {j : Nat} : ∀ {l : List Nat}, memN j l = true ↔ j ∈ l
  | [] => ⟨fun h => (by cases h), fun h => (by cases h)⟩
  | x :: l => by
    show bc (Nat.beq x j) true (memN j l) = true ↔ _
    by_cases e : x = j
    · rw [nbeq_t e]; exact ⟨fun _ => by rw [e]; exact List.mem_cons_self, fun _ => rfl⟩
    · rw [nbeq_f e]
      exact (memN_iff (l := l)).trans ⟨List.mem_cons_of_mem _, fun h => (List.mem_cons.1 h).resolve_left (fun h => e h.symm)⟩
theorem stillK_eq (j : Nat) (l : List SE) : ∀ k : List SE → Ans, stillK j l k = k (stillR j l) := by
  induction l with
  | nil => intro k; rfl
  | cons e l ih =>
    intro k
    show bc (memN j e.d) (stillK j l k) (stillK j l fun r => k (e :: r)) = k (bc (memN j e.d) (stillR j l) (e :: stillR j l))
    cases memN j e.d
    · exact ih _
    · exact ih _
theorem still_ok {nv σ β} (j : Nat) : ∀ {l : List SE} {cs : List CE}, StabR nv σ β l cs → ∃ cs', StabR nv σ β (stillR j l) cs' ∧ (∀ e ∈ cs', e ∈ cs) ∧ ∀ e ∈ cs, e ∈ cs' ∨ j ∈ e.d
  | _, _, .nil => ⟨[], .nil, (fun _ h => h), fun _ h => by cases h⟩
  | _, _, .cons (d := d) (t := t) (p := p) (q := q) (s := s) (v := v) (l := l) hq hv tl => by
    obtain ⟨cs', h1, h2, h3⟩ := still_ok j tl
    show ∃ cs', StabR nv σ β (bc (memN j d) (stillR j l) (⟨d, t, p, s⟩ :: stillR j l)) cs' ∧ _
    cases hm : memN j d
    · refine ⟨⟨d, t, q, v⟩ :: cs', .cons hq hv h1, fun e he => ?_, fun e he => ?_⟩
      · rcases List.mem_cons.1 he with rfl | he
        · exact List.mem_cons_self
        · exact List.mem_cons_of_mem _ (h2 e he)
      · rcases List.mem_cons.1 he with rfl | he
        · exact .inl List.mem_cons_self
        · exact (h3 e he).imp (List.mem_cons_of_mem _) id
    · refine ⟨cs', h1, fun e he => List.mem_cons_of_mem _ (h2 e he), fun e he => ?_⟩
      rcases List.mem_cons.1 he with rfl | he
      · exact .inr (memN_iff.1 hm)
      · exact h3 e he

/-- What is recorded more: nothing, and the value is there anyway; or one, that says it. -/
def Grown (d : List Nat) (cs cs' : List CE) (Y : World → Prop) (P : Program) : Prop := (cs' = cs ∧ ∀ w, Y w) ∨ ∃ e, cs' = e :: cs ∧ e.d = d ∧ ∀ w, e.holds P w → Y w
theorem cEager_ok {E : Env} {N : Nat} {σ w0 β} {st : St} {w : World} (h : RepC M σ w0 β st w) {F : F3} {a : Act} (hF : RepFC st.pc.nv σ β N F a) {o : Oper} {d : List Nat} {l : List SE} {cs : List CE} (hl : StabR st.pc.nv σ β l cs) (hc : CA E.P cs w) {k : List SE → SV → PC → Ans}
    (hk : ((cEager E d o.op).run l F st k).sat L σ) :
    ∃ l' cs' s v pc', pc'.okC σ ∧ pc'.nv = st.pc.nv ∧ StabR st.pc.nv σ β l' cs' ∧ CA E.P cs' w ∧ Grown d cs cs' (fun w => (execOp a.eval o).run E.P w = .ok (.value v) w) E.P ∧ DenC st.pc.nv σ β s v ∧ (k l' s pc').sat L σ := by
  unfold cEager at hk
  cases hv : cVal E.P o.op with
  | some h' =>
    rw [hv] at hk
    obtain ⟨v, r, pc', h1, h2, h3, h4, h5⟩ := cVal_ok (o := o) hv L σ β F a st.pc _ h.1 hF hk
    exact ⟨l, cs, r, v, pc', h1, h2, hl, hc, .inl ⟨rfl, h3⟩, h4, h5⟩
  | none =>
    rw [hv] at hk
    obtain ⟨dst, op, ty, pos, af, g⟩ := o
    cases op <;> first | (exact hk.elim) | skip
    rename_i t x
    change (kn ((cO x).g F) fun p => (cLoad E.P t).f st p fun v => k (⟨d, t, p, v⟩ :: l) v st.pc).sat L σ at hk
    obtain ⟨hne, hk⟩ := kn_sat hk
    have hx := (cO_C hF x).of hne
    obtain ⟨r, hr, hk⟩ := (cLoad_ok E.P t st ((cO x).g F) (fun v => k (⟨d, t, (cO x).g F, v⟩ :: l) v st.pc)).sat hk
    obtain ⟨v, h2, hd⟩ := classify (P := E.P) (fun σ' ha => hr M σ' w0 β (a.eval x) w (h.2 σ' ha) (h.1 σ' ha) (.inr (hx σ' ha)))
    refine ⟨_, ⟨d, t, a.eval x, v⟩ :: cs, r, v, st.pc, h.1, rfl, .cons hx hd hl, ?_, .inr ⟨_, rfl, rfl, fun w hw => ?_⟩, hd, hk⟩
    · intro e he
      rcases List.mem_cons.1 he with rfl | he
      · exact h2
      · exact hc e he
    · have h3 : (Instr.loadAt t (a.eval x)).run E.P w = .ok v w := hw
      simp [execOp, h3]

/-- What was done ahead. -/
def DoneA (L : (Nat → Nat) → SV → Prop) (M : Md) (E : Env) (N : Nat) (ops : Array Oper) (σ : Nat → Nat) (w0 : World) (β : Nat → Option (Nat × Nat)) (nv : Nat) (hp : Tr HE) (d : List Nat) (w : World) (a : Act) (o : Oper) (cs : List CE) (k : List SE → F3 → St → Ans) : Prop :=
  ∃ v l' cs' F' st', StabR nv σ β l' cs' ∧ CA E.P cs' w ∧ ((cs' = cs ∧ YieldsI E.P ops (fun _ => True) o v a) ∨ ∃ e, cs' = e :: cs ∧ e.d = d ∧ YieldsI E.P ops (e.holds E.P) o v a) ∧ (st'.pc.nv = nv ∧ st'.hp = hp) ∧ RepC M σ w0 β st' w ∧ RepFC nv σ β N F' (a.put o.dst v) ∧ (k l' F' st').sat L σ

theorem dEager_ok {E : Env} {N : Nat} {σ w0 β} {st : St} {w : World} (h : RepC M σ w0 β st w) {ops : Array Oper} {i : Nat} {d : List Nat} {F : F3} {a : Act} (hF : RepFC st.pc.nv σ β N F a) {l : List SE} {cs : List CE} (hl : StabR st.pc.nv σ β l cs) (hc : CA E.P cs w) {cf : CallF} {k : List SE → F3 → St → Ans}
    (hk : ((dEager E N ops i d).run cf l F st k).sat L σ) : ∃ o, ops[i]? = some o ∧ DoneA L M E N ops σ w0 β st.pc.nv st.hp d w a o cs k := by
  unfold dEager at hk
  cases ho : ops[i]? with
  | none => rw [ho] at hk; exact hk.elim
  | some o =>
    rw [ho] at hk
    refine ⟨o, rfl, ?_⟩
    have exe : ∀ st1, RepC M σ w0 β st1 w → (st1.pc.nv = st.pc.nv ∧ st1.hp = st.hp) → Region.wanted o (yielded ops a.tmps) = true → ((dDo (cEager E d o.op) (cPut N o.dst)).run cf l F st1 k).sat L σ → DoneA L M E N ops σ w0 β st.pc.nv st.hp d w a o cs k := by
      intro st1 hR ⟨hnv, hhp⟩ hw hk1
      obtain ⟨l', cs', s, v, pc', h1, h2, h3, h4, h5, h6, h8⟩ := cEager_ok hR (by rw [hnv]; exact hF) (by rw [hnv]; exact hl) hc hk1
      rw [hnv] at h2 h3 h6
      obtain ⟨F', h9, h10⟩ := cPut_ok (d := o.dst) hF h6 h8
      exact ⟨v, l', cs', F', ⟨st1.hp, st1.nn, pc'⟩, h3, h4, h5.imp (fun ⟨e1, e2⟩ => ⟨e1, .inl ⟨hw, fun w _ => e2 w⟩⟩) (fun ⟨e, e1, e2, e3⟩ => ⟨e, e1, e2, .inl ⟨hw, e3⟩⟩), ⟨h2, hhp⟩, hR.assume h1 (by rw [h2, hnv]), h9, h10⟩
    have skp : ∀ st1, RepC M σ w0 β st1 w → (st1.pc.nv = st.pc.nv ∧ st1.hp = st.hp) → Region.wanted o (yielded ops a.tmps) = false → ((dSkip (cPut N o.dst)).run cf l F st1 k).sat L σ → DoneA L M E N ops σ w0 β st.pc.nv st.hp d w a o cs k := by
      intro st1 hR hnv hw hk1
      obtain ⟨F', h9, h10⟩ := cPut_ok (d := o.dst) (v := undef) hF (fun _ _ => .tuple .nil) hk1
      exact ⟨undef, l, cs, F', st1, hl, hc, .inl ⟨rfl, .inr ⟨hw, rfl⟩⟩, hnv, hR, h9, h10⟩
    change ((dCase ops o.guard (dDo (cEager E d o.op) (cPut N o.dst)) (dSkip (cPut N o.dst))).run cf l F st k).sat L σ at hk
    cases hg : o.guard with
    | none =>
      rw [hg] at hk
      exact exe st h ⟨rfl, rfl⟩ (by simp [Region.wanted, hg]) hk
    | some g =>
      rw [hg] at hk
      obtain ⟨j, want⟩ := g
      unfold dCase at hk
      cases hd : dstOf ops j with
      | none => dsimp only at hk; rw [hd] at hk; exact hk.elim
      | some dt =>
        obtain ⟨g1, g2⟩ := guard_cases hF hg hd
        have guard : ∀ (yes no tup : RD), (∀ st1, RepC M σ w0 β st1 w → (st1.pc.nv = st.pc.nv ∧ st1.hp = st.hp) → Region.wanted o (yielded ops a.tmps) = (true == want) → (yes.run cf l F st1 k).sat L σ → DoneA L M E N ops σ w0 β st.pc.nv st.hp d w a o cs k) →
            (∀ st1, RepC M σ w0 β st1 w → (st1.pc.nv = st.pc.nv ∧ st1.hp = st.hp) → Region.wanted o (yielded ops a.tmps) = (false == want) → (no.run cf l F st1 k).sat L σ → DoneA L M E N ops σ w0 β st.pc.nv st.hp d w a o cs k) →
            (∀ st1, RepC M σ w0 β st1 w → (st1.pc.nv = st.pc.nv ∧ st1.hp = st.hp) → Region.wanted o (yielded ops a.tmps) = false → (tup.run cf l F st1 k).sat L σ → DoneA L M E N ops σ w0 β st.pc.nv st.hp d w a o cs k) →
            ((dGuard (cO (.tmp dt)) yes no tup).run cf l F st k).sat L σ → DoneA L M E N ops σ w0 β st.pc.nv st.hp d w a o cs k := by
          intro yes no tup hy hn ht hs
          change (Option.rec (motive := fun _ => Ans) (oa 202 (svTup ((cO (.tmp dt)).g F)) fun _ => tup.run cf l F st k)
            (fun t => br st.pc t (fun pc => yes.run cf l F ⟨st.hp, st.nn, pc⟩ k) (fun pc => no.run cf l F ⟨st.hp, st.nn, pc⟩ k)) (svBool ((cO (.tmp dt)).g F))).sat L σ at hs
          cases hb : svBool ((cO (.tmp dt)).g F) with
          | none =>
            rw [hb] at hs
            obtain ⟨x, hx, hs⟩ := oa_sat hs
            exact ht st h ⟨rfl, rfl⟩ (g1 x hx hb) hs
          | some t =>
            rw [hb] at hs
            obtain ⟨h1, h2⟩ := g2 t hb
            rcases br_ok h.1 h1 hs with ⟨e, pc', hp, hnv, hs'⟩ | ⟨e, pc', hp, hnv, hs'⟩
            · have e1 : (t.ev σ != 0) = true := by simpa using e
              rw [e1] at h2
              exact hy _ (h.assume hp hnv) ⟨hnv, rfl⟩ h2 hs'
            · have e1 : (t.ev σ != 0) = false := by simpa using e
              rw [e1] at h2
              exact hn _ (h.assume hp hnv) ⟨hnv, rfl⟩ h2 hs'
        dsimp only at hk
        rw [hd] at hk
        cases want
        · exact guard _ _ _ skp exe skp hk
        · exact guard _ _ _ exe skp skp hk

theorem CI_of {P : Program} {cs : List CE} {l : Array Bool} {w : World} (h : CA P cs w) : CI P cs l w := fun e he _ => h e he
theorem dSch_ok {E : Env} (hE : EnvOk L E) {N : Nat} {ops : Array Oper} {Q : Exit → Act → World → Prop} (hQ : ∀ c a w, ¬ Q (.panic c) a w) (hsel : noSel ops = true) {cf : CallF} (hcf : ∀ M, CallOk E.P L M cf) {w0 : World} : ∀ (n : Nat) (listed : Array Bool) {s : Sch} {σ β} {st : St} {w : World} {F : F3} {a : Act} {l : List SE} {cs : List CE} {k : F3 → St → Ans},
    sched ops n listed = some s → Closed .any ops listed → RepC M σ w0 β st w → RepFC st.pc.nv σ β N F a → StabR st.pc.nv σ β l cs → CA E.P cs w → (∀ e ∈ cs, ∀ j ∈ e.d, notEager ops j = true) → ((dSch E N ops s).run cf l F st fun _ F st => k F st).sat L σ → FollF L M N σ w0 β st.pc.nv k (Q .normal) → wpAnyI E.P .any ops Q (CI E.P cs) n listed a w := by
  intro n
  induction n with
  | zero =>
    intro listed s σ β st w F a l cs k hs hcl h hF hl hc hne hk hn
    unfold sched at hs
    split at hs
    · rename_i he
      cases hs
      exact ⟨CI_of hc, by simpa using he, hn σ β st w F a (Ag.refl _ _) (Nat.le_refl _) (Ext.refl β) h hF hk⟩
    · cases hs
  | succ n ih =>
    intro listed s σ β st w F a l cs k hs hcl h hF hl hc hne hk hn
    unfold sched at hs
    cases hr : Region.ready .any ops listed with
    | nil =>
      rw [hr] at hs
      cases hs
      exact wpAnyI_done _ (CI_of hc) hr (hn σ β st w F a (Ag.refl _ _) (Nat.le_refl _) (Ext.refl β) h hF hk)
    | cons x r =>
      rw [hr] at hs
      dsimp only at hs
      have forced : ∀ (i : Nat) (s' : Sch), i ∈ Region.ready .any ops listed → sched ops n (listed.setIfInBounds i true) = some s' →
          ((dSeq (dForced E N ops i) (dSch E N ops s')).run cf l F st fun _ F st => k F st).sat L σ → wpOp E.P ops Q i (wpAnyI E.P .any ops Q (CI E.P cs) n (listed.setIfInBounds i true)) a w := by
        intro i s' hi hs' hk'
        change (stillK i l fun l => (sStep E N ops i).run cf F st fun F st => chk E.P l st ((dSch E N ops s').run cf l F st fun _ F st => k F st)).sat L σ at hk'
        rw [stillK_eq] at hk'
        obtain ⟨cs', hl', hsub, hor⟩ := still_ok i hl
        refine sStep_ok hE cf hcf σ w0 β st w F a (fun F st => chk E.P (stillR i l) st ((dSch E N ops s').run cf (stillR i l) F st fun _ F st => k F st)) _ h hF hk' ?_
        intro σ' β' st' w' F' a' h1 h2 h3 h4 h5 h6
        obtain ⟨h7, h8⟩ := chk_ok h4 ((hl'.mono h3).ag h2 h1) h6
        have key := ih _ hs' (hcl.set hi) h4 h5 ((hl'.mono h3).ag h2 h1) h7 (fun e he => hne e (hsub e he)) h8 (hn.weaken h1 h2 h3)
        obtain ⟨h0, o, ho, _⟩ := mem_ready.1 hi
        have hself : (listed.setIfInBounds i true).getD i false = true := by
          have hlt : i < listed.size := by
            rcases Nat.lt_or_ge i listed.size with h' | h'
            · exact h'
            · simp [Array.getElem?_eq_none h'] at h0
          simp [hlt]
        refine wpAnyI_weaken (S := fun l => l.getD i false = true) (fun l j hl => getD_set_true hl) (fun l w hS hI e he hreq => ?_) _ _ _ _ hself key
        rcases hor e he with he' | he'
        · exact hI e he' hreq
        · have := hreq i he'
          rw [hS] at this
          cases this
      cases hf : (x :: r).find? (eagerOK ops listed) with
      | some i =>
        rw [hf] at hs
        dsimp only at hs
        cases hs' : sched ops n (listed.setIfInBounds i true) with
        | none => rw [hs'] at hs; cases hs
        | some s' =>
          rw [hs'] at hs
          cases hs
          have hmem : i ∈ Region.ready .any ops listed := by rw [hr]; exact List.mem_of_find?_eq_some hf
          have hok := List.find?_some hf
          unfold eagerOK at hok
          rw [Bool.and_eq_true] at hok
          obtain ⟨o, h1, v, l', cs', F', st', h2, h3, h4, ⟨h5, _⟩, h6, h7, h9⟩ := dEager_ok h hF hl hc (k := fun l F st => (dSch E N ops s').run cf l F st fun _ F st => k F st) hk
          obtain ⟨hoe, hfr⟩ := hok
          rw [h1] at hoe
          obtain ⟨hd1, hd2⟩ := dOf_ok h1 hoe
          have hnecs : ∀ e' ∈ cs', ∀ j ∈ e'.d, notEager ops j = true := by
            rcases h4 with ⟨rfl, _⟩ | ⟨e, rfl, hed, _⟩
            · exact hne
            · intro e' he'
              rcases List.mem_cons.1 he' with rfl | he'
              · rw [hed]; exact hd2
              · exact hne e' he'
          have key := ih (listed.setIfInBounds i true) hs' (hcl.set hmem) h6 (by rw [h5]; exact h7) (by rw [h5]; exact h2) h3 hnecs h9 (by rw [h5]; exact hn)
          have hni : notEager ops i = false := by unfold notEager; rw [h1]; simp only [Bool.not_eq_false']; exact hoe
          have hsame : ∀ (cs0 : List CE), (∀ e ∈ cs0, ∀ j ∈ e.d, notEager ops j = true) → ∀ (l : Array Bool) w, l.getD i true = false → CI E.P cs0 (l.setIfInBounds i true) w → CI E.P cs0 l w := by
            intro cs0 hcs0 l w _ hI e he hreq
            refine hI e he fun j hj => ?_
            have hne : i ≠ j := fun e' => by have := hcs0 e he j hj; rw [← e', hni] at this; cases this
            rw [getD_set_ne false hne]; exact hreq j hj
          rcases h4 with ⟨rfl, hy⟩ | ⟨e, rfl, hed, hy⟩
          · exact wpAnyI_first (D := []) hQ h1 (noSel_spec hsel) (fun _ _ _ _ => trivial) (hsame _ hne) (fun _ h => by cases h) (fun h => by cases h) n listed a w hcl (freeAt_spec h1 hfr) hmem hy key
          · have hne' : ∀ e' ∈ e :: cs, ∀ j ∈ e'.d, notEager ops j = true := fun e' he' => by
              rcases List.mem_cons.1 he' with rfl | he'
              · rw [hed]; exact hd2
              · exact hne e' he'
            refine wpAnyI_weaken (S := fun _ => True) (fun _ _ _ => trivial) (fun l w _ hI e' he' => hI e' (List.mem_cons_of_mem _ he')) _ _ _ _ trivial (wpAnyI_first (J := e.holds E.P) (D := dOf ops i) hQ h1 (noSel_spec hsel) (fun l w hj hI => hI e List.mem_cons_self (by rw [hed]; exact hj)) (hsame _ hne') hd1 (fun h => by have := hd2 i h; rw [hni] at this; cases this) n listed a w hcl (freeAt_spec h1 hfr) hmem hy key)
      | none =>
        rw [hf] at hs
        dsimp only at hs
        cases r with
        | nil =>
          dsimp only at hs
          cases hs' : sched ops n (listed.setIfInBounds x true) with
          | none => rw [hs'] at hs; cases hs
          | some s' =>
            rw [hs'] at hs
            cases hs
            refine ⟨CI_of hc, (fun e => by rw [hr] at e; cases e), fun i hi => ?_⟩
            have : i = x := by rw [hr] at hi; simpa using hi
            subst this
            exact forced i s' hi hs' hk
        | cons y r =>
          cases r with
          | cons _ _ => cases hs
          | nil =>
            dsimp only at hs
            cases hsx : sched ops n (listed.setIfInBounds x true) with
            | none => rw [hsx] at hs; cases hs
            | some sx =>
              rw [hsx] at hs
              cases hsy : sched ops n (listed.setIfInBounds y true) with
              | none => rw [hsy] at hs; cases hs
              | some sy =>
                rw [hsy] at hs
                cases hs
                obtain ⟨hkx, hky⟩ := hk
                refine ⟨CI_of hc, (fun e => by rw [hr] at e; cases e), fun i hi => ?_⟩
                have hi' := hi
                rw [hr] at hi
                rcases List.mem_cons.1 hi with e | hi
                · subst e; exact forced i sx hi' hsx hkx
                · have : i = y := by simpa using hi
                  subst this
                  exact forced i sy hi' hsy hky
end

end Go.Sy
end
