/- PlatStops: for every input that the statement lets in the law returns true, and the input reads as it did. No condition. -/
import Derived.Test.YtnakloibjdpmgaaGreatDoorLawPlatStopsP
import Derived.Test.YtnakloibjdpmgaaGreatDoorLawPlatStopsR0
import Derived.Test.YtnakloibjdpmgaaGreatDoorLawPlatStopsT
import Derived.Test.YtnakloibjdpmgaaGreatDoorTie
import Derived.Test.YtnakloibjdpmgaaGreatDoorCards
import Derived.LaidMore
import Derived.SevenTiedAt
namespace Go.Proofs.YtnakloibjdpmgaaGreatDoor.PlatStops
open Go.ChangeShapes Go.WideShapes Go.ChangeAt Go.RowKit Go.Sy
set_option linter.unusedVariables false
theorem own : ownKnob Tryz.prog.godebug = none := by kernel_rfl
theorem laidOut : laidOutB Tryz.prog = true := by kernel_rfl
theorem mixed : Tryz.prog.follows .mixedOrders = true := by kernel_rfl
theorem kinds : argK Tryz.prog 8 Tryz.f6.params.toList = some ([none, none, none], ks) := by kernel_rfl
theorem add_ev (x y : Nat) : O2.ev .add 64 x y = (x + y) % 18446744073709551616 := rfl
theorem sub_ev (x y : Nat) : O2.ev .sub 64 x y = (x + (18446744073709551616 - y % 18446744073709551616)) % 18446744073709551616 := rfl
theorem urem_ev (x : Nat) : O2.ev .urem 64 x 1000 = x % 1000 := rfl
theorem v_ev (σ : Nat → Nat) : (Tm.var 2 64).ev σ = σ 2 % 18446744073709551616 := rfl
theorem w_ev (σ : Nat → Nat) : (Tm.var 0 8).ev σ = σ 0 % 256 := rfl
theorem ult_nz {σ : Nat → Nat} {a b : Tm} (h : a.ev σ < b.ev σ) : (Tm.bin .ult 64 a b).ev σ ≠ 0 := by
  show b2n (Nat.blt (a.ev σ) (b.ev σ)) ≠ 0
  rw [nblt_t h]; exact Nat.one_ne_zero
theorem not_nz {σ : Nat → Nat} {a : Tm} (h : a.ev σ = 0) : (Tm.un .bnot 1 a).ev σ ≠ 0 := by
  show bc (Nat.beq (a.ev σ) 0) 1 0 ≠ 0
  rw [h]; exact Nat.one_ne_zero
theorem ult_z {σ : Nat → Nat} {a b : Tm} (h : b.ev σ ≤ a.ev σ) : (Tm.bin .ult 64 a b).ev σ = 0 := by
  show b2n (Nat.blt (a.ev σ) (b.ev σ)) = 0
  rw [nblt_f (by omega)]; rfl
theorem eq_z {σ : Nat → Nat} {a b : Tm} (h : a.ev σ ≠ b.ev σ) : (Tm.bin .eq 64 a b).ev σ = 0 := by
  show b2n (Nat.beq (a.ev σ) (b.ev σ)) = 0
  rw [nbeq_f h]; rfl
theorem eq_nz {σ : Nat → Nat} {a b : Tm} (h : a.ev σ = b.ev σ) : (Tm.bin .eq 64 a b).ev σ ≠ 0 := by
  show b2n (Nat.beq (a.ev σ) (b.ev σ)) ≠ 0
  rw [nbeq_t h]; exact Nat.one_ne_zero
theorem ne_of {σ : Nat → Nat} {a b : Tm} (h : (Tm.un .bnot 1 (.bin .eq 64 a b)).ev σ ≠ 0) : a.ev σ ≠ b.ev σ := by
  intro e
  apply h
  show bc (Nat.beq (b2n (Nat.beq (a.ev σ) (b.ev σ))) 0) 1 0 = 0
  rw [nbeq_t e]; rfl
theorem sr_ev {x : Nat} (h : x < 256) : O2.ev .srem 64 x 3 = x % 3 := by
  show sgn (isNeg 64 x) 64 (mag 64 x % mag 64 3) = _
  have e : isNeg 64 x = false := by
    show Nat.ble 9223372036854775808 x = false
    exact nble_f (by omega)
  have m1 : mag 64 x = x := by
    show bc (isNeg 64 x) _ _ = _
    rw [e]
  rw [e, m1]
  show (x % 3) % 18446744073709551616 = _
  omega
theorem lems_ok : ∀ σ, ∀ v ∈ lems, v.ok σ := by
  intro σ v hv
  simp only [lems, List.mem_cons, List.mem_nil_iff, or_false] at hv
  rcases hv with rfl | rfl | rfl | rfl
  · intro _
    refine ult_nz ?_
    simp only [ev_bin, ev_lit, add_ev, sub_ev, urem_ev, v_ev]; omega
  · intro _
    refine not_nz (ult_z ?_)
    simp only [ev_bin, ev_lit, add_ev, sub_ev, urem_ev, v_ev]; omega
  · intro _
    refine not_nz (eq_z ?_)
    simp only [ev_bin, ev_lit, add_ev, urem_ev, v_ev]; omega
  · intro hh
    have h1 := ne_of (hh _ List.mem_cons_self)
    have h2 := ne_of (hh _ (List.mem_cons_of_mem _ List.mem_cons_self))
    refine eq_nz ?_
    have hl : σ 0 % 256 < 256 := Nat.mod_lt _ (by decide)
    simp only [ev_bin, ev_lit, w_ev, sr_ev hl] at h1 h2 ⊢
    omega
theorem mem0 : ∀ e ∈ mt0, MemFn Tryz.prog e.f e.args e.s := fun _ h => by cases h
theorem mems : ∀ e ∈ mtl, MemFn Tryz.prog e.f e.args e.s := mem0
theorem sum0 : ∀ e ∈ ms0, SumFn Tryz.prog e := fun _ h => by cases h
theorem sums : ∀ e ∈ msl, SumFn Tryz.prog e := sum0
theorem trues : ∀ f ∈ ([7] : List Nat), TrueFn Tryz.prog gts f := by
  intro f hf
  rw [List.mem_singleton.1 hf]
  exact trueFn_of (E := envL Tryz.prog 300 false [] [] [] [] [] [] [] gts mfl mtl msl) (envL_okT mixed (fun _ h => by cases h) mems sums) trueRun7
theorem runs_e (σ : Nat → Nat) (vs : List Value) (w : World) (bl : List (Nat × Nat)) (hd : EntryOk gts w sa_e [none, none, none] σ vs bl) : Calls Tryz.prog 6 vs.toArray w fun e w' => e = .returned (.bool true) ∧ Below w.heap.size w w' := by
  exact part_runT mixed trues mems sums rune0 lems_ok σ all_nil vs w bl hd
theorem pick : ∀ nl : List Bool, nl.length = nsl ks → ∃ sa, symK ks nl 0 4294967296 64 = some sa ∧ sa.i ≤ 2 ^ 40 ∧ ∀ (σ : Nat → Nat) (vs : List Value) (w : World) (bl : List (Nat × Nat)), EntryOk gts w sa [none, none, none] σ vs bl → Calls Tryz.prog 6 vs.toArray w fun e w' => e = .returned (.bool true) ∧ Below w.heap.size w w' := by
  intro nl hl
  have hl : nl.length = 0 := hl
  match nl, hl with
  | [], _ => exact ⟨sa_e, by kernel_rfl, of_nble (by kernel_rfl), runs_e⟩
theorem door_met (os : Os) (args : Array Value) : laidMetH Tryz.prog Rows.platStopsRow.laid ((World.doorLaid Tryz.prog 400 os).forCall (fun _ _ => 0) ⟨#[], args, []⟩).memory :=
  laidMetH_of_parts3 (fuel := 8) (laidMet_of_run' 8 (by kernel_rfl) (by kernel_rfl)) (by kernel_rfl) (by kernel_rfl)
set_option maxRecDepth 100000 in
theorem lifted (os : Os) (started : os.Started) (H : Type) (enc : TypeId × Value → H) :
    ReturnsInHanded {} Tryz.checked os 6 .any (fun w args => (Rows.platStopsSpec.pre enc Tryz.prog Tryz.f6 [] false w args ∧ laidMetH Tryz.prog Rows.platStopsRow.laid w) ∧ sizedMet enc Tryz.prog Tryz.f6 (OpenSpec.ofChange Rows.platStopsSpec) false w args)
      (Rows.platStopsSpec.post enc Tryz.prog Tryz.f6 false true false false) := by
  refine returnsInHanded_of_change_and (C := Tryz.checked) (X := fun w _ => laidMetH Tryz.prog Rows.platStopsRow.laid w) (fun _ _ _ hh h => h.of_heap hh) own started (by kernel_rfl) Tryz.func6
    (ChangeSpec.witness_shaped (enc := enc) (C := Tryz.checked) (os := os) (X := fun w _ => laidMetH Tryz.prog Rows.platStopsRow.laid w) false (World.doorLaid Tryz.prog 400 os) #[.int .u8 0, .int .u8 0, .int .u64 0] 8 rfl (World.shaped_of_RefB (by kernel_rfl) (by kernel_rfl)) (by kernel_rfl) (by kernel_rfl) (by kernel_rfl) (door_met os _)) ?_
  intro W base args ds gs before hval hW _ _ hL _
  exact law_contractA (P := Tryz.prog) laidOut kinds pick (by kernel_rfl) rfl (by rfl) Tryz.underlying4
    (fun ds h => by
      have h' : ds.length = 3 := by rw [h, Tryz.params6]; rfl
      match ds, h' with | [d0, d1, d2], _ => rfl) W base args ds gs before hval hW tabs_nil
theorem over : Rows.platStopsRow.holds Tryz.pinned (OpenSpec.ofChange Rows.platStopsSpec) :=
  OpenClaim.holds_of_wide 6 Tryz.f6 rfl rfl rfl rfl rfl rfl rfl ⟨rfl, rfl, rfl, rfl, rfl⟩ rfl rfl rfl rfl rfl (by kernel_rfl) Tryz.func6 (by kernel_rfl)
    (of_decide_eq_true (by kernel_rfl)) (by unfold Func.isWrapper; first | (rw [if_pos (by decide +kernel)]; kernel_rfl) | (rw [if_neg (by decide +kernel)]; exact ⟨rfl, rfl⟩))
    (fun os started H enc _ => lifted os started H enc)
theorem proved : Rows.PlatStopsSaid := over
#print axioms proved
end Go.Proofs.YtnakloibjdpmgaaGreatDoor.PlatStops
namespace Go.Proofs.YtnakloibjdpmgaaGreatDoor
open Go
/-- The row, under a short name. -/
theorem platStops_row : Rows.PlatStopsSaid := PlatStops.proved
/-- The tied card. -/
theorem platStops_holds : Rows.PlatStopsCardSaid :=
  Claim7.holds_tied_plain_at .later [] [.data] true (true, "7320964ad81cbc5e5dd6b9ba09afa430feaa2081f5eff0ee16d852eef5a24c49") false
    platStops_row (fun _ h => by cases h) (by kernel_rfl) (fun _ h => by cases h) platStops_row_tie rfl ⟨rfl, rfl⟩ (by kernel_rfl) rfl
    (fun f fn hf hfn => by
      obtain rfl : f = 6 := Option.some.inj ((show Tryz.prog.funcNamed Rows.platStopsRow.func = some 6 by kernel_rfl).symm.trans hf) |>.symm
      obtain rfl : fn = Tryz.f6 := (Option.some.inj (Tryz.func6.symm.trans hfn)).symm
      exact ⟨by kernel_rfl, fun j t ht => by
        rw [Tryz.params6] at ht
        have hm : t ∈ [5, 5, 27] := by simpa using Array.mem_of_getElem? ht
        have hall : ([5, 5, 27].all fun u => !Tryz.prog.wantsStandIn u) = true := by kernel_rfl
        exact (show Tryz.prog.wantsStandIn t = false by simpa using List.all_eq_true.1 hall t hm)⟩)
    (by kernel_rfl)
end Go.Proofs.YtnakloibjdpmgaaGreatDoor
