/- TopUsers: for every input that the statement lets in the law returns true, and the input reads as it did. No condition. -/
import Derived.Test.YtlccaffnepiapaaGreatDoorLawTopUsersF0
import Derived.Test.YtlccaffnepiapaaGreatDoorLawTopUsersF1
import Derived.Test.YtlccaffnepiapaaGreatDoorLawTopUsersF2
import Derived.Test.YtlccaffnepiapaaGreatDoorLawTopUsersP
import Derived.Test.YtlccaffnepiapaaGreatDoorLawTopUsersR0
import Derived.Test.YtlccaffnepiapaaGreatDoorLawTopUsersR1
import Derived.Test.YtlccaffnepiapaaGreatDoorLawTopUsersM0
import Derived.Test.YtlccaffnepiapaaGreatDoorLawTopUsersM1
import Derived.Test.YtlccaffnepiapaaGreatDoorLawTopUsersM2
import Derived.Test.YtlccaffnepiapaaGreatDoorLawTopUsersM3
import Derived.Test.YtlccaffnepiapaaGreatDoorLawTopUsersM4
import Derived.Test.YtlccaffnepiapaaGreatDoorLawTopUsersM5
import Derived.Test.YtlccaffnepiapaaGreatDoorLawTopUsersM6
import Derived.Test.YtlccaffnepiapaaGreatDoorLawTopUsersT
import Derived.Test.YtlccaffnepiapaaGreatDoorTie
import Derived.Test.YtlccaffnepiapaaGreatDoorCards
import Derived.LaidMore
import Derived.Lay
import Derived.Stop.Joined
import Derived.SevenTiedAt
namespace Go.Proofs.YtlccaffnepiapaaGreatDoor.TopUsers
open Go.ChangeShapes Go.WideShapes Go.ChangeAt Go.RowKit Go.Sy
set_option linter.unusedVariables false
theorem own : ownKnob Tryz.prog.godebug = none := by kernel_rfl
theorem laidOut : laidOutB Tryz.prog = true := by kernel_rfl
theorem mixed : Tryz.prog.follows .mixedOrders = true := by kernel_rfl
theorem kinds : argK Tryz.prog 8 Tryz.f6.params.toList = some ([none, none], ks) := by kernel_rfl
theorem mem0 : ∀ e ∈ mt0, MemFn Tryz.prog e.f e.args e.s := fun _ h => by cases h
theorem mem1 : ∀ e ∈ mt1, MemFn Tryz.prog e.f e.args e.s := by
  intro e h
  rcases List.mem_cons.1 (show e ∈ me0 :: mt0 from h) with rfl | h
  · exact memFn_of (envL_okT mixed (fun _ h => by cases h) mem0) memRun0
  · exact mem0 e h
theorem mem2 : ∀ e ∈ mt2, MemFn Tryz.prog e.f e.args e.s := by
  intro e h
  rcases List.mem_cons.1 (show e ∈ me1 :: mt1 from h) with rfl | h
  · exact memFn_of (envL_okT mixed (fun _ h => by cases h) mem1) memRun1
  · exact mem1 e h
theorem mem3 : ∀ e ∈ mt3, MemFn Tryz.prog e.f e.args e.s := by
  intro e h
  rcases List.mem_cons.1 (show e ∈ me2 :: mt2 from h) with rfl | h
  · exact memFn_of (envL_okT mixed (fun _ h => by cases h) mem2) memRun2
  · exact mem2 e h
theorem mem4 : ∀ e ∈ mt4, MemFn Tryz.prog e.f e.args e.s := by
  intro e h
  rcases List.mem_cons.1 (show e ∈ me3 :: mt3 from h) with rfl | h
  · exact memFn_of (envL_okT mixed (fun _ h => by cases h) mem3) memRun3
  · exact mem3 e h
theorem mem5 : ∀ e ∈ mt5, MemFn Tryz.prog e.f e.args e.s := by
  intro e h
  rcases List.mem_cons.1 (show e ∈ me4 :: mt4 from h) with rfl | h
  · exact memFn_of (envL_okT mixed (fun _ h => by cases h) mem4) memRun4
  · exact mem4 e h
theorem mem6 : ∀ e ∈ mt6, MemFn Tryz.prog e.f e.args e.s := by
  intro e h
  rcases List.mem_cons.1 (show e ∈ me5 :: mt5 from h) with rfl | h
  · exact memFn_of (envL_okT mixed (fun _ h => by cases h) mem5) memRun5
  · exact mem5 e h
theorem mem7 : ∀ e ∈ mt7, MemFn Tryz.prog e.f e.args e.s := by
  intro e h
  rcases List.mem_cons.1 (show e ∈ me6 :: mt6 from h) with rfl | h
  · exact memFn_of (envL_okT mixed (fun _ h => by cases h) mem6) memRun6
  · exact mem6 e h
theorem mem8 : ∀ e ∈ mt8, MemFn Tryz.prog e.f e.args e.s := by
  intro e h
  rcases List.mem_cons.1 (show e ∈ me7 :: mt7 from h) with rfl | h
  · exact memFn_of (envL_okT mixed (fun _ h => by cases h) mem7) memRun7
  · exact mem7 e h
theorem mem9 : ∀ e ∈ mt9, MemFn Tryz.prog e.f e.args e.s := by
  intro e h
  rcases List.mem_cons.1 (show e ∈ me8 :: mt8 from h) with rfl | h
  · exact memFn_of (envL_okT mixed (fun _ h => by cases h) mem8) memRun8
  · exact mem8 e h
theorem mem10 : ∀ e ∈ mt10, MemFn Tryz.prog e.f e.args e.s := by
  intro e h
  rcases List.mem_cons.1 (show e ∈ me9 :: mt9 from h) with rfl | h
  · exact memFn_of (envL_okT mixed (fun _ h => by cases h) mem9) memRun9
  · exact mem9 e h
theorem mem11 : ∀ e ∈ mt11, MemFn Tryz.prog e.f e.args e.s := by
  intro e h
  rcases List.mem_cons.1 (show e ∈ me10 :: mt10 from h) with rfl | h
  · exact memFn_of (envL_okT mixed (fun _ h => by cases h) mem10) memRun10
  · exact mem10 e h
theorem mem12 : ∀ e ∈ mt12, MemFn Tryz.prog e.f e.args e.s := by
  intro e h
  rcases List.mem_cons.1 (show e ∈ me11 :: mt11 from h) with rfl | h
  · exact memFn_of (envL_okT mixed (fun _ h => by cases h) mem11) memRun11
  · exact mem11 e h
theorem mem13 : ∀ e ∈ mt13, MemFn Tryz.prog e.f e.args e.s := by
  intro e h
  rcases List.mem_cons.1 (show e ∈ me12 :: mt12 from h) with rfl | h
  · exact memFn_of (envL_okT mixed (fun _ h => by cases h) mem12) memRun12
  · exact mem12 e h
theorem mem14 : ∀ e ∈ mt14, MemFn Tryz.prog e.f e.args e.s := by
  intro e h
  rcases List.mem_cons.1 (show e ∈ me13 :: mt13 from h) with rfl | h
  · exact memFn_of (envL_okT mixed (fun _ h => by cases h) mem13) memRun13
  · exact mem13 e h
theorem mem15 : ∀ e ∈ mt15, MemFn Tryz.prog e.f e.args e.s := by
  intro e h
  rcases List.mem_cons.1 (show e ∈ me14 :: mt14 from h) with rfl | h
  · exact memFn_of (envL_okT mixed (fun _ h => by cases h) mem14) memRun14
  · exact mem14 e h
theorem mem16 : ∀ e ∈ mt16, MemFn Tryz.prog e.f e.args e.s := by
  intro e h
  rcases List.mem_cons.1 (show e ∈ me15 :: mt15 from h) with rfl | h
  · exact memFn_of (envL_okT mixed (fun _ h => by cases h) mem15) memRun15
  · exact mem15 e h
theorem mem17 : ∀ e ∈ mt17, MemFn Tryz.prog e.f e.args e.s := by
  intro e h
  rcases List.mem_cons.1 (show e ∈ me16 :: mt16 from h) with rfl | h
  · exact memFn_of (envL_okT mixed (fun _ h => by cases h) mem16) memRun16
  · exact mem16 e h
theorem mem18 : ∀ e ∈ mt18, MemFn Tryz.prog e.f e.args e.s := by
  intro e h
  rcases List.mem_cons.1 (show e ∈ me17 :: mt17 from h) with rfl | h
  · exact memFn_of (envL_okT mixed (fun _ h => by cases h) mem17) memRun17
  · exact mem17 e h
theorem mem19 : ∀ e ∈ mt19, MemFn Tryz.prog e.f e.args e.s := by
  intro e h
  rcases List.mem_cons.1 (show e ∈ me18 :: mt18 from h) with rfl | h
  · exact memFn_of (envL_okT mixed (fun _ h => by cases h) mem18) memRun18
  · exact mem18 e h
theorem mem20 : ∀ e ∈ mt20, MemFn Tryz.prog e.f e.args e.s := by
  intro e h
  rcases List.mem_cons.1 (show e ∈ me19 :: mt19 from h) with rfl | h
  · exact memFn_of (envL_okT mixed (fun _ h => by cases h) mem19) memRun19
  · exact mem19 e h
theorem mem21 : ∀ e ∈ mt21, MemFn Tryz.prog e.f e.args e.s := by
  intro e h
  rcases List.mem_cons.1 (show e ∈ me20 :: mt20 from h) with rfl | h
  · exact memFn_of (envL_okT mixed (fun _ h => by cases h) mem20) memRun20
  · exact mem20 e h
theorem mem22 : ∀ e ∈ mt22, MemFn Tryz.prog e.f e.args e.s := by
  intro e h
  rcases List.mem_cons.1 (show e ∈ me21 :: mt21 from h) with rfl | h
  · exact memFn_of (envL_okT mixed (fun _ h => by cases h) mem21) memRun21
  · exact mem21 e h
theorem mem23 : ∀ e ∈ mt23, MemFn Tryz.prog e.f e.args e.s := by
  intro e h
  rcases List.mem_cons.1 (show e ∈ me22 :: mt22 from h) with rfl | h
  · exact memFn_of (envL_okT mixed (fun _ h => by cases h) mem22) memRun22
  · exact mem22 e h
theorem mem24 : ∀ e ∈ mt24, MemFn Tryz.prog e.f e.args e.s := by
  intro e h
  rcases List.mem_cons.1 (show e ∈ me23 :: mt23 from h) with rfl | h
  · exact memFn_of (envL_okT mixed (fun _ h => by cases h) mem23) memRun23
  · exact mem23 e h
theorem mem25 : ∀ e ∈ mt25, MemFn Tryz.prog e.f e.args e.s := by
  intro e h
  rcases List.mem_cons.1 (show e ∈ me24 :: mt24 from h) with rfl | h
  · exact memFn_of (envL_okT mixed (fun _ h => by cases h) mem24) memRun24
  · exact mem24 e h
theorem mem26 : ∀ e ∈ mt26, MemFn Tryz.prog e.f e.args e.s := by
  intro e h
  rcases List.mem_cons.1 (show e ∈ me25 :: mt25 from h) with rfl | h
  · exact memFn_of (envL_okT mixed (fun _ h => by cases h) mem25) memRun25
  · exact mem25 e h
theorem mems : ∀ e ∈ mtl, MemFn Tryz.prog e.f e.args e.s := mem26
theorem trues : ∀ f ∈ ([8] : List Nat), TrueFn Tryz.prog gts f := by
  intro f hf
  rw [List.mem_singleton.1 hf]
  exact trueFn_of (E := envL Tryz.prog 300 false [] [] [] [] [] [] [] gts mfl mtl) (envL_okT mixed (fun _ h => by cases h) mems) trueRun8
theorem tabs_in {W : World} (h : laidMetH Tryz.prog Rows.topUsersRow.laid W) : TabsIn gts W := by
  rw [MakeChecks.laidMetH_plain _ _ _ (by kernel_rfl)] at h
  exact (tabs_cons (tab_of_laid h (i := 2) (name := "internal/strconv.uint64pow10") (T := tab0) (zs := [1, 10, 100, 1000, 10000, 100000, 1000000, 10000000, 100000000, 1000000000, 10000000000, 100000000000, 1000000000000, 10000000000000, 100000000000000, 1000000000000000, 10000000000000000, 100000000000000000, 1000000000000000000, 10000000000000000000]) (t := 413) (e := 39) (n := 20) (by kernel_rfl) (by kernel_rfl) (by kernel_rfl) (by kernel_rfl) (by kernel_rfl) (by kernel_rfl) (by kernel_rfl) (by kernel_rfl)) (tabs_cons (tab_of_laid h (i := 1) (name := "math/bits.deBruijn64tab") (T := tab1) (zs := [0, 1, 56, 2, 57, 49, 28, 3, 61, 58, 42, 50, 38, 29, 17, 4, 62, 47, 59, 36, 45, 43, 51, 22, 53, 39, 33, 30, 24, 18, 12, 5, 63, 55, 48, 27, 60, 41, 37, 16, 46, 35, 44, 21, 52, 32, 23, 11, 54, 26, 40, 15, 34, 20, 31, 10, 25, 14, 19, 9, 13, 8, 7, 6]) (t := 404) (e := 5) (n := 64) (by kernel_rfl) (by kernel_rfl) (by kernel_rfl) (by kernel_rfl) (by kernel_rfl) (by kernel_rfl) (by kernel_rfl) (by kernel_rfl)) tabs_nil))
theorem runs_e (σ : Nat → Nat) (vs : List Value) (w : World) (bl : List (Nat × Nat)) (hd : EntryOk gts w sa_e [none, none] σ vs bl) : Calls Tryz.prog 6 vs.toArray w fun e w' => e = .returned (.bool true) ∧ Below w.heap.size w w' := by
  by_cases h0 : (Tm.var 0 1 : Tm).ev σ ≠ 0
  · skip
    exact part_runT mixed trues mems rune0 (fun _ _ h => by cases h) σ (all_cons h0 all_nil) vs w bl hd
  · skip
    exact part_runT mixed trues mems rune1 (fun _ _ h => by cases h) σ (all_cons (not_ne h0) all_nil) vs w bl hd
theorem pick : ∀ nl : List Bool, nl.length = nsl ks → ∃ sa, symK ks nl 0 4294967296 64 = some sa ∧ sa.i ≤ 2 ^ 40 ∧ ∀ (σ : Nat → Nat) (vs : List Value) (w : World) (bl : List (Nat × Nat)), EntryOk gts w sa [none, none] σ vs bl → Calls Tryz.prog 6 vs.toArray w fun e w' => e = .returned (.bool true) ∧ Below w.heap.size w w' := by
  intro nl hl
  have hl : nl.length = 0 := hl
  match nl, hl with
  | [], _ => exact ⟨sa_e, by kernel_rfl, of_nble (by kernel_rfl), runs_e⟩
set_option maxRecDepth 100000 in
theorem lifted (os : Os) (started : os.Started) (H : Type) (enc : TypeId × Value → H) :
    ReturnsInHanded {} Tryz.checked os 6 .any (fun w args => (Rows.topUsersSpec.pre enc Tryz.prog Tryz.f6 [] false w args ∧ laidMetH Tryz.prog Rows.topUsersRow.laid w) ∧ sizedMet enc Tryz.prog Tryz.f6 (OpenSpec.ofChange Rows.topUsersSpec) false w args)
      (Rows.topUsersSpec.post enc Tryz.prog Tryz.f6 false true false false) := by
  refine returnsInHanded_of_change_and (C := Tryz.checked) (X := fun w _ => laidMetH Tryz.prog Rows.topUsersRow.laid w) (fun _ _ _ hh h => h.of_heap hh) own started (by kernel_rfl) Tryz.func6
    (ChangeSpec.witness_shaped (enc := enc) (C := Tryz.checked) (os := os) (X := fun w _ => laidMetH Tryz.prog Rows.topUsersRow.laid w) false (World.laidAll Tryz.prog os Rows.topUsersRow.laid) #[.bool false, .int .u16 0] 8 (World.laidAll_os _ _ _) (World.shaped_of_ZipB (by kernel_rfl) (by kernel_rfl)) (by kernel_rfl) (by kernel_rfl) (by kernel_rfl) (by rw [MakeChecks.laidMetH_plain _ _ _ (by kernel_rfl)]; exact laidMet_laidAll _ (by kernel_rfl) (by kernel_rfl))) ?_
  intro W base args ds gs before hval hW _ _ hL _
  exact law_contractA (P := Tryz.prog) laidOut kinds pick (by kernel_rfl) rfl (by rfl) Tryz.underlying4
    (fun ds h => by
      have h' : ds.length = 2 := by rw [h, Tryz.params6]; rfl
      match ds, h' with | [d0, d1], _ => rfl) W base args ds gs before hval hW (tabs_in hL)
theorem closed : joinedFacts Tryz.prog 6 Tryz.f6 Rows.topUsersSpec Rows.topUsersRow = true := by
  unfold joinedFacts
  rw [fact0, fact1, fact2, fact3, fact4, fact5, fact6, fact7, fact8, fact9, fact10, fact11, fact12, fact13, fact14, fact15, fact16, fact17, fact18, fact19, fact20, fact21, fact22, fact23, fact24, fact25, fact26, fact27, fact29, fact30, fact31]
  kernel_rfl
theorem over : Rows.topUsersRow.holds Tryz.pinned (OpenSpec.ofChange Rows.topUsersSpec) :=
  OpenClaim.holds_of_wide 6 Tryz.f6 rfl rfl rfl rfl rfl rfl rfl ⟨rfl, rfl, rfl, rfl, rfl⟩ rfl rfl rfl rfl rfl named Tryz.func6 closed inst wrap
    (fun os started H enc _ => lifted os started H enc)
theorem proved : Rows.TopUsersSaid := over
#print axioms proved
end Go.Proofs.YtlccaffnepiapaaGreatDoor.TopUsers
namespace Go.Proofs.YtlccaffnepiapaaGreatDoor
open Go
/-- The row, under a short name. -/
theorem topUsers_row : Rows.TopUsersSaid := TopUsers.proved
/-- The tied card. -/
theorem topUsers_holds : Rows.TopUsersCardSaid :=
  Claim7.holds_tied_plain_at .later [] [.data, .data, .data, .data, .sentinel, .sentinel, .pinned] true (true, "70e3ab5d85cc6fffb5283b41ab0c5560ff30c4881980bf6218a7e149102c6a2b") true
    topUsers_row (fun _ h => by cases h) TopUsers.cw (fun _ h => by cases h) topUsers_row_tie rfl ⟨rfl, rfl⟩ (by kernel_rfl) rfl
    (fun f fn hf hfn => by
      obtain rfl : f = 6 := Option.some.inj (TopUsers.named.symm.trans hf) |>.symm
      obtain rfl : fn = Tryz.f6 := (Option.some.inj (Tryz.func6.symm.trans hfn)).symm
      exact ⟨TopUsers.looks0, fun j t ht => by
        rw [Tryz.params6] at ht
        have hm : t ∈ [4, 52] := by simpa using Array.mem_of_getElem? ht
        have hall : ([4, 52].all fun u => !Tryz.prog.wantsStandIn u) = true := by kernel_rfl
        exact (show Tryz.prog.wantsStandIn t = false by simpa using List.all_eq_true.1 hall t hm)⟩)
    TopUsers.goes0
end Go.Proofs.YtlccaffnepiapaaGreatDoor
