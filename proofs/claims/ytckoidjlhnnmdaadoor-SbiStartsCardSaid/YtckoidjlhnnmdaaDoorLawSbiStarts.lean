/- SbiStarts: for every input that the statement lets in the law returns true, and the input reads as it did. No condition. -/
import Derived.Test.YtckoidjlhnnmdaaDoorSyE
import Derived.Test.YtckoidjlhnnmdaaDoorRows
import Derived.Test.YtckoidjlhnnmdaaDoorTie
import Derived.Test.YtckoidjlhnnmdaaDoorCards
import Derived.LaidMore
import Derived.SevenTiedAt
namespace Go.Proofs.YtckoidjlhnnmdaaDoor.SbiStarts
open Go.ChangeShapes Go.WideShapes Go.ChangeAt Go.RowKit Go.Sy
set_option linter.unusedVariables false
theorem own : ownKnob Tryd.prog.godebug = none := by kernel_rfl
theorem laidOut : laidOutB Tryd.prog = true := by kernel_rfl
theorem mixed : Tryd.prog.follows .mixedOrders = true := by kernel_rfl

theorem sym : symArgs Tryd.prog Tryd.f4.params.toList 0 = some ([.int .u64 (.var 0 64), .agg [.int .u64 (.var 1 64), .int .u64 (.var 2 64)]], 3) := by kernel_rfl
set_option maxRecDepth 1000000 in
theorem run : (lawRun (env0 Tryd.prog 5000 false) 100 4 [] 3 [.int .u64 (.var 0 64), .agg [.int .u64 (.var 1 64), .int .u64 (.var 2 64)]]).good = true := by kernel_rfl
theorem door_met (os : Os) (args : Array Value) : laidMetH Tryd.prog Rows.sbiStartsRow.laid ((World.doorLaid Tryd.prog 400 os).forCall (fun _ _ => 0) ⟨#[], args, []⟩).memory :=
  laidMetH_of_parts3 (fuel := 8) (laidMet_of_run' 8 (by kernel_rfl) (by kernel_rfl)) (by kernel_rfl) (by kernel_rfl)
set_option maxRecDepth 100000 in
theorem lifted (os : Os) (started : os.Started) (H : Type) (enc : TypeId × Value → H) :
    ReturnsInHanded {} Tryd.checked os 4 .any (fun w args => (Rows.sbiStartsSpec.pre enc Tryd.prog Tryd.f4 [] false w args ∧ laidMetH Tryd.prog Rows.sbiStartsRow.laid w) ∧ sizedMet enc Tryd.prog Tryd.f4 (OpenSpec.ofChange Rows.sbiStartsSpec) false w args)
      (Rows.sbiStartsSpec.post enc Tryd.prog Tryd.f4 false true false false) := by
  refine returnsInHanded_of_change_and (C := Tryd.checked) (X := fun w _ => laidMetH Tryd.prog Rows.sbiStartsRow.laid w) (fun _ _ _ hh h => h.of_heap hh) own started (by kernel_rfl) Tryd.func4
    (ChangeSpec.witness_shaped (enc := enc) (C := Tryd.checked) (os := os) (X := fun w _ => laidMetH Tryd.prog Rows.sbiStartsRow.laid w) false (World.doorLaid Tryd.prog 400 os) #[.int .u64 0, .agg #[.int .u64 0, .int .u64 0]] 8 rfl (World.shaped_of_RefB (by kernel_rfl) (by kernel_rfl)) (by kernel_rfl) (by kernel_rfl) (by kernel_rfl) (door_met os _)) ?_
  intro W base args ds gs before hval hW _ _ _ _
  exact law_contract (P := Tryd.prog) laidOut sym (one_run (svs := ([.int .u64 (.var 0 64), .agg [.int .u64 (.var 1 64), .int .u64 (.var 2 64)]], 3)) mixed run (fun _ _ h => by cases h)) (by kernel_rfl) rfl (by rfl) Tryd.underlying4
    (fun ds h => by
      have h' : ds.length = 2 := by rw [h, Tryd.params4]; rfl
      match ds, h' with | [d0, d1], _ => rfl) W base args ds gs before hval hW
theorem over : Rows.sbiStartsRow.holds Tryd.pinned (OpenSpec.ofChange Rows.sbiStartsSpec) :=
  OpenClaim.holds_of_wide 4 Tryd.f4 rfl rfl rfl rfl rfl rfl rfl ⟨rfl, rfl, rfl, rfl, rfl⟩ rfl rfl rfl rfl rfl (by kernel_rfl) Tryd.func4 (by kernel_rfl)
    (of_decide_eq_true (by kernel_rfl)) (by unfold Func.isWrapper; first | (rw [if_pos (by decide +kernel)]; kernel_rfl) | (rw [if_neg (by decide +kernel)]; exact ⟨rfl, rfl⟩))
    (fun os started H enc _ => lifted os started H enc)
theorem proved : Rows.SbiStartsSaid := over
#print axioms proved
end Go.Proofs.YtckoidjlhnnmdaaDoor.SbiStarts
namespace Go.Proofs.YtckoidjlhnnmdaaDoor
open Go
/-- The row, under a short name. -/
theorem sbiStarts_row : Rows.SbiStartsSaid := SbiStarts.proved
/-- The tied card. -/
theorem sbiStarts_holds : Rows.SbiStartsCardSaid :=
  Claim7.holds_tied_plain_at .later [] [.data] true (true, "cf452a70e76a534c2d73d4f82097de31dbcee0dafb45a413ad81ffb50990d4f9") false
    sbiStarts_row (fun _ h => by cases h) (by kernel_rfl) (fun _ h => by cases h) sbiStarts_row_tie rfl ⟨rfl, rfl⟩ (by kernel_rfl) rfl
    (fun f fn hf hfn => by
      obtain rfl : f = 4 := Option.some.inj ((show Tryd.prog.funcNamed Rows.sbiStartsRow.func = some 4 by kernel_rfl).symm.trans hf) |>.symm
      obtain rfl : fn = Tryd.f4 := (Option.some.inj (Tryd.func4.symm.trans hfn)).symm
      exact ⟨by kernel_rfl, fun j t ht => by
        rw [Tryd.params4] at ht
        have hm : t ∈ [22, 39] := by simpa using Array.mem_of_getElem? ht
        have hall : ([22, 39].all fun u => !Tryd.prog.wantsStandIn u) = true := by kernel_rfl
        exact (show Tryd.prog.wantsStandIn t = false by simpa using List.all_eq_true.1 hall t hm)⟩)
    (by kernel_rfl)
end Go.Proofs.YtckoidjlhnnmdaaDoor
