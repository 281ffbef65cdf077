/- SbiTimers: for every input that the statement lets in the law returns true, and the input reads as it did. No condition. -/
import Derived.Test.YtckoidjlhnnmdaaGreatDoorSyE
import Derived.Test.YtckoidjlhnnmdaaGreatDoorRows
import Derived.Test.YtckoidjlhnnmdaaGreatDoorTie
import Derived.Test.YtckoidjlhnnmdaaGreatDoorCards
import Derived.LaidMore
import Derived.SevenTiedAt
namespace Go.Proofs.YtckoidjlhnnmdaaGreatDoor.SbiTimers
open Go.ChangeShapes Go.WideShapes Go.ChangeAt Go.RowKit Go.Sy
set_option linter.unusedVariables false
theorem own : ownKnob Tryz.prog.godebug = none := by kernel_rfl
theorem laidOut : laidOutB Tryz.prog = true := by kernel_rfl
theorem mixed : Tryz.prog.follows .mixedOrders = true := by kernel_rfl

theorem sym : symArgs Tryz.prog Tryz.f6.params.toList 0 = some ([.int .u8 (.var 0 8), .int .u64 (.var 1 64), .int .u64 (.var 2 64)], 3) := by kernel_rfl
set_option maxRecDepth 1000000 in
theorem run : (lawRun (env0 Tryz.prog 5000 false) 100 6 [] 3 [.int .u8 (.var 0 8), .int .u64 (.var 1 64), .int .u64 (.var 2 64)]).good = true := by kernel_rfl
theorem door_met (os : Os) (args : Array Value) : laidMetH Tryz.prog Rows.sbiTimersRow.laid ((World.doorLaid Tryz.prog 400 os).forCall (fun _ _ => 0) ⟨#[], args, []⟩).memory :=
  laidMetH_of_parts3 (fuel := 8) (laidMet_of_run' 8 (by kernel_rfl) (by kernel_rfl)) (by kernel_rfl) (by kernel_rfl)
set_option maxRecDepth 100000 in
theorem lifted (os : Os) (started : os.Started) (H : Type) (enc : TypeId × Value → H) :
    ReturnsInHanded {} Tryz.checked os 6 .any (fun w args => (Rows.sbiTimersSpec.pre enc Tryz.prog Tryz.f6 [] false w args ∧ laidMetH Tryz.prog Rows.sbiTimersRow.laid w) ∧ sizedMet enc Tryz.prog Tryz.f6 (OpenSpec.ofChange Rows.sbiTimersSpec) false w args)
      (Rows.sbiTimersSpec.post enc Tryz.prog Tryz.f6 false true false false) := by
  refine returnsInHanded_of_change_and (C := Tryz.checked) (X := fun w _ => laidMetH Tryz.prog Rows.sbiTimersRow.laid w) (fun _ _ _ hh h => h.of_heap hh) own started (by kernel_rfl) Tryz.func6
    (ChangeSpec.witness_shaped (enc := enc) (C := Tryz.checked) (os := os) (X := fun w _ => laidMetH Tryz.prog Rows.sbiTimersRow.laid w) false (World.doorLaid Tryz.prog 400 os) #[.int .u8 0, .int .u64 0, .int .u64 0] 8 rfl (World.shaped_of_RefB (by kernel_rfl) (by kernel_rfl)) (by kernel_rfl) (by kernel_rfl) (by kernel_rfl) (door_met os _)) ?_
  intro W base args ds gs before hval hW _ _ _ _
  exact law_contract (P := Tryz.prog) laidOut sym (one_run (svs := ([.int .u8 (.var 0 8), .int .u64 (.var 1 64), .int .u64 (.var 2 64)], 3)) mixed run (fun _ _ h => by cases h)) (by kernel_rfl) rfl (by rfl) Tryz.underlying4
    (fun ds h => by
      have h' : ds.length = 3 := by rw [h, Tryz.params6]; rfl
      match ds, h' with | [d0, d1, d2], _ => rfl) W base args ds gs before hval hW
theorem over : Rows.sbiTimersRow.holds Tryz.pinned (OpenSpec.ofChange Rows.sbiTimersSpec) :=
  OpenClaim.holds_of_wide 6 Tryz.f6 rfl rfl rfl rfl rfl rfl rfl ⟨rfl, rfl, rfl, rfl, rfl⟩ rfl rfl rfl rfl rfl (by kernel_rfl) Tryz.func6 (by kernel_rfl)
    (of_decide_eq_true (by kernel_rfl)) (by unfold Func.isWrapper; first | (rw [if_pos (by decide +kernel)]; kernel_rfl) | (rw [if_neg (by decide +kernel)]; exact ⟨rfl, rfl⟩))
    (fun os started H enc _ => lifted os started H enc)
theorem proved : Rows.SbiTimersSaid := over
#print axioms proved
end Go.Proofs.YtckoidjlhnnmdaaGreatDoor.SbiTimers
namespace Go.Proofs.YtckoidjlhnnmdaaGreatDoor
open Go
/-- The row, under a short name. -/
theorem sbiTimers_row : Rows.SbiTimersSaid := SbiTimers.proved
/-- The tied card. -/
theorem sbiTimers_holds : Rows.SbiTimersCardSaid :=
  Claim7.holds_tied_plain_at .later [] [.data] true (true, "fe6ff7e06a657d020f2bc75fac5685650fef82d663969ed685b8431a4fbf7496") false
    sbiTimers_row (fun _ h => by cases h) (by kernel_rfl) (fun _ h => by cases h) sbiTimers_row_tie rfl ⟨rfl, rfl⟩ (by kernel_rfl) rfl
    (fun f fn hf hfn => by
      obtain rfl : f = 6 := Option.some.inj ((show Tryz.prog.funcNamed Rows.sbiTimersRow.func = some 6 by kernel_rfl).symm.trans hf) |>.symm
      obtain rfl : fn = Tryz.f6 := (Option.some.inj (Tryz.func6.symm.trans hfn)).symm
      exact ⟨by kernel_rfl, fun j t ht => by
        rw [Tryz.params6] at ht
        have hm : t ∈ [5, 22, 22] := by simpa using Array.mem_of_getElem? ht
        have hall : ([5, 22, 22].all fun u => !Tryz.prog.wantsStandIn u) = true := by kernel_rfl
        exact (show Tryz.prog.wantsStandIn t = false by simpa using List.all_eq_true.1 hall t hm)⟩)
    (by kernel_rfl)
end Go.Proofs.YtckoidjlhnnmdaaGreatDoor
