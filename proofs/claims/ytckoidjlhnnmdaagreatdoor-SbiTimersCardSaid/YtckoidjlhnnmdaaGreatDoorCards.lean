/-
  DERIVED. GIVEN WITH THE SEED: THE CARDS: each row of YtckoidjlhnnmdaaGreatDoorRows.lean that lists a variable, with what it lists TIED to the program's text (the seventh form; the later family's looks); each row that meets fmt, with fmt's text TOLD by the authors' own Lean function (tested against real Go, not proved from fmt's source: count such statements apart). THE CARD IS WHAT COUNTS. Prove the row's statement (the work); the ties are given (YtckoidjlhnnmdaaGreatDoorTie.lean); close each card by the builder's one call (the guide's Derived/Test/ToyasCard.lean, 'card_holds'). Laid BY PROGRAM, IN A SANDBOX (cutbox-door.mjs). By AI agents, Wed Nov 11 2026. No macro, syntax, notation, axiom, sorry.
-/
import Derived.Test.YtckoidjlhnnmdaaGreatDoorRows
import GoSem.ClaimSeven
namespace Go.Proofs.YtckoidjlhnnmdaaGreatDoor
namespace Rows

/-- THE TIED CARD OF 'suzerainlaw21.SbiHarts'. -/
def sbiHartsCard : Claim7 := { stood := { row := sbiHartsRow, standIns := [], harness := (true, "fe6ff7e06a657d020f2bc75fac5685650fef82d663969ed685b8431a4fbf7496"), looks := false }, kinds := [], alts := [], laidByText := true, laidKinds := [.data], laidTests := true, laidLooks := .later }
def SbiHartsCardSaid : Prop := Claim7.holds Tryz.pinned (.plain (OpenSpec.ofChange sbiHartsSpec)) sbiHartsCard

/-- THE TIED CARD OF 'suzerainlaw21.SbiConsole'. -/
def sbiConsoleCard : Claim7 := { stood := { row := sbiConsoleRow, standIns := [], harness := (true, "fe6ff7e06a657d020f2bc75fac5685650fef82d663969ed685b8431a4fbf7496"), looks := false }, kinds := [], alts := [], laidByText := true, laidKinds := [.data], laidTests := true, laidLooks := .later }
def SbiConsoleCardSaid : Prop := Claim7.holds Tryz.pinned (.plain (OpenSpec.ofChange sbiConsoleSpec)) sbiConsoleCard

/-- THE TIED CARD OF 'suzerainlaw21.SbiErrors'. -/
def sbiErrorsCard : Claim7 := { stood := { row := sbiErrorsRow, standIns := [], harness := (true, "fe6ff7e06a657d020f2bc75fac5685650fef82d663969ed685b8431a4fbf7496"), looks := false }, kinds := [], alts := [], laidByText := true, laidKinds := [.data], laidTests := true, laidLooks := .later }
def SbiErrorsCardSaid : Prop := Claim7.holds Tryz.pinned (.plain (OpenSpec.ofChange sbiErrorsSpec)) sbiErrorsCard

/-- THE TIED CARD OF 'suzerainlaw21.SbiTimers'. -/
def sbiTimersCard : Claim7 := { stood := { row := sbiTimersRow, standIns := [], harness := (true, "fe6ff7e06a657d020f2bc75fac5685650fef82d663969ed685b8431a4fbf7496"), looks := false }, kinds := [], alts := [], laidByText := true, laidKinds := [.data], laidTests := true, laidLooks := .later }
def SbiTimersCardSaid : Prop := Claim7.holds Tryz.pinned (.plain (OpenSpec.ofChange sbiTimersSpec)) sbiTimersCard

/-- THE SECOND FORM's CARD OF 'suzerainlaw21.SbiHarts'. -/
def sbiHartsUptoCard : Claim7 := { stood := { row := sbiHartsUptoRow, standIns := [], harness := (true, "fe6ff7e06a657d020f2bc75fac5685650fef82d663969ed685b8431a4fbf7496"), looks := false }, kinds := [], alts := [], laidByText := true, laidKinds := [.data], laidTests := true, laidLooks := .later }
def SbiHartsUptoCardSaid : Prop := Claim7.holds Tryz.pinned (.plain (OpenSpec.upto sbiHartsSpec)) sbiHartsUptoCard

/-- THE SECOND FORM's CARD OF 'suzerainlaw21.SbiConsole'. -/
def sbiConsoleUptoCard : Claim7 := { stood := { row := sbiConsoleUptoRow, standIns := [], harness := (true, "fe6ff7e06a657d020f2bc75fac5685650fef82d663969ed685b8431a4fbf7496"), looks := false }, kinds := [], alts := [], laidByText := true, laidKinds := [.data], laidTests := true, laidLooks := .later }
def SbiConsoleUptoCardSaid : Prop := Claim7.holds Tryz.pinned (.plain (OpenSpec.upto sbiConsoleSpec)) sbiConsoleUptoCard

/-- THE SECOND FORM's CARD OF 'suzerainlaw21.SbiErrors'. -/
def sbiErrorsUptoCard : Claim7 := { stood := { row := sbiErrorsUptoRow, standIns := [], harness := (true, "fe6ff7e06a657d020f2bc75fac5685650fef82d663969ed685b8431a4fbf7496"), looks := false }, kinds := [], alts := [], laidByText := true, laidKinds := [.data], laidTests := true, laidLooks := .later }
def SbiErrorsUptoCardSaid : Prop := Claim7.holds Tryz.pinned (.plain (OpenSpec.upto sbiErrorsSpec)) sbiErrorsUptoCard

/-- THE SECOND FORM's CARD OF 'suzerainlaw21.SbiTimers'. -/
def sbiTimersUptoCard : Claim7 := { stood := { row := sbiTimersUptoRow, standIns := [], harness := (true, "fe6ff7e06a657d020f2bc75fac5685650fef82d663969ed685b8431a4fbf7496"), looks := false }, kinds := [], alts := [], laidByText := true, laidKinds := [.data], laidTests := true, laidLooks := .later }
def SbiTimersUptoCardSaid : Prop := Claim7.holds Tryz.pinned (.plain (OpenSpec.upto sbiTimersSpec)) sbiTimersUptoCard
end Rows
end Go.Proofs.YtckoidjlhnnmdaaGreatDoor
