/-
  DERIVED. GIVEN WITH THE SEED: THE CARDS: each row of YtckoidjlhnnmdaaDoorRows.lean that lists a variable, with what it lists TIED to the program's text (the seventh form; the later family's looks); each row that meets fmt, with fmt's text TOLD by the authors' own Lean function (tested against real Go, not proved from fmt's source: count such statements apart). THE CARD IS WHAT COUNTS. Prove the row's statement (the work); the ties are given (YtckoidjlhnnmdaaDoorTie.lean); close each card by the builder's one call (the guide's Derived/Test/ToyasCard.lean, 'card_holds'). Laid BY PROGRAM, IN A SANDBOX (cutbox-door.mjs). By AI agents, Wed Nov 11 2026. No macro, syntax, notation, axiom, sorry.
-/
import Derived.Test.YtckoidjlhnnmdaaDoorRows
import GoSem.ClaimSeven
namespace Go.Proofs.YtckoidjlhnnmdaaDoor
namespace Rows

/-- THE TIED CARD OF 'suzerainlaw21.SbiResets'. -/
def sbiResetsCard : Claim7 := { stood := { row := sbiResetsRow, standIns := [], harness := (true, "cf452a70e76a534c2d73d4f82097de31dbcee0dafb45a413ad81ffb50990d4f9"), looks := false }, kinds := [], alts := [], laidByText := true, laidKinds := [.data], laidTests := true, laidLooks := .later }
def SbiResetsCardSaid : Prop := Claim7.holds Tryd.pinned (.plain (OpenSpec.ofChange sbiResetsSpec)) sbiResetsCard

/-- THE TIED CARD OF 'suzerainlaw21.SbiStarts'. -/
def sbiStartsCard : Claim7 := { stood := { row := sbiStartsRow, standIns := [], harness := (true, "cf452a70e76a534c2d73d4f82097de31dbcee0dafb45a413ad81ffb50990d4f9"), looks := false }, kinds := [], alts := [], laidByText := true, laidKinds := [.data], laidTests := true, laidLooks := .later }
def SbiStartsCardSaid : Prop := Claim7.holds Tryd.pinned (.plain (OpenSpec.ofChange sbiStartsSpec)) sbiStartsCard

/-- THE TIED CARD OF 'suzerainlaw21.SbiSuspends'. -/
def sbiSuspendsCard : Claim7 := { stood := { row := sbiSuspendsRow, standIns := [], harness := (true, "cf452a70e76a534c2d73d4f82097de31dbcee0dafb45a413ad81ffb50990d4f9"), looks := false }, kinds := [], alts := [], laidByText := true, laidKinds := [.data], laidTests := true, laidLooks := .later }
def SbiSuspendsCardSaid : Prop := Claim7.holds Tryd.pinned (.plain (OpenSpec.ofChange sbiSuspendsSpec)) sbiSuspendsCard

/-- THE SECOND FORM's CARD OF 'suzerainlaw21.SbiResets'. -/
def sbiResetsUptoCard : Claim7 := { stood := { row := sbiResetsUptoRow, standIns := [], harness := (true, "cf452a70e76a534c2d73d4f82097de31dbcee0dafb45a413ad81ffb50990d4f9"), looks := false }, kinds := [], alts := [], laidByText := true, laidKinds := [.data], laidTests := true, laidLooks := .later }
def SbiResetsUptoCardSaid : Prop := Claim7.holds Tryd.pinned (.plain (OpenSpec.upto sbiResetsSpec)) sbiResetsUptoCard

/-- THE SECOND FORM's CARD OF 'suzerainlaw21.SbiStarts'. -/
def sbiStartsUptoCard : Claim7 := { stood := { row := sbiStartsUptoRow, standIns := [], harness := (true, "cf452a70e76a534c2d73d4f82097de31dbcee0dafb45a413ad81ffb50990d4f9"), looks := false }, kinds := [], alts := [], laidByText := true, laidKinds := [.data], laidTests := true, laidLooks := .later }
def SbiStartsUptoCardSaid : Prop := Claim7.holds Tryd.pinned (.plain (OpenSpec.upto sbiStartsSpec)) sbiStartsUptoCard

/-- THE SECOND FORM's CARD OF 'suzerainlaw21.SbiSuspends'. -/
def sbiSuspendsUptoCard : Claim7 := { stood := { row := sbiSuspendsUptoRow, standIns := [], harness := (true, "cf452a70e76a534c2d73d4f82097de31dbcee0dafb45a413ad81ffb50990d4f9"), looks := false }, kinds := [], alts := [], laidByText := true, laidKinds := [.data], laidTests := true, laidLooks := .later }
def SbiSuspendsUptoCardSaid : Prop := Claim7.holds Tryd.pinned (.plain (OpenSpec.upto sbiSuspendsSpec)) sbiSuspendsUptoCard
end Rows
end Go.Proofs.YtckoidjlhnnmdaaDoor
