/-
  DERIVED. GIVEN WITH THE SEED: THE CARDS: each row of YtaiipnhnbpjplaaDoorRows.lean that lists a variable, with what it lists TIED to the program's text (the seventh form; the later family's looks); each row that meets fmt, with fmt's text TOLD by the authors' own Lean function (tested against real Go, not proved from fmt's source: count such statements apart). THE CARD IS WHAT COUNTS. Prove the row's statement (the work); the ties are given (YtaiipnhnbpjplaaDoorTie.lean); close each card by the builder's one call (the guide's Derived/Test/ToyasCard.lean, 'card_holds'). Laid BY PROGRAM, IN A SANDBOX (cutbox-door.mjs). By AI agents, Wed Nov 11 2026. No macro, syntax, notation, axiom, sorry.
-/
import Derived.Test.YtaiipnhnbpjplaaDoorRows
import GoSem.ClaimSeven
namespace Go.Proofs.YtaiipnhnbpjplaaDoor
namespace Rows

/-- THE TIED CARD OF 'suzerainlaw06.EncAll'. -/
def encAllCard : Claim7 := { stood := { row := encAllRow, standIns := [], harness := (true, "82b3145cddd84957564239319662a7f032c6bc35cca285d7f35570caedf0bb32"), looks := false }, kinds := [], alts := [], laidByText := true, laidKinds := [.data, .data, .data, .data, .pinned], laidTests := true, laidLooks := .later }
def EncAllCardSaid : Prop := Claim7.holds Tryd.pinned (.plain (OpenSpec.ofChange encAllSpec)) encAllCard

/-- THE TIED CARD OF 'suzerainlaw06.EncBack'. -/
def encBackCard : Claim7 := { stood := { row := encBackRow, standIns := [], harness := (true, "82b3145cddd84957564239319662a7f032c6bc35cca285d7f35570caedf0bb32"), looks := false }, kinds := [], alts := [], laidByText := true, laidKinds := [.data, .data, .data, .data, .pinned], laidTests := true, laidLooks := .later }
def EncBackCardSaid : Prop := Claim7.holds Tryd.pinned (.plain (OpenSpec.ofChange encBackSpec)) encBackCard

/-- THE TIED CARD OF 'suzerainlaw06.EncRefuses'. -/
def encRefusesCard : Claim7 := { stood := { row := encRefusesRow, standIns := [], harness := (true, "82b3145cddd84957564239319662a7f032c6bc35cca285d7f35570caedf0bb32"), looks := false }, kinds := [], alts := [], laidByText := true, laidKinds := [.data, .data, .data, .data, .pinned], laidTests := true, laidLooks := .later }
def EncRefusesCardSaid : Prop := Claim7.holds Tryd.pinned (.plain (OpenSpec.ofChange encRefusesSpec)) encRefusesCard

/-- THE TIED CARD OF 'suzerainlaw06.EncNames'. -/
def encNamesCard : Claim7 := { stood := { row := encNamesRow, standIns := [], harness := (true, "82b3145cddd84957564239319662a7f032c6bc35cca285d7f35570caedf0bb32"), looks := false }, kinds := [], alts := [], laidByText := true, laidKinds := [.data, .data, .data, .data, .pinned], laidTests := true, laidLooks := .later }
def EncNamesCardSaid : Prop := Claim7.holds Tryd.pinned (.plain (OpenSpec.ofChange encNamesSpec)) encNamesCard

/-- THE TIED CARD OF 'suzerainlaw06.EncRegisters'. -/
def encRegistersCard : Claim7 := { stood := { row := encRegistersRow, standIns := [], harness := (true, "82b3145cddd84957564239319662a7f032c6bc35cca285d7f35570caedf0bb32"), looks := false }, kinds := [], alts := [], laidByText := true, laidKinds := [.data, .data, .data, .data, .pinned], laidTests := true, laidLooks := .later }
def EncRegistersCardSaid : Prop := Claim7.holds Tryd.pinned (.plain (OpenSpec.ofChange encRegistersSpec)) encRegistersCard

/-- THE SECOND FORM's CARD OF 'suzerainlaw06.EncAll'. -/
def encAllUptoCard : Claim7 := { stood := { row := encAllUptoRow, standIns := [], harness := (true, "82b3145cddd84957564239319662a7f032c6bc35cca285d7f35570caedf0bb32"), looks := false }, kinds := [], alts := [], laidByText := true, laidKinds := [.data, .data, .data, .data, .pinned], laidTests := true, laidLooks := .later }
def EncAllUptoCardSaid : Prop := Claim7.holds Tryd.pinned (.plain (OpenSpec.upto encAllSpec)) encAllUptoCard

/-- THE SECOND FORM's CARD OF 'suzerainlaw06.EncBack'. -/
def encBackUptoCard : Claim7 := { stood := { row := encBackUptoRow, standIns := [], harness := (true, "82b3145cddd84957564239319662a7f032c6bc35cca285d7f35570caedf0bb32"), looks := false }, kinds := [], alts := [], laidByText := true, laidKinds := [.data, .data, .data, .data, .pinned], laidTests := true, laidLooks := .later }
def EncBackUptoCardSaid : Prop := Claim7.holds Tryd.pinned (.plain (OpenSpec.upto encBackSpec)) encBackUptoCard

/-- THE SECOND FORM's CARD OF 'suzerainlaw06.EncRefuses'. -/
def encRefusesUptoCard : Claim7 := { stood := { row := encRefusesUptoRow, standIns := [], harness := (true, "82b3145cddd84957564239319662a7f032c6bc35cca285d7f35570caedf0bb32"), looks := false }, kinds := [], alts := [], laidByText := true, laidKinds := [.data, .data, .data, .data, .pinned], laidTests := true, laidLooks := .later }
def EncRefusesUptoCardSaid : Prop := Claim7.holds Tryd.pinned (.plain (OpenSpec.upto encRefusesSpec)) encRefusesUptoCard

/-- THE SECOND FORM's CARD OF 'suzerainlaw06.EncNames'. -/
def encNamesUptoCard : Claim7 := { stood := { row := encNamesUptoRow, standIns := [], harness := (true, "82b3145cddd84957564239319662a7f032c6bc35cca285d7f35570caedf0bb32"), looks := false }, kinds := [], alts := [], laidByText := true, laidKinds := [.data, .data, .data, .data, .pinned], laidTests := true, laidLooks := .later }
def EncNamesUptoCardSaid : Prop := Claim7.holds Tryd.pinned (.plain (OpenSpec.upto encNamesSpec)) encNamesUptoCard

/-- THE SECOND FORM's CARD OF 'suzerainlaw06.EncRegisters'. -/
def encRegistersUptoCard : Claim7 := { stood := { row := encRegistersUptoRow, standIns := [], harness := (true, "82b3145cddd84957564239319662a7f032c6bc35cca285d7f35570caedf0bb32"), looks := false }, kinds := [], alts := [], laidByText := true, laidKinds := [.data, .data, .data, .data, .pinned], laidTests := true, laidLooks := .later }
def EncRegistersUptoCardSaid : Prop := Claim7.holds Tryd.pinned (.plain (OpenSpec.upto encRegistersSpec)) encRegistersUptoCard
end Rows
end Go.Proofs.YtaiipnhnbpjplaaDoor
