/-
  DERIVED. GIVEN WITH THE SEED: THE CARDS: each row of YtnakloibjdpmgaaGreatDoorRows.lean that lists a variable, with what it lists TIED to the program's text (the seventh form; the later family's looks); each row that meets fmt, with fmt's text TOLD by the authors' own Lean function (tested against real Go, not proved from fmt's source: count such statements apart). THE CARD IS WHAT COUNTS. Prove the row's statement (the work); the ties are given (YtnakloibjdpmgaaGreatDoorTie.lean); close each card by the builder's one call (the guide's Derived/Test/ToyasCard.lean, 'card_holds'). Laid BY PROGRAM, IN A SANDBOX (cutbox-door.mjs). By AI agents, Wed Nov 11 2026. No macro, syntax, notation, axiom, sorry.
-/
import Derived.Test.YtnakloibjdpmgaaGreatDoorRows
import GoSem.ClaimSeven
namespace Go.Proofs.YtnakloibjdpmgaaGreatDoor
namespace Rows

/-- THE TIED CARD OF 'suzerainlaw22.PlatIllegal'. -/
def platIllegalCard : Claim7 := { stood := { row := platIllegalRow, standIns := [], harness := (true, "7320964ad81cbc5e5dd6b9ba09afa430feaa2081f5eff0ee16d852eef5a24c49"), looks := false }, kinds := [], alts := [], laidByText := true, laidKinds := [.data], laidTests := true, laidLooks := .later }
def PlatIllegalCardSaid : Prop := Claim7.holds Tryz.pinned (.plain (OpenSpec.ofChange platIllegalSpec)) platIllegalCard

/-- THE TIED CARD OF 'suzerainlaw22.PlatBoots'. -/
def platBootsCard : Claim7 := { stood := { row := platBootsRow, standIns := [], harness := (true, "7320964ad81cbc5e5dd6b9ba09afa430feaa2081f5eff0ee16d852eef5a24c49"), looks := false }, kinds := [], alts := [], laidByText := true, laidKinds := [.data], laidTests := true, laidLooks := .later }
def PlatBootsCardSaid : Prop := Claim7.holds Tryz.pinned (.plain (OpenSpec.ofChange platBootsSpec)) platBootsCard

/-- THE TIED CARD OF 'suzerainlaw22.PlatTicks'. -/
def platTicksCard : Claim7 := { stood := { row := platTicksRow, standIns := [], harness := (true, "7320964ad81cbc5e5dd6b9ba09afa430feaa2081f5eff0ee16d852eef5a24c49"), looks := false }, kinds := [], alts := [], laidByText := true, laidKinds := [.data], laidTests := true, laidLooks := .later }
def PlatTicksCardSaid : Prop := Claim7.holds Tryz.pinned (.plain (OpenSpec.ofChange platTicksSpec)) platTicksCard

/-- THE TIED CARD OF 'suzerainlaw22.PlatStops'. -/
def platStopsCard : Claim7 := { stood := { row := platStopsRow, standIns := [], harness := (true, "7320964ad81cbc5e5dd6b9ba09afa430feaa2081f5eff0ee16d852eef5a24c49"), looks := false }, kinds := [], alts := [], laidByText := true, laidKinds := [.data], laidTests := true, laidLooks := .later }
def PlatStopsCardSaid : Prop := Claim7.holds Tryz.pinned (.plain (OpenSpec.ofChange platStopsSpec)) platStopsCard

/-- THE SECOND FORM's CARD OF 'suzerainlaw22.PlatIllegal'. -/
def platIllegalUptoCard : Claim7 := { stood := { row := platIllegalUptoRow, standIns := [], harness := (true, "7320964ad81cbc5e5dd6b9ba09afa430feaa2081f5eff0ee16d852eef5a24c49"), looks := false }, kinds := [], alts := [], laidByText := true, laidKinds := [.data], laidTests := true, laidLooks := .later }
def PlatIllegalUptoCardSaid : Prop := Claim7.holds Tryz.pinned (.plain (OpenSpec.upto platIllegalSpec)) platIllegalUptoCard

/-- THE SECOND FORM's CARD OF 'suzerainlaw22.PlatBoots'. -/
def platBootsUptoCard : Claim7 := { stood := { row := platBootsUptoRow, standIns := [], harness := (true, "7320964ad81cbc5e5dd6b9ba09afa430feaa2081f5eff0ee16d852eef5a24c49"), looks := false }, kinds := [], alts := [], laidByText := true, laidKinds := [.data], laidTests := true, laidLooks := .later }
def PlatBootsUptoCardSaid : Prop := Claim7.holds Tryz.pinned (.plain (OpenSpec.upto platBootsSpec)) platBootsUptoCard

/-- THE SECOND FORM's CARD OF 'suzerainlaw22.PlatTicks'. -/
def platTicksUptoCard : Claim7 := { stood := { row := platTicksUptoRow, standIns := [], harness := (true, "7320964ad81cbc5e5dd6b9ba09afa430feaa2081f5eff0ee16d852eef5a24c49"), looks := false }, kinds := [], alts := [], laidByText := true, laidKinds := [.data], laidTests := true, laidLooks := .later }
def PlatTicksUptoCardSaid : Prop := Claim7.holds Tryz.pinned (.plain (OpenSpec.upto platTicksSpec)) platTicksUptoCard

/-- THE SECOND FORM's CARD OF 'suzerainlaw22.PlatStops'. -/
def platStopsUptoCard : Claim7 := { stood := { row := platStopsUptoRow, standIns := [], harness := (true, "7320964ad81cbc5e5dd6b9ba09afa430feaa2081f5eff0ee16d852eef5a24c49"), looks := false }, kinds := [], alts := [], laidByText := true, laidKinds := [.data], laidTests := true, laidLooks := .later }
def PlatStopsUptoCardSaid : Prop := Claim7.holds Tryz.pinned (.plain (OpenSpec.upto platStopsSpec)) platStopsUptoCard
end Rows
end Go.Proofs.YtnakloibjdpmgaaGreatDoor
