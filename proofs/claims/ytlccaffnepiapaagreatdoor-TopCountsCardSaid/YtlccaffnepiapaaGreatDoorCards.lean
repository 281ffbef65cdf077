/-
  DERIVED. GIVEN WITH THE SEED: THE CARDS: each row of YtlccaffnepiapaaGreatDoorRows.lean that lists a variable, with what it lists TIED to the program's text (the seventh form; the later family's looks); each row that meets fmt, with fmt's text TOLD by the authors' own Lean function (tested against real Go, not proved from fmt's source: count such statements apart). THE CARD IS WHAT COUNTS. Prove the row's statement (the work); the ties are given (YtlccaffnepiapaaGreatDoorTie.lean); close each card by the builder's one call (the guide's Derived/Test/ToyasCard.lean, 'card_holds'). Laid BY PROGRAM, IN A SANDBOX (cutbox-door.mjs). By AI agents, Wed Nov 11 2026. No macro, syntax, notation, axiom, sorry.
-/
import Derived.Test.YtlccaffnepiapaaGreatDoorRows
import GoSem.ClaimSeven
namespace Go.Proofs.YtlccaffnepiapaaGreatDoor
namespace Rows

/-- THE TIED CARD OF 'suzeraintop.TopIpis'. -/
def topIpisCard : Claim7 := { stood := { row := topIpisRow, standIns := [], harness := (true, "70e3ab5d85cc6fffb5283b41ab0c5560ff30c4881980bf6218a7e149102c6a2b"), looks := true }, kinds := [], alts := [], laidByText := true, laidKinds := [.data, .data, .data, .data, .sentinel, .sentinel, .pinned], laidTests := true, laidLooks := .later }
def TopIpisCardSaid : Prop := Claim7.holds Tryz.pinned (.plain (OpenSpec.ofChange topIpisSpec)) topIpisCard

/-- THE TIED CARD OF 'suzeraintop.TopCounts'. -/
def topCountsCard : Claim7 := { stood := { row := topCountsRow, standIns := [], harness := (true, "70e3ab5d85cc6fffb5283b41ab0c5560ff30c4881980bf6218a7e149102c6a2b"), looks := true }, kinds := [], alts := [], laidByText := true, laidKinds := [.data, .data, .data, .data, .sentinel, .sentinel, .pinned], laidTests := true, laidLooks := .later }
def TopCountsCardSaid : Prop := Claim7.holds Tryz.pinned (.plain (OpenSpec.ofChange topCountsSpec)) topCountsCard

/-- THE TIED CARD OF 'suzeraintop.TopDivides'. -/
def topDividesCard : Claim7 := { stood := { row := topDividesRow, standIns := [], harness := (true, "70e3ab5d85cc6fffb5283b41ab0c5560ff30c4881980bf6218a7e149102c6a2b"), looks := true }, kinds := [], alts := [], laidByText := true, laidKinds := [.data, .data, .data, .data, .sentinel, .sentinel, .pinned], laidTests := true, laidLooks := .later }
def TopDividesCardSaid : Prop := Claim7.holds Tryz.pinned (.plain (OpenSpec.ofChange topDividesSpec)) topDividesCard

/-- THE TIED CARD OF 'suzeraintop.TopUsers'. -/
def topUsersCard : Claim7 := { stood := { row := topUsersRow, standIns := [], harness := (true, "70e3ab5d85cc6fffb5283b41ab0c5560ff30c4881980bf6218a7e149102c6a2b"), looks := true }, kinds := [], alts := [], laidByText := true, laidKinds := [.data, .data, .data, .data, .sentinel, .sentinel, .pinned], laidTests := true, laidLooks := .later }
def TopUsersCardSaid : Prop := Claim7.holds Tryz.pinned (.plain (OpenSpec.ofChange topUsersSpec)) topUsersCard

/-- THE TIED CARD OF 'suzeraintop.TopResets'. -/
def topResetsCard : Claim7 := { stood := { row := topResetsRow, standIns := [], harness := (true, "70e3ab5d85cc6fffb5283b41ab0c5560ff30c4881980bf6218a7e149102c6a2b"), looks := true }, kinds := [], alts := [], laidByText := true, laidKinds := [.data, .data, .data, .data, .sentinel, .sentinel, .pinned], laidTests := true, laidLooks := .later }
def TopResetsCardSaid : Prop := Claim7.holds Tryz.pinned (.plain (OpenSpec.ofChange topResetsSpec)) topResetsCard

/-- THE SECOND FORM's CARD OF 'suzeraintop.TopIpis'. -/
def topIpisUptoCard : Claim7 := { stood := { row := topIpisUptoRow, standIns := [], harness := (true, "70e3ab5d85cc6fffb5283b41ab0c5560ff30c4881980bf6218a7e149102c6a2b"), looks := true }, kinds := [], alts := [], laidByText := true, laidKinds := [.data, .data, .data, .data, .sentinel, .sentinel, .pinned], laidTests := true, laidLooks := .later }
def TopIpisUptoCardSaid : Prop := Claim7.holds Tryz.pinned (.plain (OpenSpec.upto topIpisSpec)) topIpisUptoCard

/-- THE SECOND FORM's CARD OF 'suzeraintop.TopCounts'. -/
def topCountsUptoCard : Claim7 := { stood := { row := topCountsUptoRow, standIns := [], harness := (true, "70e3ab5d85cc6fffb5283b41ab0c5560ff30c4881980bf6218a7e149102c6a2b"), looks := true }, kinds := [], alts := [], laidByText := true, laidKinds := [.data, .data, .data, .data, .sentinel, .sentinel, .pinned], laidTests := true, laidLooks := .later }
def TopCountsUptoCardSaid : Prop := Claim7.holds Tryz.pinned (.plain (OpenSpec.upto topCountsSpec)) topCountsUptoCard

/-- THE SECOND FORM's CARD OF 'suzeraintop.TopDivides'. -/
def topDividesUptoCard : Claim7 := { stood := { row := topDividesUptoRow, standIns := [], harness := (true, "70e3ab5d85cc6fffb5283b41ab0c5560ff30c4881980bf6218a7e149102c6a2b"), looks := true }, kinds := [], alts := [], laidByText := true, laidKinds := [.data, .data, .data, .data, .sentinel, .sentinel, .pinned], laidTests := true, laidLooks := .later }
def TopDividesUptoCardSaid : Prop := Claim7.holds Tryz.pinned (.plain (OpenSpec.upto topDividesSpec)) topDividesUptoCard

/-- THE SECOND FORM's CARD OF 'suzeraintop.TopUsers'. -/
def topUsersUptoCard : Claim7 := { stood := { row := topUsersUptoRow, standIns := [], harness := (true, "70e3ab5d85cc6fffb5283b41ab0c5560ff30c4881980bf6218a7e149102c6a2b"), looks := true }, kinds := [], alts := [], laidByText := true, laidKinds := [.data, .data, .data, .data, .sentinel, .sentinel, .pinned], laidTests := true, laidLooks := .later }
def TopUsersUptoCardSaid : Prop := Claim7.holds Tryz.pinned (.plain (OpenSpec.upto topUsersSpec)) topUsersUptoCard

/-- THE SECOND FORM's CARD OF 'suzeraintop.TopResets'. -/
def topResetsUptoCard : Claim7 := { stood := { row := topResetsUptoRow, standIns := [], harness := (true, "70e3ab5d85cc6fffb5283b41ab0c5560ff30c4881980bf6218a7e149102c6a2b"), looks := true }, kinds := [], alts := [], laidByText := true, laidKinds := [.data, .data, .data, .data, .sentinel, .sentinel, .pinned], laidTests := true, laidLooks := .later }
def TopResetsUptoCardSaid : Prop := Claim7.holds Tryz.pinned (.plain (OpenSpec.upto topResetsSpec)) topResetsUptoCard
end Rows
end Go.Proofs.YtlccaffnepiapaaGreatDoor
