/-
  No cell of these rows narrows 'for every input' (looked for: loops, veiled, ifaces, maps, wideKeys, modest, calm, conditions, laid).
  DERIVED. THE GIVEN ROWS OF THIS SEAT. 5 by the template 'for every input the law returns true; each argument reads behind the call as it read before'; 0 by the template 'total and deterministic' (their statements: YthbdkghbkoibdaaTotals.lean).
  GIVEN WITH THE SEED: the statements are not yours to turn. If you find one false, say at which input.
  Laid BY PROGRAM, IN A SANDBOX (cutbox-rows.mjs): the forced cells as the released guide's own fill.sh prints them over the translation d05bfcc610b44e4d… (all of the seat's roots in one cut). By AI agents, Wed Nov 11 2026. No macro, syntax, notation, axiom, sorry.
-/
import Derived.Test.YthbdkghbkoibdaaChecked
import GoSem.Claim
import GoSem.ClaimJoined
import GoSem.ClaimMapViews
import Derived.JoinedTies
import Derived.KernelRfl
namespace Go.Proofs.Ythbdkghbkoibdaa
/- THE CELL 'sum', in the pinned program and in every row, IS THE sha256 OF THE DUMP (.gsa) THAT YthbdkghbkoibdaaProg.lean LOADS. Nothing in Lean hashes anything: it is a label: what it is worth is what the hold of that sum in a sandbox is worth. -/
noncomputable def Try.pinned : Pinned := { name := "ythbdkghbkoibdaa", sum := "d05bfcc610b44e4d23d5b22ea3f5b5f2641a11c0e64abe464a32a615b8326f21", checked := Try.checked }
namespace Rows
def none {H : Type} : Left H := { results := [], args := [] }

/-- 'suzerainlaw20.PmuCounts': WHATEVER THE INPUT: true; the input reads as it did. -/
def pmuCountsSpec : ChangeSpec := { name := "pmuCounts", fn := fun _ => fun
  | [d1, d2, d3] => { results := [.lit (.bool true)], args := [d1, d2, d3] }
  | _ => none }
def pmuCountsRow : OpenClaim := { program := "ythbdkghbkoibdaa", sum := "d05bfcc610b44e4d23d5b22ea3f5b5f2641a11c0e64abe464a32a615b8326f21", func := "suzerain/suzerainlaw20.PmuCounts", spec := "pmuCounts", unfollowed := true, recurses := true, apart := false }
def PmuCountsSaid : Prop := pmuCountsRow.holds Try.pinned (OpenSpec.ofChange pmuCountsSpec)

/-- ITS FALSE NEIGHBOUR: 'it returns false'. Refute it at one input. -/
def pmuCountsWrong : ChangeSpec := { name := "pmuCounts", fn := fun _ => fun
  | [d1, d2, d3] => { results := [.lit (.bool false)], args := [d1, d2, d3] }
  | _ => none }
def PmuCountsWrongFalsely : Prop := pmuCountsRow.holds Try.pinned (OpenSpec.ofChange pmuCountsWrong)

/-- 'suzerainlaw20.PmuSets': WHATEVER THE INPUT: true; the input reads as it did. -/
def pmuSetsSpec : ChangeSpec := { name := "pmuSets", fn := fun _ => fun
  | [d1, d2, d3] => { results := [.lit (.bool true)], args := [d1, d2, d3] }
  | _ => none }
def pmuSetsRow : OpenClaim := { program := "ythbdkghbkoibdaa", sum := "d05bfcc610b44e4d23d5b22ea3f5b5f2641a11c0e64abe464a32a615b8326f21", func := "suzerain/suzerainlaw20.PmuSets", spec := "pmuSets", unfollowed := true, recurses := true, apart := false }
def PmuSetsSaid : Prop := pmuSetsRow.holds Try.pinned (OpenSpec.ofChange pmuSetsSpec)

/-- ITS FALSE NEIGHBOUR: 'it returns false'. Refute it at one input. -/
def pmuSetsWrong : ChangeSpec := { name := "pmuSets", fn := fun _ => fun
  | [d1, d2, d3] => { results := [.lit (.bool false)], args := [d1, d2, d3] }
  | _ => none }
def PmuSetsWrongFalsely : Prop := pmuSetsRow.holds Try.pinned (OpenSpec.ofChange pmuSetsWrong)

/-- 'suzerainlaw20.PmuFills': WHATEVER THE INPUT: true; the input reads as it did. -/
def pmuFillsSpec : ChangeSpec := { name := "pmuFills", fn := fun _ => fun
  | [d1, d2] => { results := [.lit (.bool true)], args := [d1, d2] }
  | _ => none }
def pmuFillsRow : OpenClaim := { program := "ythbdkghbkoibdaa", sum := "d05bfcc610b44e4d23d5b22ea3f5b5f2641a11c0e64abe464a32a615b8326f21", func := "suzerain/suzerainlaw20.PmuFills", spec := "pmuFills", unfollowed := true, recurses := true, apart := false }
def PmuFillsSaid : Prop := pmuFillsRow.holds Try.pinned (OpenSpec.ofChange pmuFillsSpec)

/-- ITS FALSE NEIGHBOUR: 'it returns false'. Refute it at one input. -/
def pmuFillsWrong : ChangeSpec := { name := "pmuFills", fn := fun _ => fun
  | [d1, d2] => { results := [.lit (.bool false)], args := [d1, d2] }
  | _ => none }
def PmuFillsWrongFalsely : Prop := pmuFillsRow.holds Try.pinned (OpenSpec.ofChange pmuFillsWrong)

/-- 'suzerainlaw20.PmuPlays': WHATEVER THE INPUT: true; the input reads as it did. -/
def pmuPlaysSpec : ChangeSpec := { name := "pmuPlays", fn := fun _ => fun
  | [d] => { results := [.lit (.bool true)], args := [d] }
  | _ => none }
def pmuPlaysRow : OpenClaim := { program := "ythbdkghbkoibdaa", sum := "d05bfcc610b44e4d23d5b22ea3f5b5f2641a11c0e64abe464a32a615b8326f21", func := "suzerain/suzerainlaw20.PmuPlays", spec := "pmuPlays", unfollowed := true, recurses := true, apart := false }
def PmuPlaysSaid : Prop := pmuPlaysRow.holds Try.pinned (OpenSpec.ofChange pmuPlaysSpec)

/-- ITS FALSE NEIGHBOUR: 'it returns false'. Refute it at one input. -/
def pmuPlaysWrong : ChangeSpec := { name := "pmuPlays", fn := fun _ => fun
  | [d] => { results := [.lit (.bool false)], args := [d] }
  | _ => none }
def PmuPlaysWrongFalsely : Prop := pmuPlaysRow.holds Try.pinned (OpenSpec.ofChange pmuPlaysWrong)

/-- 'suzerainlaw20.PmuErrors': WHATEVER THE INPUT: true; the input reads as it did. -/
def pmuErrorsSpec : ChangeSpec := { name := "pmuErrors", fn := fun _ => fun
  | [d] => { results := [.lit (.bool true)], args := [d] }
  | _ => none }
def pmuErrorsRow : OpenClaim := { program := "ythbdkghbkoibdaa", sum := "d05bfcc610b44e4d23d5b22ea3f5b5f2641a11c0e64abe464a32a615b8326f21", func := "suzerain/suzerainlaw20.PmuErrors", spec := "pmuErrors", unfollowed := true, recurses := true, apart := false }
def PmuErrorsSaid : Prop := pmuErrorsRow.holds Try.pinned (OpenSpec.ofChange pmuErrorsSpec)

/-- ITS FALSE NEIGHBOUR: 'it returns false'. Refute it at one input. -/
def pmuErrorsWrong : ChangeSpec := { name := "pmuErrors", fn := fun _ => fun
  | [d] => { results := [.lit (.bool false)], args := [d] }
  | _ => none }
def PmuErrorsWrongFalsely : Prop := pmuErrorsRow.holds Try.pinned (OpenSpec.ofChange pmuErrorsWrong)

/- THE SECOND FORM. 'bulk': how many values and letters a reading holds, each counted each time it is reached (what is shared counts as often as it is met; a slice's spare places count too). A statement '..UptoSaid' is the law's where the arguments, and the package variables that the reading takes, are together of bulk at most 1048576: NARROWER than '..Said'. Prove '..Said' where nothing that the law and all that it calls make is longer than what came in: it says more and counts as full. Else prove '..UptoSaid'. A law counts once. -/
mutual
def uptoBulk {H : Type} : DataW H → Nat
  | .lit (.string bytes) => bytes.length + 1
  | .lit _ => 1
  | .nil => 1
  | .ptr d => uptoBulk d + 1
  | .slice elems spare => uptoBulkAll elems + uptoBulkAll spare + 1
  | .agg parts => uptoBulkAll parts + 1
  | .iface _ d => uptoBulk d + 1
  | .map entries => uptoBulkEntries entries + 1
  | .held _ => 1
def uptoBulkAll {H : Type} : List (DataW H) → Nat
  | [] => 0
  | d :: r => uptoBulk d + uptoBulkAll r
def uptoBulkEntries {H : Type} : List (Lit × DataW H) → Nat
  | [] => 0
  | x :: r => uptoBulkEntry x + uptoBulkEntries r
def uptoBulkEntry {H : Type} : Lit × DataW H → Nat
  | (.string bytes, d) => bytes.length + uptoBulk d + 1
  | (_, d) => uptoBulk d + 1
 end
def uptoSmall : (H : Type) → List (DataW H) → Bool := fun _ ds => decide (uptoBulkAll ds ≤ 1048576)
def OpenSpec.upto (s : _root_.Go.ChangeSpec) : _root_.Go.OpenSpec := { _root_.Go.OpenSpec.ofChange s with cond := some uptoSmall }

/-- 'suzerainlaw20.PmuCounts', WHERE WHAT IT READS IS OF BULK AT MOST 1048576: true; the input reads as it did. -/
def pmuCountsUptoRow : OpenClaim := { program := "ythbdkghbkoibdaa", sum := "d05bfcc610b44e4d23d5b22ea3f5b5f2641a11c0e64abe464a32a615b8326f21", func := "suzerain/suzerainlaw20.PmuCounts", spec := "pmuCounts", unfollowed := true, recurses := true, apart := false, narrowed := true }
def PmuCountsUptoSaid : Prop := pmuCountsUptoRow.holds Try.pinned (OpenSpec.upto pmuCountsSpec)

/-- 'suzerainlaw20.PmuSets', WHERE WHAT IT READS IS OF BULK AT MOST 1048576: true; the input reads as it did. -/
def pmuSetsUptoRow : OpenClaim := { program := "ythbdkghbkoibdaa", sum := "d05bfcc610b44e4d23d5b22ea3f5b5f2641a11c0e64abe464a32a615b8326f21", func := "suzerain/suzerainlaw20.PmuSets", spec := "pmuSets", unfollowed := true, recurses := true, apart := false, narrowed := true }
def PmuSetsUptoSaid : Prop := pmuSetsUptoRow.holds Try.pinned (OpenSpec.upto pmuSetsSpec)

/-- 'suzerainlaw20.PmuFills', WHERE WHAT IT READS IS OF BULK AT MOST 1048576: true; the input reads as it did. -/
def pmuFillsUptoRow : OpenClaim := { program := "ythbdkghbkoibdaa", sum := "d05bfcc610b44e4d23d5b22ea3f5b5f2641a11c0e64abe464a32a615b8326f21", func := "suzerain/suzerainlaw20.PmuFills", spec := "pmuFills", unfollowed := true, recurses := true, apart := false, narrowed := true }
def PmuFillsUptoSaid : Prop := pmuFillsUptoRow.holds Try.pinned (OpenSpec.upto pmuFillsSpec)

/-- 'suzerainlaw20.PmuPlays', WHERE WHAT IT READS IS OF BULK AT MOST 1048576: true; the input reads as it did. -/
def pmuPlaysUptoRow : OpenClaim := { program := "ythbdkghbkoibdaa", sum := "d05bfcc610b44e4d23d5b22ea3f5b5f2641a11c0e64abe464a32a615b8326f21", func := "suzerain/suzerainlaw20.PmuPlays", spec := "pmuPlays", unfollowed := true, recurses := true, apart := false, narrowed := true }
def PmuPlaysUptoSaid : Prop := pmuPlaysUptoRow.holds Try.pinned (OpenSpec.upto pmuPlaysSpec)

/-- 'suzerainlaw20.PmuErrors', WHERE WHAT IT READS IS OF BULK AT MOST 1048576: true; the input reads as it did. -/
def pmuErrorsUptoRow : OpenClaim := { program := "ythbdkghbkoibdaa", sum := "d05bfcc610b44e4d23d5b22ea3f5b5f2641a11c0e64abe464a32a615b8326f21", func := "suzerain/suzerainlaw20.PmuErrors", spec := "pmuErrors", unfollowed := true, recurses := true, apart := false, narrowed := true }
def PmuErrorsUptoSaid : Prop := pmuErrorsUptoRow.holds Try.pinned (OpenSpec.upto pmuErrorsSpec)

end Rows
end Go.Proofs.Ythbdkghbkoibdaa
