/-
  No cell of these rows narrows 'for every input' (looked for: loops, veiled, ifaces, maps, wideKeys, modest, calm, conditions, laid).
  DERIVED. THE GIVEN ROWS OF THIS SEAT. 6 by the template 'for every input the law returns true; each argument reads behind the call as it read before'; 0 by the template 'total and deterministic' (their statements: YtloiidjedmhpcaaTotals.lean).
  GIVEN WITH THE SEED: the statements are not yours to turn. If you find one false, say at which input.
  Laid BY PROGRAM, IN A SANDBOX (cutbox-rows.mjs): the forced cells as the released guide's own fill.sh prints them over the translation 6ef8777977aa3a63… (all of the seat's roots in one cut). By AI agents, Wed Nov 11 2026. No macro, syntax, notation, axiom, sorry.
-/
import Derived.Test.YtloiidjedmhpcaaChecked
import GoSem.Claim
import GoSem.ClaimJoined
import GoSem.ClaimMapViews
import Derived.JoinedTies
import Derived.KernelRfl
namespace Go.Proofs.Ytloiidjedmhpcaa
/- THE CELL 'sum', in the pinned program and in every row, IS THE sha256 OF THE DUMP (.gsa) THAT YtloiidjedmhpcaaProg.lean LOADS. Nothing in Lean hashes anything: it is a label: what it is worth is what the hold of that sum in a sandbox is worth. -/
noncomputable def Try.pinned : Pinned := { name := "ytloiidjedmhpcaa", sum := "6ef8777977aa3a630e89c4fcb3df6bfa2c73bdde398615c452c359404e84fd7d", checked := Try.checked }
namespace Rows
def none {H : Type} : Left H := { results := [], args := [] }

/-- 'suzerainlaw09.CsrApart': WHATEVER THE INPUT: true; the input reads as it did. -/
def csrApartSpec : ChangeSpec := { name := "csrApart", fn := fun _ => fun
  | [d1, d2, d3] => { results := [.lit (.bool true)], args := [d1, d2, d3] }
  | _ => none }
def csrApartRow : OpenClaim := { program := "ytloiidjedmhpcaa", sum := "6ef8777977aa3a630e89c4fcb3df6bfa2c73bdde398615c452c359404e84fd7d", func := "suzerain/suzerainlaw09.CsrApart", spec := "csrApart", unfollowed := true, recurses := true, apart := false }
def CsrApartSaid : Prop := csrApartRow.holds Try.pinned (OpenSpec.ofChange csrApartSpec)

/-- ITS FALSE NEIGHBOUR: 'it returns false'. Refute it at one input. -/
def csrApartWrong : ChangeSpec := { name := "csrApart", fn := fun _ => fun
  | [d1, d2, d3] => { results := [.lit (.bool false)], args := [d1, d2, d3] }
  | _ => none }
def CsrApartWrongFalsely : Prop := csrApartRow.holds Try.pinned (OpenSpec.ofChange csrApartWrong)

/-- 'suzerainlaw09.CsrLegal': WHATEVER THE INPUT: true; the input reads as it did. -/
def csrLegalSpec : ChangeSpec := { name := "csrLegal", fn := fun _ => fun
  | [d1, d2] => { results := [.lit (.bool true)], args := [d1, d2] }
  | _ => none }
def csrLegalRow : OpenClaim := { program := "ytloiidjedmhpcaa", sum := "6ef8777977aa3a630e89c4fcb3df6bfa2c73bdde398615c452c359404e84fd7d", func := "suzerain/suzerainlaw09.CsrLegal", spec := "csrLegal", unfollowed := true, recurses := true, apart := false }
def CsrLegalSaid : Prop := csrLegalRow.holds Try.pinned (OpenSpec.ofChange csrLegalSpec)

/-- ITS FALSE NEIGHBOUR: 'it returns false'. Refute it at one input. -/
def csrLegalWrong : ChangeSpec := { name := "csrLegal", fn := fun _ => fun
  | [d1, d2] => { results := [.lit (.bool false)], args := [d1, d2] }
  | _ => none }
def CsrLegalWrongFalsely : Prop := csrLegalRow.holds Try.pinned (OpenSpec.ofChange csrLegalWrong)

/-- 'suzerainlaw09.CsrAll': WHATEVER THE INPUT: true; the input reads as it did. -/
def csrAllSpec : ChangeSpec := { name := "csrAll", fn := fun _ => fun
  | [d1, d2] => { results := [.lit (.bool true)], args := [d1, d2] }
  | _ => none }
def csrAllRow : OpenClaim := { program := "ytloiidjedmhpcaa", sum := "6ef8777977aa3a630e89c4fcb3df6bfa2c73bdde398615c452c359404e84fd7d", func := "suzerain/suzerainlaw09.CsrAll", spec := "csrAll", unfollowed := true, recurses := true, apart := false }
def CsrAllSaid : Prop := csrAllRow.holds Try.pinned (OpenSpec.ofChange csrAllSpec)

/-- ITS FALSE NEIGHBOUR: 'it returns false'. Refute it at one input. -/
def csrAllWrong : ChangeSpec := { name := "csrAll", fn := fun _ => fun
  | [d1, d2] => { results := [.lit (.bool false)], args := [d1, d2] }
  | _ => none }
def CsrAllWrongFalsely : Prop := csrAllRow.holds Try.pinned (OpenSpec.ofChange csrAllWrong)

/-- 'suzerainlaw09.CsrDoes': WHATEVER THE INPUT: true; the input reads as it did. -/
def csrDoesSpec : ChangeSpec := { name := "csrDoes", fn := fun _ => fun
  | [d1, d2, d3] => { results := [.lit (.bool true)], args := [d1, d2, d3] }
  | _ => none }
def csrDoesRow : OpenClaim := { program := "ytloiidjedmhpcaa", sum := "6ef8777977aa3a630e89c4fcb3df6bfa2c73bdde398615c452c359404e84fd7d", func := "suzerain/suzerainlaw09.CsrDoes", spec := "csrDoes", unfollowed := true, recurses := true, apart := false }
def CsrDoesSaid : Prop := csrDoesRow.holds Try.pinned (OpenSpec.ofChange csrDoesSpec)

/-- ITS FALSE NEIGHBOUR: 'it returns false'. Refute it at one input. -/
def csrDoesWrong : ChangeSpec := { name := "csrDoes", fn := fun _ => fun
  | [d1, d2, d3] => { results := [.lit (.bool false)], args := [d1, d2, d3] }
  | _ => none }
def CsrDoesWrongFalsely : Prop := csrDoesRow.holds Try.pinned (OpenSpec.ofChange csrDoesWrong)

/-- 'suzerainlaw09.CsrCounters': WHATEVER THE INPUT: true; the input reads as it did. -/
def csrCountersSpec : ChangeSpec := { name := "csrCounters", fn := fun _ => fun
  | [d1, d2] => { results := [.lit (.bool true)], args := [d1, d2] }
  | _ => none }
def csrCountersRow : OpenClaim := { program := "ytloiidjedmhpcaa", sum := "6ef8777977aa3a630e89c4fcb3df6bfa2c73bdde398615c452c359404e84fd7d", func := "suzerain/suzerainlaw09.CsrCounters", spec := "csrCounters", unfollowed := true, recurses := true, apart := false }
def CsrCountersSaid : Prop := csrCountersRow.holds Try.pinned (OpenSpec.ofChange csrCountersSpec)

/-- ITS FALSE NEIGHBOUR: 'it returns false'. Refute it at one input. -/
def csrCountersWrong : ChangeSpec := { name := "csrCounters", fn := fun _ => fun
  | [d1, d2] => { results := [.lit (.bool false)], args := [d1, d2] }
  | _ => none }
def CsrCountersWrongFalsely : Prop := csrCountersRow.holds Try.pinned (OpenSpec.ofChange csrCountersWrong)

/-- 'suzerainlaw09.CsrSets': WHATEVER THE INPUT: true; the input reads as it did. -/
def csrSetsSpec : ChangeSpec := { name := "csrSets", fn := fun _ => fun
  | [d1, d2] => { results := [.lit (.bool true)], args := [d1, d2] }
  | _ => none }
def csrSetsRow : OpenClaim := { program := "ytloiidjedmhpcaa", sum := "6ef8777977aa3a630e89c4fcb3df6bfa2c73bdde398615c452c359404e84fd7d", func := "suzerain/suzerainlaw09.CsrSets", spec := "csrSets", unfollowed := true, recurses := true, apart := false }
def CsrSetsSaid : Prop := csrSetsRow.holds Try.pinned (OpenSpec.ofChange csrSetsSpec)

/-- ITS FALSE NEIGHBOUR: 'it returns false'. Refute it at one input. -/
def csrSetsWrong : ChangeSpec := { name := "csrSets", fn := fun _ => fun
  | [d1, d2] => { results := [.lit (.bool false)], args := [d1, d2] }
  | _ => none }
def CsrSetsWrongFalsely : Prop := csrSetsRow.holds Try.pinned (OpenSpec.ofChange csrSetsWrong)

/- THE SECOND FORM. 'bulk': how many values and letters a reading holds, each counted each time it is reached (what is shared counts as often as it is met; a slice's spare places count too). A statement '..UptoSaid' is the law's where the arguments, and the package variables that the reading takes, are together of bulk at most 1048576: NARROWER than '..Said'. Prove '..Said' where nothing that the law and all that it calls make is longer than what came in: it says more and counts as full. Else prove '..UptoSaid'. A law counts once. -/
mutual
def uptoBulk {H : Type} : DataW H → Nat
  | .lit (.string bytes) => bytes.length + 1
  | .lit _ => 1
  | .nil => 1
  | .ptr d => uptoBulk d + 1
  | .slice elems spare => uptoBulkAll elems + uptoBulkAll spare + 1
  | .agg parts => uptoBulkAll parts + 1
  | .iface _ d => uptoBulk d + 1
  | .map entries => uptoBulkEntries entries + 1
  | .held _ => 1
def uptoBulkAll {H : Type} : List (DataW H) → Nat
  | [] => 0
  | d :: r => uptoBulk d + uptoBulkAll r
def uptoBulkEntries {H : Type} : List (Lit × DataW H) → Nat
  | [] => 0
  | x :: r => uptoBulkEntry x + uptoBulkEntries r
def uptoBulkEntry {H : Type} : Lit × DataW H → Nat
  | (.string bytes, d) => bytes.length + uptoBulk d + 1
  | (_, d) => uptoBulk d + 1
 end
def uptoSmall : (H : Type) → List (DataW H) → Bool := fun _ ds => decide (uptoBulkAll ds ≤ 1048576)
def OpenSpec.upto (s : _root_.Go.ChangeSpec) : _root_.Go.OpenSpec := { _root_.Go.OpenSpec.ofChange s with cond := some uptoSmall }

/-- 'suzerainlaw09.CsrApart', WHERE WHAT IT READS IS OF BULK AT MOST 1048576: true; the input reads as it did. -/
def csrApartUptoRow : OpenClaim := { program := "ytloiidjedmhpcaa", sum := "6ef8777977aa3a630e89c4fcb3df6bfa2c73bdde398615c452c359404e84fd7d", func := "suzerain/suzerainlaw09.CsrApart", spec := "csrApart", unfollowed := true, recurses := true, apart := false, narrowed := true }
def CsrApartUptoSaid : Prop := csrApartUptoRow.holds Try.pinned (OpenSpec.upto csrApartSpec)

/-- 'suzerainlaw09.CsrLegal', WHERE WHAT IT READS IS OF BULK AT MOST 1048576: true; the input reads as it did. -/
def csrLegalUptoRow : OpenClaim := { program := "ytloiidjedmhpcaa", sum := "6ef8777977aa3a630e89c4fcb3df6bfa2c73bdde398615c452c359404e84fd7d", func := "suzerain/suzerainlaw09.CsrLegal", spec := "csrLegal", unfollowed := true, recurses := true, apart := false, narrowed := true }
def CsrLegalUptoSaid : Prop := csrLegalUptoRow.holds Try.pinned (OpenSpec.upto csrLegalSpec)

/-- 'suzerainlaw09.CsrAll', WHERE WHAT IT READS IS OF BULK AT MOST 1048576: true; the input reads as it did. -/
def csrAllUptoRow : OpenClaim := { program := "ytloiidjedmhpcaa", sum := "6ef8777977aa3a630e89c4fcb3df6bfa2c73bdde398615c452c359404e84fd7d", func := "suzerain/suzerainlaw09.CsrAll", spec := "csrAll", unfollowed := true, recurses := true, apart := false, narrowed := true }
def CsrAllUptoSaid : Prop := csrAllUptoRow.holds Try.pinned (OpenSpec.upto csrAllSpec)

/-- 'suzerainlaw09.CsrDoes', WHERE WHAT IT READS IS OF BULK AT MOST 1048576: true; the input reads as it did. -/
def csrDoesUptoRow : OpenClaim := { program := "ytloiidjedmhpcaa", sum := "6ef8777977aa3a630e89c4fcb3df6bfa2c73bdde398615c452c359404e84fd7d", func := "suzerain/suzerainlaw09.CsrDoes", spec := "csrDoes", unfollowed := true, recurses := true, apart := false, narrowed := true }
def CsrDoesUptoSaid : Prop := csrDoesUptoRow.holds Try.pinned (OpenSpec.upto csrDoesSpec)

/-- 'suzerainlaw09.CsrCounters', WHERE WHAT IT READS IS OF BULK AT MOST 1048576: true; the input reads as it did. -/
def csrCountersUptoRow : OpenClaim := { program := "ytloiidjedmhpcaa", sum := "6ef8777977aa3a630e89c4fcb3df6bfa2c73bdde398615c452c359404e84fd7d", func := "suzerain/suzerainlaw09.CsrCounters", spec := "csrCounters", unfollowed := true, recurses := true, apart := false, narrowed := true }
def CsrCountersUptoSaid : Prop := csrCountersUptoRow.holds Try.pinned (OpenSpec.upto csrCountersSpec)

/-- 'suzerainlaw09.CsrSets', WHERE WHAT IT READS IS OF BULK AT MOST 1048576: true; the input reads as it did. -/
def csrSetsUptoRow : OpenClaim := { program := "ytloiidjedmhpcaa", sum := "6ef8777977aa3a630e89c4fcb3df6bfa2c73bdde398615c452c359404e84fd7d", func := "suzerain/suzerainlaw09.CsrSets", spec := "csrSets", unfollowed := true, recurses := true, apart := false, narrowed := true }
def CsrSetsUptoSaid : Prop := csrSetsUptoRow.holds Try.pinned (OpenSpec.upto csrSetsSpec)

end Rows
end Go.Proofs.Ytloiidjedmhpcaa
