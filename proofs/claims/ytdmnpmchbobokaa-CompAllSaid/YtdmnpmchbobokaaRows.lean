/-
  No cell of these rows narrows 'for every input' (looked for: loops, veiled, ifaces, maps, wideKeys, modest, calm, conditions, laid).
  DERIVED. THE GIVEN ROWS OF THIS SEAT. 4 by the template 'for every input the law returns true; each argument reads behind the call as it read before'; 0 by the template 'total and deterministic' (their statements: YtdmnpmchbobokaaTotals.lean).
  GIVEN WITH THE SEED: the statements are not yours to turn. If you find one false, say at which input.
  Laid BY PROGRAM, IN A SANDBOX (cutbox-rows.mjs): the forced cells as the released guide's own fill.sh prints them over the translation 227df3cd47dd2136… (all of the seat's roots in one cut). By AI agents, Wed Nov 11 2026. No macro, syntax, notation, axiom, sorry.
-/
import Derived.Test.YtdmnpmchbobokaaChecked
import GoSem.Claim
import GoSem.ClaimJoined
import GoSem.ClaimMapViews
import Derived.JoinedTies
import Derived.KernelRfl
namespace Go.Proofs.Ytdmnpmchbobokaa
/- THE CELL 'sum', in the pinned program and in every row, IS THE sha256 OF THE DUMP (.gsa) THAT YtdmnpmchbobokaaProg.lean LOADS. Nothing in Lean hashes anything: it is a label: what it is worth is what the hold of that sum in a sandbox is worth. -/
noncomputable def Try.pinned : Pinned := { name := "ytdmnpmchbobokaa", sum := "227df3cd47dd2136c8698a04b769250a1ad62ff0e5813e6a6a1b8a670065988a", checked := Try.checked }
namespace Rows
def none {H : Type} : Left H := { results := [], args := [] }

/-- 'suzerainlaw05.CompFields': WHATEVER THE INPUT: true; the input reads as it did. -/
def compFieldsSpec : ChangeSpec := { name := "compFields", fn := fun _ => fun
  | [d] => { results := [.lit (.bool true)], args := [d] }
  | _ => none }
def compFieldsRow : OpenClaim := { program := "ytdmnpmchbobokaa", sum := "227df3cd47dd2136c8698a04b769250a1ad62ff0e5813e6a6a1b8a670065988a", func := "suzerain/suzerainlaw05.CompFields", spec := "compFields", plainKeys := false, apart := false }
def CompFieldsSaid : Prop := compFieldsRow.holds Try.pinned (OpenSpec.ofChange compFieldsSpec)

/-- ITS FALSE NEIGHBOUR: 'it returns false'. Refute it at one input. -/
def compFieldsWrong : ChangeSpec := { name := "compFields", fn := fun _ => fun
  | [d] => { results := [.lit (.bool false)], args := [d] }
  | _ => none }
def CompFieldsWrongFalsely : Prop := compFieldsRow.holds Try.pinned (OpenSpec.ofChange compFieldsWrong)

/-- 'suzerainlaw05.CompWhole': WHATEVER THE INPUT: true; the input reads as it did. -/
def compWholeSpec : ChangeSpec := { name := "compWhole", fn := fun _ => fun
  | [d] => { results := [.lit (.bool true)], args := [d] }
  | _ => none }
def compWholeRow : OpenClaim := { program := "ytdmnpmchbobokaa", sum := "227df3cd47dd2136c8698a04b769250a1ad62ff0e5813e6a6a1b8a670065988a", func := "suzerain/suzerainlaw05.CompWhole", spec := "compWhole", plainKeys := false, apart := false }
def CompWholeSaid : Prop := compWholeRow.holds Try.pinned (OpenSpec.ofChange compWholeSpec)

/-- ITS FALSE NEIGHBOUR: 'it returns false'. Refute it at one input. -/
def compWholeWrong : ChangeSpec := { name := "compWhole", fn := fun _ => fun
  | [d] => { results := [.lit (.bool false)], args := [d] }
  | _ => none }
def CompWholeWrongFalsely : Prop := compWholeRow.holds Try.pinned (OpenSpec.ofChange compWholeWrong)

/-- 'suzerainlaw05.CompAll': WHATEVER THE INPUT: true; the input reads as it did. -/
def compAllSpec : ChangeSpec := { name := "compAll", fn := fun _ => fun
  | [d1, d2] => { results := [.lit (.bool true)], args := [d1, d2] }
  | _ => none }
def compAllRow : OpenClaim := { program := "ytdmnpmchbobokaa", sum := "227df3cd47dd2136c8698a04b769250a1ad62ff0e5813e6a6a1b8a670065988a", func := "suzerain/suzerainlaw05.CompAll", spec := "compAll", unfollowed := true, recurses := true, plainKeys := false, apart := false }
def CompAllSaid : Prop := compAllRow.holds Try.pinned (OpenSpec.ofChange compAllSpec)

/-- ITS FALSE NEIGHBOUR: 'it returns false'. Refute it at one input. -/
def compAllWrong : ChangeSpec := { name := "compAll", fn := fun _ => fun
  | [d1, d2] => { results := [.lit (.bool false)], args := [d1, d2] }
  | _ => none }
def CompAllWrongFalsely : Prop := compAllRow.holds Try.pinned (OpenSpec.ofChange compAllWrong)

/-- 'suzerainlaw05.CompAny': WHATEVER THE INPUT: true; the input reads as it did. -/
def compAnySpec : ChangeSpec := { name := "compAny", fn := fun _ => fun
  | [d1, d2] => { results := [.lit (.bool true)], args := [d1, d2] }
  | _ => none }
def compAnyRow : OpenClaim := { program := "ytdmnpmchbobokaa", sum := "227df3cd47dd2136c8698a04b769250a1ad62ff0e5813e6a6a1b8a670065988a", func := "suzerain/suzerainlaw05.CompAny", spec := "compAny", unfollowed := true, recurses := true, plainKeys := false, apart := false }
def CompAnySaid : Prop := compAnyRow.holds Try.pinned (OpenSpec.ofChange compAnySpec)

/-- ITS FALSE NEIGHBOUR: 'it returns false'. Refute it at one input. -/
def compAnyWrong : ChangeSpec := { name := "compAny", fn := fun _ => fun
  | [d1, d2] => { results := [.lit (.bool false)], args := [d1, d2] }
  | _ => none }
def CompAnyWrongFalsely : Prop := compAnyRow.holds Try.pinned (OpenSpec.ofChange compAnyWrong)

/- THE SECOND FORM. 'bulk': how many values and letters a reading holds, each counted each time it is reached (what is shared counts as often as it is met; a slice's spare places count too). A statement '..UptoSaid' is the law's where the arguments, and the package variables that the reading takes, are together of bulk at most 1048576: NARROWER than '..Said'. Prove '..Said' where nothing that the law and all that it calls make is longer than what came in: it says more and counts as full. Else prove '..UptoSaid'. A law counts once. -/
mutual
def uptoBulk {H : Type} : DataW H → Nat
  | .lit (.string bytes) => bytes.length + 1
  | .lit _ => 1
  | .nil => 1
  | .ptr d => uptoBulk d + 1
  | .slice elems spare => uptoBulkAll elems + uptoBulkAll spare + 1
  | .agg parts => uptoBulkAll parts + 1
  | .iface _ d => uptoBulk d + 1
  | .map entries => uptoBulkEntries entries + 1
  | .held _ => 1
def uptoBulkAll {H : Type} : List (DataW H) → Nat
  | [] => 0
  | d :: r => uptoBulk d + uptoBulkAll r
def uptoBulkEntries {H : Type} : List (Lit × DataW H) → Nat
  | [] => 0
  | x :: r => uptoBulkEntry x + uptoBulkEntries r
def uptoBulkEntry {H : Type} : Lit × DataW H → Nat
  | (.string bytes, d) => bytes.length + uptoBulk d + 1
  | (_, d) => uptoBulk d + 1
 end
def uptoSmall : (H : Type) → List (DataW H) → Bool := fun _ ds => decide (uptoBulkAll ds ≤ 1048576)
def OpenSpec.upto (s : _root_.Go.ChangeSpec) : _root_.Go.OpenSpec := { _root_.Go.OpenSpec.ofChange s with cond := some uptoSmall }

/-- 'suzerainlaw05.CompFields', WHERE WHAT IT READS IS OF BULK AT MOST 1048576: true; the input reads as it did. -/
def compFieldsUptoRow : OpenClaim := { program := "ytdmnpmchbobokaa", sum := "227df3cd47dd2136c8698a04b769250a1ad62ff0e5813e6a6a1b8a670065988a", func := "suzerain/suzerainlaw05.CompFields", spec := "compFields", plainKeys := false, apart := false, narrowed := true }
def CompFieldsUptoSaid : Prop := compFieldsUptoRow.holds Try.pinned (OpenSpec.upto compFieldsSpec)

/-- 'suzerainlaw05.CompWhole', WHERE WHAT IT READS IS OF BULK AT MOST 1048576: true; the input reads as it did. -/
def compWholeUptoRow : OpenClaim := { program := "ytdmnpmchbobokaa", sum := "227df3cd47dd2136c8698a04b769250a1ad62ff0e5813e6a6a1b8a670065988a", func := "suzerain/suzerainlaw05.CompWhole", spec := "compWhole", plainKeys := false, apart := false, narrowed := true }
def CompWholeUptoSaid : Prop := compWholeUptoRow.holds Try.pinned (OpenSpec.upto compWholeSpec)

/-- 'suzerainlaw05.CompAll', WHERE WHAT IT READS IS OF BULK AT MOST 1048576: true; the input reads as it did. -/
def compAllUptoRow : OpenClaim := { program := "ytdmnpmchbobokaa", sum := "227df3cd47dd2136c8698a04b769250a1ad62ff0e5813e6a6a1b8a670065988a", func := "suzerain/suzerainlaw05.CompAll", spec := "compAll", unfollowed := true, recurses := true, plainKeys := false, apart := false, narrowed := true }
def CompAllUptoSaid : Prop := compAllUptoRow.holds Try.pinned (OpenSpec.upto compAllSpec)

/-- 'suzerainlaw05.CompAny', WHERE WHAT IT READS IS OF BULK AT MOST 1048576: true; the input reads as it did. -/
def compAnyUptoRow : OpenClaim := { program := "ytdmnpmchbobokaa", sum := "227df3cd47dd2136c8698a04b769250a1ad62ff0e5813e6a6a1b8a670065988a", func := "suzerain/suzerainlaw05.CompAny", spec := "compAny", unfollowed := true, recurses := true, plainKeys := false, apart := false, narrowed := true }
def CompAnyUptoSaid : Prop := compAnyUptoRow.holds Try.pinned (OpenSpec.upto compAnySpec)

end Rows
end Go.Proofs.Ytdmnpmchbobokaa
