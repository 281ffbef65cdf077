/-
  No cell of these rows narrows 'for every input' (looked for: loops, veiled, ifaces, maps, wideKeys, modest, calm, conditions, laid).
  DERIVED. THE GIVEN ROWS OF THIS SEAT. 5 by the template 'for every input the law returns true; each argument reads behind the call as it read before'; 0 by the template 'total and deterministic' (their statements: YtjffninagbmamaaTotals.lean).
  GIVEN WITH THE SEED: the statements are not yours to turn. If you find one false, say at which input.
  Laid BY PROGRAM, IN A SANDBOX (cutbox-rows.mjs): the forced cells as the released guide's own fill.sh prints them over the translation d08983816da824a3… (all of the seat's roots in one cut). By AI agents, Wed Nov 11 2026. No macro, syntax, notation, axiom, sorry.
-/
import Derived.Test.YtjffninagbmamaaChecked
import GoSem.Claim
import GoSem.ClaimJoined
import GoSem.ClaimMapViews
import Derived.JoinedTies
import Derived.KernelRfl
namespace Go.Proofs.Ytjffninagbmamaa
/- THE CELL 'sum', in the pinned program and in every row, IS THE sha256 OF THE DUMP (.gsa) THAT YtjffninagbmamaaProg.lean LOADS. Nothing in Lean hashes anything: it is a label: what it is worth is what the hold of that sum in a sandbox is worth. -/
noncomputable def Try.pinned : Pinned := { name := "ytjffninagbmamaa", sum := "d08983816da824a3172e69146204a2125de986de2b4c736746d94d6784fed7a0", checked := Try.checked }
namespace Rows
def none {H : Type} : Left H := { results := [], args := [] }

/-- 'suzerainlaw18.HsmGoes': WHATEVER THE INPUT: true; the input reads as it did. -/
def hsmGoesSpec : ChangeSpec := { name := "hsmGoes", fn := fun _ => fun
  | [d1, d2, d3] => { results := [.lit (.bool true)], args := [d1, d2, d3] }
  | _ => none }
def hsmGoesRow : OpenClaim := { program := "ytjffninagbmamaa", sum := "d08983816da824a3172e69146204a2125de986de2b4c736746d94d6784fed7a0", func := "suzerain/suzerainlaw18.HsmGoes", spec := "hsmGoes", apart := false }
def HsmGoesSaid : Prop := hsmGoesRow.holds Try.pinned (OpenSpec.ofChange hsmGoesSpec)

/-- ITS FALSE NEIGHBOUR: 'it returns false'. Refute it at one input. -/
def hsmGoesWrong : ChangeSpec := { name := "hsmGoes", fn := fun _ => fun
  | [d1, d2, d3] => { results := [.lit (.bool false)], args := [d1, d2, d3] }
  | _ => none }
def HsmGoesWrongFalsely : Prop := hsmGoesRow.holds Try.pinned (OpenSpec.ofChange hsmGoesWrong)

/-- 'suzerainlaw18.HsmSleeps': WHATEVER THE INPUT: true; the input reads as it did. -/
def hsmSleepsSpec : ChangeSpec := { name := "hsmSleeps", fn := fun _ => fun
  | [d1, d2, d3] => { results := [.lit (.bool true)], args := [d1, d2, d3] }
  | _ => none }
def hsmSleepsRow : OpenClaim := { program := "ytjffninagbmamaa", sum := "d08983816da824a3172e69146204a2125de986de2b4c736746d94d6784fed7a0", func := "suzerain/suzerainlaw18.HsmSleeps", spec := "hsmSleeps", apart := false }
def HsmSleepsSaid : Prop := hsmSleepsRow.holds Try.pinned (OpenSpec.ofChange hsmSleepsSpec)

/-- ITS FALSE NEIGHBOUR: 'it returns false'. Refute it at one input. -/
def hsmSleepsWrong : ChangeSpec := { name := "hsmSleeps", fn := fun _ => fun
  | [d1, d2, d3] => { results := [.lit (.bool false)], args := [d1, d2, d3] }
  | _ => none }
def HsmSleepsWrongFalsely : Prop := hsmSleepsRow.holds Try.pinned (OpenSpec.ofChange hsmSleepsWrong)

/-- 'suzerainlaw18.HsmEdges': WHATEVER THE INPUT: true; the input reads as it did. -/
def hsmEdgesSpec : ChangeSpec := { name := "hsmEdges", fn := fun _ => fun
  | [d1, d2] => { results := [.lit (.bool true)], args := [d1, d2] }
  | _ => none }
def hsmEdgesRow : OpenClaim := { program := "ytjffninagbmamaa", sum := "d08983816da824a3172e69146204a2125de986de2b4c736746d94d6784fed7a0", func := "suzerain/suzerainlaw18.HsmEdges", spec := "hsmEdges", apart := false }
def HsmEdgesSaid : Prop := hsmEdgesRow.holds Try.pinned (OpenSpec.ofChange hsmEdgesSpec)

/-- ITS FALSE NEIGHBOUR: 'it returns false'. Refute it at one input. -/
def hsmEdgesWrong : ChangeSpec := { name := "hsmEdges", fn := fun _ => fun
  | [d1, d2] => { results := [.lit (.bool false)], args := [d1, d2] }
  | _ => none }
def HsmEdgesWrongFalsely : Prop := hsmEdgesRow.holds Try.pinned (OpenSpec.ofChange hsmEdgesWrong)

/-- 'suzerainlaw18.HsmRefuses': WHATEVER THE INPUT: true; the input reads as it did. -/
def hsmRefusesSpec : ChangeSpec := { name := "hsmRefuses", fn := fun _ => fun
  | [d1, d2] => { results := [.lit (.bool true)], args := [d1, d2] }
  | _ => none }
def hsmRefusesRow : OpenClaim := { program := "ytjffninagbmamaa", sum := "d08983816da824a3172e69146204a2125de986de2b4c736746d94d6784fed7a0", func := "suzerain/suzerainlaw18.HsmRefuses", spec := "hsmRefuses", apart := false }
def HsmRefusesSaid : Prop := hsmRefusesRow.holds Try.pinned (OpenSpec.ofChange hsmRefusesSpec)

/-- ITS FALSE NEIGHBOUR: 'it returns false'. Refute it at one input. -/
def hsmRefusesWrong : ChangeSpec := { name := "hsmRefuses", fn := fun _ => fun
  | [d1, d2] => { results := [.lit (.bool false)], args := [d1, d2] }
  | _ => none }
def HsmRefusesWrongFalsely : Prop := hsmRefusesRow.holds Try.pinned (OpenSpec.ofChange hsmRefusesWrong)

/-- 'suzerainlaw18.HsmPlays': WHATEVER THE INPUT: true; the input reads as it did. -/
def hsmPlaysSpec : ChangeSpec := { name := "hsmPlays", fn := fun _ => fun
  | [d1, d2] => { results := [.lit (.bool true)], args := [d1, d2] }
  | _ => none }
def hsmPlaysRow : OpenClaim := { program := "ytjffninagbmamaa", sum := "d08983816da824a3172e69146204a2125de986de2b4c736746d94d6784fed7a0", func := "suzerain/suzerainlaw18.HsmPlays", spec := "hsmPlays", apart := false }
def HsmPlaysSaid : Prop := hsmPlaysRow.holds Try.pinned (OpenSpec.ofChange hsmPlaysSpec)

/-- ITS FALSE NEIGHBOUR: 'it returns false'. Refute it at one input. -/
def hsmPlaysWrong : ChangeSpec := { name := "hsmPlays", fn := fun _ => fun
  | [d1, d2] => { results := [.lit (.bool false)], args := [d1, d2] }
  | _ => none }
def HsmPlaysWrongFalsely : Prop := hsmPlaysRow.holds Try.pinned (OpenSpec.ofChange hsmPlaysWrong)

/- THE SECOND FORM. 'bulk': how many values and letters a reading holds, each counted each time it is reached (what is shared counts as often as it is met; a slice's spare places count too). A statement '..UptoSaid' is the law's where the arguments, and the package variables that the reading takes, are together of bulk at most 1048576: NARROWER than '..Said'. Prove '..Said' where nothing that the law and all that it calls make is longer than what came in: it says more and counts as full. Else prove '..UptoSaid'. A law counts once. -/
mutual
def uptoBulk {H : Type} : DataW H → Nat
  | .lit (.string bytes) => bytes.length + 1
  | .lit _ => 1
  | .nil => 1
  | .ptr d => uptoBulk d + 1
  | .slice elems spare => uptoBulkAll elems + uptoBulkAll spare + 1
  | .agg parts => uptoBulkAll parts + 1
  | .iface _ d => uptoBulk d + 1
  | .map entries => uptoBulkEntries entries + 1
  | .held _ => 1
def uptoBulkAll {H : Type} : List (DataW H) → Nat
  | [] => 0
  | d :: r => uptoBulk d + uptoBulkAll r
def uptoBulkEntries {H : Type} : List (Lit × DataW H) → Nat
  | [] => 0
  | x :: r => uptoBulkEntry x + uptoBulkEntries r
def uptoBulkEntry {H : Type} : Lit × DataW H → Nat
  | (.string bytes, d) => bytes.length + uptoBulk d + 1
  | (_, d) => uptoBulk d + 1
 end
def uptoSmall : (H : Type) → List (DataW H) → Bool := fun _ ds => decide (uptoBulkAll ds ≤ 1048576)
def OpenSpec.upto (s : _root_.Go.ChangeSpec) : _root_.Go.OpenSpec := { _root_.Go.OpenSpec.ofChange s with cond := some uptoSmall }

/-- 'suzerainlaw18.HsmGoes', WHERE WHAT IT READS IS OF BULK AT MOST 1048576: true; the input reads as it did. -/
def hsmGoesUptoRow : OpenClaim := { program := "ytjffninagbmamaa", sum := "d08983816da824a3172e69146204a2125de986de2b4c736746d94d6784fed7a0", func := "suzerain/suzerainlaw18.HsmGoes", spec := "hsmGoes", apart := false, narrowed := true }
def HsmGoesUptoSaid : Prop := hsmGoesUptoRow.holds Try.pinned (OpenSpec.upto hsmGoesSpec)

/-- 'suzerainlaw18.HsmSleeps', WHERE WHAT IT READS IS OF BULK AT MOST 1048576: true; the input reads as it did. -/
def hsmSleepsUptoRow : OpenClaim := { program := "ytjffninagbmamaa", sum := "d08983816da824a3172e69146204a2125de986de2b4c736746d94d6784fed7a0", func := "suzerain/suzerainlaw18.HsmSleeps", spec := "hsmSleeps", apart := false, narrowed := true }
def HsmSleepsUptoSaid : Prop := hsmSleepsUptoRow.holds Try.pinned (OpenSpec.upto hsmSleepsSpec)

/-- 'suzerainlaw18.HsmEdges', WHERE WHAT IT READS IS OF BULK AT MOST 1048576: true; the input reads as it did. -/
def hsmEdgesUptoRow : OpenClaim := { program := "ytjffninagbmamaa", sum := "d08983816da824a3172e69146204a2125de986de2b4c736746d94d6784fed7a0", func := "suzerain/suzerainlaw18.HsmEdges", spec := "hsmEdges", apart := false, narrowed := true }
def HsmEdgesUptoSaid : Prop := hsmEdgesUptoRow.holds Try.pinned (OpenSpec.upto hsmEdgesSpec)

/-- 'suzerainlaw18.HsmRefuses', WHERE WHAT IT READS IS OF BULK AT MOST 1048576: true; the input reads as it did. -/
def hsmRefusesUptoRow : OpenClaim := { program := "ytjffninagbmamaa", sum := "d08983816da824a3172e69146204a2125de986de2b4c736746d94d6784fed7a0", func := "suzerain/suzerainlaw18.HsmRefuses", spec := "hsmRefuses", apart := false, narrowed := true }
def HsmRefusesUptoSaid : Prop := hsmRefusesUptoRow.holds Try.pinned (OpenSpec.upto hsmRefusesSpec)

/-- 'suzerainlaw18.HsmPlays', WHERE WHAT IT READS IS OF BULK AT MOST 1048576: true; the input reads as it did. -/
def hsmPlaysUptoRow : OpenClaim := { program := "ytjffninagbmamaa", sum := "d08983816da824a3172e69146204a2125de986de2b4c736746d94d6784fed7a0", func := "suzerain/suzerainlaw18.HsmPlays", spec := "hsmPlays", apart := false, narrowed := true }
def HsmPlaysUptoSaid : Prop := hsmPlaysUptoRow.holds Try.pinned (OpenSpec.upto hsmPlaysSpec)

end Rows
end Go.Proofs.Ytjffninagbmamaa
