/-
  No cell of these rows narrows 'for every input' (looked for: loops, veiled, ifaces, maps, wideKeys, modest, calm, conditions, laid).
  DERIVED. THE GIVEN ROWS OF THIS SEAT. 6 by the template 'for every input the law returns true; each argument reads behind the call as it read before'; 0 by the template 'total and deterministic' (their statements: YtfiigocibcpdnaaTotals.lean).
  GIVEN WITH THE SEED: the statements are not yours to turn. If you find one false, say at which input.
  Laid BY PROGRAM, IN A SANDBOX (cutbox-rows.mjs): the forced cells as the released guide's own fill.sh prints them over the translation 4f273785ed78e990… (all of the seat's roots in one cut). By AI agents, Wed Nov 11 2026. No macro, syntax, notation, axiom, sorry.
-/
import Derived.Test.YtfiigocibcpdnaaChecked
import GoSem.Claim
import GoSem.ClaimJoined
import GoSem.ClaimMapViews
import Derived.JoinedTies
import Derived.KernelRfl
namespace Go.Proofs.Ytfiigocibcpdnaa
/- THE CELL 'sum', in the pinned program and in every row, IS THE sha256 OF THE DUMP (.gsa) THAT YtfiigocibcpdnaaProg.lean LOADS. Nothing in Lean hashes anything: it is a label: what it is worth is what the hold of that sum in a sandbox is worth. -/
noncomputable def Try.pinned : Pinned := { name := "ytfiigocibcpdnaa", sum := "4f273785ed78e9902024a17fa84a39234371899f3f1b8f20bee863ecb8b00f83", checked := Try.checked }
namespace Rows
def none {H : Type} : Left H := { results := [], args := [] }

/-- 'suzerainlaw04.DecodeAll': WHATEVER THE INPUT: true; the input reads as it did. -/
def decodeAllSpec : ChangeSpec := { name := "decodeAll", fn := fun _ => fun
  | [d1, d2] => { results := [.lit (.bool true)], args := [d1, d2] }
  | _ => none }
def decodeAllRow : OpenClaim := { program := "ytfiigocibcpdnaa", sum := "4f273785ed78e9902024a17fa84a39234371899f3f1b8f20bee863ecb8b00f83", func := "suzerain/suzerainlaw04.DecodeAll", spec := "decodeAll", unfollowed := true, recurses := true, plainKeys := false, apart := false }
def DecodeAllSaid : Prop := decodeAllRow.holds Try.pinned (OpenSpec.ofChange decodeAllSpec)

/-- ITS FALSE NEIGHBOUR: 'it returns false'. Refute it at one input. -/
def decodeAllWrong : ChangeSpec := { name := "decodeAll", fn := fun _ => fun
  | [d1, d2] => { results := [.lit (.bool false)], args := [d1, d2] }
  | _ => none }
def DecodeAllWrongFalsely : Prop := decodeAllRow.holds Try.pinned (OpenSpec.ofChange decodeAllWrong)

/-- 'suzerainlaw04.DecodeFields': WHATEVER THE INPUT: true; the input reads as it did. -/
def decodeFieldsSpec : ChangeSpec := { name := "decodeFields", fn := fun _ => fun
  | [d] => { results := [.lit (.bool true)], args := [d] }
  | _ => none }
def decodeFieldsRow : OpenClaim := { program := "ytfiigocibcpdnaa", sum := "4f273785ed78e9902024a17fa84a39234371899f3f1b8f20bee863ecb8b00f83", func := "suzerain/suzerainlaw04.DecodeFields", spec := "decodeFields", unfollowed := true, recurses := true, plainKeys := false, apart := false }
def DecodeFieldsSaid : Prop := decodeFieldsRow.holds Try.pinned (OpenSpec.ofChange decodeFieldsSpec)

/-- ITS FALSE NEIGHBOUR: 'it returns false'. Refute it at one input. -/
def decodeFieldsWrong : ChangeSpec := { name := "decodeFields", fn := fun _ => fun
  | [d] => { results := [.lit (.bool false)], args := [d] }
  | _ => none }
def DecodeFieldsWrongFalsely : Prop := decodeFieldsRow.holds Try.pinned (OpenSpec.ofChange decodeFieldsWrong)

/-- 'suzerainlaw04.DecodeRegisters': WHATEVER THE INPUT: true; the input reads as it did. -/
def decodeRegistersSpec : ChangeSpec := { name := "decodeRegisters", fn := fun _ => fun
  | [d1, d2] => { results := [.lit (.bool true)], args := [d1, d2] }
  | _ => none }
def decodeRegistersRow : OpenClaim := { program := "ytfiigocibcpdnaa", sum := "4f273785ed78e9902024a17fa84a39234371899f3f1b8f20bee863ecb8b00f83", func := "suzerain/suzerainlaw04.DecodeRegisters", spec := "decodeRegisters", unfollowed := true, recurses := true, plainKeys := false, apart := false }
def DecodeRegistersSaid : Prop := decodeRegistersRow.holds Try.pinned (OpenSpec.ofChange decodeRegistersSpec)

/-- ITS FALSE NEIGHBOUR: 'it returns false'. Refute it at one input. -/
def decodeRegistersWrong : ChangeSpec := { name := "decodeRegisters", fn := fun _ => fun
  | [d1, d2] => { results := [.lit (.bool false)], args := [d1, d2] }
  | _ => none }
def DecodeRegistersWrongFalsely : Prop := decodeRegistersRow.holds Try.pinned (OpenSpec.ofChange decodeRegistersWrong)

/-- 'suzerainlaw04.DecodeNone': WHATEVER THE INPUT: true; the input reads as it did. -/
def decodeNoneSpec : ChangeSpec := { name := "decodeNone", fn := fun _ => fun
  | [d] => { results := [.lit (.bool true)], args := [d] }
  | _ => none }
def decodeNoneRow : OpenClaim := { program := "ytfiigocibcpdnaa", sum := "4f273785ed78e9902024a17fa84a39234371899f3f1b8f20bee863ecb8b00f83", func := "suzerain/suzerainlaw04.DecodeNone", spec := "decodeNone", unfollowed := true, recurses := true, plainKeys := false, apart := false }
def DecodeNoneSaid : Prop := decodeNoneRow.holds Try.pinned (OpenSpec.ofChange decodeNoneSpec)

/-- ITS FALSE NEIGHBOUR: 'it returns false'. Refute it at one input. -/
def decodeNoneWrong : ChangeSpec := { name := "decodeNone", fn := fun _ => fun
  | [d] => { results := [.lit (.bool false)], args := [d] }
  | _ => none }
def DecodeNoneWrongFalsely : Prop := decodeNoneRow.holds Try.pinned (OpenSpec.ofChange decodeNoneWrong)

/-- 'suzerainlaw04.DecodeKinds': WHATEVER THE INPUT: true; the input reads as it did. -/
def decodeKindsSpec : ChangeSpec := { name := "decodeKinds", fn := fun _ => fun
  | [d] => { results := [.lit (.bool true)], args := [d] }
  | _ => none }
def decodeKindsRow : OpenClaim := { program := "ytfiigocibcpdnaa", sum := "4f273785ed78e9902024a17fa84a39234371899f3f1b8f20bee863ecb8b00f83", func := "suzerain/suzerainlaw04.DecodeKinds", spec := "decodeKinds", unfollowed := true, recurses := true, plainKeys := false, apart := false }
def DecodeKindsSaid : Prop := decodeKindsRow.holds Try.pinned (OpenSpec.ofChange decodeKindsSpec)

/-- ITS FALSE NEIGHBOUR: 'it returns false'. Refute it at one input. -/
def decodeKindsWrong : ChangeSpec := { name := "decodeKinds", fn := fun _ => fun
  | [d] => { results := [.lit (.bool false)], args := [d] }
  | _ => none }
def DecodeKindsWrongFalsely : Prop := decodeKindsRow.holds Try.pinned (OpenSpec.ofChange decodeKindsWrong)

/-- 'suzerainlaw04.DecodeShifts': WHATEVER THE INPUT: true; the input reads as it did. -/
def decodeShiftsSpec : ChangeSpec := { name := "decodeShifts", fn := fun _ => fun
  | [d1, d2, d3] => { results := [.lit (.bool true)], args := [d1, d2, d3] }
  | _ => none }
def decodeShiftsRow : OpenClaim := { program := "ytfiigocibcpdnaa", sum := "4f273785ed78e9902024a17fa84a39234371899f3f1b8f20bee863ecb8b00f83", func := "suzerain/suzerainlaw04.DecodeShifts", spec := "decodeShifts", unfollowed := true, recurses := true, plainKeys := false, apart := false }
def DecodeShiftsSaid : Prop := decodeShiftsRow.holds Try.pinned (OpenSpec.ofChange decodeShiftsSpec)

/-- ITS FALSE NEIGHBOUR: 'it returns false'. Refute it at one input. -/
def decodeShiftsWrong : ChangeSpec := { name := "decodeShifts", fn := fun _ => fun
  | [d1, d2, d3] => { results := [.lit (.bool false)], args := [d1, d2, d3] }
  | _ => none }
def DecodeShiftsWrongFalsely : Prop := decodeShiftsRow.holds Try.pinned (OpenSpec.ofChange decodeShiftsWrong)

/- THE SECOND FORM. 'bulk': how many values and letters a reading holds, each counted each time it is reached (what is shared counts as often as it is met; a slice's spare places count too). A statement '..UptoSaid' is the law's where the arguments, and the package variables that the reading takes, are together of bulk at most 1048576: NARROWER than '..Said'. Prove '..Said' where nothing that the law and all that it calls make is longer than what came in: it says more and counts as full. Else prove '..UptoSaid'. A law counts once. -/
mutual
def uptoBulk {H : Type} : DataW H → Nat
  | .lit (.string bytes) => bytes.length + 1
  | .lit _ => 1
  | .nil => 1
  | .ptr d => uptoBulk d + 1
  | .slice elems spare => uptoBulkAll elems + uptoBulkAll spare + 1
  | .agg parts => uptoBulkAll parts + 1
  | .iface _ d => uptoBulk d + 1
  | .map entries => uptoBulkEntries entries + 1
  | .held _ => 1
def uptoBulkAll {H : Type} : List (DataW H) → Nat
  | [] => 0
  | d :: r => uptoBulk d + uptoBulkAll r
def uptoBulkEntries {H : Type} : List (Lit × DataW H) → Nat
  | [] => 0
  | x :: r => uptoBulkEntry x + uptoBulkEntries r
def uptoBulkEntry {H : Type} : Lit × DataW H → Nat
  | (.string bytes, d) => bytes.length + uptoBulk d + 1
  | (_, d) => uptoBulk d + 1
 end
def uptoSmall : (H : Type) → List (DataW H) → Bool := fun _ ds => decide (uptoBulkAll ds ≤ 1048576)
def OpenSpec.upto (s : _root_.Go.ChangeSpec) : _root_.Go.OpenSpec := { _root_.Go.OpenSpec.ofChange s with cond := some uptoSmall }

/-- 'suzerainlaw04.DecodeAll', WHERE WHAT IT READS IS OF BULK AT MOST 1048576: true; the input reads as it did. -/
def decodeAllUptoRow : OpenClaim := { program := "ytfiigocibcpdnaa", sum := "4f273785ed78e9902024a17fa84a39234371899f3f1b8f20bee863ecb8b00f83", func := "suzerain/suzerainlaw04.DecodeAll", spec := "decodeAll", unfollowed := true, recurses := true, plainKeys := false, apart := false, narrowed := true }
def DecodeAllUptoSaid : Prop := decodeAllUptoRow.holds Try.pinned (OpenSpec.upto decodeAllSpec)

/-- 'suzerainlaw04.DecodeFields', WHERE WHAT IT READS IS OF BULK AT MOST 1048576: true; the input reads as it did. -/
def decodeFieldsUptoRow : OpenClaim := { program := "ytfiigocibcpdnaa", sum := "4f273785ed78e9902024a17fa84a39234371899f3f1b8f20bee863ecb8b00f83", func := "suzerain/suzerainlaw04.DecodeFields", spec := "decodeFields", unfollowed := true, recurses := true, plainKeys := false, apart := false, narrowed := true }
def DecodeFieldsUptoSaid : Prop := decodeFieldsUptoRow.holds Try.pinned (OpenSpec.upto decodeFieldsSpec)

/-- 'suzerainlaw04.DecodeRegisters', WHERE WHAT IT READS IS OF BULK AT MOST 1048576: true; the input reads as it did. -/
def decodeRegistersUptoRow : OpenClaim := { program := "ytfiigocibcpdnaa", sum := "4f273785ed78e9902024a17fa84a39234371899f3f1b8f20bee863ecb8b00f83", func := "suzerain/suzerainlaw04.DecodeRegisters", spec := "decodeRegisters", unfollowed := true, recurses := true, plainKeys := false, apart := false, narrowed := true }
def DecodeRegistersUptoSaid : Prop := decodeRegistersUptoRow.holds Try.pinned (OpenSpec.upto decodeRegistersSpec)

/-- 'suzerainlaw04.DecodeNone', WHERE WHAT IT READS IS OF BULK AT MOST 1048576: true; the input reads as it did. -/
def decodeNoneUptoRow : OpenClaim := { program := "ytfiigocibcpdnaa", sum := "4f273785ed78e9902024a17fa84a39234371899f3f1b8f20bee863ecb8b00f83", func := "suzerain/suzerainlaw04.DecodeNone", spec := "decodeNone", unfollowed := true, recurses := true, plainKeys := false, apart := false, narrowed := true }
def DecodeNoneUptoSaid : Prop := decodeNoneUptoRow.holds Try.pinned (OpenSpec.upto decodeNoneSpec)

/-- 'suzerainlaw04.DecodeKinds', WHERE WHAT IT READS IS OF BULK AT MOST 1048576: true; the input reads as it did. -/
def decodeKindsUptoRow : OpenClaim := { program := "ytfiigocibcpdnaa", sum := "4f273785ed78e9902024a17fa84a39234371899f3f1b8f20bee863ecb8b00f83", func := "suzerain/suzerainlaw04.DecodeKinds", spec := "decodeKinds", unfollowed := true, recurses := true, plainKeys := false, apart := false, narrowed := true }
def DecodeKindsUptoSaid : Prop := decodeKindsUptoRow.holds Try.pinned (OpenSpec.upto decodeKindsSpec)

/-- 'suzerainlaw04.DecodeShifts', WHERE WHAT IT READS IS OF BULK AT MOST 1048576: true; the input reads as it did. -/
def decodeShiftsUptoRow : OpenClaim := { program := "ytfiigocibcpdnaa", sum := "4f273785ed78e9902024a17fa84a39234371899f3f1b8f20bee863ecb8b00f83", func := "suzerain/suzerainlaw04.DecodeShifts", spec := "decodeShifts", unfollowed := true, recurses := true, plainKeys := false, apart := false, narrowed := true }
def DecodeShiftsUptoSaid : Prop := decodeShiftsUptoRow.holds Try.pinned (OpenSpec.upto decodeShiftsSpec)

end Rows
end Go.Proofs.Ytfiigocibcpdnaa
