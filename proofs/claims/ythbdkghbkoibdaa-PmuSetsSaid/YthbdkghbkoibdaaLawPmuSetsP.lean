/- PmuSets: what the runs are told. No condition. -/
import Derived.Test.YthbdkghbkoibdaaSyE
import Derived.Test.YthbdkghbkoibdaaRows
namespace Go.Proofs.Ythbdkghbkoibdaa.PmuSets
open Go.ChangeShapes Go.WideShapes Go.ChangeAt Go.RowKit Go.Sy
set_option linter.unusedVariables false
def ks : List LKd := [.int .u64, .int .u64, .int .u64, .int .u64]
noncomputable def sa_e : SA := Option.rec ⟨[], [], [], 0, 0, 0⟩ (fun x => x) (symK ks [] 0 4294967296 0)
/-- The set's loop, from 7 on, if something is left. -/
noncomputable def lhSet : LH := {clr := (List.range 24).map (· + 8), gen := [[⟨7, []⟩]], set := [(⟨1, []⟩, .bin .shr 64 (.var 4194305 64) (.var 1048576 64))], fs := [.un .bnot 1 (.bin .ult 64 (.var 1048576 64) (.lit 7)), .bin .ult 64 (.var 1048576 64) (.lit 65), .un .bnot 1 (.bin .eq 64 (.bin .shr 64 (.var 4194305 64) (.var 1048576 64)) (.lit 0))], jc := 0, B := 64, whenT := [.un .bnot 1 (.bin .ult 64 (.var 2097159 64) (.lit 7)), .un .bnot 1 (.bin .eq 64 (.var 2097153 64) (.lit 0))]}
/-- The law's loop, when the set is bad. -/
noncomputable def lhBad : LH := {clr := [13] ++ (List.range 29).map (· + 28), gen := [[⟨12, []⟩], [⟨9, []⟩], [⟨11, []⟩]], fs := [.bin .ult 64 (.var 1048576 64) (.lit 65)], jc := 0, B := 64, when := [(10, 1)], put := [(10, .bool (.lit 1))]}
/-- The law's loop, ahead of that, if something is left. -/
noncomputable def lhA4 : LH := {clr := [13] ++ (List.range 29).map (· + 28), gen := [[⟨12, []⟩], [⟨9, []⟩], [⟨11, []⟩]], fs := [.un .bnot 1 (.bin .ult 64 (.var 1048576 64) (.lit 4)), .bin .ult 64 (.var 1048576 64) (.lit 65), .un .bnot 1 (.bin .eq 64 (.bin .shr 64 (.var 2097153 64) (.var 1048576 64)) (.lit 0))], jc := 0, B := 64, when := [(12, 4), (10, 0)]}
noncomputable def lhA1 : LH := {clr := [13] ++ (List.range 29).map (· + 28), gen := [[⟨12, []⟩], [⟨9, []⟩], [⟨11, []⟩]], fs := [.un .bnot 1 (.bin .ult 64 (.var 1048576 64) (.lit 1)), .bin .ult 64 (.var 1048576 64) (.lit 65), .un .bnot 1 (.bin .eq 64 (.bin .shr 64 (.var 2097153 64) (.var 1048576 64)) (.lit 0))], jc := 0, B := 64, when := [(12, 1), (10, 0)]}
noncomputable def lk4 : List LK := [⟨3, 6, lhSet⟩, ⟨11, 7, lhA4⟩, ⟨11, 7, lhBad⟩]
noncomputable def lk1 : List LK := [⟨3, 6, lhSet⟩, ⟨11, 7, lhA1⟩, ⟨11, 7, lhBad⟩]
noncomputable def lkN : List LK := [⟨3, 6, lhSet⟩, ⟨11, 7, lhBad⟩]
end Go.Proofs.Ythbdkghbkoibdaa.PmuSets
