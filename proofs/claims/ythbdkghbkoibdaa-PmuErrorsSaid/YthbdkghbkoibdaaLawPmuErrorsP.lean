/- PmuErrors: what the runs are told. No condition. -/
import Derived.Test.YthbdkghbkoibdaaSyE
import Derived.Test.YthbdkghbkoibdaaRows
namespace Go.Proofs.Ythbdkghbkoibdaa.PmuErrors
open Go.ChangeShapes Go.WideShapes Go.ChangeAt Go.RowKit Go.Sy
set_option linter.unusedVariables false
def ks : List LKd := [.sl [some .u8, some .u64, some .u64, some .u64, some .u64]]
noncomputable def sa_f : SA := Option.rec ⟨[], [], [], 0, 0, 0⟩ (fun x => x) (symK ks [false] 0 4294967296 0)
noncomputable def sa_t : SA := Option.rec ⟨[], [], [], 0, 0, 0⟩ (fun x => x) (symK ks [true] 0 4294967296 0)
/-- The loop of all that is done. -/
noncomputable def lh : LH := {clr := (List.range 76).map (· + 6), gen := [[⟨5, []⟩], [⟨4, [8]⟩], [⟨4, [9]⟩], [⟨4, [10]⟩], [⟨4, [11]⟩], [⟨4, [12]⟩], [⟨4, [13]⟩], [⟨4, [14]⟩], [⟨4, [15]⟩], [⟨4, [16]⟩], [⟨4, [17]⟩], [⟨4, [18]⟩], [⟨4, [19]⟩], [⟨4, [20]⟩], [⟨4, [21]⟩], [⟨4, [22]⟩], [⟨4, [23]⟩]], fs := [.bin .ult 64 (.var 1048576 64) (.lit 61), .bin .eq 8 (.var 1048593 8) (.app 4294967296 8 (.var 1048576 64)), .bin .eq 64 (.var 1048594 64) (.app 4294967297 64 (.var 1048576 64)), .bin .eq 64 (.var 1048595 64) (.app 4294967298 64 (.var 1048576 64)), .bin .eq 64 (.var 1048596 64) (.app 4294967299 64 (.var 1048576 64)), .bin .eq 64 (.var 1048597 64) (.app 4294967300 64 (.var 1048576 64))], dfs := [.app 4294967296 8 (.var 1048576 64), .app 4294967297 64 (.var 1048576 64), .app 4294967298 64 (.var 1048576 64), .app 4294967299 64 (.var 1048576 64), .app 4294967300 64 (.var 1048576 64)], sp := [.bin .eq 64 (.var 1048594 64) (.lit 0), .bin .eq 64 (.var 1048594 64) (.lit 1), .bin .eq 64 (.var 1048594 64) (.lit 2), .bin .eq 64 (.var 1048594 64) (.lit 3), .bin .eq 64 (.var 1048594 64) (.lit 4), .bin .eq 64 (.var 1048594 64) (.lit 5), .un .bnot 1 (.bin .ult 64 (.var 1048594 64) (.lit 6))], jc := 0, B := 60}
/-- The program's loop of a set, from 7 on, if something is left. -/
noncomputable def lhSet : LH := {clr := (List.range 24).map (· + 8), gen := [[⟨7, []⟩]], set := [(⟨1, []⟩, .bin .shr 64 (.var 4194305 64) (.var 1048576 64))], fs := [.un .bnot 1 (.bin .ult 64 (.var 1048576 64) (.lit 7)), .bin .ult 64 (.var 1048576 64) (.lit 65), .un .bnot 1 (.bin .eq 64 (.bin .shr 64 (.var 4194305 64) (.var 1048576 64)) (.lit 0))], jc := 0, B := 64, whenT := [.un .bnot 1 (.bin .ult 64 (.var 2097159 64) (.lit 7)), .un .bnot 1 (.bin .eq 64 (.var 2097153 64) (.lit 0))]}
/-- The loop of all codes. -/
noncomputable def lhC : LH := {clr := (List.range 72).map (· + 10), gen := [[⟨9, []⟩], [⟨6, [8]⟩, ⟨4, [8]⟩], [⟨6, [9]⟩, ⟨4, [9]⟩], [⟨6, [10]⟩, ⟨4, [10]⟩], [⟨6, [11]⟩, ⟨4, [11]⟩], [⟨6, [12]⟩, ⟨4, [12]⟩], [⟨6, [13]⟩, ⟨4, [13]⟩], [⟨6, [14]⟩, ⟨4, [14]⟩], [⟨6, [15]⟩, ⟨4, [15]⟩], [⟨6, [16]⟩, ⟨4, [16]⟩], [⟨6, [17]⟩, ⟨4, [17]⟩], [⟨6, [18]⟩, ⟨4, [18]⟩], [⟨6, [19]⟩, ⟨4, [19]⟩], [⟨6, [20]⟩, ⟨4, [20]⟩], [⟨6, [21]⟩, ⟨4, [21]⟩], [⟨6, [22]⟩, ⟨4, [22]⟩], [⟨6, [23]⟩, ⟨4, [23]⟩]], fs := [.bin .ult 64 (.var 1048576 64) (.lit 23)], jc := 0, B := 22}
/-- What was refused changed nothing. -/
noncomputable def lhW : LH := {clr := (List.range 75).map (· + 7), gen := [], fs := [], jc := 0, B := 0}
noncomputable def lk : List LK := [⟨6, 19, lh, 0⟩, ⟨3, 6, lhSet, 28⟩, ⟨14, 4, lhC, 0⟩]
noncomputable def jw : List LK := [⟨11, 14, lhW, 0⟩]
noncomputable def ansf0 : Ans := lawRunB (envL Try.prog 80 false lk [] [] jw [(13, 12)]) 60 7 [] [] sa_f.i sa_f.obs (groupS [none] sa_f.l)
end Go.Proofs.Ythbdkghbkoibdaa.PmuErrors
