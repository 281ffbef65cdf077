/- PmuPlays: what the runs are told. No condition. -/
import Derived.Test.YthbdkghbkoibdaaSyE
import Derived.Test.YthbdkghbkoibdaaRows
namespace Go.Proofs.Ythbdkghbkoibdaa.PmuPlays
open Go.ChangeShapes Go.WideShapes Go.ChangeAt Go.RowKit Go.Sy
set_option linter.unusedVariables false
def ks : List LKd := [.sl [some .u8, some .u64, some .u64, some .u64, some .u64]]
noncomputable def sa_f : SA := Option.rec ⟨[], [], [], 0, 0, 0⟩ (fun x => x) (symK ks [false] 0 4294967296 64)
noncomputable def sa_t : SA := Option.rec ⟨[], [], [], 0, 0, 0⟩ (fun x => x) (symK ks [true] 0 4294967296 64)
noncomputable def mfl : List Nat := []
noncomputable def mt0 : List MT := []
noncomputable def mtl : List MT := mt0
noncomputable def ms0 : List SM := []
noncomputable def msl : List SM := ms0
noncomputable def gts : List Tab := []
/-- The loop of all that is done. -/
noncomputable def lh : LH := {clr := (List.range 96).map (· + 7), gen := [[⟨6, []⟩], [⟨4, [8]⟩, ⟨5, [8]⟩], [⟨4, [9]⟩, ⟨5, [9]⟩], [⟨4, [10]⟩, ⟨5, [10]⟩], [⟨4, [11]⟩, ⟨5, [11]⟩], [⟨4, [12]⟩, ⟨5, [12]⟩], [⟨4, [13]⟩, ⟨5, [13]⟩], [⟨4, [14]⟩, ⟨5, [14]⟩], [⟨4, [15]⟩, ⟨5, [15]⟩], [⟨4, [16]⟩, ⟨5, [16]⟩], [⟨4, [17]⟩, ⟨5, [17]⟩], [⟨4, [18]⟩, ⟨5, [18]⟩], [⟨4, [19]⟩, ⟨5, [19]⟩], [⟨4, [20]⟩, ⟨5, [20]⟩], [⟨4, [21]⟩, ⟨5, [21]⟩], [⟨4, [22]⟩, ⟨5, [22]⟩], [⟨4, [23]⟩, ⟨5, [23]⟩]], fs := [.bin .ult 64 (.var 1048576 64) (.lit 61), .bin .eq 8 (.var 1048593 8) (.app 4294967296 8 (.var 1048576 64)), .bin .eq 64 (.var 1048594 64) (.app 4294967297 64 (.var 1048576 64)), .bin .eq 64 (.var 1048595 64) (.app 4294967298 64 (.var 1048576 64)), .bin .eq 64 (.var 1048596 64) (.app 4294967299 64 (.var 1048576 64)), .bin .eq 64 (.var 1048597 64) (.app 4294967300 64 (.var 1048576 64))], dfs := [.app 4294967296 8 (.var 1048576 64), .app 4294967297 64 (.var 1048576 64), .app 4294967298 64 (.var 1048576 64), .app 4294967299 64 (.var 1048576 64), .app 4294967300 64 (.var 1048576 64)], sp := [.bin .eq 64 (.var 1048594 64) (.lit 0), .bin .eq 64 (.var 1048594 64) (.lit 1), .bin .eq 64 (.var 1048594 64) (.lit 2), .bin .eq 64 (.var 1048594 64) (.lit 3), .bin .eq 64 (.var 1048594 64) (.lit 4), .bin .eq 64 (.var 1048594 64) (.lit 5), .un .bnot 1 (.bin .ult 64 (.var 1048594 64) (.lit 6))], jc := 0, B := 60, ren := [[⟨4, []⟩]]}
/-- The program's loop of a set, from 7 on, if something is left. -/
noncomputable def lhSet : LH := {clr := (List.range 24).map (· + 8), gen := [[⟨7, []⟩]], set := [(⟨1, []⟩, .bin .shr 64 (.var 4194305 64) (.var 1048576 64))], fs := [.un .bnot 1 (.bin .ult 64 (.var 1048576 64) (.lit 7)), .bin .ult 64 (.var 1048576 64) (.lit 65), .un .bnot 1 (.bin .eq 64 (.bin .shr 64 (.var 4194305 64) (.var 1048576 64)) (.lit 0))], jc := 0, B := 64, whenT := [.un .bnot 1 (.bin .ult 64 (.var 2097159 64) (.lit 7)), .un .bnot 1 (.bin .eq 64 (.var 2097153 64) (.lit 0))]}
/-- The document's. -/
noncomputable def lhRef : LH := {clr := (List.range 27).map (· + 8), gen := [[⟨7, []⟩]], fs := [.un .bnot 1 (.bin .ult 64 (.var 1048576 64) (.lit 7)), .bin .ult 64 (.var 1048576 64) (.lit 65), .un .bnot 1 (.bin .eq 64 (.bin .shr 64 (.var 2097153 64) (.var 1048576 64)) (.lit 0))], jc := 0, B := 64, whenT := [.un .bnot 1 (.bin .ult 64 (.var 2097159 64) (.lit 7)), .un .bnot 1 (.bin .eq 64 (.bin .shr 64 (.var 2097153 64) (.var 2097159 64)) (.lit 0))]}
/-- What is read. -/
noncomputable def lhK : LH := {clr := (List.range 90).map (· + 13), gen := [[⟨12, []⟩]], fs := [.bin .ult 64 (.var 1048576 64) (.lit 9)], jc := 0, B := 8}
/-- The document's, behind the last bit. -/
noncomputable def lhRef0 : LH := {clr := (List.range 27).map (· + 8), gen := [[⟨7, []⟩]], fs := [.bin .ult 64 (.var 1048576 64) (.lit 65), .bin .eq 64 (.bin .shr 64 (.var 2097153 64) (.var 1048576 64)) (.lit 0)], jc := 0, B := 64, whenT := [.bin .eq 64 (.bin .shr 64 (.var 2097153 64) (.var 2097159 64)) (.lit 0)]}
noncomputable def lk : List LK := [⟨7, 20, lh, 0⟩, ⟨3, 6, lhSet, 28⟩, ⟨3, 6, lhRef0, 29⟩, ⟨3, 6, lhRef, 29⟩, ⟨21, 6, lhK, 0⟩]
/-- Both stand alike. -/
noncomputable def lhW : LH := {clr := (List.range 95).map (· + 8), gen := [[⟨4, [8]⟩, ⟨5, [8]⟩], [⟨4, [9]⟩, ⟨5, [9]⟩], [⟨4, [10]⟩, ⟨5, [10]⟩], [⟨4, [11]⟩, ⟨5, [11]⟩], [⟨4, [12]⟩, ⟨5, [12]⟩], [⟨4, [13]⟩, ⟨5, [13]⟩], [⟨4, [14]⟩, ⟨5, [14]⟩], [⟨4, [15]⟩, ⟨5, [15]⟩], [⟨4, [16]⟩, ⟨5, [16]⟩], [⟨4, [17]⟩, ⟨5, [17]⟩], [⟨4, [18]⟩, ⟨5, [18]⟩], [⟨4, [19]⟩, ⟨5, [19]⟩], [⟨4, [20]⟩, ⟨5, [20]⟩], [⟨4, [21]⟩, ⟨5, [21]⟩], [⟨4, [22]⟩, ⟨5, [22]⟩], [⟨4, [23]⟩, ⟨5, [23]⟩]], fs := [], jc := 0, B := 0}
noncomputable def jw : List LK := [⟨16, 11, lhW, 0⟩]
/-- Behind the clone: it is as it was. -/
noncomputable def lhC : LH := {clr := 7 :: (List.range 93).map (· + 10), gen := [], fs := [], jc := 0, B := 0, ren := [[⟨4, []⟩]]}
noncomputable def jk : List LK := [⟨16, 11, lhC, 0⟩]
noncomputable def ansf0 : Ans := lawRunB (envL Try.prog 80 false lk jk [] jw [(20, 7)] [] [] gts mfl mtl msl) 60 6 [] [] sa_f.i sa_f.obs (groupS [none] sa_f.l)
end Go.Proofs.Ythbdkghbkoibdaa.PmuPlays
