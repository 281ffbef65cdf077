/- HsmEdges: what the runs are told. No condition. -/
import Derived.Test.YtjffninagbmamaaSyE
import Derived.Test.YtjffninagbmamaaRows
namespace Go.Proofs.Ytjffninagbmamaa.HsmEdges
open Go.ChangeShapes Go.WideShapes Go.ChangeAt Go.RowKit Go.Sy
set_option linter.unusedVariables false
def ks : List LKd := [.int .i64, .sl [some .u8, some .i64, none, some .u64, some .u64]]
noncomputable def sa_f : SA := Option.rec ⟨[], [], [], 0, 0, 0⟩ (fun x => x) (symK ks [false] 0 4294967296 0)
noncomputable def sa_t : SA := Option.rec ⟨[], [], [], 0, 0, 0⟩ (fun x => x) (symK ks [true] 0 4294967296 0)
noncomputable def lh : LH := {clr := (List.range 205).map (· + 8), gen := [[⟨7, []⟩], [⟨6, [0]⟩], [⟨6, [1]⟩], [⟨6, [2]⟩], [⟨6, [3]⟩], [⟨6, [4]⟩], [⟨6, [5]⟩], [⟨6, [6]⟩], [⟨6, [7]⟩], [⟨6, [8]⟩], [⟨6, [9]⟩], [⟨6, [10]⟩], [⟨6, [11]⟩], [⟨6, [12]⟩], [⟨6, [13]⟩], [⟨6, [14]⟩], [⟨6, [15]⟩], [⟨6, [16]⟩], [⟨6, [17]⟩], [⟨6, [18]⟩], [⟨6, [19]⟩], [⟨6, [20]⟩], [⟨6, [21]⟩], [⟨6, [22]⟩], [⟨6, [23]⟩], [⟨6, [24]⟩], [⟨6, [25]⟩], [⟨6, [26]⟩], [⟨6, [27]⟩], [⟨6, [28]⟩], [⟨6, [29]⟩], [⟨6, [30]⟩], [⟨6, [31]⟩]], fs := [.bin .ult 64 (.var 1048576 64) (.lit 61), .bin .ult 64 (.var 1048577 64) (.lit 5), .un .bnot 1 (.bin .eq 64 (.var 1048577 64) (.lit 3)), .bin .ult 64 (.var 1048581 64) (.lit 5), .un .bnot 1 (.bin .eq 64 (.var 1048581 64) (.lit 3)), .bin .ult 64 (.var 1048585 64) (.lit 5), .un .bnot 1 (.bin .eq 64 (.var 1048585 64) (.lit 3)), .bin .ult 64 (.var 1048589 64) (.lit 5), .un .bnot 1 (.bin .eq 64 (.var 1048589 64) (.lit 3)), .bin .ult 64 (.var 1048593 64) (.lit 5), .un .bnot 1 (.bin .eq 64 (.var 1048593 64) (.lit 3)), .bin .ult 64 (.var 1048597 64) (.lit 5), .un .bnot 1 (.bin .eq 64 (.var 1048597 64) (.lit 3)), .bin .ult 64 (.var 1048601 64) (.lit 5), .un .bnot 1 (.bin .eq 64 (.var 1048601 64) (.lit 3)), .bin .ult 64 (.var 1048605 64) (.lit 5), .un .bnot 1 (.bin .eq 64 (.var 1048605 64) (.lit 3))], jc := 0, B := 60}
noncomputable def lk : List LK := [⟨6, 28, lh⟩]
end Go.Proofs.Ytjffninagbmamaa.HsmEdges
