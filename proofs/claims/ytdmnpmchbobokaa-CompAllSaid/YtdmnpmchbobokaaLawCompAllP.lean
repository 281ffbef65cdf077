/- CompAll: what the runs are told. No condition. -/
import Derived.Test.YtdmnpmchbobokaaSyE
import Derived.Test.YtdmnpmchbobokaaRows
namespace Go.Proofs.Ytdmnpmchbobokaa.CompAll
open Go.ChangeShapes Go.WideShapes Go.ChangeAt Go.RowKit Go.Sy
set_option linter.unusedVariables false
def ks : List LKd := [.int .u16, .int .u32]
noncomputable def sa_e : SA := Option.rec ⟨[], [], [], 0, 0, 0⟩ (fun x => x) (symK ks [] 0 4294967296 0)
noncomputable def lhJ : LH := {clr := [9, 10, 11, 12, 13], gen := [], fs := [], jc := 0, B := 0, put := [(14, .bool (.lit 1)), (15, .bool (.lit 1)), (16, .int .u32 (.var 1 32))]}
noncomputable def rj : List RJ := [⟨2, 16, 10, lhJ⟩]
noncomputable def anse0 : Ans := lawRunB (envL Try.prog 100 false [] [] rj) 100 5 [] [] sa_e.i sa_e.obs (groupS [none, none] sa_e.l)
end Go.Proofs.Ytdmnpmchbobokaa.CompAll
