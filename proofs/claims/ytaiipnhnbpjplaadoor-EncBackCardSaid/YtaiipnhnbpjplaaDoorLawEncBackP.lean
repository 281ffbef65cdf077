/- EncBack: what the runs are told. No condition. -/
import Derived.Test.YtaiipnhnbpjplaaDoorSyE
import Derived.Test.YtaiipnhnbpjplaaDoorRows
namespace Go.Proofs.YtaiipnhnbpjplaaDoor.EncBack
open Go.ChangeShapes Go.WideShapes Go.ChangeAt Go.RowKit Go.Sy
set_option linter.unusedVariables false
def ks : List LKd := [.int .u32, .int .u16]
noncomputable def sa_e : SA := Option.rec ⟨[], [], [], 0, 0, 0⟩ (fun x => x) (symK ks [] 0 4294967296 64)
noncomputable def gts : List Tab := []
/-- What was shown of the word is done with. -/
noncomputable def lhW : LH := {clr := [6, 7, 8] ++ (List.range 57).map (· + 14), gen := [], fs := [], jc := 0, B := 0}
noncomputable def jw : List LK := [⟨2, 11, lhW, 70⟩]
noncomputable def anse0 : Ans := lawRunB (envL Tryd.prog 200 false [] [] [] jw [(6, 7)] [9, 10, 15, 16, 21, 28, 20, 35, 36, 42, 17] [8] gts) 60 4 [] [] sa_e.i sa_e.obs (groupS [none, none] sa_e.l)
end Go.Proofs.YtaiipnhnbpjplaaDoor.EncBack
