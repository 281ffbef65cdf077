/- EncRegisters: what the runs are told. No condition. -/
import Derived.Test.YtaiipnhnbpjplaaDoorSyE
import Derived.Test.YtaiipnhnbpjplaaDoorRows
namespace Go.Proofs.YtaiipnhnbpjplaaDoor.EncRegisters
open Go.ChangeShapes Go.WideShapes Go.ChangeAt Go.RowKit Go.Sy
set_option linter.unusedVariables false
def ks : List LKd := [.int .u32, .int .u8, .int .u8, .int .u8]
noncomputable def sa_e : SA := Option.rec ⟨[], [], [], 0, 0, 0⟩ (fun x => x) (symK ks [] 0 4294967296 0)
noncomputable def anse0 : Ans := lawRunB (envL Tryd.prog 200 false [] [] [] [] [] [] [8]) 60 7 [] [] sa_e.i sa_e.obs (groupS [none, some 3] sa_e.l)
end Go.Proofs.YtaiipnhnbpjplaaDoor.EncRegisters
