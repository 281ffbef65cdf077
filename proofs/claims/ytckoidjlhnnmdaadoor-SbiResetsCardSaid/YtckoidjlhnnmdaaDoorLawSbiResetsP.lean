/- SbiResets: what the runs are told. No condition. -/
import Derived.Test.YtckoidjlhnnmdaaDoorSyE
import Derived.Test.YtckoidjlhnnmdaaDoorRows
namespace Go.Proofs.YtckoidjlhnnmdaaDoor.SbiResets
open Go.ChangeShapes Go.WideShapes Go.ChangeAt Go.RowKit Go.Sy
set_option linter.unusedVariables false
def ks : List LKd := [.int .u64, .int .u64, .int .u64, .int .u64]
noncomputable def sa_e : SA := Option.rec ⟨[], [], [], 0, 0, 0⟩ (fun x => x) (symK ks [] 0 4294967296 0)
end Go.Proofs.YtckoidjlhnnmdaaDoor.SbiResets
