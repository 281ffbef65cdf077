/- PlatBoots: what the runs are told. No condition. -/
import Derived.Test.YtnakloibjdpmgaaGreatDoorSyE
import Derived.Test.YtnakloibjdpmgaaGreatDoorRows
namespace Go.Proofs.YtnakloibjdpmgaaGreatDoor.PlatBoots
open Go.ChangeShapes Go.WideShapes Go.ChangeAt Go.RowKit Go.Sy
set_option linter.unusedVariables false
def ks : List LKd := [.int .i64, .int .u64]
noncomputable def sa_e : SA := Option.rec ⟨[], [], [], 0, 0, 0⟩ (fun x => x) (symK ks [] 0 4294967296 64)
noncomputable def gts : List Tab := []
/-- A pick of one that does not run. -/
noncomputable def lhP : LH := {clr := 6 :: (List.range 17).map (· + 38), put := [(7, .bool (.lit 0)), (8, .bool (.lit 0))], gen := [], fs := [], jc := 0, B := 0}
noncomputable def jk : List LK := [⟨5, 13, lhP, 0⟩]
end Go.Proofs.YtnakloibjdpmgaaGreatDoor.PlatBoots
