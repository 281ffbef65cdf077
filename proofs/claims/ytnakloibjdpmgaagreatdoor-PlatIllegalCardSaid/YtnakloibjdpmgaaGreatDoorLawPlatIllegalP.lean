/- PlatIllegal: what the runs are told. No condition. -/
import Derived.Test.YtnakloibjdpmgaaGreatDoorSyE
import Derived.Test.YtnakloibjdpmgaaGreatDoorRows
namespace Go.Proofs.YtnakloibjdpmgaaGreatDoor.PlatIllegal
open Go.ChangeShapes Go.WideShapes Go.ChangeAt Go.RowKit Go.Sy
set_option linter.unusedVariables false
def ks : List LKd := [.int .u8, .bool]
noncomputable def sa_e : SA := Option.rec ⟨[], [], [], 0, 0, 0⟩ (fun x => x) (symK ks [] 0 4294967296 64)
noncomputable def gts : List Tab := []
/-- A pick of one that runs. -/
noncomputable def lhP : LH := {clr := 6 :: (List.range 17).map (· + 38), put := [(7, .bool (.lit 0)), (8, .bool (.lit 1))], gen := [], fs := [], jc := 0, B := 0}
noncomputable def jk : List LK := [⟨5, 13, lhP, 0⟩]
/-- What goes on as it was, an instruction more each time. -/
noncomputable def lhF : LH := {clr := (List.range 7).map (· + 31), gen := [[⟨9, []⟩, ⟨7, [1, 0, 44]⟩, ⟨7, [1, 0, 45]⟩]], fs := [.bin .ult 64 (.var 1048576 64) (.lit 21)], jc := 0, B := 21}
/-- What faults again. -/
noncomputable def lhI : LH := {clr := (List.range 7).map (· + 31), gen := [[⟨9, []⟩, ⟨7, [1, 0, 44]⟩]], fs := [.bin .ult 64 (.var 1048576 64) (.lit 21)], jc := 0, B := 21, when := [(9, 2)]}
noncomputable def lkF : List LK := [⟨11, 3, lhF, 0⟩]
noncomputable def lkI : List LK := [⟨11, 3, lhI, 0⟩]
noncomputable def anse1 : Ans := lawRunB (envL Tryz.prog 300 false lkI jk [] [] [] [] [7] gts) 200 3 [] [.un .bnot 1 (.var 1 1)] sa_e.i sa_e.obs (groupS [none, none] sa_e.l)
end Go.Proofs.YtnakloibjdpmgaaGreatDoor.PlatIllegal
