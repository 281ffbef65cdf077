/- PlatStops: what the runs are told. No condition. -/
import Derived.Test.YtnakloibjdpmgaaGreatDoorSyE
import Derived.Test.YtnakloibjdpmgaaGreatDoorRows
namespace Go.Proofs.YtnakloibjdpmgaaGreatDoor.PlatStops
open Go.ChangeShapes Go.WideShapes Go.ChangeAt Go.RowKit Go.Sy
set_option linter.unusedVariables false
def ks : List LKd := [.int .u8, .int .u8, .int .u64]
noncomputable def sa_e : SA := Option.rec ⟨[], [], [], 0, 0, 0⟩ (fun x => x) (symK ks [] 0 4294967296 64)
noncomputable def mfl : List Nat := []
noncomputable def mt0 : List MT := []
noncomputable def mtl : List MT := mt0
noncomputable def ms0 : List SM := []
noncomputable def msl : List SM := ms0
noncomputable def gts : List Tab := []
noncomputable def lems : List Vc := [⟨[], .bin .ult 64 (.bin .add 64 (.lit 0) (.bin .sub 64 (.bin .add 64 (.lit 1) (.bin .urem 64 (.var 2 64) (.lit 1000))) (.lit 1))) (.bin .add 64 (.lit 1) (.bin .urem 64 (.var 2 64) (.lit 1000)))⟩, ⟨[], .un .bnot 1 (.bin .ult 64 (.bin .add 64 (.bin .add 64 (.lit 0) (.bin .sub 64 (.bin .add 64 (.lit 1) (.bin .urem 64 (.var 2 64) (.lit 1000))) (.lit 1))) (.lit 1)) (.bin .add 64 (.lit 1) (.bin .urem 64 (.var 2 64) (.lit 1000))))⟩, ⟨[], .un .bnot 1 (.bin .eq 64 (.bin .add 64 (.lit 1) (.bin .urem 64 (.var 2 64) (.lit 1000))) (.lit 18446744073709551615))⟩, ⟨[.un .bnot 1 (.bin .eq 64 (.bin .srem 64 (.var 0 8) (.lit 3)) (.lit 1)), .un .bnot 1 (.bin .eq 64 (.bin .srem 64 (.var 0 8) (.lit 3)) (.lit 2))], .bin .eq 64 (.bin .srem 64 (.var 0 8) (.lit 3)) (.lit 0)⟩]
/-- A pick in vain: nothing is changed. -/
noncomputable def lhP : LH := {clr := 14 :: (List.range 17).map (· + 47), gen := [[⟨13, []⟩]], fs := [.bin .ult 64 (.var 1048576 64) (.lit 22)], jc := 0, B := 21}
noncomputable def lk : List LK := [⟨17, 5, lhP, 0⟩]
end Go.Proofs.YtnakloibjdpmgaaGreatDoor.PlatStops
