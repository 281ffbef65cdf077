/- CsrLegal: what the runs are told. No condition. -/
import Derived.Test.YtloiidjedmhpcaaSyE
import Derived.Test.YtloiidjedmhpcaaRows
namespace Go.Proofs.Ytloiidjedmhpcaa.CsrLegal
open Go.ChangeShapes Go.WideShapes Go.ChangeAt Go.RowKit Go.Sy
set_option linter.unusedVariables false
def ks : List LKd := [.int .u64, .int .u64, .int .u64, .int .u64, .int .u64, .int .u64, .int .u64, .int .u64, .int .u64, .int .u64, .int .u64, .int .u64, .int .i64, .int .i64, .bool, .int .u64, .int .u64]
noncomputable def sa_e : SA := Option.rec ⟨[], [], [], 0, 0, 0⟩ (fun x => x) (symK ks [] 0 4294967296 0)
/-- The rules, in whatever order. -/
noncomputable def lh : LH := {clr := [3, 4] ++ (List.range 34).map (· + 7), gen := [[⟨6, [0]⟩], [⟨6, [1]⟩], [⟨6, [2]⟩], [⟨6, [3]⟩], [⟨6, [4]⟩], [⟨6, [5]⟩], [⟨6, [6]⟩], [⟨6, [7]⟩], [⟨6, [8]⟩], [⟨6, [9]⟩]], set := [(⟨1, [0]⟩, .ite (.var 1048576 1) (.var 8388608 64) (.bin .or 64 (.bin .and 64 (.var 8388608 64) (.lit 786722)) (.lit 8589934592))), (⟨1, [1]⟩, .ite (.var 1048577 1) (.var 8388608 64) (.bin .or 64 (.bin .and 64 (.var 8388608 64) (.lit 546)) (.lit 0))), (⟨1, [2]⟩, .ite (.var 1048578 1) (.var 8388608 64) (.bin .or 64 (.bin .and 64 (.var 8388608 64) (.lit 18446744073709551613)) (.lit 0))), (⟨1, [3]⟩, .ite (.var 1048579 1) (.var 8388608 64) (.bin .or 64 (.bin .and 64 (.var 8388608 64) (.lit 7)) (.lit 0))), (⟨1, [4]⟩, .ite (.var 1048580 1) (.var 8388608 64) (.bin .or 64 (.bin .and 64 (.var 8388608 64) (.lit 18446744073709551615)) (.lit 0))), (⟨1, [5]⟩, .ite (.var 1048581 1) (.var 8388608 64) (.bin .or 64 (.bin .and 64 (.var 8388608 64) (.lit 18446744073709551614)) (.lit 0))), (⟨1, [6]⟩, .ite (.var 1048582 1) (.var 8388608 64) (.bin .or 64 (.bin .and 64 (.var 8388608 64) (.lit 18446744073709551615)) (.lit 0))), (⟨1, [7]⟩, .ite (.var 1048583 1) (.var 8388608 64) (.bin .or 64 (.bin .and 64 (.var 8388608 64) (.lit 18446744073709551615)) (.lit 0)))], fs := [], jc := 0, B := 0, mu := some (.bin .add 64 (.bin .add 64 (.bin .add 64 (.bin .add 64 (.bin .add 64 (.bin .add 64 (.bin .add 64 (.bin .add 64 (.bin .add 64 (.var 1048576 1) (.var 1048577 1)) (.var 1048578 1)) (.var 1048579 1)) (.var 1048580 1)) (.var 1048581 1)) (.var 1048582 1)) (.var 1048583 1)) (.var 1048584 1)) (.var 1048585 1))}
noncomputable def lk : List LK := [⟨2, 4, lh, 0⟩]
noncomputable def anse0 : Ans := lawRunB (envL Try.prog 40 false lk [] [] [] [] [10, 11, 12, 13, 14, 15, 16, 17, 18, 19, 20, 21] []) 60 4 [] [] sa_e.i sa_e.obs (groupS [some 12, some 5] sa_e.l)
end Go.Proofs.Ytloiidjedmhpcaa.CsrLegal
