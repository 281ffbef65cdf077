/- HsmSleeps: runs of the program, some of its parts. No condition. -/
import Derived.Test.YtjffninagbmamaaSyE
import Derived.Test.YtjffninagbmamaaRows
namespace Go.Proofs.Ytjffninagbmamaa.HsmSleeps
open Go.ChangeShapes Go.WideShapes Go.ChangeAt Go.RowKit Go.Sy
set_option linter.unusedVariables false
theorem run2 : (lawRunA (env0 Try.prog 60 false) 60 4 [] [.bin .slt 64 (.bin .srem 64 (.var 1 8) (.lit 21)) (.lit 17), .un .bnot 1 (.bin .slt 64 (.bin .srem 64 (.var 1 8) (.lit 21)) (.lit 10)), .un .bnot 1 (.bin .slt 64 (.bin .srem 64 (.var 1 8) (.lit 21)) (.lit 14))] 5 [.int .u8 (.var 0 8), .int .u8 (.var 1 8), .agg [.int .u64 (.var 2 64), .int .u64 (.var 3 64), .bool (.var 4 1)]]).good = true := by kernel_rfl
theorem run3 : (lawRunA (env0 Try.prog 60 false) 60 4 [] [.bin .slt 64 (.bin .srem 64 (.var 1 8) (.lit 21)) (.lit 19), .un .bnot 1 (.bin .slt 64 (.bin .srem 64 (.var 1 8) (.lit 21)) (.lit 10)), .un .bnot 1 (.bin .slt 64 (.bin .srem 64 (.var 1 8) (.lit 21)) (.lit 14)), .un .bnot 1 (.bin .slt 64 (.bin .srem 64 (.var 1 8) (.lit 21)) (.lit 17))] 5 [.int .u8 (.var 0 8), .int .u8 (.var 1 8), .agg [.int .u64 (.var 2 64), .int .u64 (.var 3 64), .bool (.var 4 1)]]).good = true := by kernel_rfl
end Go.Proofs.Ytjffninagbmamaa.HsmSleeps
