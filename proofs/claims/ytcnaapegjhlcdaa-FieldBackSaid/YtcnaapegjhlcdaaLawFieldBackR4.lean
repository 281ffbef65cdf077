/- FieldBack: runs of the program, some of its parts. No condition. -/
import Derived.Test.YtcnaapegjhlcdaaSyE
import Derived.Test.YtcnaapegjhlcdaaRows
namespace Go.Proofs.Ytcnaapegjhlcdaa.FieldBack
open Go.ChangeShapes Go.WideShapes Go.ChangeAt Go.RowKit Go.Sy
set_option linter.unusedVariables false
theorem run80 : (lawRunA (env0 Try.prog 100 false) 100 3 [] [.un .bnot 1 (.bin .eq 64 (.bin .srem 64 (.var 1 8) (.lit 5)) (.lit 0)), .un .bnot 1 (.bin .eq 64 (.bin .srem 64 (.var 1 8) (.lit 5)) (.lit 1)), .un .bnot 1 (.bin .eq 64 (.bin .srem 64 (.var 1 8) (.lit 5)) (.lit 2)), .un .bnot 1 (.bin .eq 64 (.bin .srem 64 (.var 1 8) (.lit 5)) (.lit 3)), .bin .eq 64 (.bin .srem 64 (.var 1 8) (.lit 5)) (.lit 4), .un .bnot 1 (.bin .and 32 (.bin .shr 32 (.var 0 32) (.lit 21)) (.lit 1))] 2 [.int .u32 (.var 0 32), .int .u8 (.var 1 8)]).good = true := by kernel_rfl
end Go.Proofs.Ytcnaapegjhlcdaa.FieldBack
