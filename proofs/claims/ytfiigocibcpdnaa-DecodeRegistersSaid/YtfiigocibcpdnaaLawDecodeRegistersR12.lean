/- DecodeRegisters: runs of the program, some of its parts. No condition. -/
import Derived.Test.YtfiigocibcpdnaaSyE
import Derived.Test.YtfiigocibcpdnaaRows
namespace Go.Proofs.Ytfiigocibcpdnaa.DecodeRegisters
open Go.ChangeShapes Go.WideShapes Go.ChangeAt Go.RowKit Go.Sy
set_option linter.unusedVariables false
theorem run12 : (lawRunA (env0 Try.prog 100 false) 100 5 [] [.un .bnot 1 (.bin .eq 32 (.bin .and 32 (.var 0 32) (.lit 127)) (.lit 51)), .un .bnot 1 (.bin .eq 32 (.bin .and 32 (.var 0 32) (.lit 127)) (.lit 59)), .un .bnot 1 (.bin .eq 32 (.bin .and 32 (.var 0 32) (.lit 127)) (.lit 19)), .un .bnot 1 (.bin .eq 32 (.bin .and 32 (.var 0 32) (.lit 127)) (.lit 27)), .bin .eq 32 (.bin .and 32 (.var 0 32) (.lit 127)) (.lit 3), .un .bnot 1 (.bin .ult 32 (.bin .and 32 (.bin .shr 32 (.var 0 32) (.lit 12)) (.lit 7)) (.lit 4))] 3 [.int .u32 (.var 0 32), .agg [.int .u8 (.var 1 8), .int .u8 (.var 2 8)]]).good = true := by kernel_rfl
end Go.Proofs.Ytfiigocibcpdnaa.DecodeRegisters
