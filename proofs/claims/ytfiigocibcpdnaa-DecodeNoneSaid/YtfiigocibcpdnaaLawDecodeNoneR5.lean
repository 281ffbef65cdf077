/- DecodeNone: runs of the program, some of its parts. No condition. -/
import Derived.Test.YtfiigocibcpdnaaSyE
import Derived.Test.YtfiigocibcpdnaaRows
namespace Go.Proofs.Ytfiigocibcpdnaa.DecodeNone
open Go.ChangeShapes Go.WideShapes Go.ChangeAt Go.RowKit Go.Sy
set_option linter.unusedVariables false
theorem run10 : (lawRunA (env0 Try.prog 100 false) 100 6 [] [.un .bnot 1 (.bin .eq 32 (.bin .and 32 (.var 0 32) (.lit 127)) (.lit 51)), .un .bnot 1 (.bin .eq 32 (.bin .and 32 (.var 0 32) (.lit 127)) (.lit 59)), .un .bnot 1 (.bin .eq 32 (.bin .and 32 (.var 0 32) (.lit 127)) (.lit 19)), .bin .eq 32 (.bin .and 32 (.var 0 32) (.lit 127)) (.lit 27)] 1 [.int .u32 (.var 0 32)]).good = true := by kernel_rfl
theorem run11 : (lawRunA (env0 Try.prog 100 false) 100 6 [] [.un .bnot 1 (.bin .eq 32 (.bin .and 32 (.var 0 32) (.lit 127)) (.lit 51)), .un .bnot 1 (.bin .eq 32 (.bin .and 32 (.var 0 32) (.lit 127)) (.lit 59)), .un .bnot 1 (.bin .eq 32 (.bin .and 32 (.var 0 32) (.lit 127)) (.lit 19)), .un .bnot 1 (.bin .eq 32 (.bin .and 32 (.var 0 32) (.lit 127)) (.lit 27)), .bin .eq 32 (.bin .and 32 (.var 0 32) (.lit 127)) (.lit 3)] 1 [.int .u32 (.var 0 32)]).good = true := by kernel_rfl
end Go.Proofs.Ytfiigocibcpdnaa.DecodeNone
