/- DecodeNone: runs of the program, some of its parts. No condition. -/
import Derived.Test.YtfiigocibcpdnaaSyE
import Derived.Test.YtfiigocibcpdnaaRows
namespace Go.Proofs.Ytfiigocibcpdnaa.DecodeNone
open Go.ChangeShapes Go.WideShapes Go.ChangeAt Go.RowKit Go.Sy
set_option linter.unusedVariables false
theorem run0 : (lawRunA (env0 Try.prog 100 false) 100 6 [] [.bin .eq 32 (.bin .and 32 (.var 0 32) (.lit 127)) (.lit 51), .bin .eq 32 (.bin .and 32 (.bin .shr 32 (.var 0 32) (.lit 25)) (.lit 127)) (.lit 0)] 1 [.int .u32 (.var 0 32)]).good = true := by kernel_rfl
theorem run1 : (lawRunA (env0 Try.prog 100 false) 100 6 [] [.bin .eq 32 (.bin .and 32 (.var 0 32) (.lit 127)) (.lit 51), .un .bnot 1 (.bin .eq 32 (.bin .and 32 (.bin .shr 32 (.var 0 32) (.lit 25)) (.lit 127)) (.lit 0)), .bin .eq 32 (.bin .and 32 (.bin .shr 32 (.var 0 32) (.lit 25)) (.lit 127)) (.lit 32)] 1 [.int .u32 (.var 0 32)]).good = true := by kernel_rfl
end Go.Proofs.Ytfiigocibcpdnaa.DecodeNone
