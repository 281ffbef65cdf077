/- HsmPlays: runs of the program, some of its parts. No condition. -/
import Derived.Test.YtjffninagbmamaaLawHsmPlaysP
namespace Go.Proofs.Ytjffninagbmamaa.HsmPlays
open Go.ChangeShapes Go.WideShapes Go.ChangeAt Go.RowKit Go.Sy
set_option linter.unusedVariables false
set_option maxRecDepth 1000000 in
theorem runf8 : (lawRunB (envL Try.prog 60 false lk8 []) 60 7 [] [.bin .eq 64 (.var 0 64) (.lit 8)] sa_f.i sa_f.obs (groupS [none, none] sa_f.l)).good = true := by kernel_rfl
set_option maxRecDepth 1000000 in
theorem runf9 : (lawRunB (envL Try.prog 60 false lk8 []) 60 7 [] [.un .bnot 1 (.bin .slt 64 (.var 0 64) (.lit 9))] sa_f.i sa_f.obs (groupS [none, none] sa_f.l)).good = true := by kernel_rfl
end Go.Proofs.Ytjffninagbmamaa.HsmPlays
