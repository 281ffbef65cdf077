/- HsmPlays: runs of the program, some of its parts. No condition. -/
import Derived.Test.YtjffninagbmamaaLawHsmPlaysP
namespace Go.Proofs.Ytjffninagbmamaa.HsmPlays
open Go.ChangeShapes Go.WideShapes Go.ChangeAt Go.RowKit Go.Sy
set_option linter.unusedVariables false
set_option maxRecDepth 1000000 in
theorem runf4 : (lawRunB (envL Try.prog 60 false lk4 []) 60 7 [] [.bin .eq 64 (.var 0 64) (.lit 4)] sa_f.i sa_f.obs (groupS [none, none] sa_f.l)).good = true := by kernel_rfl
set_option maxRecDepth 1000000 in
theorem runf5 : (lawRunB (envL Try.prog 60 false lk5 []) 60 7 [] [.bin .eq 64 (.var 0 64) (.lit 5)] sa_f.i sa_f.obs (groupS [none, none] sa_f.l)).good = true := by kernel_rfl
end Go.Proofs.Ytjffninagbmamaa.HsmPlays
