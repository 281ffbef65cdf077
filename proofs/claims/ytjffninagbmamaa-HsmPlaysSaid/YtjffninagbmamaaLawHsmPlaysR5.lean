/- HsmPlays: runs of the program, some of its parts. No condition. -/
import Derived.Test.YtjffninagbmamaaLawHsmPlaysP
namespace Go.Proofs.Ytjffninagbmamaa.HsmPlays
open Go.ChangeShapes Go.WideShapes Go.ChangeAt Go.RowKit Go.Sy
set_option linter.unusedVariables false
set_option maxRecDepth 1000000 in
theorem runt10 : (lawRunB (envL Try.prog 60 false lk1 []) 60 7 [] [.bin .slt 64 (.var 0 64) (.lit 1)] sa_t.i sa_t.obs (groupS [none, none] sa_t.l)).good = true := by kernel_rfl
set_option maxRecDepth 1000000 in
theorem runt11 : (lawRunB (envL Try.prog 60 false lk1 []) 60 7 [] [.bin .eq 64 (.var 0 64) (.lit 1)] sa_t.i sa_t.obs (groupS [none, none] sa_t.l)).good = true := by kernel_rfl
end Go.Proofs.Ytjffninagbmamaa.HsmPlays
