/- PmuSets: runs of the program, some of its parts. No condition. -/
import Derived.Test.YthbdkghbkoibdaaLawPmuSetsP
namespace Go.Proofs.Ythbdkghbkoibdaa.PmuSets
open Go.ChangeShapes Go.WideShapes Go.ChangeAt Go.RowKit Go.Sy
set_option linter.unusedVariables false
set_option maxRecDepth 1000000 in
theorem rune8 : (lawRunB (envL Try.prog 80 false lkN []) 60 4 [] [.bin .eq 64 (.var 0 64) (.lit 2), .bin .eq 64 (.bin .shr 64 (.var 1 64) (.lit 4)) (.lit 0)] sa_e.i sa_e.obs (groupS [none, none, some 2] sa_e.l)).good = true := by kernel_rfl
set_option maxRecDepth 1000000 in
theorem rune9 : (lawRunB (envL Try.prog 80 false lk4 []) 60 4 [] [.bin .eq 64 (.var 0 64) (.lit 2), .un .bnot 1 (.bin .eq 64 (.bin .shr 64 (.var 1 64) (.lit 4)) (.lit 0))] sa_e.i sa_e.obs (groupS [none, none, some 2] sa_e.l)).good = true := by kernel_rfl
end Go.Proofs.Ythbdkghbkoibdaa.PmuSets
