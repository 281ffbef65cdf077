/- PmuErrors: runs of the program, some of its parts. No condition. -/
import Derived.Test.YthbdkghbkoibdaaLawPmuErrorsP
namespace Go.Proofs.Ythbdkghbkoibdaa.PmuErrors
open Go.ChangeShapes Go.WideShapes Go.ChangeAt Go.RowKit Go.Sy
set_option linter.unusedVariables false
set_option maxRecDepth 1000000 in
theorem runt22 : (lawRunB (envL Try.prog 80 false lk [] [] jw [(13, 12)]) 60 7 [] [] sa_t.i sa_t.obs (groupS [none] sa_t.l)).good = true := by kernel_rfl
end Go.Proofs.Ythbdkghbkoibdaa.PmuErrors
