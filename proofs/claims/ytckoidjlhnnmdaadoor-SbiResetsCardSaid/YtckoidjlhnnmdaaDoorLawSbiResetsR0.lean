/- SbiResets: runs of the program, some of its parts. No condition. -/
import Derived.Test.YtckoidjlhnnmdaaDoorLawSbiResetsP
namespace Go.Proofs.YtckoidjlhnnmdaaDoor.SbiResets
open Go.ChangeShapes Go.WideShapes Go.ChangeAt Go.RowKit Go.Sy
set_option linter.unusedVariables false
set_option maxRecDepth 1000000 in
theorem rune0 : (lawRunB (envL Tryd.prog 200 false [] [] [] [] [] [] []) 60 3 [] [] sa_e.i sa_e.obs (groupS [some 2, some 2] sa_e.l)).good = true := by kernel_rfl
end Go.Proofs.YtckoidjlhnnmdaaDoor.SbiResets
