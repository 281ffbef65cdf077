/- PlatTicks: runs of the program, some of its parts. No condition. -/
import Derived.Test.YtnakloibjdpmgaaGreatDoorLawPlatTicksP
namespace Go.Proofs.YtnakloibjdpmgaaGreatDoor.PlatTicks
open Go.ChangeShapes Go.WideShapes Go.ChangeAt Go.RowKit Go.Sy
set_option linter.unusedVariables false
set_option maxRecDepth 1000000 in
theorem runf0 : (lawRunB (envL Tryz.prog 300 false lk jk [] [] [] [] [7] gts mfl mtl msl) 200 5 [] [] sa_f.i sa_f.obs (groupS [some 8, none] sa_f.l)).good = true := by kernel_rfl
end Go.Proofs.YtnakloibjdpmgaaGreatDoor.PlatTicks
