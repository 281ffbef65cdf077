/- PlatIllegal: runs of the program, some of its parts. No condition. -/
import Derived.Test.YtnakloibjdpmgaaGreatDoorLawPlatIllegalP
namespace Go.Proofs.YtnakloibjdpmgaaGreatDoor.PlatIllegal
open Go.ChangeShapes Go.WideShapes Go.ChangeAt Go.RowKit Go.Sy
set_option linter.unusedVariables false
set_option maxRecDepth 1000000 in
theorem rune0 : (lawRunB (envL Tryz.prog 300 false lkF jk [] [] [] [] [7] gts) 200 3 [] [.var 1 1] sa_e.i sa_e.obs (groupS [none, none] sa_e.l)).good = true := by kernel_rfl
end Go.Proofs.YtnakloibjdpmgaaGreatDoor.PlatIllegal
