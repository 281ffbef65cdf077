/- TopCounts: runs of the program, some of its parts. No condition. -/
import Derived.Test.YtlccaffnepiapaaGreatDoorLawTopCountsP
namespace Go.Proofs.YtlccaffnepiapaaGreatDoor.TopCounts
open Go.ChangeShapes Go.WideShapes Go.ChangeAt Go.RowKit Go.Sy
set_option linter.unusedVariables false
set_option maxRecDepth 1000000 in
theorem rune0 : (lawRunB (envL Tryz.prog 300 false lk jk [] [] [] [] [8] gts mfl mtl msl) 200 4 lems [] sa_e.i sa_e.obs (groupS [none, none] sa_e.l)).good = true := by kernel_rfl
end Go.Proofs.YtlccaffnepiapaaGreatDoor.TopCounts
