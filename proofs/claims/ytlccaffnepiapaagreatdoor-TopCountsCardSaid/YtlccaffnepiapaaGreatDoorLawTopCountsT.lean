/- TopCounts: what is shown at the head. No condition. -/
import Derived.Test.YtlccaffnepiapaaGreatDoorLawTopCountsP
namespace Go.Proofs.YtlccaffnepiapaaGreatDoor.TopCounts
open Go.ChangeShapes Go.WideShapes Go.ChangeAt Go.RowKit Go.Sy
set_option linter.unusedVariables false
set_option maxRecDepth 1000000 in
theorem trueRun8 : (lawRunB (envL Tryz.prog 300 false [] [] [] [] [] [] [] gts mfl mtl msl) 200 8 [] [] 0 [] []).good = true := by kernel_rfl
end Go.Proofs.YtlccaffnepiapaaGreatDoor.TopCounts
