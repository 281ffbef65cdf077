/- TopCounts: calls that are known, some of them. No condition. -/
import Derived.Test.YtlccaffnepiapaaGreatDoorLawTopCountsP
namespace Go.Proofs.YtlccaffnepiapaaGreatDoor.TopCounts
open Go.ChangeShapes Go.WideShapes Go.ChangeAt Go.RowKit Go.Sy
set_option linter.unusedVariables false
set_option maxRecDepth 1000000 in
theorem memRun4 : (memRun (envL Tryz.prog 300 false [] [] [] [] [] [] [] [] mfl mt4) 200 me4).good = true := by kernel_rfl
set_option maxRecDepth 1000000 in
theorem sumRun0 : (sumRun (envL Tryz.prog 300 false [] [] [] [] [] [] [] [] mfl mtl ms0) 200 se0).good = true := by kernel_rfl
end Go.Proofs.YtlccaffnepiapaaGreatDoor.TopCounts
