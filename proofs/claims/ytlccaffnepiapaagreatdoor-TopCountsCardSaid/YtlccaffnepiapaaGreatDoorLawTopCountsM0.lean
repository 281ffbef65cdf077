/- TopCounts: calls that are known, some of them. No condition. -/
import Derived.Test.YtlccaffnepiapaaGreatDoorLawTopCountsP
namespace Go.Proofs.YtlccaffnepiapaaGreatDoor.TopCounts
open Go.ChangeShapes Go.WideShapes Go.ChangeAt Go.RowKit Go.Sy
set_option linter.unusedVariables false
set_option maxRecDepth 1000000 in
theorem memRun0 : (memRun (envL Tryz.prog 300 false [] [] [] [] [] [] [] [] mfl mt0) 200 me0).good = true := by kernel_rfl
set_option maxRecDepth 1000000 in
theorem memRun1 : (memRun (envL Tryz.prog 300 false [] [] [] [] [] [] [] [] mfl mt1) 200 me1).good = true := by kernel_rfl
set_option maxRecDepth 1000000 in
theorem memRun2 : (memRun (envL Tryz.prog 300 false [] [] [] [] [] [] [] [] mfl mt2) 200 me2).good = true := by kernel_rfl
set_option maxRecDepth 1000000 in
theorem memRun3 : (memRun (envL Tryz.prog 300 false [] [] [] [] [] [] [] [] mfl mt3) 200 me3).good = true := by kernel_rfl
end Go.Proofs.YtlccaffnepiapaaGreatDoor.TopCounts
