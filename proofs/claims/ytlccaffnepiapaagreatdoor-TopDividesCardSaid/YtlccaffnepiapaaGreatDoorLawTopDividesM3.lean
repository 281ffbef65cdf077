/- TopDivides: calls that are known, some of them. No condition. -/
import Derived.Test.YtlccaffnepiapaaGreatDoorLawTopDividesP
namespace Go.Proofs.YtlccaffnepiapaaGreatDoor.TopDivides
open Go.ChangeShapes Go.WideShapes Go.ChangeAt Go.RowKit Go.Sy
set_option linter.unusedVariables false
set_option maxRecDepth 1000000 in
theorem sumRun7 : (sumRun (envL Tryz.prog 300 false [] [] [] [] [] [] [] [] mfl mtl ms7) 200 se7).good = true := by kernel_rfl
set_option maxRecDepth 1000000 in
theorem sumRun8 : (sumRun (envL Tryz.prog 300 false [] [] [] [] [] [] [] [] mfl mtl ms8) 200 se8).good = true := by kernel_rfl
set_option maxRecDepth 1000000 in
theorem sumRun9 : (sumRun (envL Tryz.prog 300 false [] [] [] [] [] [] [] [] mfl mtl ms9) 200 se9).good = true := by kernel_rfl
set_option maxRecDepth 1000000 in
theorem sumRun10 : (sumRun (envL Tryz.prog 300 false [] [] [] [] [] [] [] [] mfl mtl ms10) 200 se10).good = true := by kernel_rfl
set_option maxRecDepth 1000000 in
theorem sumRun11 : (sumRun (envL Tryz.prog 300 false [] [] [] [] [] [] [] [] mfl mtl ms11) 200 se11).good = true := by kernel_rfl
end Go.Proofs.YtlccaffnepiapaaGreatDoor.TopDivides
