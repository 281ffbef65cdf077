/- TopDivides: calls that are known, some of them. No condition. -/
import Derived.Test.YtlccaffnepiapaaGreatDoorLawTopDividesP
namespace Go.Proofs.YtlccaffnepiapaaGreatDoor.TopDivides
open Go.ChangeShapes Go.WideShapes Go.ChangeAt Go.RowKit Go.Sy
set_option linter.unusedVariables false
set_option maxRecDepth 1000000 in
theorem memRun16 : (memRun (envL Tryz.prog 300 false [] [] [] [] [] [] [] [] mfl mt16) 200 me16).good = true := by kernel_rfl
set_option maxRecDepth 1000000 in
theorem sumRun0 : (sumRun (envL Tryz.prog 300 false [] [] [] [] [] [] [] [] mfl mtl ms0) 200 se0).good = true := by kernel_rfl
set_option maxRecDepth 1000000 in
theorem sumRun1 : (sumRun (envL Tryz.prog 300 false [] [] [] [] [] [] [] [] mfl mtl ms1) 200 se1).good = true := by kernel_rfl
set_option maxRecDepth 1000000 in
theorem sumRun2 : (sumRun (envL Tryz.prog 300 false [] [] [] [] [] [] [] [] mfl mtl ms2) 200 se2).good = true := by kernel_rfl
set_option maxRecDepth 1000000 in
theorem sumRun3 : (sumRun (envL Tryz.prog 300 false [] [] [] [] [] [] [] [] mfl mtl ms3) 200 se3).good = true := by kernel_rfl
set_option maxRecDepth 1000000 in
theorem sumRun4 : (sumRun (envL Tryz.prog 300 false [] [] [] [] [] [] [] [] mfl mtl ms4) 200 se4).good = true := by kernel_rfl
set_option maxRecDepth 1000000 in
theorem sumRun5 : (sumRun (envL Tryz.prog 300 false [] [] [] [] [] [] [] [] mfl mtl ms5) 200 se5).good = true := by kernel_rfl
set_option maxRecDepth 1000000 in
theorem sumRun6 : (sumRun (envL Tryz.prog 300 false [] [] [] [] [] [] [] [] mfl mtl ms6) 200 se6).good = true := by kernel_rfl
end Go.Proofs.YtlccaffnepiapaaGreatDoor.TopDivides
