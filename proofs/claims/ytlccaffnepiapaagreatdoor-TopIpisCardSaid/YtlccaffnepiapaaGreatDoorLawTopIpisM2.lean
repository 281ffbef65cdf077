/- TopIpis: calls that are known, some of them. No condition. -/
import Derived.Test.YtlccaffnepiapaaGreatDoorLawTopIpisP
namespace Go.Proofs.YtlccaffnepiapaaGreatDoor.TopIpis
open Go.ChangeShapes Go.WideShapes Go.ChangeAt Go.RowKit Go.Sy
set_option linter.unusedVariables false
set_option maxRecDepth 1000000 in
theorem memRun14 : (memRun (envL Tryz.prog 300 false [] [] [] [] [] [] [] [] mfl mt14) 200 me14).good = true := by kernel_rfl
set_option maxRecDepth 1000000 in
theorem sumRun0 : (sumRun (envL Tryz.prog 300 false [] [] [] [] [] [] [] [] mfl mtl ms0) 200 se0).good = true := by kernel_rfl
set_option maxRecDepth 1000000 in
theorem sumRun1 : (sumRun (envL Tryz.prog 300 false [] [] [] [] [] [] [] [] mfl mtl ms1) 200 se1).good = true := by kernel_rfl
set_option maxRecDepth 1000000 in
theorem sumRun2 : (sumRun (envL Tryz.prog 300 false [] [] [] [] [] [] [] [] mfl mtl ms2) 200 se2).good = true := by kernel_rfl
set_option maxRecDepth 1000000 in
theorem trueRun8 : (lawRunB (envL Tryz.prog 300 false [] [] [] [] [] [] [] gts mfl mtl msl) 200 8 [] [] 0 [] []).good = true := by kernel_rfl
end Go.Proofs.YtlccaffnepiapaaGreatDoor.TopIpis
