/- TopIpis: calls that are known, some of them. No condition. -/
import Derived.Test.YtlccaffnepiapaaGreatDoorLawTopIpisP
namespace Go.Proofs.YtlccaffnepiapaaGreatDoor.TopIpis
open Go.ChangeShapes Go.WideShapes Go.ChangeAt Go.RowKit Go.Sy
set_option linter.unusedVariables false
set_option maxRecDepth 1000000 in
theorem memRun7 : (memRun (envL Tryz.prog 300 false [] [] [] [] [] [] [] [] mfl mt7) 200 me7).good = true := by kernel_rfl
set_option maxRecDepth 1000000 in
theorem memRun8 : (memRun (envL Tryz.prog 300 false [] [] [] [] [] [] [] [] mfl mt8) 200 me8).good = true := by kernel_rfl
set_option maxRecDepth 1000000 in
theorem memRun9 : (memRun (envL Tryz.prog 300 false [] [] [] [] [] [] [] [] mfl mt9) 200 me9).good = true := by kernel_rfl
set_option maxRecDepth 1000000 in
theorem memRun10 : (memRun (envL Tryz.prog 300 false [] [] [] [] [] [] [] [] mfl mt10) 200 me10).good = true := by kernel_rfl
set_option maxRecDepth 1000000 in
theorem memRun11 : (memRun (envL Tryz.prog 300 false [] [] [] [] [] [] [] [] mfl mt11) 200 me11).good = true := by kernel_rfl
set_option maxRecDepth 1000000 in
theorem memRun12 : (memRun (envL Tryz.prog 300 false [] [] [] [] [] [] [] [] mfl mt12) 200 me12).good = true := by kernel_rfl
set_option maxRecDepth 1000000 in
theorem memRun13 : (memRun (envL Tryz.prog 300 false [] [] [] [] [] [] [] [] mfl mt13) 200 me13).good = true := by kernel_rfl
end Go.Proofs.YtlccaffnepiapaaGreatDoor.TopIpis
