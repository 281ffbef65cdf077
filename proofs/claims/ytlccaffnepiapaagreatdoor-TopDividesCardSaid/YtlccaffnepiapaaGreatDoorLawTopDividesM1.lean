/- TopDivides: calls that are known, some of them. No condition. -/
import Derived.Test.YtlccaffnepiapaaGreatDoorLawTopDividesP
namespace Go.Proofs.YtlccaffnepiapaaGreatDoor.TopDivides
open Go.ChangeShapes Go.WideShapes Go.ChangeAt Go.RowKit Go.Sy
set_option linter.unusedVariables false
set_option maxRecDepth 1000000 in
theorem memRun8 : (memRun (envL Tryz.prog 300 false [] [] [] [] [] [] [] [] mfl mt8) 200 me8).good = true := by kernel_rfl
set_option maxRecDepth 1000000 in
theorem memRun9 : (memRun (envL Tryz.prog 300 false [] [] [] [] [] [] [] [] mfl mt9) 200 me9).good = true := by kernel_rfl
set_option maxRecDepth 1000000 in
theorem memRun10 : (memRun (envL Tryz.prog 300 false [] [] [] [] [] [] [] [] mfl mt10) 200 me10).good = true := by kernel_rfl
set_option maxRecDepth 1000000 in
theorem memRun11 : (memRun (envL Tryz.prog 300 false [] [] [] [] [] [] [] [] mfl mt11) 200 me11).good = true := by kernel_rfl
set_option maxRecDepth 1000000 in
theorem memRun12 : (memRun (envL Tryz.prog 300 false [] [] [] [] [] [] [] [] mfl mt12) 200 me12).good = true := by kernel_rfl
set_option maxRecDepth 1000000 in
theorem memRun13 : (memRun (envL Tryz.prog 300 false [] [] [] [] [] [] [] [] mfl mt13) 200 me13).good = true := by kernel_rfl
set_option maxRecDepth 1000000 in
theorem memRun14 : (memRun (envL Tryz.prog 300 false [] [] [] [] [] [] [] [] mfl mt14) 200 me14).good = true := by kernel_rfl
set_option maxRecDepth 1000000 in
theorem memRun15 : (memRun (envL Tryz.prog 300 false [] [] [] [] [] [] [] [] mfl mt15) 200 me15).good = true := by kernel_rfl
end Go.Proofs.YtlccaffnepiapaaGreatDoor.TopDivides
