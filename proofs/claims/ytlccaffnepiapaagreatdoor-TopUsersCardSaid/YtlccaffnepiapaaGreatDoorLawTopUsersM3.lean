/- TopUsers: calls that are known, some of them. No condition. -/
import Derived.Test.YtlccaffnepiapaaGreatDoorLawTopUsersP
namespace Go.Proofs.YtlccaffnepiapaaGreatDoor.TopUsers
open Go.ChangeShapes Go.WideShapes Go.ChangeAt Go.RowKit Go.Sy
set_option linter.unusedVariables false
set_option maxRecDepth 1000000 in
theorem memRun12 : (memRun (envL Tryz.prog 300 false [] [] [] [] [] [] [] [] mfl mt12) 200 me12).good = true := by kernel_rfl
set_option maxRecDepth 1000000 in
theorem memRun13 : (memRun (envL Tryz.prog 300 false [] [] [] [] [] [] [] [] mfl mt13) 200 me13).good = true := by kernel_rfl
set_option maxRecDepth 1000000 in
theorem memRun14 : (memRun (envL Tryz.prog 300 false [] [] [] [] [] [] [] [] mfl mt14) 200 me14).good = true := by kernel_rfl
set_option maxRecDepth 1000000 in
theorem memRun15 : (memRun (envL Tryz.prog 300 false [] [] [] [] [] [] [] [] mfl mt15) 200 me15).good = true := by kernel_rfl
end Go.Proofs.YtlccaffnepiapaaGreatDoor.TopUsers
