/- TopUsers: calls that are known, some of them. No condition. -/
import Derived.Test.YtlccaffnepiapaaGreatDoorLawTopUsersP
namespace Go.Proofs.YtlccaffnepiapaaGreatDoor.TopUsers
open Go.ChangeShapes Go.WideShapes Go.ChangeAt Go.RowKit Go.Sy
set_option linter.unusedVariables false
set_option maxRecDepth 1000000 in
theorem memRun20 : (memRun (envL Tryz.prog 300 false [] [] [] [] [] [] [] [] mfl mt20) 200 me20).good = true := by kernel_rfl
set_option maxRecDepth 1000000 in
theorem memRun21 : (memRun (envL Tryz.prog 300 false [] [] [] [] [] [] [] [] mfl mt21) 200 me21).good = true := by kernel_rfl
set_option maxRecDepth 1000000 in
theorem memRun22 : (memRun (envL Tryz.prog 300 false [] [] [] [] [] [] [] [] mfl mt22) 200 me22).good = true := by kernel_rfl
set_option maxRecDepth 1000000 in
theorem memRun23 : (memRun (envL Tryz.prog 300 false [] [] [] [] [] [] [] [] mfl mt23) 200 me23).good = true := by kernel_rfl
end Go.Proofs.YtlccaffnepiapaaGreatDoor.TopUsers
