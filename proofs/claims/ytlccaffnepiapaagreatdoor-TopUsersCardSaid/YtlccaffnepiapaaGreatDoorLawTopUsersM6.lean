/- TopUsers: calls that are known, some of them. No condition. -/
import Derived.Test.YtlccaffnepiapaaGreatDoorLawTopUsersP
namespace Go.Proofs.YtlccaffnepiapaaGreatDoor.TopUsers
open Go.ChangeShapes Go.WideShapes Go.ChangeAt Go.RowKit Go.Sy
set_option linter.unusedVariables false
set_option maxRecDepth 1000000 in
theorem memRun24 : (memRun (envL Tryz.prog 300 false [] [] [] [] [] [] [] [] mfl mt24) 200 me24).good = true := by kernel_rfl
set_option maxRecDepth 1000000 in
theorem memRun25 : (memRun (envL Tryz.prog 300 false [] [] [] [] [] [] [] [] mfl mt25) 200 me25).good = true := by kernel_rfl
end Go.Proofs.YtlccaffnepiapaaGreatDoor.TopUsers
