/- TopUsers: calls that are known, some of them. No condition. -/
import Derived.Test.YtlccaffnepiapaaGreatDoorLawTopUsersP
namespace Go.Proofs.YtlccaffnepiapaaGreatDoor.TopUsers
open Go.ChangeShapes Go.WideShapes Go.ChangeAt Go.RowKit Go.Sy
set_option linter.unusedVariables false
set_option maxRecDepth 1000000 in
theorem memRun16 : (memRun (envL Tryz.prog 300 false [] [] [] [] [] [] [] [] mfl mt16) 200 me16).good = true := by kernel_rfl
set_option maxRecDepth 1000000 in
theorem memRun17 : (memRun (envL Tryz.prog 300 false [] [] [] [] [] [] [] [] mfl mt17) 200 me17).good = true := by kernel_rfl
set_option maxRecDepth 1000000 in
theorem memRun18 : (memRun (envL Tryz.prog 300 false [] [] [] [] [] [] [] [] mfl mt18) 200 me18).good = true := by kernel_rfl
set_option maxRecDepth 1000000 in
theorem memRun19 : (memRun (envL Tryz.prog 300 false [] [] [] [] [] [] [] [] mfl mt19) 200 me19).good = true := by kernel_rfl
end Go.Proofs.YtlccaffnepiapaaGreatDoor.TopUsers
