/- TopUsers: calls that are known, some of them. No condition. -/
import Derived.Test.YtlccaffnepiapaaGreatDoorLawTopUsersP
namespace Go.Proofs.YtlccaffnepiapaaGreatDoor.TopUsers
open Go.ChangeShapes Go.WideShapes Go.ChangeAt Go.RowKit Go.Sy
set_option linter.unusedVariables false
set_option maxRecDepth 1000000 in
theorem memRun4 : (memRun (envL Tryz.prog 300 false [] [] [] [] [] [] [] [] mfl mt4) 200 me4).good = true := by kernel_rfl
set_option maxRecDepth 1000000 in
theorem memRun5 : (memRun (envL Tryz.prog 300 false [] [] [] [] [] [] [] [] mfl mt5) 200 me5).good = true := by kernel_rfl
set_option maxRecDepth 1000000 in
theorem memRun6 : (memRun (envL Tryz.prog 300 false [] [] [] [] [] [] [] [] mfl mt6) 200 me6).good = true := by kernel_rfl
set_option maxRecDepth 1000000 in
theorem memRun7 : (memRun (envL Tryz.prog 300 false [] [] [] [] [] [] [] [] mfl mt7) 200 me7).good = true := by kernel_rfl
end Go.Proofs.YtlccaffnepiapaaGreatDoor.TopUsers
