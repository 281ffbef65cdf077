/- TopUsers: runs of the program, some of its parts. No condition. -/
import Derived.Test.YtlccaffnepiapaaGreatDoorLawTopUsersP
namespace Go.Proofs.YtlccaffnepiapaaGreatDoor.TopUsers
open Go.ChangeShapes Go.WideShapes Go.ChangeAt Go.RowKit Go.Sy
set_option linter.unusedVariables false
set_option maxRecDepth 1000000 in
theorem rune0 : (lawRunB (envL Tryz.prog 300 false [] [] [] [] [] [] [8] gts mfl mtl) 200 6 [] [.var 0 1] sa_e.i sa_e.obs (groupS [none, none] sa_e.l)).good = true := by kernel_rfl
end Go.Proofs.YtlccaffnepiapaaGreatDoor.TopUsers
