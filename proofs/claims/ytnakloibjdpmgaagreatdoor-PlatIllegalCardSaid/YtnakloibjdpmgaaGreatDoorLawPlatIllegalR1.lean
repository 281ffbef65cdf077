/- PlatIllegal: runs of the program, some of its parts. No condition. -/
import Derived.Test.YtnakloibjdpmgaaGreatDoorLawPlatIllegalP
namespace Go.Proofs.YtnakloibjdpmgaaGreatDoor.PlatIllegal
open Go.ChangeShapes Go.WideShapes Go.ChangeAt Go.RowKit Go.Sy
set_option linter.unusedVariables false
set_option maxRecDepth 1000000 in
theorem rune1_0 : anse1.goodT (.node .all (.node (.node .skip (.node .skip .all)) .all)) = true := by kernel_rfl
end Go.Proofs.YtnakloibjdpmgaaGreatDoor.PlatIllegal
