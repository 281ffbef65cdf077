/- PlatIllegal: runs of the program, some of its parts. No condition. -/
import Derived.Test.YtnakloibjdpmgaaGreatDoorLawPlatIllegalP
namespace Go.Proofs.YtnakloibjdpmgaaGreatDoor.PlatIllegal
open Go.ChangeShapes Go.WideShapes Go.ChangeAt Go.RowKit Go.Sy
set_option linter.unusedVariables false
set_option maxRecDepth 1000000 in
theorem rune1_2 : anse1.goodT (.node .skip (.node (.node .skip (.node .all .skip)) .skip)) = true := by kernel_rfl
end Go.Proofs.YtnakloibjdpmgaaGreatDoor.PlatIllegal
