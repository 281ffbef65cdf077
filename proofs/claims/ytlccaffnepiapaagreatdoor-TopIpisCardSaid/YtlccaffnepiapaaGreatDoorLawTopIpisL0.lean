/- TopIpis: runs of the program, some more of its parts. No condition. -/
import Derived.Test.YtlccaffnepiapaaGreatDoorLawTopIpisP
namespace Go.Proofs.YtlccaffnepiapaaGreatDoor.TopIpis
open Go.ChangeShapes Go.WideShapes Go.ChangeAt Go.RowKit Go.Sy
set_option linter.unusedVariables false
set_option maxRecDepth 1000000 in
theorem rune4_3 : anse4.goodT (.node (.node .skip (.node .skip .all)) .skip) = true := by kernel_rfl
set_option maxRecDepth 1000000 in
theorem rune4_4 : anse4.goodT (.node (.node (.node .skip .all) (.node (.node .skip .all) .skip)) .all) = true := by kernel_rfl
set_option maxRecDepth 1000000 in
theorem rune7_5 : anse7.goodT (.node (.node (.node (.node (.node (.node (.node (.node .all .skip) .skip) .skip) .skip) .skip) .skip) (.node (.node (.node .skip (.node .skip .all)) .skip) .skip)) .skip) = true := by kernel_rfl
end Go.Proofs.YtlccaffnepiapaaGreatDoor.TopIpis
