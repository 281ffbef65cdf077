/- TopIpis: runs of the program, some of its parts. No condition. -/
import Derived.Test.YtlccaffnepiapaaGreatDoorLawTopIpisP
namespace Go.Proofs.YtlccaffnepiapaaGreatDoor.TopIpis
open Go.ChangeShapes Go.WideShapes Go.ChangeAt Go.RowKit Go.Sy
set_option linter.unusedVariables false
set_option maxRecDepth 1000000 in
theorem rune19_4 : anse19.goodT (.node (.node .skip (.node (.node (.node (.node (.node .skip (.node .all .skip)) .skip) .skip) .skip) (.node (.node (.node .skip .all) .skip) .skip))) .skip) = true := by kernel_rfl
end Go.Proofs.YtlccaffnepiapaaGreatDoor.TopIpis
