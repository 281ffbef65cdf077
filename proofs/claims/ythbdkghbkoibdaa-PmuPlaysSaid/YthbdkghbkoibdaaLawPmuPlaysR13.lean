/- PmuPlays: runs of the program, some of its parts. No condition. -/
import Derived.Test.YthbdkghbkoibdaaLawPmuPlaysP
namespace Go.Proofs.Ythbdkghbkoibdaa.PmuPlays
open Go.ChangeShapes Go.WideShapes Go.ChangeAt Go.RowKit Go.Sy
set_option linter.unusedVariables false
set_option maxRecDepth 1000000 in
theorem runf0_26 : ansf0.goodT (.node (.node (.node (.node .skip (.node (.node .skip (.node (.node (.node (.node (.node .skip (.node .all .skip)) .skip) .skip) .skip) .skip)) .skip)) .skip) .skip) .skip) = true := by kernel_rfl
set_option maxRecDepth 1000000 in
theorem runf0_27 : ansf0.goodT (.node (.node (.node (.node .skip (.node (.node .skip (.node .skip (.node (.node (.node (.node .skip (.node (.node .skip (.node (.node .skip (.node .all .skip)) .skip)) .skip)) .skip) .skip) .skip))) .skip)) .skip) .skip) .skip) = true := by kernel_rfl
end Go.Proofs.Ythbdkghbkoibdaa.PmuPlays
