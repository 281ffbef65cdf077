/- CsrAll: runs of the program, some of its parts. No condition. -/
import Derived.Test.YtloiidjedmhpcaaLawCsrAllP
namespace Go.Proofs.Ytloiidjedmhpcaa.CsrAll
open Go.ChangeShapes Go.WideShapes Go.ChangeAt Go.RowKit Go.Sy
set_option linter.unusedVariables false
set_option maxRecDepth 1000000 in
theorem rune0_5 : anse0.goodT (.node .skip (.node (.node .skip .all) (.node .all (.node (.node (.node .all .skip) .skip) .skip)))) = true := by kernel_rfl
end Go.Proofs.Ytloiidjedmhpcaa.CsrAll
