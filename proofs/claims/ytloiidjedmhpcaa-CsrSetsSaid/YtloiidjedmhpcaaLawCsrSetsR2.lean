/- CsrSets: runs of the program, some of its parts. No condition. -/
import Derived.Test.YtloiidjedmhpcaaLawCsrSetsP
namespace Go.Proofs.Ytloiidjedmhpcaa.CsrSets
open Go.ChangeShapes Go.WideShapes Go.ChangeAt Go.RowKit Go.Sy
set_option linter.unusedVariables false
set_option maxRecDepth 1000000 in
theorem rune0_2 : anse0.goodT (.node (.node .all (.node .all (.node .all (.node .all (.node .all (.node .all (.node .all (.node .all (.node (.node .all .skip) .skip))))))))) .skip) = true := by kernel_rfl
end Go.Proofs.Ytloiidjedmhpcaa.CsrSets
