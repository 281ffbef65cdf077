/- EncBack: runs of the program, some of its parts. No condition. -/
import Derived.Test.YtaiipnhnbpjplaaDoorLawEncBackP
namespace Go.Proofs.YtaiipnhnbpjplaaDoor.EncBack
open Go.ChangeShapes Go.WideShapes Go.ChangeAt Go.RowKit Go.Sy
set_option linter.unusedVariables false
set_option maxRecDepth 1000000 in
theorem rune0_9 : anse0.goodT (.node .skip (.node (.node .skip (.node .skip (.node .skip (.node .all .skip)))) .skip)) = true := by kernel_rfl
set_option maxRecDepth 1000000 in
theorem rune0_10 : anse0.goodT (.node (.node .skip (.node .skip (.node .skip (.node .skip (.node .skip (.node .skip (.node .skip (.node (.node .skip (.node .skip (.node .skip (.node .skip (.node .skip (.node .skip .all)))))) .skip)))))))) .skip) = true := by kernel_rfl
set_option maxRecDepth 1000000 in
theorem rune0_11 : anse0.goodT (.node .skip (.node .skip (.node .skip (.node (.node .skip (.node .skip (.node .skip (.node .skip (.node .skip .all))))) .skip)))) = true := by kernel_rfl
end Go.Proofs.YtaiipnhnbpjplaaDoor.EncBack
