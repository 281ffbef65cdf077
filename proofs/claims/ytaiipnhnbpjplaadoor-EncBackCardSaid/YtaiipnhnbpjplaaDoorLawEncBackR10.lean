/- EncBack: runs of the program, some of its parts. No condition. -/
import Derived.Test.YtaiipnhnbpjplaaDoorLawEncBackP
namespace Go.Proofs.YtaiipnhnbpjplaaDoor.EncBack
open Go.ChangeShapes Go.WideShapes Go.ChangeAt Go.RowKit Go.Sy
set_option linter.unusedVariables false
set_option maxRecDepth 1000000 in
theorem rune0_30 : anse0.goodT (.node (.node .skip (.node .skip (.node .skip (.node .skip (.node .skip (.node .skip (.node .skip (.node .skip (.node .skip (.node .skip (.node .skip (.node .skip (.node .skip (.node (.node .skip (.node (.node .all .skip) .skip)) .skip)))))))))))))) (.node .skip (.node (.node .skip (.node .skip (.node .skip (.node .skip (.node .skip (.node (.node .skip (.node .skip (.node .skip (.node .skip (.node (.node .all .skip) .skip))))) .skip)))))) .skip))) = true := by kernel_rfl
set_option maxRecDepth 1000000 in
theorem rune0_31 : anse0.goodT (.node (.node .skip (.node .skip (.node .skip (.node .skip (.node .skip (.node .skip (.node .skip (.node .skip (.node .skip (.node .skip (.node .skip (.node .skip (.node (.node .skip (.node (.node (.node .all .skip) .skip) .skip)) .skip))))))))))))) (.node .skip (.node .skip (.node (.node .skip (.node .skip (.node (.node .skip (.node .all .skip)) .skip))) .skip)))) = true := by kernel_rfl
set_option maxRecDepth 1000000 in
theorem rune0_32 : anse0.goodT (.node (.node .skip (.node .skip (.node .skip (.node .skip (.node .skip (.node .skip (.node .skip (.node .skip (.node .skip (.node .skip (.node (.node .skip (.node .skip (.node (.node .skip (.node (.node .skip .all) .skip)) .skip))) .skip))))))))))) (.node .skip (.node (.node (.node .skip (.node .skip (.node .skip (.node .skip (.node .skip (.node .skip (.node (.node .all .skip) .skip))))))) .skip) (.node (.node .skip (.node .skip (.node (.node .all .skip) .skip))) .skip)))) = true := by kernel_rfl
end Go.Proofs.YtaiipnhnbpjplaaDoor.EncBack
