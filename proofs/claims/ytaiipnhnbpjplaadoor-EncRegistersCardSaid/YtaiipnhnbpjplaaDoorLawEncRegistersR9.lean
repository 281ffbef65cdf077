/- EncRegisters: runs of the program, some of its parts. No condition. -/
import Derived.Test.YtaiipnhnbpjplaaDoorLawEncRegistersP
namespace Go.Proofs.YtaiipnhnbpjplaaDoor.EncRegisters
open Go.ChangeShapes Go.WideShapes Go.ChangeAt Go.RowKit Go.Sy
set_option linter.unusedVariables false
set_option maxRecDepth 1000000 in
theorem rune0_9 : anse0.goodT (.node .skip (.node .skip (.node .skip (.node .skip (.node .skip (.node .skip (.node .skip (.node .skip (.node .skip (.node (.node (.node .skip (.node .skip (.node .skip (.node .skip (.node (.node (.node .all .skip) .skip) (.node .skip (.node .all .skip))))))) .skip) (.node (.node (.node (.node .skip (.node .all .skip)) .skip) .skip) .skip))))))))))) = true := by kernel_rfl
end Go.Proofs.YtaiipnhnbpjplaaDoor.EncRegisters
