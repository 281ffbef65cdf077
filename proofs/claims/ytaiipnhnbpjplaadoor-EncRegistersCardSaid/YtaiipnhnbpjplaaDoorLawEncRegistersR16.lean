/- EncRegisters: runs of the program, some of its parts. No condition. -/
import Derived.Test.YtaiipnhnbpjplaaDoorLawEncRegistersP
namespace Go.Proofs.YtaiipnhnbpjplaaDoor.EncRegisters
open Go.ChangeShapes Go.WideShapes Go.ChangeAt Go.RowKit Go.Sy
set_option linter.unusedVariables false
set_option maxRecDepth 1000000 in
theorem rune0_16 : anse0.goodT (.node (.node .skip .all) (.node (.node .all .skip) (.node .skip (.node .skip (.node .skip (.node .skip (.node (.node .skip .all) (.node .skip (.node .skip (.node (.node .skip (.node .skip (.node (.node .skip (.node .skip (.node (.node (.node .skip .all) .skip) (.node .skip (.node .skip (.node .skip (.node .skip (.node .all .skip)))))))) .skip))) (.node (.node (.node (.node .all (.node .skip .all)) .skip) .skip) (.node .all .skip)))))))))))) = true := by kernel_rfl
end Go.Proofs.YtaiipnhnbpjplaaDoor.EncRegisters
