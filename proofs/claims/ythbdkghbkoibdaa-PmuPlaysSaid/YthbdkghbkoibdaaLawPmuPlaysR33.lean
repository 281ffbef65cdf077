/- PmuPlays: runs of the program, some of its parts. No condition. -/
import Derived.Test.YthbdkghbkoibdaaLawPmuPlaysP
namespace Go.Proofs.Ythbdkghbkoibdaa.PmuPlays
open Go.ChangeShapes Go.WideShapes Go.ChangeAt Go.RowKit Go.Sy
set_option linter.unusedVariables false
set_option maxRecDepth 1000000 in
theorem runf0_66 : ansf0.goodT (.node (.node (.node (.node .all (.node (.node .skip (.node (.node (.node (.node .skip (.node .skip .all)) .skip) .skip) (.node (.node (.node (.node .skip (.node .skip .all)) (.node (.node .skip (.node .skip (.node .all .skip))) (.node .all .skip))) .skip) (.node (.node (.node .skip (.node (.node .skip (.node .skip .all)) .all)) .skip) .skip)))) (.node .skip .all))) (.node .skip .all)) .all) (.node (.node (.node (.node .all (.node (.node .all (.node (.node (.node .skip (.node (.node .skip (.node .skip (.node .all .skip))) (.node .all .skip))) (.node .all .skip)) (.node (.node .skip .all) (.node (.node (.node .skip (.node .skip .all)) .skip) (.node (.node .all .skip) .skip))))) .all)) .all) .all) (.node (.node (.node (.node .skip (.node (.node .all (.node .skip (.node (.node .skip (.node .all .skip)) .skip))) (.node .all .skip))) .all) .all) (.node (.node (.node (.node (.node .all .skip) (.node (.node .all (.node .skip (.node .skip (.node (.node .skip .all) (.node .all .skip))))) .all)) .all) .all) (.node (.node (.node (.node .all (.node (.node .skip (.node .skip (.node .skip (.node .skip (.node .all .skip))))) (.node .all .skip))) .all) .all) (.node (.node (.node (.node (.node .all .skip) (.node (.node .skip (.node .skip (.node .skip (.node .skip (.node (.node .all .skip) .skip))))) .all)) .all) .all) (.node (.node (.node .all (.node .skip .all)) .all) .all))))))) = true := by kernel_rfl
set_option maxRecDepth 1000000 in
theorem runt67 : (lawRunB (envL Try.prog 80 false lk jk [] jw [(20, 7)] [] [] gts mfl mtl msl) 60 6 [] [] sa_t.i sa_t.obs (groupS [none] sa_t.l)).good = true := by kernel_rfl
end Go.Proofs.Ythbdkghbkoibdaa.PmuPlays
