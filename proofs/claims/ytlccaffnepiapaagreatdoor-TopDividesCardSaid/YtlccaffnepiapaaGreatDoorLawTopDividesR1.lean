/- TopDivides: runs of the program, some of its parts. No condition. -/
import Derived.Test.YtlccaffnepiapaaGreatDoorLawTopDividesP
namespace Go.Proofs.YtlccaffnepiapaaGreatDoor.TopDivides
open Go.ChangeShapes Go.WideShapes Go.ChangeAt Go.RowKit Go.Sy
set_option linter.unusedVariables false
set_option maxRecDepth 1000000 in
theorem rune1 : (lawRunB (envL Tryz.prog 300 false [] jk [] [] [] [] [8] gts mfl mtl msl) 200 5 lems [.un .bnot 1 (.bin .eq 32 (.var 1 32) (.lit 0))] sa_e.i sa_e.obs (groupS [none, none] sa_e.l)).good = true := by kernel_rfl
end Go.Proofs.YtlccaffnepiapaaGreatDoor.TopDivides
