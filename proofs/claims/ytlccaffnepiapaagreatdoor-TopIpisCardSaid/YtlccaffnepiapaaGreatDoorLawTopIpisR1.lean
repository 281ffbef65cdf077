/- TopIpis: runs of the program, some of its parts. No condition. -/
import Derived.Test.YtlccaffnepiapaaGreatDoorLawTopIpisP
namespace Go.Proofs.YtlccaffnepiapaaGreatDoor.TopIpis
open Go.ChangeShapes Go.WideShapes Go.ChangeAt Go.RowKit Go.Sy
set_option linter.unusedVariables false
set_option maxRecDepth 1000000 in
theorem rune1 : (lawRunB (envL Tryz.prog 300 false [] [] [] [] [] [] [8] gts mfl mtl msl) 200 3 [] [.un .bnot 1 (.bin .eq 64 (.bin .and 64 (.var 0 8) (.lit 7)) (.lit 0)), .bin .eq 64 (.bin .and 64 (.var 0 8) (.lit 7)) (.lit 1)] sa_e.i sa_e.obs (groupS [none, none] sa_e.l)).good = true := by kernel_rfl
end Go.Proofs.YtlccaffnepiapaaGreatDoor.TopIpis
