/- PlatBoots: runs of the program, some of its parts. No condition. -/
import Derived.Test.YtnakloibjdpmgaaGreatDoorLawPlatBootsP
namespace Go.Proofs.YtnakloibjdpmgaaGreatDoor.PlatBoots
open Go.ChangeShapes Go.WideShapes Go.ChangeAt Go.RowKit Go.Sy
set_option linter.unusedVariables false
set_option maxRecDepth 1000000 in
theorem rune2 : (lawRunB (envL Tryz.prog 300 false [] jk [] [] [] [] [7] gts) 200 4 [] [.un .bnot 1 (.bin .slt 64 (.lit 8) (.var 0 64)), .un .bnot 1 (.bin .slt 64 (.var 0 64) (.lit 1)), .bin .eq 64 (.var 0 64) (.lit 1)] sa_e.i sa_e.obs (groupS [none, none] sa_e.l)).good = true := by kernel_rfl
set_option maxRecDepth 1000000 in
theorem rune3 : (lawRunB (envL Tryz.prog 300 false [] jk [] [] [] [] [7] gts) 200 4 [] [.un .bnot 1 (.bin .slt 64 (.lit 8) (.var 0 64)), .un .bnot 1 (.bin .slt 64 (.var 0 64) (.lit 1)), .un .bnot 1 (.bin .eq 64 (.var 0 64) (.lit 1)), .bin .eq 64 (.var 0 64) (.lit 2)] sa_e.i sa_e.obs (groupS [none, none] sa_e.l)).good = true := by kernel_rfl
end Go.Proofs.YtnakloibjdpmgaaGreatDoor.PlatBoots
