/- PlatStops: what is shown at the head. No condition. -/
import Derived.Test.YtnakloibjdpmgaaGreatDoorLawPlatStopsP
namespace Go.Proofs.YtnakloibjdpmgaaGreatDoor.PlatStops
open Go.ChangeShapes Go.WideShapes Go.ChangeAt Go.RowKit Go.Sy
set_option linter.unusedVariables false
set_option maxRecDepth 1000000 in
theorem trueRun7 : (lawRunB (envL Tryz.prog 300 false [] [] [] [] [] [] [] gts mfl mtl msl) 200 7 [] [] 0 [] []).good = true := by kernel_rfl
end Go.Proofs.YtnakloibjdpmgaaGreatDoor.PlatStops
