/- Closed calls, by evaluation. No condition. -/
import Derived.Test.YtkijegdjefjnjaaGreatDoorCalibG3a
import Derived.Test.YtkijegdjefjnjaaGreatDoorCalibG3b
set_option linter.unusedVariables false
open Go Go.Ev Go.Proofs.Tryz
set_option maxRecDepth 100000
namespace CalibTold
noncomputable def told3 : Told prog := told2.rowsG [g3_7_0, g3_7_1, g3_7_2, g3_13_3, g3_25_4, g3_25_5, g3_25_6, g3_86_7, g3_86_8] (fun f => Nat.beq f 7 || Nat.beq f 13 || Nat.beq f 25 || Nat.beq f 86) 20000 200
end CalibTold
