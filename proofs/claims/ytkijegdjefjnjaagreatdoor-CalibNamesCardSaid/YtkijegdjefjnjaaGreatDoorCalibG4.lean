/- Closed calls, by evaluation. No condition. -/
import Derived.Test.YtkijegdjefjnjaaGreatDoorCalibG4a
import Derived.Test.YtkijegdjefjnjaaGreatDoorCalibG4b
set_option linter.unusedVariables false
open Go Go.Ev Go.Proofs.Tryz
set_option maxRecDepth 100000
namespace CalibTold
noncomputable def told4 : Told prog := told3.rowsG [g4_8_0, g4_8_1, g4_38_2, g4_38_3, g4_38_4] (fun f => Nat.beq f 8 || Nat.beq f 38) 20000 200
end CalibTold
