/- CalibNames called in any world in which Go's table of powers of ten is laid returns true and leaves all that was there. No other condition. -/
import Derived.Test.YtkijegdjefjnjaaGreatDoorCalibG5
set_option linter.unusedVariables false
open Go Go.Ev Go.Proofs.Tryz
set_option maxRecDepth 100000
namespace CalibTold
theorem names_runs : told5.call 20000 200 (.fn 3) [] { es := slotsG [4] [pow10L.map fun z => .int .u64 z], nx := prog.globals.size, low := prog.globals.size } (fun v _ => some v) (fun _ _ => none) = some (.bool true) := by kernel_rfl
theorem names_calls (w : World) (hw : TabIn w 4 (pow10L.map fun z => .int .u64 z)) : Calls prog 3 #[] w fun
    | .returned v', u => v' = .bool true ∧ Left w u
    | _, _ => False :=
  told5.closedG 20000 200 (by rfl) (by kernel_rfl) (bool_only true) (by kernel_rfl) (by rfl) names_runs w (fun j g L h1 h2 => by
    cases j with
    | zero => cases h1; cases h2; exact hw
    | succ j => cases h1)
end CalibTold
