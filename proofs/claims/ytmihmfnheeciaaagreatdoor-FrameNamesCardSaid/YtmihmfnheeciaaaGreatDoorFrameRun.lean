/- FrameNames called in any world in which two tables are laid returns true and leaves all that was there. No other condition. -/
import Derived.Test.YtmihmfnheeciaaaGreatDoorFrameH1
set_option linter.unusedVariables false
open Go Go.Ev Go.Proofs.Tryz
set_option maxRecDepth 100000
namespace FrameTold
theorem names_runs : told6.call 20000 200 (.fn 3) [] { es := slotsG [0, 1] [barredLL.flatten.map fun z => .int .i64 z, pow10L.map fun z => .int .u64 z], nx := prog.globals.size, low := prog.globals.size } (fun v _ => some v) (fun _ _ => none) = some (.bool true) := by kernel_rfl
theorem names_calls (w : World) (hw0 : TabIn w 0 (barredLL.flatten.map fun z => .int .i64 z)) (hw1 : TabIn w 1 (pow10L.map fun z => .int .u64 z)) : Calls prog 3 #[] w fun
    | .returned v', u => v' = .bool true ∧ Left w u
    | _, _ => False :=
  told6.closedG 20000 200 (by rfl) (by kernel_rfl) (bool_only true) (by kernel_rfl) (by rfl) names_runs w (fun j g L h1 h2 => by
    match j, h1, h2 with
    | 0, h1, h2 => cases h1; cases h2; exact hw0
    | 1, h1, h2 => cases h1; cases h2; exact hw1
    | j + 2, h1, _ => cases h1)
end FrameTold
#print axioms FrameTold.names_calls
