/- PlanNames called in any world returns true and leaves all that was there. No condition. -/
import Derived.Test.YtaliekaejebjeaaGreatDoorPlanG4
set_option linter.unusedVariables false
open Go Go.Ev Go.Proofs.Tryz
set_option maxRecDepth 100000
namespace PlanTold
theorem names_runs : told4.call 20000 200 (.fn 3) [] (hG prog.globals.size) (fun v _ => some v) (fun _ _ => none) = some (.bool true) := by kernel_rfl
theorem names_calls (w : World) : Calls prog 3 #[] w fun
      | .returned v', u => v' = .bool true ∧ Left w u
      | _, _ => False := told4.closed 20000 200 (args := []) rfl (by kernel_rfl) (bool_only true) names_runs w
end PlanTold
#print axioms PlanTold.names_calls
