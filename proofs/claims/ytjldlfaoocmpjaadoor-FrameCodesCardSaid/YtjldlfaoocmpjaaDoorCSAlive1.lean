/- Closed calls, by evaluation. No condition. -/
import Derived.Test.YtjldlfaoocmpjaaDoorCSPut
set_option linter.unusedVariables false
open Go Go.Ev Go.Proofs.Tryd
set_option maxRecDepth 100000
namespace CSTold
/-- about 159900 steps -/
theorem g1_5_0_runs : told0.answer 20000 200 5 [0, 1] 0 [] [barred, pow10] (.c (.bool true)) [] = some (.bool true) := by kernel_rfl
noncomputable def g1_5_0 : RowG prog := RowG.run g1_5_0_runs (by kernel_rfl)
noncomputable def told1 : Told prog := told0.rowsG [g1_5_0] (fun f => Nat.beq f 5) 20000 200
end CSTold
