/- Closed calls, by evaluation. No condition. -/
import Derived.Test.YtphianmpiebpgaaGreatDoorCellsY1
set_option linter.unusedVariables false
open Go Go.Ev Go.Proofs.Tryz
set_option maxRecDepth 100000
namespace CellsTold
/-- about 45267 steps -/
theorem h2_50_0 : RowHOK prog 50 [.int .i64 90] (fun b => val2 (fun _ => b) (.a [.c (.bool false), .s 0 0 3 6, .c (.int .i64 2008)])) [.int .u32 1280075324, .int .u32 571903011, .int .u32 210828714] :=
  told1.rowH 20000 200 (by rfl) (fun _ _ h => scals_same (by rfl) h) (moves_val2 (by rfl)) (by rfl) (by kernel_rfl)
noncomputable def told2 : Told prog := told1.rowsX [RowX.heap h2_50_0] (fun f => Nat.beq f 50) 20000 200
end CellsTold
