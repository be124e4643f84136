/- Closed calls, by evaluation. No condition. -/
import Derived.Test.YtphianmpiebpgaaGreatDoorCellsTold
set_option linter.unusedVariables false
open Go Go.Ev Go.Proofs.Tryz
set_option maxRecDepth 100000
namespace CellsTold
/-- about 18903 steps -/
theorem h1_76_0 : RowHOK prog 76 [.int .i64 18, .int .i64 90] (fun b => val2 (fun _ => b) (.a [.c (.bool false), .s 0 0 3 6, .c (.int .i64 24)])) [.int .u32 3961687460, .int .u32 2751949174, .int .u32 3724441] :=
  told.rowH 20000 200 (by rfl) (fun _ _ h => scals_same (by rfl) h) (moves_val2 (by rfl)) (by rfl) (by kernel_rfl)
/-- about 10510 steps -/
theorem h1_76_1 : RowHOK prog 76 [.int .i64 239, .int .i64 90] (fun b => val2 (fun _ => b) (.a [.c (.bool false), .s 0 0 3 8, .c (.int .i64 14)])) [.int .u32 3894999869, .int .u32 2522816099, .int .u32 280788, .int .u32 0] :=
  told.rowH 20000 200 (by rfl) (fun _ _ h => scals_same (by rfl) h) (moves_val2 (by rfl)) (by rfl) (by kernel_rfl)
/-- about 13791 steps -/
theorem h1_76_2 : RowHOK prog 76 [.int .i64 57, .int .i64 90] (fun b => val2 (fun _ => b) (.a [.c (.bool false), .s 0 0 3 8, .c (.int .i64 18)])) [.int .u32 692595650, .int .u32 3103852845, .int .u32 1177227, .int .u32 0] :=
  told.rowH 20000 200 (by rfl) (fun _ _ h => scals_same (by rfl) h) (moves_val2 (by rfl)) (by rfl) (by kernel_rfl)
noncomputable def told1 : Told prog := told.rowsX [RowX.heap h1_76_0, RowX.heap h1_76_1, RowX.heap h1_76_2] (fun f => Nat.beq f 76) 20000 200
end CellsTold
