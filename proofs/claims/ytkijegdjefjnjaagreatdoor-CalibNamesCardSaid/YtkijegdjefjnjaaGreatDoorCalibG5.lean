/- Closed calls, by evaluation. No condition. -/
import Derived.Test.YtkijegdjefjnjaaGreatDoorCalibG4
set_option linter.unusedVariables false
open Go Go.Ev Go.Proofs.Tryz
set_option maxRecDepth 100000
namespace CalibTold
/-- about 4065 steps -/
theorem g5_5_0_runs : told4.answer 20000 200 5 [] 2 [.s 0 0 1 2, .c (.int .u8 2), .a [.c (.bool false), .c (.slice none 0 0), .c (.bool false), .c (.slice none 0 0)]] [[.c (.int .i64 1), .c (.int .i64 1), .s 1 0 1 2], [.c (.int .i64 1)]] (.t [.a [.c (.int .i64 0), .c (.int .i64 0), .c (.slice none 0 0)], .c (.int .i64 2)]) [] = some (.bool true) := by kernel_rfl
noncomputable def g5_5_0 : RowG prog := RowG.run g5_5_0_runs (by kernel_rfl)
/-- about 6893 steps -/
theorem g5_5_1_runs : told4.answer 20000 200 5 [] 5 [.s 0 0 4 8, .c (.int .u8 1), .a [.c (.bool false), .c (.slice none 0 0), .c (.bool false), .c (.slice none 0 0)]] [[.c (.int .i64 1), .c (.int .i64 1), .s 1 0 1 2, .c (.int .i64 1), .c (.int .i64 1), .s 2 0 1 2, .c (.int .i64 1), .c (.int .i64 1), .s 3 0 1 2, .c (.int .i64 1), .c (.int .i64 1), .s 4 0 1 2], [.c (.int .i64 1)], [.c (.int .i64 2)], [.c (.int .i64 5)], [.c (.int .i64 8)]] (.t [.a [.c (.int .i64 1), .c (.int .i64 1), .s 5 0 1 3], .c (.int .i64 0)]) [[.c (.int .i64 4)]] = some (.bool true) := by kernel_rfl
noncomputable def g5_5_1 : RowG prog := RowG.run g5_5_1_runs (by kernel_rfl)
/-- about 50627 steps -/
theorem g5_5_2_runs : told4.answer 20000 200 5 [] 8 [.s 0 0 5 10, .c (.int .u8 2), .a [.c (.bool false), .s 1 0 1 2, .c (.bool false), .s 2 0 1 2]] [[.c (.int .i64 1), .c (.int .i64 1), .s 3 0 1 2, .c (.int .i64 1), .c (.int .i64 1), .s 4 0 1 2, .c (.int .i64 1), .c (.int .i64 1), .s 5 0 1 2, .c (.int .i64 1), .c (.int .i64 1), .s 6 0 1 2, .c (.int .i64 1), .c (.int .i64 1), .s 7 0 1 2], [.c (.int .u32 3)], [.c (.int .u32 2)], [.c (.int .i64 1)], [.c (.int .i64 2)], [.c (.int .i64 3)], [.c (.int .i64 4)], [.c (.int .i64 100)]] (.t [.a [.c (.int .i64 1), .c (.int .i64 1), .s 8 0 1 3], .c (.int .i64 0)]) [[.c (.int .i64 2)]] = some (.bool true) := by kernel_rfl
noncomputable def g5_5_2 : RowG prog := RowG.run g5_5_2_runs (by kernel_rfl)
noncomputable def told5 : Told prog := told4.rowsG [g5_5_0, g5_5_1, g5_5_2] (fun f => Nat.beq f 5) 20000 200
end CalibTold
