/- Closed calls, by evaluation. No condition. -/
import Derived.Test.YtkijegdjefjnjaaGreatDoorCalibG1
set_option linter.unusedVariables false
open Go Go.Ev Go.Proofs.Tryz
set_option maxRecDepth 100000
namespace CalibTold
/-- about 708 steps -/
theorem g2_60_56_runs : told1.answer 20000 200 60 [] 2 [.a [.c (.bool false), .s 0 0 1 2, .c (.bool false), .s 1 0 1 2]] [[.c (.int .u32 8388608)], [.c (.int .u32 1)]] (.c (.int .i64 0)) [] = some (.bool true) := by kernel_rfl
noncomputable def g2_60_56 : RowG prog := RowG.run g2_60_56_runs (by kernel_rfl)
/-- about 708 steps -/
theorem g2_60_57_runs : told1.answer 20000 200 60 [] 2 [.a [.c (.bool false), .s 0 0 1 2, .c (.bool false), .s 1 0 1 2]] [[.c (.int .u32 9)], [.c (.int .u32 1)]] (.c (.int .i64 0)) [] = some (.bool true) := by kernel_rfl
noncomputable def g2_60_57 : RowG prog := RowG.run g2_60_57_runs (by kernel_rfl)
/-- about 923 steps -/
theorem g2_60_58_runs : told1.answer 20000 200 60 [] 2 [.a [.c (.bool false), .s 0 0 1 2, .c (.bool false), .s 1 0 1 2]] [[.c (.int .u32 9)], [.c (.int .u32 2)]] (.c (.int .i64 0)) [] = some (.bool true) := by kernel_rfl
noncomputable def g2_60_58 : RowG prog := RowG.run g2_60_58_runs (by kernel_rfl)
/-- about 734 steps -/
theorem g2_60_59_runs : told1.answer 20000 200 60 [] 2 [.a [.c (.bool false), .s 0 0 2 4, .c (.bool false), .s 1 0 1 2]] [[.c (.int .u32 0), .c (.int .u32 1)], [.c (.int .u32 1)]] (.c (.int .i64 0)) [] = some (.bool true) := by kernel_rfl
noncomputable def g2_60_59 : RowG prog := RowG.run g2_60_59_runs (by kernel_rfl)
/-- about 734 steps -/
theorem g2_60_60_runs : told1.answer 20000 200 60 [] 2 [.a [.c (.bool false), .s 0 0 2 4, .c (.bool false), .s 1 0 1 2]] [[.c (.int .u32 0), .c (.int .u32 2)], [.c (.int .u32 1)]] (.c (.int .i64 0)) [] = some (.bool true) := by kernel_rfl
noncomputable def g2_60_60 : RowG prog := RowG.run g2_60_60_runs (by kernel_rfl)
/-- about 2349 steps -/
theorem g2_120_61_runs : told1.answer 20000 200 120 [] 4 [.a [.c (.bool false), .s 0 0 1 2, .c (.bool false), .s 1 0 1 2], .a [.c (.bool false), .s 2 0 1 2, .c (.bool false), .s 3 0 1 2]] [[.c (.int .u32 3)], [.c (.int .u32 2)], [.c (.int .u32 1)], [.c (.int .u32 1)]] (.t [.c (.int .i64 1), .c (.int .i64 0)]) [] = some (.bool true) := by kernel_rfl
noncomputable def g2_120_61 : RowG prog := RowG.run g2_120_61_runs (by kernel_rfl)
/-- about 2336 steps -/
theorem g2_120_62_runs : told1.answer 20000 200 120 [] 4 [.a [.c (.bool false), .s 0 0 1 2, .c (.bool false), .s 1 0 1 2], .a [.c (.bool false), .s 2 0 1 2, .c (.bool false), .s 3 0 1 2]] [[.c (.int .u32 3)], [.c (.int .u32 2)], [.c (.int .u32 1000)], [.c (.int .u32 1)]] (.t [.c (.int .i64 (-1)), .c (.int .i64 0)]) [] = some (.bool true) := by kernel_rfl
noncomputable def g2_120_62 : RowG prog := RowG.run g2_120_62_runs (by kernel_rfl)
end CalibTold
