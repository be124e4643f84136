/- Closed calls, by evaluation. No condition. -/
import Derived.Test.YtkijegdjefjnjaaGreatDoorCalibG3
set_option linter.unusedVariables false
open Go Go.Ev Go.Proofs.Tryz
set_option maxRecDepth 100000
namespace CalibTold
/-- about 34910 steps -/
theorem g4_38_4_runs : told3.answer 20000 200 38 [] 3 [.s 0 0 5 10, .a [.c (.bool false), .s 1 0 1 2, .c (.bool false), .s 2 0 1 2]] [[.c (.int .i64 1), .c (.int .i64 2), .c (.int .i64 3), .c (.int .i64 4), .c (.int .i64 100)], [.c (.int .u32 3)], [.c (.int .u32 2)]] (.t [.a [.c (.bool false), .s 3 0 1 2, .c (.bool false), .s 4 0 1 2], .c (.int .i64 0)]) [[.c (.int .u32 5)], [.c (.int .u32 2)]] = some (.bool true) := by kernel_rfl
noncomputable def g4_38_4 : RowG prog := RowG.run g4_38_4_runs (by kernel_rfl)
end CalibTold
