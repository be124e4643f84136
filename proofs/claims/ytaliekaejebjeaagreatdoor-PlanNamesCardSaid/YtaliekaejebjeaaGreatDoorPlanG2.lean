/- Closed calls, by evaluation. No condition. -/
import Derived.Test.YtaliekaejebjeaaGreatDoorPlanG1
set_option linter.unusedVariables false
open Go Go.Ev Go.Proofs.Tryz
set_option maxRecDepth 100000
namespace PlanTold
/-- about 45267 steps -/
theorem g2_165_0_runs : told1.answer 20000 200 165 [] 0 [.c (.int .i64 90)] [] (.a [.c (.bool false), .s 0 0 3 6, .c (.int .i64 2008)]) [[.c (.int .u32 1280075324), .c (.int .u32 571903011), .c (.int .u32 210828714)]] = some (.bool true) := by kernel_rfl
noncomputable def g2_165_0 : RowG prog := RowG.run g2_165_0_runs (by kernel_rfl)
/-- about 34272 steps -/
theorem g2_179_1_runs : told1.answer 20000 200 179 [] 1 [.a [.c (.bool false), .s 0 0 3 6, .c (.int .i64 2009)], .c (.int .i64 90)] [[.c (.int .u32 1998894456), .c (.int .u32 3274843619), .c (.int .u32 11938120)]] (.t [.a [.c (.bool false), .s 1 0 3 8, .c (.int .i64 2083156)], .a [.c (.bool false), .s 2 0 3 6, .c (.int .i64 2083156)]]) [[.c (.int .u32 1481576809), .c (.int .u32 2802950828), .c (.int .u32 11875255), .c (.int .u32 0)], [.c (.int .u32 3912153335), .c (.int .u32 36446741), .c (.int .u32 66049814)]] = some (.bool true) := by kernel_rfl
noncomputable def g2_179_1 : RowG prog := RowG.run g2_179_1_runs (by kernel_rfl)
/-- about 34286 steps -/
theorem g2_179_2_runs : told1.answer 20000 200 179 [] 1 [.a [.c (.bool false), .s 0 0 3 6, .c (.int .i64 2009)], .c (.int .i64 90)] [[.c (.int .u32 2850077296), .c (.int .u32 3191000801), .c (.int .u32 11938120)]] (.t [.a [.c (.bool false), .s 1 0 3 8, .c (.int .i64 2083156)], .a [.c (.bool false), .s 2 0 3 6, .c (.int .i64 2083156)]]) [[.c (.int .u32 1315953270), .c (.int .u32 2720431140), .c (.int .u32 11875255), .c (.int .u32 0)], [.c (.int .u32 4286738804), .c (.int .u32 51283155), .c (.int .u32 66049814)]] = some (.bool true) := by kernel_rfl
noncomputable def g2_179_2 : RowG prog := RowG.run g2_179_2_runs (by kernel_rfl)
/-- about 34272 steps -/
theorem g2_179_3_runs : told1.answer 20000 200 179 [] 1 [.a [.c (.bool false), .s 0 0 3 6, .c (.int .i64 2009)], .c (.int .i64 90)] [[.c (.int .u32 3701260136), .c (.int .u32 3107157983), .c (.int .u32 11938120)]] (.t [.a [.c (.bool false), .s 1 0 3 8, .c (.int .i64 2083156)], .a [.c (.bool false), .s 2 0 3 6, .c (.int .i64 2083156)]]) [[.c (.int .u32 1131793824), .c (.int .u32 2637911452), .c (.int .u32 11875255), .c (.int .u32 0)], [.c (.int .u32 263260556), .c (.int .u32 66119570), .c (.int .u32 66049814)]] = some (.bool true) := by kernel_rfl
noncomputable def g2_179_3 : RowG prog := RowG.run g2_179_3_runs (by kernel_rfl)
noncomputable def told2 : Told prog := told1.rowsG [g2_165_0, g2_179_1, g2_179_2, g2_179_3] (fun f => Nat.beq f 165 || Nat.beq f 179) 20000 200
end PlanTold
