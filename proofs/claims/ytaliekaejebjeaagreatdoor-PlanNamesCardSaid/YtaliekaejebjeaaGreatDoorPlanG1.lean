/- Closed calls, by evaluation. No condition. -/
import Derived.Test.YtaliekaejebjeaaGreatDoorPlanTold
set_option linter.unusedVariables false
open Go Go.Ev Go.Proofs.Tryz
set_option maxRecDepth 100000
namespace PlanTold
/-- about 18903 steps -/
theorem g1_174_0_runs : told.answer 20000 200 174 [] 0 [.c (.int .i64 18), .c (.int .i64 90)] [] (.a [.c (.bool false), .s 0 0 3 6, .c (.int .i64 24)]) [[.c (.int .u32 3961687460), .c (.int .u32 2751949174), .c (.int .u32 3724441)]] = some (.bool true) := by kernel_rfl
noncomputable def g1_174_0 : RowG prog := RowG.run g1_174_0_runs (by kernel_rfl)
/-- about 10510 steps -/
theorem g1_174_1_runs : told.answer 20000 200 174 [] 0 [.c (.int .i64 239), .c (.int .i64 90)] [] (.a [.c (.bool false), .s 0 0 3 8, .c (.int .i64 14)]) [[.c (.int .u32 3894999869), .c (.int .u32 2522816099), .c (.int .u32 280788), .c (.int .u32 0)]] = some (.bool true) := by kernel_rfl
noncomputable def g1_174_1 : RowG prog := RowG.run g1_174_1_runs (by kernel_rfl)
/-- about 13791 steps -/
theorem g1_174_2_runs : told.answer 20000 200 174 [] 0 [.c (.int .i64 57), .c (.int .i64 90)] [] (.a [.c (.bool false), .s 0 0 3 8, .c (.int .i64 18)]) [[.c (.int .u32 692595650), .c (.int .u32 3103852845), .c (.int .u32 1177227), .c (.int .u32 0)]] = some (.bool true) := by kernel_rfl
noncomputable def g1_174_2 : RowG prog := RowG.run g1_174_2_runs (by kernel_rfl)
noncomputable def told1 : Told prog := told.rowsG [g1_174_0, g1_174_1, g1_174_2] (fun f => Nat.beq f 174) 20000 200
end PlanTold
