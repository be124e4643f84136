/- Closed calls, by evaluation. No condition. -/
import Derived.Test.YtaliekaejebjeaaGreatDoorPlanG2
set_option linter.unusedVariables false
open Go Go.Ev Go.Proofs.Tryz
set_option maxRecDepth 100000
namespace PlanTold
/-- about 13138 steps -/
theorem g3_99_0_runs : told2.answer 20000 200 99 [] 0 [.a [.c (.int .i64 1099511627776), .c (.int .i64 1099511627776)]] [] (.t [.a [.c (.int .i64 1099511627776), .c (.int .i64 1099511627776)], .c (.int .i64 0)]) [] = some (.bool true) := by kernel_rfl
noncomputable def g3_99_0 : RowG prog := RowG.run g3_99_0_runs (by kernel_rfl)
/-- about 130483 steps -/
theorem g3_126_1_runs : told2.answer 20000 200 126 [] 0 [.c (.int .i64 1008692830294)] [] (.a [.c (.int .i64 (-1082160152829)), .c (.int .i64 (-1082160152828))]) [] = some (.bool true) := by kernel_rfl
noncomputable def g3_126_1 : RowG prog := RowG.run g3_126_1_runs (by kernel_rfl)
/-- about 130497 steps -/
theorem g3_126_2_runs : told2.answer 20000 200 126 [] 0 [.c (.int .i64 1008692830354)] [] (.a [.c (.int .i64 (-1082160152772)), .c (.int .i64 (-1082160152771))]) [] = some (.bool true) := by kernel_rfl
noncomputable def g3_126_2 : RowG prog := RowG.run g3_126_2_runs (by kernel_rfl)
/-- about 130483 steps -/
theorem g3_126_3_runs : told2.answer 20000 200 126 [] 0 [.c (.int .i64 1008692830414)] [] (.a [.c (.int .i64 (-1082160152716)), .c (.int .i64 (-1082160152715))]) [] = some (.bool true) := by kernel_rfl
noncomputable def g3_126_3 : RowG prog := RowG.run g3_126_3_runs (by kernel_rfl)
/-- about 130093 steps -/
theorem g3_126_4_runs : told2.answer 20000 200 126 [] 0 [.c (.int .i64 1332692830294)] [] (.a [.c (.int .i64 194564187982), .c (.int .i64 194564187983)]) [] = some (.bool true) := by kernel_rfl
noncomputable def g3_126_4 : RowG prog := RowG.run g3_126_4_runs (by kernel_rfl)
/-- about 130107 steps -/
theorem g3_126_5_runs : told2.answer 20000 200 126 [] 0 [.c (.int .i64 1332692830354)] [] (.a [.c (.int .i64 194564188297), .c (.int .i64 194564188298)]) [] = some (.bool true) := by kernel_rfl
noncomputable def g3_126_5 : RowG prog := RowG.run g3_126_5_runs (by kernel_rfl)
/-- about 130093 steps -/
theorem g3_126_6_runs : told2.answer 20000 200 126 [] 0 [.c (.int .i64 1332692830414)] [] (.a [.c (.int .i64 194564188612), .c (.int .i64 194564188613)]) [] = some (.bool true) := by kernel_rfl
noncomputable def g3_126_6 : RowG prog := RowG.run g3_126_6_runs (by kernel_rfl)
/-- about 4545 steps -/
theorem g3_127_7_runs : told2.answer 20000 200 127 [] 0 [.c (.int .i64 0)] [] (.t [.c (.int .i64 1008692830294), .c (.int .i64 0)]) [] = some (.bool true) := by kernel_rfl
noncomputable def g3_127_7 : RowG prog := RowG.run g3_127_7_runs (by kernel_rfl)
/-- about 4545 steps -/
theorem g3_127_8_runs : told2.answer 20000 200 127 [] 0 [.c (.int .i64 4)] [] (.t [.c (.int .i64 1008692830354), .c (.int .i64 0)]) [] = some (.bool true) := by kernel_rfl
noncomputable def g3_127_8 : RowG prog := RowG.run g3_127_8_runs (by kernel_rfl)
/-- about 4545 steps -/
theorem g3_127_9_runs : told2.answer 20000 200 127 [] 0 [.c (.int .i64 8)] [] (.t [.c (.int .i64 1008692830414), .c (.int .i64 0)]) [] = some (.bool true) := by kernel_rfl
noncomputable def g3_127_9 : RowG prog := RowG.run g3_127_9_runs (by kernel_rfl)
noncomputable def told3 : Told prog := told2.rowsG [g3_99_0, g3_126_1, g3_126_2, g3_126_3, g3_126_4, g3_126_5, g3_126_6, g3_127_7, g3_127_8, g3_127_9] (fun f => Nat.beq f 99 || Nat.beq f 126 || Nat.beq f 127) 20000 200
end PlanTold
