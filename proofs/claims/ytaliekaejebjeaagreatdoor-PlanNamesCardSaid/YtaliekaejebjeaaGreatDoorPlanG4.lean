/- Closed calls, by evaluation. No condition. -/
import Derived.Test.YtaliekaejebjeaaGreatDoorPlanG3
set_option linter.unusedVariables false
open Go Go.Ev Go.Proofs.Tryz
set_option maxRecDepth 100000
namespace PlanTold
/-- about 9235 steps -/
theorem g4_67_0_runs : told3.answer 20000 200 67 [] 0 [.c (.int .i64 (-324000000000)), .c (.int .i64 0), .c (.int .i64 0)] [] (.t [.c (.int .i64 (-324000000000)), .c (.int .i64 0)]) [] = some (.bool true) := by kernel_rfl
noncomputable def g4_67_0 : RowG prog := RowG.run g4_67_0_runs (by kernel_rfl)
/-- about 9235 steps -/
theorem g4_67_1_runs : told3.answer 20000 200 67 [] 0 [.c (.int .i64 (-324000000000)), .c (.int .i64 0), .c (.int .i64 4)] [] (.t [.c (.int .i64 (-324000000000)), .c (.int .i64 0)]) [] = some (.bool true) := by kernel_rfl
noncomputable def g4_67_1 : RowG prog := RowG.run g4_67_1_runs (by kernel_rfl)
/-- about 9235 steps -/
theorem g4_67_2_runs : told3.answer 20000 200 67 [] 0 [.c (.int .i64 (-324000000000)), .c (.int .i64 0), .c (.int .i64 8)] [] (.t [.c (.int .i64 (-324000000000)), .c (.int .i64 0)]) [] = some (.bool true) := by kernel_rfl
noncomputable def g4_67_2 : RowG prog := RowG.run g4_67_2_runs (by kernel_rfl)
/-- about 7598 steps -/
theorem g4_67_3_runs : told3.answer 20000 200 67 [] 0 [.c (.int .i64 0), .c (.int .i64 0), .c (.int .i64 0)] [] (.t [.c (.int .i64 0), .c (.int .i64 0)]) [] = some (.bool true) := by kernel_rfl
noncomputable def g4_67_3 : RowG prog := RowG.run g4_67_3_runs (by kernel_rfl)
/-- about 7598 steps -/
theorem g4_67_4_runs : told3.answer 20000 200 67 [] 0 [.c (.int .i64 0), .c (.int .i64 0), .c (.int .i64 4)] [] (.t [.c (.int .i64 0), .c (.int .i64 0)]) [] = some (.bool true) := by kernel_rfl
noncomputable def g4_67_4 : RowG prog := RowG.run g4_67_4_runs (by kernel_rfl)
/-- about 7598 steps -/
theorem g4_67_5_runs : told3.answer 20000 200 67 [] 0 [.c (.int .i64 0), .c (.int .i64 0), .c (.int .i64 8)] [] (.t [.c (.int .i64 0), .c (.int .i64 0)]) [] = some (.bool true) := by kernel_rfl
noncomputable def g4_67_5 : RowG prog := RowG.run g4_67_5_runs (by kernel_rfl)
/-- about 9257 steps -/
theorem g4_67_6_runs : told3.answer 20000 200 67 [] 0 [.c (.int .i64 324000000000), .c (.int .i64 0), .c (.int .i64 0)] [] (.t [.c (.int .i64 324000000000), .c (.int .i64 0)]) [] = some (.bool true) := by kernel_rfl
noncomputable def g4_67_6 : RowG prog := RowG.run g4_67_6_runs (by kernel_rfl)
/-- about 9257 steps -/
theorem g4_67_7_runs : told3.answer 20000 200 67 [] 0 [.c (.int .i64 324000000000), .c (.int .i64 0), .c (.int .i64 4)] [] (.t [.c (.int .i64 324000000000), .c (.int .i64 0)]) [] = some (.bool true) := by kernel_rfl
noncomputable def g4_67_7 : RowG prog := RowG.run g4_67_7_runs (by kernel_rfl)
/-- about 9257 steps -/
theorem g4_67_8_runs : told3.answer 20000 200 67 [] 0 [.c (.int .i64 324000000000), .c (.int .i64 0), .c (.int .i64 8)] [] (.t [.c (.int .i64 324000000000), .c (.int .i64 0)]) [] = some (.bool true) := by kernel_rfl
noncomputable def g4_67_8 : RowG prog := RowG.run g4_67_8_runs (by kernel_rfl)
/-- about 281669 steps -/
theorem g4_71_9_runs : told3.answer 20000 200 71 [] 0 [.a [.c (.string ⟨⟨[88, 57, 57]⟩⟩), .c (.int .i64 0), .c (.int .i64 0), .c (.int .i64 1099511627776)], .c (.int .i64 0)] [] (.t [.a [.c (.int .i64 0), .c (.int .i64 0), .c (.int .i64 0), .c (.int .i64 0), .c (.int .i64 1099511627776), .c (.int .i64 1099511627776)], .a [.c (.int .i64 1099511627776), .c (.int .i64 1099511627776)]]) [] = some (.bool true) := by kernel_rfl
noncomputable def g4_71_9 : RowG prog := RowG.run g4_71_9_runs (by kernel_rfl)
/-- about 281697 steps -/
theorem g4_71_10_runs : told3.answer 20000 200 71 [] 0 [.a [.c (.string ⟨⟨[88, 57, 57]⟩⟩), .c (.int .i64 0), .c (.int .i64 0), .c (.int .i64 1099511627776)], .c (.int .i64 4)] [] (.t [.a [.c (.int .i64 0), .c (.int .i64 0), .c (.int .i64 0), .c (.int .i64 0), .c (.int .i64 1099511627776), .c (.int .i64 1099511627776)], .a [.c (.int .i64 1099511627776), .c (.int .i64 1099511627776)]]) [] = some (.bool true) := by kernel_rfl
noncomputable def g4_71_10 : RowG prog := RowG.run g4_71_10_runs (by kernel_rfl)
/-- about 281669 steps -/
theorem g4_71_11_runs : told3.answer 20000 200 71 [] 0 [.a [.c (.string ⟨⟨[88, 57, 57]⟩⟩), .c (.int .i64 0), .c (.int .i64 0), .c (.int .i64 1099511627776)], .c (.int .i64 8)] [] (.t [.a [.c (.int .i64 0), .c (.int .i64 0), .c (.int .i64 0), .c (.int .i64 0), .c (.int .i64 1099511627776), .c (.int .i64 1099511627776)], .a [.c (.int .i64 1099511627776), .c (.int .i64 1099511627776)]]) [] = some (.bool true) := by kernel_rfl
noncomputable def g4_71_11 : RowG prog := RowG.run g4_71_11_runs (by kernel_rfl)
noncomputable def told4 : Told prog := told3.rowsG [g4_67_0, g4_67_1, g4_67_2, g4_67_3, g4_67_4, g4_67_5, g4_67_6, g4_67_7, g4_67_8, g4_71_9, g4_71_10, g4_71_11] (fun f => Nat.beq f 67 || Nat.beq f 71) 20000 200
end PlanTold
