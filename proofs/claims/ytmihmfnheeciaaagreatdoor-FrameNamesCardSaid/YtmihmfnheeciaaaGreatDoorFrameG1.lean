/- Closed calls, by evaluation. No condition. -/
import Derived.Test.YtmihmfnheeciaaaGreatDoorFramePut
set_option linter.unusedVariables false
open Go Go.Ev Go.Proofs.Tryz
set_option maxRecDepth 100000
namespace FrameTold
/-- about 629 steps -/
theorem g1_27_0_runs : told0.answer 20000 200 27 [] 0 [.a [.c (.string ⟨⟨[66, 73, 84, 80, 73, 88]⟩⟩), .c (.int .u8 3), .c (.bool false), .c (.int .i64 16), .c (.int .i64 0), .c (.string ⟨⟨[]⟩⟩), .c (.string ⟨⟨[]⟩⟩)]] [] (.c (.int .i64 0)) [] = some (.bool true) := by kernel_rfl
noncomputable def g1_27_0 : RowG prog := RowG.run g1_27_0_runs (by kernel_rfl)
/-- about 629 steps -/
theorem g1_27_1_runs : told0.answer 20000 200 27 [] 0 [.a [.c (.string ⟨⟨[66, 73, 84, 80, 73, 88]⟩⟩), .c (.int .u8 3), .c (.bool false), .c (.int .i64 64), .c (.int .i64 0), .c (.string ⟨⟨[]⟩⟩), .c (.string ⟨⟨[]⟩⟩)]] [] (.c (.int .i64 0)) [] = some (.bool true) := by kernel_rfl
noncomputable def g1_27_1 : RowG prog := RowG.run g1_27_1_runs (by kernel_rfl)
/-- about 627 steps -/
theorem g1_27_2_runs : told0.answer 20000 200 27 [] 0 [.a [.c (.string ⟨⟨[66, 73, 84, 80, 73, 88]⟩⟩), .c (.int .u8 3), .c (.bool false), .c (.int .i64 8), .c (.int .i64 0), .c (.string ⟨⟨[]⟩⟩), .c (.string ⟨⟨[]⟩⟩)]] [] (.c (.int .i64 0)) [] = some (.bool true) := by kernel_rfl
noncomputable def g1_27_2 : RowG prog := RowG.run g1_27_2_runs (by kernel_rfl)
/-- about 593 steps -/
theorem g1_27_3_runs : told0.answer 20000 200 27 [] 0 [.a [.c (.string ⟨⟨[66, 90, 69, 82, 79]⟩⟩), .c (.int .u8 3), .c (.bool false), .c (.int .i64 3), .c (.int .i64 0), .c (.string ⟨⟨[]⟩⟩), .c (.string ⟨⟨[]⟩⟩)]] [] (.c (.int .i64 0)) [] = some (.bool true) := by kernel_rfl
noncomputable def g1_27_3 : RowG prog := RowG.run g1_27_3_runs (by kernel_rfl)
/-- about 1262 steps -/
theorem g1_27_4_runs : told0.answer 20000 200 27 [] 0 [.a [.c (.string ⟨⟨[67, 72, 69, 67, 75, 83, 85, 77]⟩⟩), .c (.int .u8 5), .c (.bool false), .c (.int .i64 0), .c (.int .i64 0), .c (.string ⟨⟨[48, 48, 48, 48, 48, 48, 48, 48, 48, 48, 48, 48, 48, 48, 48, 48]⟩⟩), .c (.string ⟨⟨[]⟩⟩)]] [] (.c (.int .i64 0)) [] = some (.bool true) := by kernel_rfl
noncomputable def g1_27_4 : RowG prog := RowG.run g1_27_4_runs (by kernel_rfl)
/-- about 1262 steps -/
theorem g1_27_5_runs : told0.answer 20000 200 27 [] 0 [.a [.c (.string ⟨⟨[67, 72, 69, 67, 75, 83, 85, 77]⟩⟩), .c (.int .u8 5), .c (.bool false), .c (.int .i64 0), .c (.int .i64 0), .c (.string ⟨⟨[52, 81, 57, 98, 53, 80, 55, 97, 52, 80, 55, 97, 52, 80, 55, 97]⟩⟩), .c (.string ⟨⟨[]⟩⟩)]] [] (.c (.int .i64 0)) [] = some (.bool true) := by kernel_rfl
noncomputable def g1_27_5 : RowG prog := RowG.run g1_27_5_runs (by kernel_rfl)
/-- about 1262 steps -/
theorem g1_27_6_runs : told0.answer 20000 200 27 [] 0 [.a [.c (.string ⟨⟨[67, 72, 69, 67, 75, 83, 85, 77]⟩⟩), .c (.int .u8 5), .c (.bool false), .c (.int .i64 0), .c (.int .i64 0), .c (.string ⟨⟨[66, 112, 70, 105, 68, 111, 70, 103, 66, 111, 70, 103, 66, 111, 70, 103]⟩⟩), .c (.string ⟨⟨[]⟩⟩)]] [] (.c (.int .i64 0)) [] = some (.bool true) := by kernel_rfl
noncomputable def g1_27_6 : RowG prog := RowG.run g1_27_6_runs (by kernel_rfl)
/-- about 1262 steps -/
theorem g1_27_7_runs : told0.answer 20000 200 27 [] 0 [.a [.c (.string ⟨⟨[67, 72, 69, 67, 75, 83, 85, 77]⟩⟩), .c (.int .u8 5), .c (.bool false), .c (.int .i64 0), .c (.int .i64 0), .c (.string ⟨⟨[69, 101, 103, 110, 69, 99, 100, 108, 69, 99, 100, 108, 69, 99, 100, 108]⟩⟩), .c (.string ⟨⟨[]⟩⟩)]] [] (.c (.int .i64 0)) [] = some (.bool true) := by kernel_rfl
noncomputable def g1_27_7 : RowG prog := RowG.run g1_27_7_runs (by kernel_rfl)
/-- about 1180 steps -/
theorem g1_27_8_runs : told0.answer 20000 200 27 [] 0 [.a [.c (.string ⟨⟨[68, 65, 84, 65, 83, 85, 77]⟩⟩), .c (.int .u8 5), .c (.bool false), .c (.int .i64 0), .c (.int .i64 0), .c (.string ⟨⟨[48]⟩⟩), .c (.string ⟨⟨[]⟩⟩)]] [] (.c (.int .i64 0)) [] = some (.bool true) := by kernel_rfl
noncomputable def g1_27_8 : RowG prog := RowG.run g1_27_8_runs (by kernel_rfl)
/-- about 1156 steps -/
theorem g1_27_9_runs : told0.answer 20000 200 27 [] 0 [.a [.c (.string ⟨⟨[68, 65, 84, 65, 83, 85, 77]⟩⟩), .c (.int .u8 5), .c (.bool false), .c (.int .i64 0), .c (.int .i64 0), .c (.string ⟨⟨[50, 49, 52, 55, 52, 56, 51, 54, 52, 56]⟩⟩), .c (.string ⟨⟨[]⟩⟩)]] [] (.c (.int .i64 0)) [] = some (.bool true) := by kernel_rfl
noncomputable def g1_27_9 : RowG prog := RowG.run g1_27_9_runs (by kernel_rfl)
/-- about 1156 steps -/
theorem g1_27_10_runs : told0.answer 20000 200 27 [] 0 [.a [.c (.string ⟨⟨[68, 65, 84, 65, 83, 85, 77]⟩⟩), .c (.int .u8 5), .c (.bool false), .c (.int .i64 0), .c (.int .i64 0), .c (.string ⟨⟨[52, 50, 57, 52, 57, 48, 50, 48, 49, 56]⟩⟩), .c (.string ⟨⟨[]⟩⟩)]] [] (.c (.int .i64 0)) [] = some (.bool true) := by kernel_rfl
noncomputable def g1_27_10 : RowG prog := RowG.run g1_27_10_runs (by kernel_rfl)
/-- about 627 steps -/
theorem g1_27_11_runs : told0.answer 20000 200 27 [] 0 [.a [.c (.string ⟨⟨[71, 67, 79, 85, 78, 84]⟩⟩), .c (.int .u8 3), .c (.bool false), .c (.int .i64 1), .c (.int .i64 0), .c (.string ⟨⟨[]⟩⟩), .c (.string ⟨⟨[]⟩⟩)]] [] (.c (.int .i64 0)) [] = some (.bool true) := by kernel_rfl
noncomputable def g1_27_11 : RowG prog := RowG.run g1_27_11_runs (by kernel_rfl)
/-- about 627 steps -/
theorem g1_27_12_runs : told0.answer 20000 200 27 [] 0 [.a [.c (.string ⟨⟨[78, 65, 88, 73, 83, 49]⟩⟩), .c (.int .u8 3), .c (.bool false), .c (.int .i64 1), .c (.int .i64 0), .c (.string ⟨⟨[]⟩⟩), .c (.string ⟨⟨[]⟩⟩)]] [] (.c (.int .i64 0)) [] = some (.bool true) := by kernel_rfl
noncomputable def g1_27_12 : RowG prog := RowG.run g1_27_12_runs (by kernel_rfl)
/-- about 627 steps -/
theorem g1_27_13_runs : told0.answer 20000 200 27 [] 0 [.a [.c (.string ⟨⟨[78, 65, 88, 73, 83, 49]⟩⟩), .c (.int .u8 3), .c (.bool false), .c (.int .i64 2), .c (.int .i64 0), .c (.string ⟨⟨[]⟩⟩), .c (.string ⟨⟨[]⟩⟩)]] [] (.c (.int .i64 0)) [] = some (.bool true) := by kernel_rfl
noncomputable def g1_27_13 : RowG prog := RowG.run g1_27_13_runs (by kernel_rfl)
/-- about 627 steps -/
theorem g1_27_14_runs : told0.answer 20000 200 27 [] 0 [.a [.c (.string ⟨⟨[78, 65, 88, 73, 83, 50]⟩⟩), .c (.int .u8 3), .c (.bool false), .c (.int .i64 1), .c (.int .i64 0), .c (.string ⟨⟨[]⟩⟩), .c (.string ⟨⟨[]⟩⟩)]] [] (.c (.int .i64 0)) [] = some (.bool true) := by kernel_rfl
noncomputable def g1_27_14 : RowG prog := RowG.run g1_27_14_runs (by kernel_rfl)
/-- about 593 steps -/
theorem g1_27_15_runs : told0.answer 20000 200 27 [] 0 [.a [.c (.string ⟨⟨[78, 65, 88, 73, 83]⟩⟩), .c (.int .u8 3), .c (.bool false), .c (.int .i64 0), .c (.int .i64 0), .c (.string ⟨⟨[]⟩⟩), .c (.string ⟨⟨[]⟩⟩)]] [] (.c (.int .i64 0)) [] = some (.bool true) := by kernel_rfl
noncomputable def g1_27_15 : RowG prog := RowG.run g1_27_15_runs (by kernel_rfl)
/-- about 593 steps -/
theorem g1_27_16_runs : told0.answer 20000 200 27 [] 0 [.a [.c (.string ⟨⟨[78, 65, 88, 73, 83]⟩⟩), .c (.int .u8 3), .c (.bool false), .c (.int .i64 1), .c (.int .i64 0), .c (.string ⟨⟨[]⟩⟩), .c (.string ⟨⟨[]⟩⟩)]] [] (.c (.int .i64 0)) [] = some (.bool true) := by kernel_rfl
noncomputable def g1_27_16 : RowG prog := RowG.run g1_27_16_runs (by kernel_rfl)
/-- about 593 steps -/
theorem g1_27_17_runs : told0.answer 20000 200 27 [] 0 [.a [.c (.string ⟨⟨[78, 65, 88, 73, 83]⟩⟩), .c (.int .u8 3), .c (.bool false), .c (.int .i64 2), .c (.int .i64 0), .c (.string ⟨⟨[]⟩⟩), .c (.string ⟨⟨[]⟩⟩)]] [] (.c (.int .i64 0)) [] = some (.bool true) := by kernel_rfl
noncomputable def g1_27_17 : RowG prog := RowG.run g1_27_17_runs (by kernel_rfl)
/-- about 627 steps -/
theorem g1_27_18_runs : told0.answer 20000 200 27 [] 0 [.a [.c (.string ⟨⟨[80, 67, 79, 85, 78, 84]⟩⟩), .c (.int .u8 3), .c (.bool false), .c (.int .i64 0), .c (.int .i64 0), .c (.string ⟨⟨[]⟩⟩), .c (.string ⟨⟨[]⟩⟩)]] [] (.c (.int .i64 0)) [] = some (.bool true) := by kernel_rfl
noncomputable def g1_27_18 : RowG prog := RowG.run g1_27_18_runs (by kernel_rfl)
/-- about 597 steps -/
theorem g1_27_19_runs : told0.answer 20000 200 27 [] 0 [.a [.c (.string ⟨⟨[83, 73, 77, 80, 76, 69]⟩⟩), .c (.int .u8 2), .c (.bool true), .c (.int .i64 0), .c (.int .i64 0), .c (.string ⟨⟨[]⟩⟩), .c (.string ⟨⟨[]⟩⟩)]] [] (.c (.int .i64 0)) [] = some (.bool true) := by kernel_rfl
noncomputable def g1_27_19 : RowG prog := RowG.run g1_27_19_runs (by kernel_rfl)
/-- about 1262 steps -/
theorem g1_27_20_runs : told0.answer 20000 200 27 [] 0 [.a [.c (.string ⟨⟨[88, 84, 69, 78, 83, 73, 79, 78]⟩⟩), .c (.int .u8 5), .c (.bool false), .c (.int .i64 0), .c (.int .i64 0), .c (.string ⟨⟨[73, 77, 65, 71, 69]⟩⟩), .c (.string ⟨⟨[]⟩⟩)]] [] (.c (.int .i64 0)) [] = some (.bool true) := by kernel_rfl
noncomputable def g1_27_20 : RowG prog := RowG.run g1_27_20_runs (by kernel_rfl)
/-- about 1129 steps -/
theorem g1_27_21_runs : told0.answer 20000 200 27 [0, 1] 0 [.a [.c (.string ⟨⟨[66, 83, 67, 65, 76, 69]⟩⟩), .c (.int .u8 4), .c (.bool false), .c (.int .i64 5), .c (.int .i64 (-1)), .c (.string ⟨⟨[]⟩⟩), .c (.string ⟨⟨[]⟩⟩)]] [barred, pow10] (.c (.int .i64 0)) [] = some (.bool true) := by kernel_rfl
noncomputable def g1_27_21 : RowG prog := RowG.run g1_27_21_runs (by kernel_rfl)
/-- about 8647 steps -/
theorem g1_58_22_runs : told0.answer 20000 200 58 [] 0 [.c (.string ⟨⟨[83, 73, 77, 80, 76, 69, 32, 32, 61, 32, 32, 32, 32, 32, 32, 32, 32, 32, 32, 32, 32, 32, 32, 32, 32, 32, 32, 32, 32, 84, 32, 32, 32, 32, 32, 32, 32, 32, 32, 32, 32, 32, 32, 32, 32, 32, 32, 32, 32, 32, 32, 32, 32, 32, 32, 32, 32, 32, 32, 32, 32, 32, 32, 32, 32, 32, 32, 32, 32, 32, 32, 32, 32, 32, 32, 32, 32, 32, 32, 32, 66, 73, 84, 80, 73, 88, 32, 32, 61, 32, 32, 32, 32, 32, 32, 32, 32, 32, 32, 32, 32, 32, 32, 32, 32, 32, 32, 32, 49, 54, 32, 32, 32, 32, 32, 32, 32, 32, 32, 32, 32, 32, 32, 32, 32, 32, 32, 32, 32, 32, 32, 32, 32, 32, 32, 32, 32, 32, 32, 32, 32, 32, 32, 32, 32, 32, 32, 32, 32, 32, 32, 32, 32, 32, 32, 32, 32, 32, 32, 32, 78, 65, 88, 73, 83, 32, 32, 32, 61, 32, 32, 32, 32, 32, 32, 32, 32, 32, 32, 32, 32, 32, 32, 32, 32, 32, 32, 32, 32, 50, 32, 32, 32, 32, 32, 32, 32, 32, 32, 32, 32, 32, 32, 32, 32, 32, 32, 32, 32, 32, 32, 32, 32, 32, 32, 32, 32, 32, 32, 32, 32, 32, 32, 32, 32, 32, 32, 32, 32, 32, 32, 32, 32, 32, 32, 32, 32, 32, 32, 32, 78, 65, 88, 73, 83, 49, 32, 32, 61, 32, 32, 32, 32, 32, 32, 32, 32, 32, 32, 32, 32, 32, 32, 32, 32, 32, 32, 32, 32, 50, 32, 32, 32, 32, 32, 32, 32, 32, 32, 32, 32, 32, 32, 32, 32, 32, 32, 32, 32, 32, 32, 32, 32, 32, 32, 32, 32, 32, 32, 32, 32, 32, 32, 32, 32, 32, 32, 32, 32, 32, 32, 32, 32, 32, 32, 32, 32, 32, 32, 32, 78, 65, 88, 73, 83, 50, 32, 32, 61, 32, 32, 32, 32, 32, 32, 32, 32, 32, 32, 32, 32, 32, 32, 32, 32, 32, 32, 32, 32, 49, 32, 32, 32, 32, 32, 32, 32, 32, 32, 32, 32, 32, 32, 32, 32, 32, 32, 32, 32, 32, 32, 32, 32, 32, 32, 32, 32, 32, 32, 32, 32, 32, 32, 32, 32, 32, 32, 32, 32, 32, 32, 32, 32, 32, 32, 32, 32, 32, 32, 32, 66, 83, 67, 65, 76, 69, 32, 32, 61, 32, 32, 32, 32, 32, 32, 32, 32, 32, 32, 32, 32, 32, 32, 32, 32, 53, 46, 69, 45, 49, 32, 32, 32, 32, 32, 32, 32, 32, 32, 32, 32, 32, 32, 32, 32, 32, 32, 32, 32, 32, 32, 32, 32, 32, 32, 32, 32, 32, 32, 32, 32, 32, 32, 32, 32, 32, 32, 32, 32, 32, 32, 32, 32, 32, 32, 32, 32, 32, 32, 32, 66, 90, 69, 82, 79, 32, 32, 32, 61, 32, 32, 32, 32, 32, 32, 32, 32, 32, 32, 32, 32, 32, 32, 32, 32, 32, 32, 32, 32, 51, 32, 32, 32, 32, 32, 32, 32, 32, 32, 32, 32, 32, 32, 32, 32, 32, 32, 32, 32, 32, 32, 32, 32, 32, 32, 32, 32, 32, 32, 32, 32, 32, 32, 32, 32, 32, 32, 32, 32, 32, 32, 32, 32, 32, 32, 32, 32, 32, 32, 32, 68, 65, 84, 65, 83, 85, 77, 32, 61, 32, 39, 52, 50, 57, 52, 57, 48, 50, 48, 49, 56, 39, 32, 32, 32, 32, 32, 32, 32, 32, 32, 32, 32, 32, 32, 32, 32, 32, 32, 32, 32, 32, 32, 32, 32, 32, 32, 32, 32, 32, 32, 32, 32, 32, 32, 32, 32, 32, 32, 32, 32, 32, 32, 32, 32, 32, 32, 32, 32, 32, 32, 32, 32, 32, 32, 32, 32, 32, 32, 32, 67, 72, 69, 67, 75, 83, 85, 77, 61, 32, 39, 69, 101, 103, 110, 69, 99, 100, 108, 69, 99, 100, 108, 69, 99, 100, 108, 39, 32, 32, 32, 32, 32, 32, 32, 32, 32, 32, 32, 32, 32, 32, 32, 32, 32, 32, 32, 32, 32, 32, 32, 32, 32, 32, 32, 32, 32, 32, 32, 32, 32, 32, 32, 32, 32, 32, 32, 32, 32, 32, 32, 32, 32, 32, 32, 32, 32, 32, 32, 32]⟩⟩)] [] (.c (.bool true)) [] = some (.bool true) := by kernel_rfl
noncomputable def g1_58_22 : RowG prog := RowG.run g1_58_22_runs (by kernel_rfl)
/-- about 7687 steps -/
theorem g1_58_23_runs : told0.answer 20000 200 58 [] 0 [.c (.string ⟨⟨[88, 84, 69, 78, 83, 73, 79, 78, 61, 32, 39, 73, 77, 65, 71, 69, 32, 32, 32, 39, 32, 32, 32, 32, 32, 32, 32, 32, 32, 32, 32, 32, 32, 32, 32, 32, 32, 32, 32, 32, 32, 32, 32, 32, 32, 32, 32, 32, 32, 32, 32, 32, 32, 32, 32, 32, 32, 32, 32, 32, 32, 32, 32, 32, 32, 32, 32, 32, 32, 32, 32, 32, 32, 32, 32, 32, 32, 32, 32, 32, 66, 73, 84, 80, 73, 88, 32, 32, 61, 32, 32, 32, 32, 32, 32, 32, 32, 32, 32, 32, 32, 32, 32, 32, 32, 32, 32, 32, 54, 52, 32, 32, 32, 32, 32, 32, 32, 32, 32, 32, 32, 32, 32, 32, 32, 32, 32, 32, 32, 32, 32, 32, 32, 32, 32, 32, 32, 32, 32, 32, 32, 32, 32, 32, 32, 32, 32, 32, 32, 32, 32, 32, 32, 32, 32, 32, 32, 32, 32, 32, 78, 65, 88, 73, 83, 32, 32, 32, 61, 32, 32, 32, 32, 32, 32, 32, 32, 32, 32, 32, 32, 32, 32, 32, 32, 32, 32, 32, 32, 49, 32, 32, 32, 32, 32, 32, 32, 32, 32, 32, 32, 32, 32, 32, 32, 32, 32, 32, 32, 32, 32, 32, 32, 32, 32, 32, 32, 32, 32, 32, 32, 32, 32, 32, 32, 32, 32, 32, 32, 32, 32, 32, 32, 32, 32, 32, 32, 32, 32, 32, 78, 65, 88, 73, 83, 49, 32, 32, 61, 32, 32, 32, 32, 32, 32, 32, 32, 32, 32, 32, 32, 32, 32, 32, 32, 32, 32, 32, 32, 49, 32, 32, 32, 32, 32, 32, 32, 32, 32, 32, 32, 32, 32, 32, 32, 32, 32, 32, 32, 32, 32, 32, 32, 32, 32, 32, 32, 32, 32, 32, 32, 32, 32, 32, 32, 32, 32, 32, 32, 32, 32, 32, 32, 32, 32, 32, 32, 32, 32, 32, 80, 67, 79, 85, 78, 84, 32, 32, 61, 32, 32, 32, 32, 32, 32, 32, 32, 32, 32, 32, 32, 32, 32, 32, 32, 32, 32, 32, 32, 48, 32, 32, 32, 32, 32, 32, 32, 32, 32, 32, 32, 32, 32, 32, 32, 32, 32, 32, 32, 32, 32, 32, 32, 32, 32, 32, 32, 32, 32, 32, 32, 32, 32, 32, 32, 32, 32, 32, 32, 32, 32, 32, 32, 32, 32, 32, 32, 32, 32, 32, 71, 67, 79, 85, 78, 84, 32, 32, 61, 32, 32, 32, 32, 32, 32, 32, 32, 32, 32, 32, 32, 32, 32, 32, 32, 32, 32, 32, 32, 49, 32, 32, 32, 32, 32, 32, 32, 32, 32, 32, 32, 32, 32, 32, 32, 32, 32, 32, 32, 32, 32, 32, 32, 32, 32, 32, 32, 32, 32, 32, 32, 32, 32, 32, 32, 32, 32, 32, 32, 32, 32, 32, 32, 32, 32, 32, 32, 32, 32, 32, 68, 65, 84, 65, 83, 85, 77, 32, 61, 32, 39, 50, 49, 52, 55, 52, 56, 51, 54, 52, 56, 39, 32, 32, 32, 32, 32, 32, 32, 32, 32, 32, 32, 32, 32, 32, 32, 32, 32, 32, 32, 32, 32, 32, 32, 32, 32, 32, 32, 32, 32, 32, 32, 32, 32, 32, 32, 32, 32, 32, 32, 32, 32, 32, 32, 32, 32, 32, 32, 32, 32, 32, 32, 32, 32, 32, 32, 32, 32, 32, 67, 72, 69, 67, 75, 83, 85, 77, 61, 32, 39, 52, 81, 57, 98, 53, 80, 55, 97, 52, 80, 55, 97, 52, 80, 55, 97, 39, 32, 32, 32, 32, 32, 32, 32, 32, 32, 32, 32, 32, 32, 32, 32, 32, 32, 32, 32, 32, 32, 32, 32, 32, 32, 32, 32, 32, 32, 32, 32, 32, 32, 32, 32, 32, 32, 32, 32, 32, 32, 32, 32, 32, 32, 32, 32, 32, 32, 32, 32, 32]⟩⟩)] [] (.c (.bool true)) [] = some (.bool true) := by kernel_rfl
noncomputable def g1_58_23 : RowG prog := RowG.run g1_58_23_runs (by kernel_rfl)
/-- about 567 steps -/
theorem g1_99_24_runs : told0.answer 20000 200 99 [] 0 [.a [.c (.string ⟨⟨[67, 72, 69, 67, 75, 83, 85, 77]⟩⟩), .c (.int .u8 5), .c (.bool false), .c (.int .i64 0), .c (.int .i64 0), .c (.string ⟨⟨[48, 48, 48, 48, 48, 48, 48, 48, 48, 48, 48, 48, 48, 48, 48, 48]⟩⟩), .c (.string ⟨⟨[]⟩⟩)]] [] (.c (.string ⟨⟨[39, 48, 48, 48, 48, 48, 48, 48, 48, 48, 48, 48, 48, 48, 48, 48, 48, 39, 32, 32]⟩⟩)) [] = some (.bool true) := by kernel_rfl
noncomputable def g1_99_24 : RowG prog := RowG.run g1_99_24_runs (by kernel_rfl)
/-- about 567 steps -/
theorem g1_99_25_runs : told0.answer 20000 200 99 [] 0 [.a [.c (.string ⟨⟨[67, 72, 69, 67, 75, 83, 85, 77]⟩⟩), .c (.int .u8 5), .c (.bool false), .c (.int .i64 0), .c (.int .i64 0), .c (.string ⟨⟨[52, 81, 57, 98, 53, 80, 55, 97, 52, 80, 55, 97, 52, 80, 55, 97]⟩⟩), .c (.string ⟨⟨[]⟩⟩)]] [] (.c (.string ⟨⟨[39, 52, 81, 57, 98, 53, 80, 55, 97, 52, 80, 55, 97, 52, 80, 55, 97, 39, 32, 32]⟩⟩)) [] = some (.bool true) := by kernel_rfl
noncomputable def g1_99_25 : RowG prog := RowG.run g1_99_25_runs (by kernel_rfl)
/-- about 567 steps -/
theorem g1_99_26_runs : told0.answer 20000 200 99 [] 0 [.a [.c (.string ⟨⟨[67, 72, 69, 67, 75, 83, 85, 77]⟩⟩), .c (.int .u8 5), .c (.bool false), .c (.int .i64 0), .c (.int .i64 0), .c (.string ⟨⟨[66, 112, 70, 105, 68, 111, 70, 103, 66, 111, 70, 103, 66, 111, 70, 103]⟩⟩), .c (.string ⟨⟨[]⟩⟩)]] [] (.c (.string ⟨⟨[39, 66, 112, 70, 105, 68, 111, 70, 103, 66, 111, 70, 103, 66, 111, 70, 103, 39, 32, 32]⟩⟩)) [] = some (.bool true) := by kernel_rfl
noncomputable def g1_99_26 : RowG prog := RowG.run g1_99_26_runs (by kernel_rfl)
/-- about 567 steps -/
theorem g1_99_27_runs : told0.answer 20000 200 99 [] 0 [.a [.c (.string ⟨⟨[67, 72, 69, 67, 75, 83, 85, 77]⟩⟩), .c (.int .u8 5), .c (.bool false), .c (.int .i64 0), .c (.int .i64 0), .c (.string ⟨⟨[69, 101, 103, 110, 69, 99, 100, 108, 69, 99, 100, 108, 69, 99, 100, 108]⟩⟩), .c (.string ⟨⟨[]⟩⟩)]] [] (.c (.string ⟨⟨[39, 69, 101, 103, 110, 69, 99, 100, 108, 69, 99, 100, 108, 69, 99, 100, 108, 39, 32, 32]⟩⟩)) [] = some (.bool true) := by kernel_rfl
noncomputable def g1_99_27 : RowG prog := RowG.run g1_99_27_runs (by kernel_rfl)
/-- about 699 steps -/
theorem g1_99_28_runs : told0.answer 20000 200 99 [] 0 [.a [.c (.string ⟨⟨[68, 65, 84, 65, 83, 85, 77]⟩⟩), .c (.int .u8 5), .c (.bool false), .c (.int .i64 0), .c (.int .i64 0), .c (.string ⟨⟨[48]⟩⟩), .c (.string ⟨⟨[]⟩⟩)]] [] (.c (.string ⟨⟨[39, 48, 32, 32, 32, 32, 32, 32, 32, 39, 32, 32, 32, 32, 32, 32, 32, 32, 32, 32]⟩⟩)) [] = some (.bool true) := by kernel_rfl
noncomputable def g1_99_28 : RowG prog := RowG.run g1_99_28_runs (by kernel_rfl)
/-- about 567 steps -/
theorem g1_99_29_runs : told0.answer 20000 200 99 [] 0 [.a [.c (.string ⟨⟨[68, 65, 84, 65, 83, 85, 77]⟩⟩), .c (.int .u8 5), .c (.bool false), .c (.int .i64 0), .c (.int .i64 0), .c (.string ⟨⟨[50, 49, 52, 55, 52, 56, 51, 54, 52, 56]⟩⟩), .c (.string ⟨⟨[]⟩⟩)]] [] (.c (.string ⟨⟨[39, 50, 49, 52, 55, 52, 56, 51, 54, 52, 56, 39, 32, 32, 32, 32, 32, 32, 32, 32]⟩⟩)) [] = some (.bool true) := by kernel_rfl
noncomputable def g1_99_29 : RowG prog := RowG.run g1_99_29_runs (by kernel_rfl)
/-- about 567 steps -/
theorem g1_99_30_runs : told0.answer 20000 200 99 [] 0 [.a [.c (.string ⟨⟨[68, 65, 84, 65, 83, 85, 77]⟩⟩), .c (.int .u8 5), .c (.bool false), .c (.int .i64 0), .c (.int .i64 0), .c (.string ⟨⟨[52, 50, 57, 52, 57, 48, 50, 48, 49, 56]⟩⟩), .c (.string ⟨⟨[]⟩⟩)]] [] (.c (.string ⟨⟨[39, 52, 50, 57, 52, 57, 48, 50, 48, 49, 56, 39, 32, 32, 32, 32, 32, 32, 32, 32]⟩⟩)) [] = some (.bool true) := by kernel_rfl
noncomputable def g1_99_30 : RowG prog := RowG.run g1_99_30_runs (by kernel_rfl)
/-- about 699 steps -/
theorem g1_99_31_runs : told0.answer 20000 200 99 [] 0 [.a [.c (.string ⟨⟨[88, 84, 69, 78, 83, 73, 79, 78]⟩⟩), .c (.int .u8 5), .c (.bool false), .c (.int .i64 0), .c (.int .i64 0), .c (.string ⟨⟨[73, 77, 65, 71, 69]⟩⟩), .c (.string ⟨⟨[]⟩⟩)]] [] (.c (.string ⟨⟨[39, 73, 77, 65, 71, 69, 32, 32, 32, 39, 32, 32, 32, 32, 32, 32, 32, 32, 32, 32]⟩⟩)) [] = some (.bool true) := by kernel_rfl
noncomputable def g1_99_31 : RowG prog := RowG.run g1_99_31_runs (by kernel_rfl)
/-- about 656 steps -/
theorem g1_99_32_runs : told0.answer 20000 200 99 [0, 1] 0 [.a [.c (.string ⟨⟨[66, 83, 67, 65, 76, 69]⟩⟩), .c (.int .u8 4), .c (.bool false), .c (.int .i64 5), .c (.int .i64 (-1)), .c (.string ⟨⟨[]⟩⟩), .c (.string ⟨⟨[]⟩⟩)]] [barred, pow10] (.c (.string ⟨⟨[32, 32, 32, 32, 32, 32, 32, 32, 32, 32, 32, 32, 32, 32, 32, 53, 46, 69, 45, 49]⟩⟩)) [] = some (.bool true) := by kernel_rfl
noncomputable def g1_99_32 : RowG prog := RowG.run g1_99_32_runs (by kernel_rfl)
/-- about 815 steps -/
theorem g1_154_33_runs : told0.answer 20000 200 154 [] 0 [.c (.string ⟨⟨[32, 32, 32, 32, 32, 32, 32, 32, 32, 32, 32, 32, 32, 32, 32, 32, 32, 32, 32, 32, 32, 32, 32, 32, 32, 32, 32, 32, 32, 32, 32, 32, 32, 32, 32, 32, 32, 32, 32, 32, 32, 32, 32, 32, 32, 32, 32, 32, 32, 32, 32, 32, 32, 32, 32, 32, 32, 32, 32, 32]⟩⟩), .c (.string ⟨⟨[32]⟩⟩)] [] (.c (.string ⟨⟨[]⟩⟩)) [] = some (.bool true) := by kernel_rfl
noncomputable def g1_154_33 : RowG prog := RowG.run g1_154_33_runs (by kernel_rfl)
/-- about 789 steps -/
theorem g1_154_34_runs : told0.answer 20000 200 154 [] 0 [.c (.string ⟨⟨[32, 32, 32, 32, 32, 32, 32, 32, 32, 32, 32, 32, 32, 32, 32, 32, 32, 32, 32, 32, 32, 32, 32, 32, 32, 32, 32, 32, 32, 32, 32, 32, 32, 32, 32, 32, 32, 32, 32, 32, 32, 32, 32, 32, 32, 32, 32, 32, 32, 32, 32, 32, 32, 32, 32, 32, 32, 32]⟩⟩), .c (.string ⟨⟨[32]⟩⟩)] [] (.c (.string ⟨⟨[]⟩⟩)) [] = some (.bool true) := by kernel_rfl
noncomputable def g1_154_34 : RowG prog := RowG.run g1_154_34_runs (by kernel_rfl)
/-- about 711 steps -/
theorem g1_154_35_runs : told0.answer 20000 200 154 [] 0 [.c (.string ⟨⟨[32, 32, 32, 32, 32, 32, 32, 32, 32, 32, 32, 32, 32, 32, 32, 32, 32, 32, 32, 32, 32, 32, 32, 32, 32, 32, 32, 32, 32, 32, 32, 32, 32, 32, 32, 32, 32, 32, 32, 32, 32, 32, 32, 32, 32, 32, 32, 32, 32, 32, 32, 32]⟩⟩), .c (.string ⟨⟨[32]⟩⟩)] [] (.c (.string ⟨⟨[]⟩⟩)) [] = some (.bool true) := by kernel_rfl
noncomputable def g1_154_35 : RowG prog := RowG.run g1_154_35_runs (by kernel_rfl)
/-- about 685 steps -/
theorem g1_154_36_runs : told0.answer 20000 200 154 [] 0 [.c (.string ⟨⟨[32, 32, 32, 32, 32, 32, 32, 32, 32, 32, 32, 32, 32, 32, 32, 32, 32, 32, 32, 32, 32, 32, 32, 32, 32, 32, 32, 32, 32, 32, 32, 32, 32, 32, 32, 32, 32, 32, 32, 32, 32, 32, 32, 32, 32, 32, 32, 32, 32, 32]⟩⟩), .c (.string ⟨⟨[32]⟩⟩)] [] (.c (.string ⟨⟨[]⟩⟩)) [] = some (.bool true) := by kernel_rfl
noncomputable def g1_154_36 : RowG prog := RowG.run g1_154_36_runs (by kernel_rfl)
noncomputable def told1 : Told prog := told0.rowsG [g1_27_0, g1_27_1, g1_27_2, g1_27_3, g1_27_4, g1_27_5, g1_27_6, g1_27_7, g1_27_8, g1_27_9, g1_27_10, g1_27_11, g1_27_12, g1_27_13, g1_27_14, g1_27_15, g1_27_16, g1_27_17, g1_27_18, g1_27_19, g1_27_20, g1_27_21, g1_58_22, g1_58_23, g1_99_24, g1_99_25, g1_99_26, g1_99_27, g1_99_28, g1_99_29, g1_99_30, g1_99_31, g1_99_32, g1_154_33, g1_154_34, g1_154_35, g1_154_36] (fun f => Nat.beq f 27 || Nat.beq f 58 || Nat.beq f 99 || Nat.beq f 154) 20000 200
end FrameTold
