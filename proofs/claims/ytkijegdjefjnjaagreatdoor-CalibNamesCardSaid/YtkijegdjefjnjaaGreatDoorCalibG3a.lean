/- Closed calls, by evaluation. No condition. -/
import Derived.Test.YtkijegdjefjnjaaGreatDoorCalibG2
set_option linter.unusedVariables false
open Go Go.Ev Go.Proofs.Tryz
set_option maxRecDepth 100000
namespace CalibTold
/-- about 14865 steps -/
theorem g3_7_0_runs : told2.answer 20000 200 7 [] 4 [.a [.c (.int .i64 2), .c (.int .i64 1), .s 0 0 2 4], .a [.c (.int .i64 2), .c (.int .i64 1), .s 1 0 2 4], .a [.c (.int .i64 2), .c (.int .i64 1), .s 2 0 2 4], .a [.c (.int .i64 2), .c (.int .i64 1), .s 3 0 2 4], .c (.int .i64 1), .c (.int .i64 1)] [[.c (.int .i64 4294967296), .c (.int .i64 0)], [.c (.int .i64 0), .c (.int .i64 0)], [.c (.int .i64 0), .c (.int .i64 0)], [.c (.int .i64 1), .c (.int .i64 3)]] (.t [.a [.c (.int .i64 0), .c (.int .i64 0), .c (.slice none 0 0)], .c (.slice none 0 0), .c (.int .i64 16)]) [] = some (.bool true) := by kernel_rfl
noncomputable def g3_7_0 : RowG prog := RowG.run g3_7_0_runs (by kernel_rfl)
/-- about 14623 steps -/
theorem g3_7_1_runs : told2.answer 20000 200 7 [] 4 [.a [.c (.int .i64 2), .c (.int .i64 1), .s 0 0 2 4], .a [.c (.int .i64 2), .c (.int .i64 1), .s 1 0 2 4], .a [.c (.int .i64 2), .c (.int .i64 1), .s 2 0 2 4], .a [.c (.int .i64 2), .c (.int .i64 1), .s 3 0 2 4], .c (.int .i64 2), .c (.int .i64 1)] [[.c (.int .i64 10), .c (.int .i64 10)], [.c (.int .i64 1), .c (.int .i64 2)], [.c (.int .i64 2), .c (.int .i64 4)], [.c (.int .i64 1), .c (.int .i64 3)]] (.t [.a [.c (.int .i64 2), .c (.int .i64 1), .s 4 0 2 4], .s 5 0 2 4, .c (.int .i64 0)]) [[.c (.int .i64 10), .c (.int .i64 0)], [.c (.bool false), .c (.bool false)]] = some (.bool true) := by kernel_rfl
noncomputable def g3_7_1 : RowG prog := RowG.run g3_7_1_runs (by kernel_rfl)
/-- about 16952 steps -/
theorem g3_7_2_runs : told2.answer 20000 200 7 [] 4 [.a [.c (.int .i64 3), .c (.int .i64 1), .s 0 0 3 6], .a [.c (.int .i64 3), .c (.int .i64 1), .s 1 0 3 6], .a [.c (.int .i64 3), .c (.int .i64 1), .s 2 0 3 6], .a [.c (.int .i64 3), .c (.int .i64 1), .s 3 0 3 6], .c (.int .i64 0), .c (.int .i64 1)] [[.c (.int .i64 5), .c (.int .i64 7), .c (.int .i64 9)], [.c (.int .i64 0), .c (.int .i64 0), .c (.int .i64 0)], [.c (.int .i64 0), .c (.int .i64 0), .c (.int .i64 0)], [.c (.int .i64 2), .c (.int .i64 0), .c (.int .i64 2)]] (.t [.a [.c (.int .i64 3), .c (.int .i64 1), .s 4 0 3 6], .s 5 0 3 6, .c (.int .i64 0)]) [[.c (.int .i64 5), .c (.int .i64 0), .c (.int .i64 9)], [.c (.bool false), .c (.bool true), .c (.bool false)]] = some (.bool true) := by kernel_rfl
noncomputable def g3_7_2 : RowG prog := RowG.run g3_7_2_runs (by kernel_rfl)
/-- about 21776 steps -/
theorem g3_13_3_runs : told2.answer 20000 200 13 [] 0 [] [] (.c (.bool true)) [] = some (.bool true) := by kernel_rfl
noncomputable def g3_13_3 : RowG prog := RowG.run g3_13_3_runs (by kernel_rfl)
/-- about 11683 steps -/
theorem g3_25_4_runs : told2.answer 20000 200 25 [] 2 [.a [.c (.int .i64 32), .s 0 0 2 4, .s 1 0 1 2, .c (.slice none 0 0)], .c (.int .i64 0)] [[.c (.int .i64 1), .c (.int .i64 1)], [.c (.int .i64 8388608)]] (.t [.a [.c (.bool false), .s 2 0 1 2, .c (.bool false), .s 3 0 1 2], .c (.int .i64 0)]) [[.c (.int .u32 8388608)], [.c (.int .u32 1)]] = some (.bool true) := by kernel_rfl
noncomputable def g3_25_4 : RowG prog := RowG.run g3_25_4_runs (by kernel_rfl)
/-- about 15963 steps -/
theorem g3_25_5_runs : told2.answer 20000 200 25 [4] 3 [.a [.c (.int .i64 8), .s 1 0 2 4, .s 2 0 2 4, .s 3 0 1 2], .c (.int .i64 0)] [pow10, [.c (.int .i64 2), .c (.int .i64 1)], [.c (.int .i64 1), .c (.int .i64 255)], [.c (.string ⟨⟨[66, 90, 69, 82, 79]⟩⟩), .c (.int .u8 4), .c (.bool false), .c (.int .i64 5), .c (.int .i64 (-4)), .c (.string ⟨⟨[]⟩⟩), .c (.string ⟨⟨[]⟩⟩)]] (.t [.a [.c (.bool false), .s 4 0 1 2, .c (.bool false), .s 5 0 1 2], .c (.int .i64 0)]) [[.c (.int .u32 2001)], [.c (.int .u32 2000)]] = some (.bool true) := by kernel_rfl
noncomputable def g3_25_5 : RowG prog := RowG.run g3_25_5_runs (by kernel_rfl)
end CalibTold
