/- Closed calls, by evaluation. No condition. -/
import Derived.Test.YtkijegdjefjnjaaGreatDoorCalibG3
set_option linter.unusedVariables false
open Go Go.Ev Go.Proofs.Tryz
set_option maxRecDepth 100000
namespace CalibTold
/-- about 18762 steps -/
theorem g4_8_0_runs : told3.answer 20000 200 8 [] 2 [.a [.c (.int .i64 32), .s 0 0 2 4, .s 1 0 1 2, .c (.slice none 0 0)]] [[.c (.int .i64 1), .c (.int .i64 1)], [.c (.int .i64 8388608)]] (.t [.a [.c (.int .i64 0), .c (.int .i64 0), .c (.slice none 0 0)], .c (.int .i64 16)]) [] = some (.bool true) := by kernel_rfl
noncomputable def g4_8_0 : RowG prog := RowG.run g4_8_0_runs (by kernel_rfl)
/-- about 51460 steps -/
theorem g4_8_1_runs : told3.answer 20000 200 8 [4] 3 [.a [.c (.int .i64 8), .s 1 0 2 4, .s 2 0 2 4, .s 3 0 1 2]] [pow10, [.c (.int .i64 2), .c (.int .i64 1)], [.c (.int .i64 1), .c (.int .i64 255)], [.c (.string ⟨⟨[66, 90, 69, 82, 79]⟩⟩), .c (.int .u8 4), .c (.bool false), .c (.int .i64 5), .c (.int .i64 (-4)), .c (.string ⟨⟨[]⟩⟩), .c (.string ⟨⟨[]⟩⟩)]] (.t [.a [.c (.int .i64 2), .c (.int .i64 1), .s 4 0 2 3], .c (.int .i64 0)]) [[.c (.int .i64 1025), .c (.int .i64 261121)]] = some (.bool true) := by kernel_rfl
noncomputable def g4_8_1 : RowG prog := RowG.run g4_8_1_runs (by kernel_rfl)
/-- about 3839 steps -/
theorem g4_38_2_runs : told3.answer 20000 200 38 [] 1 [.s 0 0 1 2, .a [.c (.bool false), .c (.slice none 0 0), .c (.bool false), .c (.slice none 0 0)]] [[.c (.int .i64 0)]] (.t [.a [.c (.bool false), .c (.slice none 0 0), .c (.bool false), .c (.slice none 0 0)], .c (.int .i64 2)]) [] = some (.bool true) := by kernel_rfl
noncomputable def g4_38_2 : RowG prog := RowG.run g4_38_2_runs (by kernel_rfl)
/-- about 12718 steps -/
theorem g4_38_3_runs : told3.answer 20000 200 38 [] 3 [.s 0 0 1 2, .a [.c (.bool false), .s 1 0 1 2, .c (.bool false), .s 2 0 1 2]] [[.c (.int .i64 0)], [.c (.int .u32 3)], [.c (.int .u32 2)]] (.t [.a [.c (.bool false), .c (.slice none 0 0), .c (.bool false), .s 3 0 1 2], .c (.int .i64 0)]) [[.c (.int .u32 1)]] = some (.bool true) := by kernel_rfl
noncomputable def g4_38_3 : RowG prog := RowG.run g4_38_3_runs (by kernel_rfl)
end CalibTold
