/- Closed calls, by evaluation. No condition. -/
import Derived.Test.YtkijegdjefjnjaaGreatDoorCalibG2
set_option linter.unusedVariables false
open Go Go.Ev Go.Proofs.Tryz
set_option maxRecDepth 100000
namespace CalibTold
/-- about 15927 steps -/
theorem g3_25_6_runs : told2.answer 20000 200 25 [4] 3 [.a [.c (.int .i64 8), .s 1 0 2 4, .s 2 0 2 4, .s 3 0 1 2], .c (.int .i64 1)] [pow10, [.c (.int .i64 2), .c (.int .i64 1)], [.c (.int .i64 1), .c (.int .i64 255)], [.c (.string ⟨⟨[66, 90, 69, 82, 79]⟩⟩), .c (.int .u8 4), .c (.bool false), .c (.int .i64 5), .c (.int .i64 (-4)), .c (.string ⟨⟨[]⟩⟩), .c (.string ⟨⟨[]⟩⟩)]] (.t [.a [.c (.bool false), .s 4 0 1 2, .c (.bool false), .s 5 0 1 2], .c (.int .i64 0)]) [[.c (.int .u32 510001)], [.c (.int .u32 2000)]] = some (.bool true) := by kernel_rfl
noncomputable def g3_25_6 : RowG prog := RowG.run g3_25_6_runs (by kernel_rfl)
/-- about 3743 steps -/
theorem g3_86_7_runs : told2.answer 20000 200 86 [] 0 [.a [.c (.bool false), .c (.slice none 0 0), .c (.bool false), .c (.slice none 0 0)]] [] (.c (.bool false)) [] = some (.bool true) := by kernel_rfl
noncomputable def g3_86_7 : RowG prog := RowG.run g3_86_7_runs (by kernel_rfl)
/-- about 7978 steps -/
theorem g3_86_8_runs : told2.answer 20000 200 86 [] 2 [.a [.c (.bool false), .s 0 0 1 2, .c (.bool false), .s 1 0 1 2]] [[.c (.int .u32 3)], [.c (.int .u32 2)]] (.c (.bool true)) [] = some (.bool true) := by kernel_rfl
noncomputable def g3_86_8 : RowG prog := RowG.run g3_86_8_runs (by kernel_rfl)
end CalibTold
