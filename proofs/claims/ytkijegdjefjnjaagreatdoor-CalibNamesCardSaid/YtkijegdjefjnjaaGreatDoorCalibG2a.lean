/- Closed calls, by evaluation. No condition. -/
import Derived.Test.YtkijegdjefjnjaaGreatDoorCalibG1
set_option linter.unusedVariables false
open Go Go.Ev Go.Proofs.Tryz
set_option maxRecDepth 100000
namespace CalibTold
/-- about 1273 steps -/
theorem g2_4_0_runs : told1.answer 20000 200 4 [] 0 [.c (.int .i64 0), .c (.int .i64 1)] [] (.t [.a [.c (.bool false), .c (.slice none 0 0), .c (.bool false), .s 0 0 1 2], .c (.int .i64 0)]) [[.c (.int .u32 1)]] = some (.bool true) := by kernel_rfl
noncomputable def g2_4_0 : RowG prog := RowG.run g2_4_0_runs (by kernel_rfl)
/-- about 1273 steps -/
theorem g2_4_1_runs : told1.answer 20000 200 4 [] 0 [.c (.int .i64 0), .c (.int .i64 2)] [] (.t [.a [.c (.bool false), .c (.slice none 0 0), .c (.bool false), .s 0 0 1 2], .c (.int .i64 0)]) [[.c (.int .u32 1)]] = some (.bool true) := by kernel_rfl
noncomputable def g2_4_1 : RowG prog := RowG.run g2_4_1_runs (by kernel_rfl)
/-- about 1273 steps -/
theorem g2_4_2_runs : told1.answer 20000 200 4 [] 0 [.c (.int .i64 0), .c (.int .i64 3)] [] (.t [.a [.c (.bool false), .c (.slice none 0 0), .c (.bool false), .s 0 0 1 2], .c (.int .i64 0)]) [[.c (.int .u32 1)]] = some (.bool true) := by kernel_rfl
noncomputable def g2_4_2 : RowG prog := RowG.run g2_4_2_runs (by kernel_rfl)
/-- about 1629 steps -/
theorem g2_4_3_runs : told1.answer 20000 200 4 [] 0 [.c (.int .i64 1), .c (.int .i64 1)] [] (.t [.a [.c (.bool false), .s 0 0 1 2, .c (.bool false), .s 1 0 1 2], .c (.int .i64 0)]) [[.c (.int .u32 1)], [.c (.int .u32 1)]] = some (.bool true) := by kernel_rfl
noncomputable def g2_4_3 : RowG prog := RowG.run g2_4_3_runs (by kernel_rfl)
/-- about 1826 steps -/
theorem g2_4_4_runs : told1.answer 20000 200 4 [] 0 [.c (.int .i64 10), .c (.int .i64 4)] [] (.t [.a [.c (.bool false), .s 0 0 1 2, .c (.bool false), .s 1 0 1 2], .c (.int .i64 0)]) [[.c (.int .u32 5)], [.c (.int .u32 2)]] = some (.bool true) := by kernel_rfl
noncomputable def g2_4_4 : RowG prog := RowG.run g2_4_4_runs (by kernel_rfl)
/-- about 1617 steps -/
theorem g2_4_5_runs : told1.answer 20000 200 4 [] 0 [.c (.int .i64 1000), .c (.int .i64 1)] [] (.t [.a [.c (.bool false), .s 0 0 1 2, .c (.bool false), .s 1 0 1 2], .c (.int .i64 0)]) [[.c (.int .u32 1000)], [.c (.int .u32 1)]] = some (.bool true) := by kernel_rfl
noncomputable def g2_4_5 : RowG prog := RowG.run g2_4_5_runs (by kernel_rfl)
/-- about 1617 steps -/
theorem g2_4_6_runs : told1.answer 20000 200 4 [] 0 [.c (.int .i64 1024), .c (.int .i64 1)] [] (.t [.a [.c (.bool false), .s 0 0 1 2, .c (.bool false), .s 1 0 1 2], .c (.int .i64 0)]) [[.c (.int .u32 1024)], [.c (.int .u32 1)]] = some (.bool true) := by kernel_rfl
noncomputable def g2_4_6 : RowG prog := RowG.run g2_4_6_runs (by kernel_rfl)
/-- about 1617 steps -/
theorem g2_4_7_runs : told1.answer 20000 200 4 [] 0 [.c (.int .i64 255), .c (.int .i64 1)] [] (.t [.a [.c (.bool false), .s 0 0 1 2, .c (.bool false), .s 1 0 1 2], .c (.int .i64 0)]) [[.c (.int .u32 255)], [.c (.int .u32 1)]] = some (.bool true) := by kernel_rfl
noncomputable def g2_4_7 : RowG prog := RowG.run g2_4_7_runs (by kernel_rfl)
/-- about 1826 steps -/
theorem g2_4_8_runs : told1.answer 20000 200 4 [] 0 [.c (.int .i64 3), .c (.int .i64 2)] [] (.t [.a [.c (.bool false), .s 0 0 1 2, .c (.bool false), .s 1 0 1 2], .c (.int .i64 0)]) [[.c (.int .u32 3)], [.c (.int .u32 2)]] = some (.bool true) := by kernel_rfl
noncomputable def g2_4_8 : RowG prog := RowG.run g2_4_8_runs (by kernel_rfl)
/-- about 1617 steps -/
theorem g2_4_9_runs : told1.answer 20000 200 4 [] 0 [.c (.int .i64 4), .c (.int .i64 2)] [] (.t [.a [.c (.bool false), .s 0 0 1 2, .c (.bool false), .s 1 0 1 2], .c (.int .i64 0)]) [[.c (.int .u32 2)], [.c (.int .u32 1)]] = some (.bool true) := by kernel_rfl
noncomputable def g2_4_9 : RowG prog := RowG.run g2_4_9_runs (by kernel_rfl)
/-- about 1655 steps -/
theorem g2_4_10_runs : told1.answer 20000 200 4 [] 0 [.c (.int .i64 4294967296), .c (.int .i64 1)] [] (.t [.a [.c (.bool false), .s 0 0 2 4, .c (.bool false), .s 1 0 1 2], .c (.int .i64 0)]) [[.c (.int .u32 0), .c (.int .u32 1)], [.c (.int .u32 1)]] = some (.bool true) := by kernel_rfl
noncomputable def g2_4_10 : RowG prog := RowG.run g2_4_10_runs (by kernel_rfl)
/-- about 1617 steps -/
theorem g2_4_11_runs : told1.answer 20000 200 4 [] 0 [.c (.int .i64 5), .c (.int .i64 1)] [] (.t [.a [.c (.bool false), .s 0 0 1 2, .c (.bool false), .s 1 0 1 2], .c (.int .i64 0)]) [[.c (.int .u32 5)], [.c (.int .u32 1)]] = some (.bool true) := by kernel_rfl
noncomputable def g2_4_11 : RowG prog := RowG.run g2_4_11_runs (by kernel_rfl)
/-- about 1826 steps -/
theorem g2_4_12_runs : told1.answer 20000 200 4 [] 0 [.c (.int .i64 5), .c (.int .i64 2)] [] (.t [.a [.c (.bool false), .s 0 0 1 2, .c (.bool false), .s 1 0 1 2], .c (.int .i64 0)]) [[.c (.int .u32 5)], [.c (.int .u32 2)]] = some (.bool true) := by kernel_rfl
noncomputable def g2_4_12 : RowG prog := RowG.run g2_4_12_runs (by kernel_rfl)
/-- about 2041 steps -/
theorem g2_4_13_runs : told1.answer 20000 200 4 [] 0 [.c (.int .i64 5), .c (.int .i64 3)] [] (.t [.a [.c (.bool false), .s 0 0 1 2, .c (.bool false), .s 1 0 1 2], .c (.int .i64 0)]) [[.c (.int .u32 5)], [.c (.int .u32 3)]] = some (.bool true) := by kernel_rfl
noncomputable def g2_4_13 : RowG prog := RowG.run g2_4_13_runs (by kernel_rfl)
/-- about 1826 steps -/
theorem g2_4_14_runs : told1.answer 20000 200 4 [] 0 [.c (.int .i64 7), .c (.int .i64 2)] [] (.t [.a [.c (.bool false), .s 0 0 1 2, .c (.bool false), .s 1 0 1 2], .c (.int .i64 0)]) [[.c (.int .u32 7)], [.c (.int .u32 2)]] = some (.bool true) := by kernel_rfl
noncomputable def g2_4_14 : RowG prog := RowG.run g2_4_14_runs (by kernel_rfl)
/-- about 1617 steps -/
theorem g2_4_15_runs : told1.answer 20000 200 4 [] 0 [.c (.int .i64 8388608), .c (.int .i64 1)] [] (.t [.a [.c (.bool false), .s 0 0 1 2, .c (.bool false), .s 1 0 1 2], .c (.int .i64 0)]) [[.c (.int .u32 8388608)], [.c (.int .u32 1)]] = some (.bool true) := by kernel_rfl
noncomputable def g2_4_15 : RowG prog := RowG.run g2_4_15_runs (by kernel_rfl)
/-- about 1826 steps -/
theorem g2_4_16_runs : told1.answer 20000 200 4 [] 0 [.c (.int .i64 9), .c (.int .i64 2)] [] (.t [.a [.c (.bool false), .s 0 0 1 2, .c (.bool false), .s 1 0 1 2], .c (.int .i64 0)]) [[.c (.int .u32 9)], [.c (.int .u32 2)]] = some (.bool true) := by kernel_rfl
noncomputable def g2_4_16 : RowG prog := RowG.run g2_4_16_runs (by kernel_rfl)
/-- about 1226 steps -/
theorem g2_39_17_runs : told1.answer 20000 200 39 [] 1 [.a [.c (.bool false), .c (.slice none 0 0), .c (.bool false), .s 0 0 1 2]] [[.c (.int .u32 1)]] (.t [.a [.c (.bool false), .c (.slice none 0 0)], .c (.int .i64 0)]) [] = some (.bool true) := by kernel_rfl
noncomputable def g2_39_17 : RowG prog := RowG.run g2_39_17_runs (by kernel_rfl)
/-- about 1593 steps -/
theorem g2_39_18_runs : told1.answer 20000 200 39 [] 2 [.a [.c (.bool false), .s 0 0 1 2, .c (.bool false), .s 1 0 1 2]] [[.c (.int .u32 10)], [.c (.int .u32 1)]] (.t [.a [.c (.bool false), .s 2 0 1 2], .c (.int .i64 0)]) [[.c (.int .u32 10)]] = some (.bool true) := by kernel_rfl
noncomputable def g2_39_18 : RowG prog := RowG.run g2_39_18_runs (by kernel_rfl)
/-- about 2947 steps -/
theorem g2_39_19_runs : told1.answer 20000 200 39 [] 2 [.a [.c (.bool false), .s 0 0 1 2, .c (.bool false), .s 1 0 1 2]] [[.c (.int .u32 128064)], [.c (.int .u32 125)]] (.t [.a [.c (.bool false), .s 2 0 1 4], .c (.int .i64 0)]) [[.c (.int .u32 1025), .c (.int .u32 0)]] = some (.bool true) := by kernel_rfl
noncomputable def g2_39_19 : RowG prog := RowG.run g2_39_19_runs (by kernel_rfl)
/-- about 2947 steps -/
theorem g2_39_20_runs : told1.answer 20000 200 39 [] 2 [.a [.c (.bool false), .s 0 0 1 2, .c (.bool false), .s 1 0 1 2]] [[.c (.int .u32 32640064)], [.c (.int .u32 125)]] (.t [.a [.c (.bool false), .s 2 0 1 4], .c (.int .i64 0)]) [[.c (.int .u32 261121), .c (.int .u32 0)]] = some (.bool true) := by kernel_rfl
noncomputable def g2_39_20 : RowG prog := RowG.run g2_39_20_runs (by kernel_rfl)
/-- about 1593 steps -/
theorem g2_39_21_runs : told1.answer 20000 200 39 [] 2 [.a [.c (.bool false), .s 0 0 1 2, .c (.bool false), .s 1 0 1 2]] [[.c (.int .u32 5)], [.c (.int .u32 1)]] (.t [.a [.c (.bool false), .s 2 0 1 2], .c (.int .i64 0)]) [[.c (.int .u32 5)]] = some (.bool true) := by kernel_rfl
noncomputable def g2_39_21 : RowG prog := RowG.run g2_39_21_runs (by kernel_rfl)
/-- about 1920 steps -/
theorem g2_39_22_runs : told1.answer 20000 200 39 [] 2 [.a [.c (.bool false), .s 0 0 1 2, .c (.bool false), .s 1 0 1 2]] [[.c (.int .u32 5)], [.c (.int .u32 2)]] (.t [.a [.c (.bool false), .s 2 0 1 2], .c (.int .i64 0)]) [[.c (.int .u32 2)]] = some (.bool true) := by kernel_rfl
noncomputable def g2_39_22 : RowG prog := RowG.run g2_39_22_runs (by kernel_rfl)
/-- about 2315 steps -/
theorem g2_39_23_runs : told1.answer 20000 200 39 [] 2 [.a [.c (.bool false), .s 0 0 1 2, .c (.bool false), .s 1 0 1 2]] [[.c (.int .u32 7)], [.c (.int .u32 2)]] (.t [.a [.c (.bool false), .s 2 0 1 4], .c (.int .i64 0)]) [[.c (.int .u32 4), .c (.int .u32 0)]] = some (.bool true) := by kernel_rfl
noncomputable def g2_39_23 : RowG prog := RowG.run g2_39_23_runs (by kernel_rfl)
/-- about 1593 steps -/
theorem g2_39_24_runs : told1.answer 20000 200 39 [] 2 [.a [.c (.bool false), .s 0 0 1 2, .c (.bool false), .s 1 0 1 2]] [[.c (.int .u32 9)], [.c (.int .u32 1)]] (.t [.a [.c (.bool false), .s 2 0 1 2], .c (.int .i64 0)]) [[.c (.int .u32 9)]] = some (.bool true) := by kernel_rfl
noncomputable def g2_39_24 : RowG prog := RowG.run g2_39_24_runs (by kernel_rfl)
/-- about 1645 steps -/
theorem g2_39_25_runs : told1.answer 20000 200 39 [] 2 [.a [.c (.bool false), .s 0 0 2 4, .c (.bool false), .s 1 0 1 2]] [[.c (.int .u32 0), .c (.int .u32 2)], [.c (.int .u32 1)]] (.t [.a [.c (.bool false), .s 2 0 2 4], .c (.int .i64 0)]) [[.c (.int .u32 0), .c (.int .u32 2)]] = some (.bool true) := by kernel_rfl
noncomputable def g2_39_25 : RowG prog := RowG.run g2_39_25_runs (by kernel_rfl)
/-- about 2676 steps -/
theorem g2_41_26_runs : told1.answer 20000 200 41 [] 3 [.a [.c (.bool false), .c (.slice none 0 0), .c (.bool false), .s 0 0 1 2], .a [.c (.bool false), .s 1 0 1 2, .c (.bool false), .s 2 0 1 2]] [[.c (.int .u32 1)], [.c (.int .u32 2)], [.c (.int .u32 1)]] (.t [.a [.c (.bool false), .c (.slice none 0 0), .c (.bool false), .s 3 0 1 2], .c (.int .i64 0)]) [[.c (.int .u32 1)]] = some (.bool true) := by kernel_rfl
noncomputable def g2_41_26 : RowG prog := RowG.run g2_41_26_runs (by kernel_rfl)
/-- about 3303 steps -/
theorem g2_41_27_runs : told1.answer 20000 200 41 [] 4 [.a [.c (.bool false), .s 0 0 1 2, .c (.bool false), .s 1 0 1 2], .a [.c (.bool false), .s 2 0 1 2, .c (.bool false), .s 3 0 1 2]] [[.c (.int .u32 1)], [.c (.int .u32 1)], [.c (.int .u32 1)], [.c (.int .u32 1)]] (.t [.a [.c (.bool false), .s 4 0 1 2, .c (.bool false), .s 5 0 1 2], .c (.int .i64 0)]) [[.c (.int .u32 1)], [.c (.int .u32 1)]] = some (.bool true) := by kernel_rfl
noncomputable def g2_41_27 : RowG prog := RowG.run g2_41_27_runs (by kernel_rfl)
/-- about 4348 steps -/
theorem g2_41_28_runs : told1.answer 20000 200 41 [] 4 [.a [.c (.bool false), .s 0 0 1 2, .c (.bool false), .s 1 0 1 2], .a [.c (.bool false), .s 2 0 1 2, .c (.bool false), .s 3 0 1 2]] [[.c (.int .u32 2001)], [.c (.int .u32 2000)], [.c (.int .u32 1024)], [.c (.int .u32 1)]] (.t [.a [.c (.bool false), .s 4 0 1 2, .c (.bool false), .s 5 0 1 2], .c (.int .i64 0)]) [[.c (.int .u32 128064)], [.c (.int .u32 125)]] = some (.bool true) := by kernel_rfl
noncomputable def g2_41_28 : RowG prog := RowG.run g2_41_28_runs (by kernel_rfl)
/-- about 3285 steps -/
theorem g2_41_29_runs : told1.answer 20000 200 41 [] 4 [.a [.c (.bool false), .s 0 0 1 2, .c (.bool false), .s 1 0 1 2], .a [.c (.bool false), .s 2 0 1 2, .c (.bool false), .s 3 0 1 2]] [[.c (.int .u32 255)], [.c (.int .u32 1)], [.c (.int .u32 1)], [.c (.int .u32 1)]] (.t [.a [.c (.bool false), .s 4 0 1 2, .c (.bool false), .s 5 0 1 2], .c (.int .i64 0)]) [[.c (.int .u32 255)], [.c (.int .u32 1)]] = some (.bool true) := by kernel_rfl
noncomputable def g2_41_29 : RowG prog := RowG.run g2_41_29_runs (by kernel_rfl)
/-- about 3279 steps -/
theorem g2_41_30_runs : told1.answer 20000 200 41 [] 4 [.a [.c (.bool false), .s 0 0 1 2, .c (.bool false), .s 1 0 1 2], .a [.c (.bool false), .s 2 0 1 2, .c (.bool false), .s 3 0 1 2]] [[.c (.int .u32 5)], [.c (.int .u32 1)], [.c (.int .u32 2)], [.c (.int .u32 1)]] (.t [.a [.c (.bool false), .s 4 0 1 2, .c (.bool false), .s 5 0 1 2], .c (.int .i64 0)]) [[.c (.int .u32 10)], [.c (.int .u32 1)]] = some (.bool true) := by kernel_rfl
noncomputable def g2_41_30 : RowG prog := RowG.run g2_41_30_runs (by kernel_rfl)
/-- about 3494 steps -/
theorem g2_41_31_runs : told1.answer 20000 200 41 [] 4 [.a [.c (.bool false), .s 0 0 1 2, .c (.bool false), .s 1 0 1 2], .a [.c (.bool false), .s 2 0 1 2, .c (.bool false), .s 3 0 1 2]] [[.c (.int .u32 5)], [.c (.int .u32 2)], [.c (.int .u32 2)], [.c (.int .u32 1)]] (.t [.a [.c (.bool false), .s 4 0 1 2, .c (.bool false), .s 5 0 1 2], .c (.int .i64 0)]) [[.c (.int .u32 5)], [.c (.int .u32 1)]] = some (.bool true) := by kernel_rfl
noncomputable def g2_41_31 : RowG prog := RowG.run g2_41_31_runs (by kernel_rfl)
/-- about 4348 steps -/
theorem g2_41_32_runs : told1.answer 20000 200 41 [] 4 [.a [.c (.bool false), .s 0 0 1 2, .c (.bool false), .s 1 0 1 2], .a [.c (.bool false), .s 2 0 1 2, .c (.bool false), .s 3 0 1 2]] [[.c (.int .u32 510001)], [.c (.int .u32 2000)], [.c (.int .u32 1024)], [.c (.int .u32 1)]] (.t [.a [.c (.bool false), .s 4 0 1 2, .c (.bool false), .s 5 0 1 2], .c (.int .i64 0)]) [[.c (.int .u32 32640064)], [.c (.int .u32 125)]] = some (.bool true) := by kernel_rfl
noncomputable def g2_41_32 : RowG prog := RowG.run g2_41_32_runs (by kernel_rfl)
/-- about 3285 steps -/
theorem g2_41_33_runs : told1.answer 20000 200 41 [] 4 [.a [.c (.bool false), .s 0 0 1 2, .c (.bool false), .s 1 0 1 2], .a [.c (.bool false), .s 2 0 1 2, .c (.bool false), .s 3 0 1 2]] [[.c (.int .u32 8388608)], [.c (.int .u32 1)], [.c (.int .u32 1)], [.c (.int .u32 1)]] (.t [.a [.c (.bool false), .s 4 0 1 2, .c (.bool false), .s 5 0 1 2], .c (.int .i64 0)]) [[.c (.int .u32 8388608)], [.c (.int .u32 1)]] = some (.bool true) := by kernel_rfl
noncomputable def g2_41_33 : RowG prog := RowG.run g2_41_33_runs (by kernel_rfl)
/-- about 3317 steps -/
theorem g2_41_34_runs : told1.answer 20000 200 41 [] 4 [.a [.c (.bool false), .s 0 0 1 2, .c (.bool false), .s 1 0 1 2], .a [.c (.bool false), .s 2 0 1 2, .c (.bool false), .s 3 0 1 2]] [[.c (.int .u32 8388608)], [.c (.int .u32 1)], [.c (.int .u32 1024)], [.c (.int .u32 1)]] (.t [.a [.c (.bool false), .s 4 0 2 4, .c (.bool false), .s 5 0 1 2], .c (.int .i64 0)]) [[.c (.int .u32 0), .c (.int .u32 2)], [.c (.int .u32 1)]] = some (.bool true) := by kernel_rfl
noncomputable def g2_41_34 : RowG prog := RowG.run g2_41_34_runs (by kernel_rfl)
/-- about 3494 steps -/
theorem g2_41_35_runs : told1.answer 20000 200 41 [] 4 [.a [.c (.bool false), .s 0 0 1 2, .c (.bool false), .s 1 0 1 2], .a [.c (.bool false), .s 2 0 1 2, .c (.bool false), .s 3 0 1 2]] [[.c (.int .u32 9)], [.c (.int .u32 2)], [.c (.int .u32 2)], [.c (.int .u32 1)]] (.t [.a [.c (.bool false), .s 4 0 1 2, .c (.bool false), .s 5 0 1 2], .c (.int .i64 0)]) [[.c (.int .u32 9)], [.c (.int .u32 1)]] = some (.bool true) := by kernel_rfl
noncomputable def g2_41_35 : RowG prog := RowG.run g2_41_35_runs (by kernel_rfl)
/-- about 3417 steps -/
theorem g2_41_36_runs : told1.answer 20000 200 41 [] 4 [.a [.c (.bool false), .s 0 0 2 4, .c (.bool false), .s 1 0 1 2], .a [.c (.bool false), .s 2 0 1 2, .c (.bool false), .s 3 0 1 2]] [[.c (.int .u32 0), .c (.int .u32 1)], [.c (.int .u32 1)], [.c (.int .u32 2)], [.c (.int .u32 1)]] (.t [.a [.c (.bool false), .s 4 0 2 4, .c (.bool false), .s 5 0 1 2], .c (.int .i64 0)]) [[.c (.int .u32 0), .c (.int .u32 2)], [.c (.int .u32 1)]] = some (.bool true) := by kernel_rfl
noncomputable def g2_41_36 : RowG prog := RowG.run g2_41_36_runs (by kernel_rfl)
/-- about 3572 steps -/
theorem g2_47_37_runs : told1.answer 20000 200 47 [] 3 [.a [.c (.bool false), .s 0 0 1 2, .c (.bool false), .s 1 0 1 2], .a [.c (.bool false), .c (.slice none 0 0), .c (.bool false), .s 2 0 1 2]] [[.c (.int .u32 8388608)], [.c (.int .u32 1)], [.c (.int .u32 1)]] (.t [.a [.c (.bool false), .s 3 0 1 2, .c (.bool false), .s 4 0 1 2], .c (.int .i64 0)]) [[.c (.int .u32 8388608)], [.c (.int .u32 1)]] = some (.bool true) := by kernel_rfl
noncomputable def g2_47_37 : RowG prog := RowG.run g2_47_37_runs (by kernel_rfl)
/-- about 4144 steps -/
theorem g2_47_38_runs : told1.answer 20000 200 47 [] 4 [.a [.c (.bool false), .s 0 0 1 2, .c (.bool false), .s 1 0 1 2], .a [.c (.bool false), .s 2 0 1 2, .c (.bool false), .s 3 0 1 2]] [[.c (.int .u32 1)], [.c (.int .u32 1)], [.c (.int .u32 1)], [.c (.int .u32 2000)]] (.t [.a [.c (.bool false), .s 4 0 1 2, .c (.bool false), .s 5 0 1 2], .c (.int .i64 0)]) [[.c (.int .u32 2001)], [.c (.int .u32 2000)]] = some (.bool true) := by kernel_rfl
noncomputable def g2_47_38 : RowG prog := RowG.run g2_47_38_runs (by kernel_rfl)
/-- about 4138 steps -/
theorem g2_47_39_runs : told1.answer 20000 200 47 [] 4 [.a [.c (.bool false), .s 0 0 1 2, .c (.bool false), .s 1 0 1 2], .a [.c (.bool false), .s 2 0 1 2, .c (.bool false), .s 3 0 1 2]] [[.c (.int .u32 255)], [.c (.int .u32 1)], [.c (.int .u32 1)], [.c (.int .u32 2000)]] (.t [.a [.c (.bool false), .s 4 0 1 2, .c (.bool false), .s 5 0 1 2], .c (.int .i64 0)]) [[.c (.int .u32 510001)], [.c (.int .u32 2000)]] = some (.bool true) := by kernel_rfl
noncomputable def g2_47_39 : RowG prog := RowG.run g2_47_39_runs (by kernel_rfl)
/-- about 523 steps -/
theorem g2_60_40_runs : told1.answer 20000 200 60 [] 1 [.a [.c (.bool false), .c (.slice none 0 0), .c (.bool false), .s 0 0 1 2]] [[.c (.int .u32 1)]] (.c (.int .i64 0)) [] = some (.bool true) := by kernel_rfl
noncomputable def g2_60_40 : RowG prog := RowG.run g2_60_40_runs (by kernel_rfl)
/-- about 714 steps -/
theorem g2_60_41_runs : told1.answer 20000 200 60 [] 2 [.a [.c (.bool false), .s 0 0 1 2, .c (.bool false), .s 1 0 1 2]] [[.c (.int .u32 1)], [.c (.int .u32 1)]] (.c (.int .i64 0)) [] = some (.bool true) := by kernel_rfl
noncomputable def g2_60_41 : RowG prog := RowG.run g2_60_41_runs (by kernel_rfl)
/-- about 783 steps -/
theorem g2_60_42_runs : told1.answer 20000 200 60 [] 2 [.a [.c (.bool false), .s 0 0 1 2, .c (.bool false), .s 1 0 1 2]] [[.c (.int .u32 1)], [.c (.int .u32 2000)]] (.c (.int .i64 0)) [] = some (.bool true) := by kernel_rfl
noncomputable def g2_60_42 : RowG prog := RowG.run g2_60_42_runs (by kernel_rfl)
/-- about 708 steps -/
theorem g2_60_43_runs : told1.answer 20000 200 60 [] 2 [.a [.c (.bool false), .s 0 0 1 2, .c (.bool false), .s 1 0 1 2]] [[.c (.int .u32 10)], [.c (.int .u32 1)]] (.c (.int .i64 0)) [] = some (.bool true) := by kernel_rfl
noncomputable def g2_60_43 : RowG prog := RowG.run g2_60_43_runs (by kernel_rfl)
/-- about 708 steps -/
theorem g2_60_44_runs : told1.answer 20000 200 60 [] 2 [.a [.c (.bool false), .s 0 0 1 2, .c (.bool false), .s 1 0 1 2]] [[.c (.int .u32 1000)], [.c (.int .u32 1)]] (.c (.int .i64 0)) [] = some (.bool true) := by kernel_rfl
noncomputable def g2_60_44 : RowG prog := RowG.run g2_60_44_runs (by kernel_rfl)
/-- about 708 steps -/
theorem g2_60_45_runs : told1.answer 20000 200 60 [] 2 [.a [.c (.bool false), .s 0 0 1 2, .c (.bool false), .s 1 0 1 2]] [[.c (.int .u32 1024)], [.c (.int .u32 1)]] (.c (.int .i64 0)) [] = some (.bool true) := by kernel_rfl
noncomputable def g2_60_45 : RowG prog := RowG.run g2_60_45_runs (by kernel_rfl)
/-- about 1568 steps -/
theorem g2_60_46_runs : told1.answer 20000 200 60 [] 2 [.a [.c (.bool false), .s 0 0 1 2, .c (.bool false), .s 1 0 1 2]] [[.c (.int .u32 128064)], [.c (.int .u32 125)]] (.c (.int .i64 0)) [] = some (.bool true) := by kernel_rfl
noncomputable def g2_60_46 : RowG prog := RowG.run g2_60_46_runs (by kernel_rfl)
/-- about 708 steps -/
theorem g2_60_47_runs : told1.answer 20000 200 60 [] 2 [.a [.c (.bool false), .s 0 0 1 2, .c (.bool false), .s 1 0 1 2]] [[.c (.int .u32 2)], [.c (.int .u32 1)]] (.c (.int .i64 0)) [] = some (.bool true) := by kernel_rfl
noncomputable def g2_60_47 : RowG prog := RowG.run g2_60_47_runs (by kernel_rfl)
/-- about 923 steps -/
theorem g2_60_48_runs : told1.answer 20000 200 60 [] 2 [.a [.c (.bool false), .s 0 0 1 2, .c (.bool false), .s 1 0 1 2]] [[.c (.int .u32 2001)], [.c (.int .u32 2000)]] (.c (.int .i64 0)) [] = some (.bool true) := by kernel_rfl
noncomputable def g2_60_48 : RowG prog := RowG.run g2_60_48_runs (by kernel_rfl)
/-- about 708 steps -/
theorem g2_60_49_runs : told1.answer 20000 200 60 [] 2 [.a [.c (.bool false), .s 0 0 1 2, .c (.bool false), .s 1 0 1 2]] [[.c (.int .u32 255)], [.c (.int .u32 1)]] (.c (.int .i64 0)) [] = some (.bool true) := by kernel_rfl
noncomputable def g2_60_49 : RowG prog := RowG.run g2_60_49_runs (by kernel_rfl)
/-- about 923 steps -/
theorem g2_60_50_runs : told1.answer 20000 200 60 [] 2 [.a [.c (.bool false), .s 0 0 1 2, .c (.bool false), .s 1 0 1 2]] [[.c (.int .u32 3)], [.c (.int .u32 2)]] (.c (.int .i64 0)) [] = some (.bool true) := by kernel_rfl
noncomputable def g2_60_50 : RowG prog := RowG.run g2_60_50_runs (by kernel_rfl)
/-- about 1568 steps -/
theorem g2_60_51_runs : told1.answer 20000 200 60 [] 2 [.a [.c (.bool false), .s 0 0 1 2, .c (.bool false), .s 1 0 1 2]] [[.c (.int .u32 32640064)], [.c (.int .u32 125)]] (.c (.int .i64 0)) [] = some (.bool true) := by kernel_rfl
noncomputable def g2_60_51 : RowG prog := RowG.run g2_60_51_runs (by kernel_rfl)
/-- about 708 steps -/
theorem g2_60_52_runs : told1.answer 20000 200 60 [] 2 [.a [.c (.bool false), .s 0 0 1 2, .c (.bool false), .s 1 0 1 2]] [[.c (.int .u32 5)], [.c (.int .u32 1)]] (.c (.int .i64 0)) [] = some (.bool true) := by kernel_rfl
noncomputable def g2_60_52 : RowG prog := RowG.run g2_60_52_runs (by kernel_rfl)
/-- about 923 steps -/
theorem g2_60_53_runs : told1.answer 20000 200 60 [] 2 [.a [.c (.bool false), .s 0 0 1 2, .c (.bool false), .s 1 0 1 2]] [[.c (.int .u32 5)], [.c (.int .u32 2)]] (.c (.int .i64 0)) [] = some (.bool true) := by kernel_rfl
noncomputable def g2_60_53 : RowG prog := RowG.run g2_60_53_runs (by kernel_rfl)
/-- about 923 steps -/
theorem g2_60_54_runs : told1.answer 20000 200 60 [] 2 [.a [.c (.bool false), .s 0 0 1 2, .c (.bool false), .s 1 0 1 2]] [[.c (.int .u32 510001)], [.c (.int .u32 2000)]] (.c (.int .i64 0)) [] = some (.bool true) := by kernel_rfl
noncomputable def g2_60_54 : RowG prog := RowG.run g2_60_54_runs (by kernel_rfl)
/-- about 923 steps -/
theorem g2_60_55_runs : told1.answer 20000 200 60 [] 2 [.a [.c (.bool false), .s 0 0 1 2, .c (.bool false), .s 1 0 1 2]] [[.c (.int .u32 7)], [.c (.int .u32 2)]] (.c (.int .i64 0)) [] = some (.bool true) := by kernel_rfl
noncomputable def g2_60_55 : RowG prog := RowG.run g2_60_55_runs (by kernel_rfl)
end CalibTold
