/- Closed calls, by evaluation. No condition. -/
import Derived.Test.YtkijegdjefjnjaaGreatDoorCalibTab
set_option linter.unusedVariables false
open Go Go.Ev Go.Proofs.Tryz
set_option maxRecDepth 100000
namespace CalibTold
/-- about 963 steps -/
theorem g1_33_0_runs : told.answer 20000 200 33 [] 2 [.a [.c (.bool false), .s 0 0 0 2], .a [.c (.bool false), .s 1 0 1 4]] [[.c (.int .u32 0)], [.c (.int .u32 1), .c (.int .u32 0)]] (.a [.c (.bool false), .c (.slice none 0 0), .c (.bool false), .s 2 0 1 2]) [[.c (.int .u32 1)]] = some (.bool true) := by kernel_rfl
noncomputable def g1_33_0 : RowG prog := RowG.run g1_33_0_runs (by kernel_rfl)
/-- about 963 steps -/
theorem g1_33_1_runs : told.answer 20000 200 33 [] 2 [.a [.c (.bool false), .s 0 0 0 4], .a [.c (.bool false), .s 1 0 1 4]] [[.c (.int .u32 0), .c (.int .u32 0)], [.c (.int .u32 1), .c (.int .u32 0)]] (.a [.c (.bool false), .c (.slice none 0 0), .c (.bool false), .s 2 0 1 2]) [[.c (.int .u32 1)]] = some (.bool true) := by kernel_rfl
noncomputable def g1_33_1 : RowG prog := RowG.run g1_33_1_runs (by kernel_rfl)
/-- about 963 steps -/
theorem g1_33_2_runs : told.answer 20000 200 33 [] 2 [.a [.c (.bool false), .s 0 0 0 4], .a [.c (.bool false), .s 1 0 1 4]] [[.c (.int .u32 0), .c (.int .u32 0)], [.c (.int .u32 2), .c (.int .u32 0)]] (.a [.c (.bool false), .c (.slice none 0 0), .c (.bool false), .s 2 0 1 2]) [[.c (.int .u32 1)]] = some (.bool true) := by kernel_rfl
noncomputable def g1_33_2 : RowG prog := RowG.run g1_33_2_runs (by kernel_rfl)
/-- about 963 steps -/
theorem g1_33_3_runs : told.answer 20000 200 33 [] 2 [.a [.c (.bool false), .s 0 0 0 4], .a [.c (.bool false), .s 1 0 1 4]] [[.c (.int .u32 0), .c (.int .u32 0)], [.c (.int .u32 3), .c (.int .u32 0)]] (.a [.c (.bool false), .c (.slice none 0 0), .c (.bool false), .s 2 0 1 2]) [[.c (.int .u32 1)]] = some (.bool true) := by kernel_rfl
noncomputable def g1_33_3 : RowG prog := RowG.run g1_33_3_runs (by kernel_rfl)
/-- about 1333 steps -/
theorem g1_33_4_runs : told.answer 20000 200 33 [] 2 [.a [.c (.bool false), .s 0 0 1 4], .a [.c (.bool false), .s 1 0 1 4]] [[.c (.int .u32 1), .c (.int .u32 0)], [.c (.int .u32 1), .c (.int .u32 0)]] (.a [.c (.bool false), .s 2 0 1 2, .c (.bool false), .s 3 0 1 2]) [[.c (.int .u32 1)], [.c (.int .u32 1)]] = some (.bool true) := by kernel_rfl
noncomputable def g1_33_4 : RowG prog := RowG.run g1_33_4_runs (by kernel_rfl)
/-- about 1321 steps -/
theorem g1_33_5_runs : told.answer 20000 200 33 [] 2 [.a [.c (.bool false), .s 0 0 1 4], .a [.c (.bool false), .s 1 0 1 4]] [[.c (.int .u32 10), .c (.int .u32 0)], [.c (.int .u32 1), .c (.int .u32 0)]] (.a [.c (.bool false), .s 2 0 1 2, .c (.bool false), .s 3 0 1 2]) [[.c (.int .u32 10)], [.c (.int .u32 1)]] = some (.bool true) := by kernel_rfl
noncomputable def g1_33_5 : RowG prog := RowG.run g1_33_5_runs (by kernel_rfl)
/-- about 1321 steps -/
theorem g1_33_6_runs : told.answer 20000 200 33 [] 2 [.a [.c (.bool false), .s 0 0 1 4], .a [.c (.bool false), .s 1 0 1 4]] [[.c (.int .u32 10), .c (.int .u32 0)], [.c (.int .u32 2), .c (.int .u32 0)]] (.a [.c (.bool false), .s 2 0 1 2, .c (.bool false), .s 3 0 1 2]) [[.c (.int .u32 5)], [.c (.int .u32 1)]] = some (.bool true) := by kernel_rfl
noncomputable def g1_33_6 : RowG prog := RowG.run g1_33_6_runs (by kernel_rfl)
/-- about 1530 steps -/
theorem g1_33_7_runs : told.answer 20000 200 33 [] 2 [.a [.c (.bool false), .s 0 0 1 4], .a [.c (.bool false), .s 1 0 1 4]] [[.c (.int .u32 10), .c (.int .u32 0)], [.c (.int .u32 4), .c (.int .u32 0)]] (.a [.c (.bool false), .s 2 0 1 2, .c (.bool false), .s 3 0 1 2]) [[.c (.int .u32 5)], [.c (.int .u32 2)]] = some (.bool true) := by kernel_rfl
noncomputable def g1_33_7 : RowG prog := RowG.run g1_33_7_runs (by kernel_rfl)
/-- about 1321 steps -/
theorem g1_33_8_runs : told.answer 20000 200 33 [] 2 [.a [.c (.bool false), .s 0 0 1 4], .a [.c (.bool false), .s 1 0 1 4]] [[.c (.int .u32 1000), .c (.int .u32 0)], [.c (.int .u32 1), .c (.int .u32 0)]] (.a [.c (.bool false), .s 2 0 1 2, .c (.bool false), .s 3 0 1 2]) [[.c (.int .u32 1000)], [.c (.int .u32 1)]] = some (.bool true) := by kernel_rfl
noncomputable def g1_33_8 : RowG prog := RowG.run g1_33_8_runs (by kernel_rfl)
/-- about 1321 steps -/
theorem g1_33_9_runs : told.answer 20000 200 33 [] 2 [.a [.c (.bool false), .s 0 0 1 4], .a [.c (.bool false), .s 1 0 1 4]] [[.c (.int .u32 1024), .c (.int .u32 0)], [.c (.int .u32 1), .c (.int .u32 0)]] (.a [.c (.bool false), .s 2 0 1 2, .c (.bool false), .s 3 0 1 2]) [[.c (.int .u32 1024)], [.c (.int .u32 1)]] = some (.bool true) := by kernel_rfl
noncomputable def g1_33_9 : RowG prog := RowG.run g1_33_9_runs (by kernel_rfl)
/-- about 1321 steps -/
theorem g1_33_10_runs : told.answer 20000 200 33 [] 2 [.a [.c (.bool false), .s 0 0 1 4], .a [.c (.bool false), .s 1 0 1 4]] [[.c (.int .u32 18), .c (.int .u32 0)], [.c (.int .u32 2), .c (.int .u32 0)]] (.a [.c (.bool false), .s 2 0 1 2, .c (.bool false), .s 3 0 1 2]) [[.c (.int .u32 9)], [.c (.int .u32 1)]] = some (.bool true) := by kernel_rfl
noncomputable def g1_33_10 : RowG prog := RowG.run g1_33_10_runs (by kernel_rfl)
/-- about 1530 steps -/
theorem g1_33_11_runs : told.answer 20000 200 33 [] 2 [.a [.c (.bool false), .s 0 0 1 4], .a [.c (.bool false), .s 1 0 1 4]] [[.c (.int .u32 2001), .c (.int .u32 0)], [.c (.int .u32 2000), .c (.int .u32 0)]] (.a [.c (.bool false), .s 2 0 1 2, .c (.bool false), .s 3 0 1 2]) [[.c (.int .u32 2001)], [.c (.int .u32 2000)]] = some (.bool true) := by kernel_rfl
noncomputable def g1_33_11 : RowG prog := RowG.run g1_33_11_runs (by kernel_rfl)
/-- about 2175 steps -/
theorem g1_33_12_runs : told.answer 20000 200 33 [] 2 [.a [.c (.bool false), .s 0 0 1 4], .a [.c (.bool false), .s 1 0 1 4]] [[.c (.int .u32 2049024), .c (.int .u32 0)], [.c (.int .u32 2000), .c (.int .u32 0)]] (.a [.c (.bool false), .s 2 0 1 2, .c (.bool false), .s 3 0 1 2]) [[.c (.int .u32 128064)], [.c (.int .u32 125)]] = some (.bool true) := by kernel_rfl
noncomputable def g1_33_12 : RowG prog := RowG.run g1_33_12_runs (by kernel_rfl)
/-- about 1321 steps -/
theorem g1_33_13_runs : told.answer 20000 200 33 [] 2 [.a [.c (.bool false), .s 0 0 1 4], .a [.c (.bool false), .s 1 0 1 4]] [[.c (.int .u32 255), .c (.int .u32 0)], [.c (.int .u32 1), .c (.int .u32 0)]] (.a [.c (.bool false), .s 2 0 1 2, .c (.bool false), .s 3 0 1 2]) [[.c (.int .u32 255)], [.c (.int .u32 1)]] = some (.bool true) := by kernel_rfl
noncomputable def g1_33_13 : RowG prog := RowG.run g1_33_13_runs (by kernel_rfl)
/-- about 1530 steps -/
theorem g1_33_14_runs : told.answer 20000 200 33 [] 2 [.a [.c (.bool false), .s 0 0 1 4], .a [.c (.bool false), .s 1 0 1 4]] [[.c (.int .u32 3), .c (.int .u32 0)], [.c (.int .u32 2), .c (.int .u32 0)]] (.a [.c (.bool false), .s 2 0 1 2, .c (.bool false), .s 3 0 1 2]) [[.c (.int .u32 3)], [.c (.int .u32 2)]] = some (.bool true) := by kernel_rfl
noncomputable def g1_33_14 : RowG prog := RowG.run g1_33_14_runs (by kernel_rfl)
/-- about 1321 steps -/
theorem g1_33_15_runs : told.answer 20000 200 33 [] 2 [.a [.c (.bool false), .s 0 0 1 4], .a [.c (.bool false), .s 1 0 1 4]] [[.c (.int .u32 4), .c (.int .u32 0)], [.c (.int .u32 2), .c (.int .u32 0)]] (.a [.c (.bool false), .s 2 0 1 2, .c (.bool false), .s 3 0 1 2]) [[.c (.int .u32 2)], [.c (.int .u32 1)]] = some (.bool true) := by kernel_rfl
noncomputable def g1_33_15 : RowG prog := RowG.run g1_33_15_runs (by kernel_rfl)
/-- about 1321 steps -/
theorem g1_33_16_runs : told.answer 20000 200 33 [] 2 [.a [.c (.bool false), .s 0 0 1 4], .a [.c (.bool false), .s 1 0 1 4]] [[.c (.int .u32 5), .c (.int .u32 0)], [.c (.int .u32 1), .c (.int .u32 0)]] (.a [.c (.bool false), .s 2 0 1 2, .c (.bool false), .s 3 0 1 2]) [[.c (.int .u32 5)], [.c (.int .u32 1)]] = some (.bool true) := by kernel_rfl
noncomputable def g1_33_16 : RowG prog := RowG.run g1_33_16_runs (by kernel_rfl)
/-- about 1396 steps -/
theorem g1_33_17_runs : told.answer 20000 200 33 [] 2 [.a [.c (.bool false), .s 0 0 1 4], .a [.c (.bool false), .s 1 0 1 4]] [[.c (.int .u32 5), .c (.int .u32 0)], [.c (.int .u32 10000), .c (.int .u32 0)]] (.a [.c (.bool false), .s 2 0 1 2, .c (.bool false), .s 3 0 1 2]) [[.c (.int .u32 1)], [.c (.int .u32 2000)]] = some (.bool true) := by kernel_rfl
noncomputable def g1_33_17 : RowG prog := RowG.run g1_33_17_runs (by kernel_rfl)
/-- about 1530 steps -/
theorem g1_33_18_runs : told.answer 20000 200 33 [] 2 [.a [.c (.bool false), .s 0 0 1 4], .a [.c (.bool false), .s 1 0 1 4]] [[.c (.int .u32 5), .c (.int .u32 0)], [.c (.int .u32 2), .c (.int .u32 0)]] (.a [.c (.bool false), .s 2 0 1 2, .c (.bool false), .s 3 0 1 2]) [[.c (.int .u32 5)], [.c (.int .u32 2)]] = some (.bool true) := by kernel_rfl
noncomputable def g1_33_18 : RowG prog := RowG.run g1_33_18_runs (by kernel_rfl)
/-- about 1745 steps -/
theorem g1_33_19_runs : told.answer 20000 200 33 [] 2 [.a [.c (.bool false), .s 0 0 1 4], .a [.c (.bool false), .s 1 0 1 4]] [[.c (.int .u32 5), .c (.int .u32 0)], [.c (.int .u32 3), .c (.int .u32 0)]] (.a [.c (.bool false), .s 2 0 1 2, .c (.bool false), .s 3 0 1 2]) [[.c (.int .u32 5)], [.c (.int .u32 3)]] = some (.bool true) := by kernel_rfl
noncomputable def g1_33_19 : RowG prog := RowG.run g1_33_19_runs (by kernel_rfl)
/-- about 1530 steps -/
theorem g1_33_20_runs : told.answer 20000 200 33 [] 2 [.a [.c (.bool false), .s 0 0 1 4], .a [.c (.bool false), .s 1 0 1 4]] [[.c (.int .u32 510001), .c (.int .u32 0)], [.c (.int .u32 2000), .c (.int .u32 0)]] (.a [.c (.bool false), .s 2 0 1 2, .c (.bool false), .s 3 0 1 2]) [[.c (.int .u32 510001)], [.c (.int .u32 2000)]] = some (.bool true) := by kernel_rfl
noncomputable def g1_33_20 : RowG prog := RowG.run g1_33_20_runs (by kernel_rfl)
/-- about 2175 steps -/
theorem g1_33_21_runs : told.answer 20000 200 33 [] 2 [.a [.c (.bool false), .s 0 0 1 4], .a [.c (.bool false), .s 1 0 1 4]] [[.c (.int .u32 522241024), .c (.int .u32 0)], [.c (.int .u32 2000), .c (.int .u32 0)]] (.a [.c (.bool false), .s 2 0 1 2, .c (.bool false), .s 3 0 1 2]) [[.c (.int .u32 32640064)], [.c (.int .u32 125)]] = some (.bool true) := by kernel_rfl
noncomputable def g1_33_21 : RowG prog := RowG.run g1_33_21_runs (by kernel_rfl)
/-- about 1530 steps -/
theorem g1_33_22_runs : told.answer 20000 200 33 [] 2 [.a [.c (.bool false), .s 0 0 1 4], .a [.c (.bool false), .s 1 0 1 4]] [[.c (.int .u32 7), .c (.int .u32 0)], [.c (.int .u32 2), .c (.int .u32 0)]] (.a [.c (.bool false), .s 2 0 1 2, .c (.bool false), .s 3 0 1 2]) [[.c (.int .u32 7)], [.c (.int .u32 2)]] = some (.bool true) := by kernel_rfl
noncomputable def g1_33_22 : RowG prog := RowG.run g1_33_22_runs (by kernel_rfl)
/-- about 1321 steps -/
theorem g1_33_23_runs : told.answer 20000 200 33 [] 2 [.a [.c (.bool false), .s 0 0 1 4], .a [.c (.bool false), .s 1 0 1 4]] [[.c (.int .u32 8388608), .c (.int .u32 0)], [.c (.int .u32 1), .c (.int .u32 0)]] (.a [.c (.bool false), .s 2 0 1 2, .c (.bool false), .s 3 0 1 2]) [[.c (.int .u32 8388608)], [.c (.int .u32 1)]] = some (.bool true) := by kernel_rfl
noncomputable def g1_33_23 : RowG prog := RowG.run g1_33_23_runs (by kernel_rfl)
/-- about 1530 steps -/
theorem g1_33_24_runs : told.answer 20000 200 33 [] 2 [.a [.c (.bool false), .s 0 0 1 4], .a [.c (.bool false), .s 1 0 1 4]] [[.c (.int .u32 9), .c (.int .u32 0)], [.c (.int .u32 2), .c (.int .u32 0)]] (.a [.c (.bool false), .s 2 0 1 2, .c (.bool false), .s 3 0 1 2]) [[.c (.int .u32 9)], [.c (.int .u32 2)]] = some (.bool true) := by kernel_rfl
noncomputable def g1_33_24 : RowG prog := RowG.run g1_33_24_runs (by kernel_rfl)
/-- about 1373 steps -/
theorem g1_33_25_runs : told.answer 20000 200 33 [] 2 [.a [.c (.bool false), .s 0 0 2 4], .a [.c (.bool false), .s 1 0 1 4]] [[.c (.int .u32 0), .c (.int .u32 1)], [.c (.int .u32 1), .c (.int .u32 0)]] (.a [.c (.bool false), .s 2 0 2 4, .c (.bool false), .s 3 0 1 2]) [[.c (.int .u32 0), .c (.int .u32 1)], [.c (.int .u32 1)]] = some (.bool true) := by kernel_rfl
noncomputable def g1_33_25 : RowG prog := RowG.run g1_33_25_runs (by kernel_rfl)
/-- about 1373 steps -/
theorem g1_33_26_runs : told.answer 20000 200 33 [] 2 [.a [.c (.bool false), .s 0 0 2 4], .a [.c (.bool false), .s 1 0 1 4]] [[.c (.int .u32 0), .c (.int .u32 2)], [.c (.int .u32 1), .c (.int .u32 0)]] (.a [.c (.bool false), .s 2 0 2 4, .c (.bool false), .s 3 0 1 2]) [[.c (.int .u32 0), .c (.int .u32 2)], [.c (.int .u32 1)]] = some (.bool true) := by kernel_rfl
noncomputable def g1_33_26 : RowG prog := RowG.run g1_33_26_runs (by kernel_rfl)
/-- about 1373 steps -/
theorem g1_33_27_runs : told.answer 20000 200 33 [] 2 [.a [.c (.bool false), .s 0 0 2 6], .a [.c (.bool false), .s 1 0 1 4]] [[.c (.int .u32 0), .c (.int .u32 2), .c (.int .u32 0)], [.c (.int .u32 1), .c (.int .u32 0)]] (.a [.c (.bool false), .s 2 0 2 4, .c (.bool false), .s 3 0 1 2]) [[.c (.int .u32 0), .c (.int .u32 2)], [.c (.int .u32 1)]] = some (.bool true) := by kernel_rfl
noncomputable def g1_33_27 : RowG prog := RowG.run g1_33_27_runs (by kernel_rfl)
noncomputable def told1 : Told prog := told.rowsG [g1_33_0, g1_33_1, g1_33_2, g1_33_3, g1_33_4, g1_33_5, g1_33_6, g1_33_7, g1_33_8, g1_33_9, g1_33_10, g1_33_11, g1_33_12, g1_33_13, g1_33_14, g1_33_15, g1_33_16, g1_33_17, g1_33_18, g1_33_19, g1_33_20, g1_33_21, g1_33_22, g1_33_23, g1_33_24, g1_33_25, g1_33_26, g1_33_27] (fun f => Nat.beq f 33) 20000 200
end CalibTold
