/- Closed calls, by evaluation. No condition. -/
import Derived.Test.YtphianmpiebpgaaGreatDoorCellsY2
set_option linter.unusedVariables false
open Go Go.Ev Go.Proofs.Tryz
set_option maxRecDepth 100000
namespace CellsTold
/-- about 130483 steps -/
theorem y3_25_0_runs : told2.call 20000 200 (.fn 25) (List.map (val2 fun j => Nat.add prog.globals.size j) [.x (.c (.int .i64 1008692830294))]) (hA prog.globals.size []) (fun v _ => some v) (fun _ _ => none) = some (val2 (fun j => j) (.a [.c (.int .i64 (-1082160152829)), .c (.int .i64 (-1082160152828))])) := by kernel_rfl
noncomputable def y3_25_0 : RowY prog := RowY.of told2 20000 200 (v := (val2 (fun j => j) (.a [.c (.int .i64 (-1082160152829)), .c (.int .i64 (-1082160152828))]))) (by rfl) (by rfl) (fun _ _ => sames_one (by rfl)) (rels_one (by rfl)) y3_25_0_runs
/-- about 130093 steps -/
theorem y3_25_1_runs : told2.call 20000 200 (.fn 25) (List.map (val2 fun j => Nat.add prog.globals.size j) [.x (.c (.int .i64 1332692830294))]) (hA prog.globals.size []) (fun v _ => some v) (fun _ _ => none) = some (val2 (fun j => j) (.a [.c (.int .i64 194564187982), .c (.int .i64 194564187983)])) := by kernel_rfl
noncomputable def y3_25_1 : RowY prog := RowY.of told2 20000 200 (v := (val2 (fun j => j) (.a [.c (.int .i64 194564187982), .c (.int .i64 194564187983)]))) (by rfl) (by rfl) (fun _ _ => sames_one (by rfl)) (rels_one (by rfl)) y3_25_1_runs
/-- about 13180 steps -/
theorem y3_33_2_runs : told2.call 20000 200 (.fn 33) (List.map (val2 fun j => Nat.add prog.globals.size j) [.a [.c (.int .i64 0), .c (.int .i64 0)]]) (hA prog.globals.size []) (fun v _ => some v) (fun _ _ => none) = some (.tuple (List.map (val2 fun j => j) [.a [.c (.int .i64 0), .c (.int .i64 0)], .x (.c (.int .i64 0))]).toArray) := by kernel_rfl
noncomputable def y3_33_2 : RowY prog := RowY.of told2 20000 200 (v := (.tuple (List.map (val2 fun j => j) [.a [.c (.int .i64 0), .c (.int .i64 0)], .x (.c (.int .i64 0))]).toArray)) (by rfl) (by rfl) (fun _ _ => sames_val (by rfl)) (rels_val (by rfl)) y3_33_2_runs
/-- about 13138 steps -/
theorem y3_33_3_runs : told2.call 20000 200 (.fn 33) (List.map (val2 fun j => Nat.add prog.globals.size j) [.a [.c (.int .i64 1099511627776), .c (.int .i64 1099511627776)]]) (hA prog.globals.size []) (fun v _ => some v) (fun _ _ => none) = some (.tuple (List.map (val2 fun j => j) [.a [.c (.int .i64 1099511627776), .c (.int .i64 1099511627776)], .x (.c (.int .i64 0))]).toArray) := by kernel_rfl
noncomputable def y3_33_3 : RowY prog := RowY.of told2 20000 200 (v := (.tuple (List.map (val2 fun j => j) [.a [.c (.int .i64 1099511627776), .c (.int .i64 1099511627776)], .x (.c (.int .i64 0))]).toArray)) (by rfl) (by rfl) (fun _ _ => sames_val (by rfl)) (rels_val (by rfl)) y3_33_3_runs
/-- about 49862 steps -/
theorem y3_39_4_runs : told2.call 20000 200 (.fn 39) (List.map (val2 fun j => Nat.add prog.globals.size j) [.a [.c (.bool false), .s 0 0 2 4, .c (.bool false), .s 1 0 2 4]]) (hA prog.globals.size [[.c (.int .u32 1846493079), .c (.int .u32 68897)], [.c (.int .u32 2808348672), .c (.int .u32 232830643)]]) (fun v _ => some v) (fun _ _ => none) = some (.tuple (List.map (val2 fun j => j) [.a [.c (.int .i64 325358913), .c (.int .i64 325358914)], .x (.c (.int .i64 0))]).toArray) := by kernel_rfl
noncomputable def y3_39_4 : RowY prog := RowY.of told2 20000 200 (v := (.tuple (List.map (val2 fun j => j) [.a [.c (.int .i64 325358913), .c (.int .i64 325358914)], .x (.c (.int .i64 0))]).toArray)) (by rfl) (by rfl) (fun _ _ => sames_val (by rfl)) (rels_val (by rfl)) y3_39_4_runs
/-- about 4545 steps -/
theorem y3_156_5_runs : told2.call 20000 200 (.fn 156) (List.map (val2 fun j => Nat.add prog.globals.size j) [.x (.c (.int .i64 0))]) (hA prog.globals.size []) (fun v _ => some v) (fun _ _ => none) = some (.tuple (List.map (val2 fun j => j) [.x (.c (.int .i64 1008692830294)), .x (.c (.int .i64 0))]).toArray) := by kernel_rfl
noncomputable def y3_156_5 : RowY prog := RowY.of told2 20000 200 (v := (.tuple (List.map (val2 fun j => j) [.x (.c (.int .i64 1008692830294)), .x (.c (.int .i64 0))]).toArray)) (by rfl) (by rfl) (fun _ _ => sames_val (by rfl)) (rels_val (by rfl)) y3_156_5_runs
noncomputable def told3 : Told prog := told2.rowsY [y3_25_0, y3_25_1, y3_33_2, y3_33_3, y3_39_4, y3_156_5] (fun f => Nat.beq f 25 || Nat.beq f 39 || Nat.beq f 33 || Nat.beq f 156) 20000 200
end CellsTold
