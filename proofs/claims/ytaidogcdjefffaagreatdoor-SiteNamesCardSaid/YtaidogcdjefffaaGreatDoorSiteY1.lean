/- Closed calls, by evaluation. No condition. -/
import Derived.Test.YtaidogcdjefffaaGreatDoorSiteRows3
import Derived.Test.YtaidogcdjefffaaGreatDoorEvF
open Go Go.Ev Go.Proofs.Tryz
set_option maxRecDepth 100000
set_option linter.unusedVariables false
namespace SiteTold
/-- about 4545 steps -/
theorem y4_10_0_runs : told3.call 20000 200 (.fn 10) (List.map (val2 fun j => Nat.add prog.globals.size j) [.x (.c (.int .i64 0))]) (hA prog.globals.size []) (fun v _ => some v) (fun _ _ => none) = some (.tuple (List.map (val2 fun j => j) [.x (.c (.int .i64 1008692830294)), .x (.c (.int .i64 0))]).toArray) := by kernel_rfl
noncomputable def y4_10_0 : RowY prog := RowY.of told3 20000 200 (by rfl) (by rfl) (fun _ _ => sames_val (by rfl)) (rels_val (by rfl)) y4_10_0_runs
/-- about 4545 steps -/
theorem y4_10_1_runs : told3.call 20000 200 (.fn 10) (List.map (val2 fun j => Nat.add prog.globals.size j) [.x (.c (.int .i64 1))]) (hA prog.globals.size []) (fun v _ => some v) (fun _ _ => none) = some (.tuple (List.map (val2 fun j => j) [.x (.c (.int .i64 1008692830309)), .x (.c (.int .i64 0))]).toArray) := by kernel_rfl
noncomputable def y4_10_1 : RowY prog := RowY.of told3 20000 200 (by rfl) (by rfl) (fun _ _ => sames_val (by rfl)) (rels_val (by rfl)) y4_10_1_runs
/-- about 4545 steps -/
theorem y4_10_2_runs : told3.call 20000 200 (.fn 10) (List.map (val2 fun j => Nat.add prog.globals.size j) [.x (.c (.int .i64 2))]) (hA prog.globals.size []) (fun v _ => some v) (fun _ _ => none) = some (.tuple (List.map (val2 fun j => j) [.x (.c (.int .i64 1008692830324)), .x (.c (.int .i64 0))]).toArray) := by kernel_rfl
noncomputable def y4_10_2 : RowY prog := RowY.of told3 20000 200 (by rfl) (by rfl) (fun _ _ => sames_val (by rfl)) (rels_val (by rfl)) y4_10_2_runs
/-- about 4324 steps -/
theorem y4_10_3_runs : told3.call 20000 200 (.fn 10) (List.map (val2 fun j => Nat.add prog.globals.size j) [.x (.c (.int .i64 64184000))]) (hA prog.globals.size []) (fun v _ => some v) (fun _ _ => none) = some (.tuple (List.map (val2 fun j => j) [.x (.c (.int .i64 1009658226150)), .x (.c (.int .i64 0))]).toArray) := by kernel_rfl
noncomputable def y4_10_3 : RowY prog := RowY.of told3 20000 200 (by rfl) (by rfl) (fun _ _ => sames_val (by rfl)) (rels_val (by rfl)) y4_10_3_runs
/-- about 13138 steps -/
theorem y4_70_4_runs : told3.call 20000 200 (.fn 70) (List.map (val2 fun j => Nat.add prog.globals.size j) [.a [.c (.int .i64 1099511627776), .c (.int .i64 1099511627776)]]) (hA prog.globals.size []) (fun v _ => some v) (fun _ _ => none) = some (.tuple (List.map (val2 fun j => j) [.a [.c (.int .i64 1099511627776), .c (.int .i64 1099511627776)], .x (.c (.int .i64 0))]).toArray) := by kernel_rfl
noncomputable def y4_70_4 : RowY prog := RowY.of told3 20000 200 (by rfl) (by rfl) (fun _ _ => sames_val (by rfl)) (rels_val (by rfl)) y4_70_4_runs
/-- about 13183 steps -/
theorem y4_70_5_runs : told3.call 20000 200 (.fn 70) (List.map (val2 fun j => Nat.add prog.globals.size j) [.a [.c (.int .i64 1099511629774), .c (.int .i64 1099511629775)]]) (hA prog.globals.size []) (fun v _ => some v) (fun _ _ => none) = some (.tuple (List.map (val2 fun j => j) [.a [.c (.int .i64 1099511628774), .c (.int .i64 1099511628776)], .x (.c (.int .i64 0))]).toArray) := by kernel_rfl
noncomputable def y4_70_5 : RowY prog := RowY.of told3 20000 200 (by rfl) (by rfl) (fun _ _ => sames_val (by rfl)) (rels_val (by rfl)) y4_70_5_runs
/-- about 32220 steps -/
theorem y4_108_6_runs : told3.call 20000 200 (.fn 108) (List.map (val2 fun j => Nat.add prog.globals.size j) [.a [.c (.bool false), .c (.slice none 0 0), .c (.bool false), .s 0 0 1 2]]) (hA prog.globals.size [[.c (.int .u32 1)]]) (fun v _ => some v) (fun _ _ => none) = some (.tuple (List.map (val2 fun j => j) [.a [.c (.int .i64 0), .c (.int .i64 0)], .x (.c (.int .i64 0))]).toArray) := by kernel_rfl
noncomputable def y4_108_6 : RowY prog := RowY.of told3 20000 200 (by rfl) (by rfl) (fun _ _ => sames_val (by rfl)) (rels_val (by rfl)) y4_108_6_runs
/-- about 34339 steps -/
theorem y4_108_7_runs : told3.call 20000 200 (.fn 108) (List.map (val2 fun j => Nat.add prog.globals.size j) [.a [.c (.bool true), .s 0 0 2 4, .c (.bool false), .s 1 0 1 2]]) (hA prog.globals.size [[.c (.int .u32 0), .c (.int .u32 256)], [.c (.int .u32 1)]]) (fun v _ => some v) (fun _ _ => none) = some (.tuple (List.map (val2 fun j => j) [.a [.c (.int .i64 (-1099511627776)), .c (.int .i64 (-1099511627776))], .x (.c (.int .i64 0))]).toArray) := by kernel_rfl
noncomputable def y4_108_7 : RowY prog := RowY.of told3 20000 200 (by rfl) (by rfl) (fun _ _ => sames_val (by rfl)) (rels_val (by rfl)) y4_108_7_runs
noncomputable def told4 : Told prog := told3.rowsY [y4_10_0, y4_10_1, y4_10_2, y4_10_3, y4_70_4, y4_70_5, y4_108_6, y4_108_7] (fun f => Nat.beq f 108 || Nat.beq f 70 || Nat.beq f 10) 20000 200
end SiteTold
