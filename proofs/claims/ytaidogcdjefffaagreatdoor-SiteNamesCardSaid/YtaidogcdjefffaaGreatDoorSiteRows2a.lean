/- Closed calls, by evaluation. No condition. -/
import Derived.Test.YtaidogcdjefffaaGreatDoorSiteRows1
set_option linter.unusedVariables false
open Go Go.Ev Go.Proofs.Tryz
set_option maxRecDepth 100000
namespace SiteTold
theorem sin_1332692830294 : told2.call 20000 200 (.fn 81) [.int .i64 1332692830294] (hG prog.globals.size) (fun v _ => some v) (fun _ _ => none) = some (.agg [.int .i64 194564187982, .int .i64 194564187983].toArray) := by kernel_rfl
theorem sin_1008692830294 : told2.call 20000 200 (.fn 81) [.int .i64 1008692830294] (hG prog.globals.size) (fun v _ => some v) (fun _ _ => none) = some (.agg [.int .i64 (-1082160152829), .int .i64 (-1082160152828)].toArray) := by kernel_rfl
theorem sin_1332692830309 : told2.call 20000 200 (.fn 81) [.int .i64 1332692830309] (hG prog.globals.size) (fun v _ => some v) (fun _ _ => none) = some (.agg [.int .i64 194564188061, .int .i64 194564188062].toArray) := by kernel_rfl
end SiteTold
