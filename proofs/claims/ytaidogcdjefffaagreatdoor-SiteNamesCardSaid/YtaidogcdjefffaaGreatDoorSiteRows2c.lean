/- Closed calls, by evaluation. No condition. -/
import Derived.Test.YtaidogcdjefffaaGreatDoorSiteRows1
set_option linter.unusedVariables false
open Go Go.Ev Go.Proofs.Tryz
set_option maxRecDepth 100000
namespace SiteTold
theorem sin_5 : told2.call 20000 200 (.fn 81) [.int .i64 5] (hG prog.globals.size) (fun v _ => some v) (fun _ _ => none) = some (.agg [.int .i64 26, .int .i64 27].toArray) := by kernel_rfl
theorem sin_324000000005 : told2.call 20000 200 (.fn 81) [.int .i64 324000000005] (hG prog.globals.size) (fun v _ => some v) (fun _ _ => none) = some (.agg [.int .i64 1099511627775, .int .i64 1099511627776].toArray) := by kernel_rfl
end SiteTold
