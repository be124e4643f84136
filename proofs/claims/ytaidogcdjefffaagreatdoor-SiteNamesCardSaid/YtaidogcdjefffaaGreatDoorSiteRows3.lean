/- The program with the sines that are known. No condition. -/
import Derived.Test.YtaidogcdjefffaaGreatDoorSiteRows2a
import Derived.Test.YtaidogcdjefffaaGreatDoorSiteRows2b
import Derived.Test.YtaidogcdjefffaaGreatDoorSiteRows2c
set_option linter.unusedVariables false
open Go Go.Ev Go.Proofs.Tryz
set_option maxRecDepth 100000
namespace SiteTold
noncomputable def told3 : Told prog := told2.rowsX [RowX.agg told2 20000 200 (by rfl) (by kernel_rfl) (by rfl) sin_1332692830294, RowX.agg told2 20000 200 (by rfl) (by kernel_rfl) (by rfl) sin_1008692830294, RowX.agg told2 20000 200 (by rfl) (by kernel_rfl) (by rfl) sin_1332692830309, RowX.agg told2 20000 200 (by rfl) (by kernel_rfl) (by rfl) sin_1008692830309, RowX.agg told2 20000 200 (by rfl) (by kernel_rfl) (by rfl) sin_1332692830324, RowX.agg told2 20000 200 (by rfl) (by kernel_rfl) (by rfl) sin_1008692830324, RowX.agg told2 20000 200 (by rfl) (by kernel_rfl) (by rfl) sin_324000000005, RowX.agg told2 20000 200 (by rfl) (by kernel_rfl) (by rfl) sin_5] (fun f => Nat.beq f 81) 20000 200
end SiteTold
