/- Closed calls, by evaluation. No condition. -/
import Derived.Test.YtmihmfnheeciaaaGreatDoorFrameH1a
import Derived.Test.YtmihmfnheeciaaaGreatDoorFrameH1b
import Derived.Test.YtmihmfnheeciaaaGreatDoorFrameH1c
import Derived.Test.YtmihmfnheeciaaaGreatDoorFrameH1d
import Derived.Test.YtmihmfnheeciaaaGreatDoorFrameH1e
import Derived.Test.YtmihmfnheeciaaaGreatDoorFrameH1f
import Derived.Test.YtmihmfnheeciaaaGreatDoorFrameH1g
set_option linter.unusedVariables false
open Go Go.Ev Go.Proofs.Tryz
set_option maxRecDepth 100000
namespace FrameTold
noncomputable def told6 : Told prog := told5.rowsG [g6_4_0, g6_4_1, g6_5_2, g6_5_3, g6_5_4, g6_5_5, g6_5_6, g6_6_7, g6_6_8] (fun f => Nat.beq f 4 || Nat.beq f 5 || Nat.beq f 6) 20000 200
end FrameTold
