/- Two proved answers put in the place of their functions. No condition. -/
import Derived.Test.YtmihmfnheeciaaaGreatDoorFrameTab
import Derived.Test.YtmihmfnheeciaaaGreatDoorTotO
import Derived.Test.YtmihmfnheeciaaaGreatDoorTrim
set_option linter.unusedVariables false
open Go Go.Ev Go.Proofs.Tryz
set_option maxRecDepth 100000
namespace FrameTold
theorem tab24 : told.tab 24 = some fdTotal := by kernel_rfl
theorem tab93 : told.tab 93 = some fdTrim := by kernel_rfl
noncomputable def puts0 : Nat → Option OC := fun f => match Nat.beq f 24 with | true => some totO | false => match Nat.beq f 93 with | true => some trimO | false => none
noncomputable def told0 : Told prog := told.put puts0 (fun f o hf args h kR kP out hx => by
  unfold puts0 at hf
  split at hf
  · rename_i hb
    have hb := beq_true.1 hb
    subst hb
    cases hf
    exact totO_ok told tab24 args h kR kP out hx
  · split at hf
    · rename_i hb
      have hb := beq_true.1 hb
      subst hb
      cases hf
      exact trimO_ok told tab93 args h kR kP out hx
    · cases hf)
end FrameTold
