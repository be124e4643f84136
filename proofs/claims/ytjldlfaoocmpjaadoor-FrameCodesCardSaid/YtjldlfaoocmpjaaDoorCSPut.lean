/- The sum of words put in the place of its function. No condition. -/
import Derived.Test.YtjldlfaoocmpjaaDoorCSTab
import Derived.Test.YtjldlfaoocmpjaaDoorTotO
set_option linter.unusedVariables false
open Go Go.Ev Go.Proofs.Tryd
set_option maxRecDepth 100000
namespace CSTold
theorem tab10 : told.tab 10 = some fdTotal := by kernel_rfl
noncomputable def put10 : Nat → Option OC := fun f => match Nat.beq f 10 with | true => some totO | false => none
noncomputable def told0 : Told prog := told.put put10 (fun f o hf args h kR kP out hx => by
  unfold put10 at hf
  split at hf
  · rename_i hb
    have hb := beq_true.1 hb
    subst hb
    cases hf
    exact totO_ok told tab10 args h kR kP out hx
  · cases hf)
end CSTold
