/- The program told to the evaluator. No condition. -/
import Derived.Test.YtaliekaejebjeaaGreatDoorEvF
import Derived.Test.YtaliekaejebjeaaGreatDoorChecked
import Derived.KernelRfl
set_option linter.unusedVariables false
open Go Go.Ev Go.Proofs.Tryz
namespace PlanTold
def pe : PE := fun i => match Nat.beq i 158 with
  | true => some sub64V
  | false => none
theorem hpe : ∀ f g, pe f = some g → PeOK prog f g := by
  intro f g h
  unfold pe at h
  split at h
  · rename_i hb
    have hb := beq_true.1 hb
    subst hb
    cases h
    exact sub64_ok func158 (by kernel_rfl) (by kernel_rfl) (by kernel_rfl) (by kernel_rfl)
  · cases h
noncomputable def told : Told prog := toldOf prog pe hpe
theorem bool_only (b : Bool) : ∀ φ v', VRel φ (.bool b) v' → v' = .bool b := fun φ v' h => h.inv_bool
end PlanTold
