/- The program told to the evaluator. No condition. -/
import Derived.Test.YtmihmfnheeciaaaGreatDoorEvF
import Derived.Test.YtmihmfnheeciaaaGreatDoorChecked
import Derived.KernelRfl
set_option linter.unusedVariables false
set_option maxRecDepth 100000
open Go Go.Ev Go.Proofs.Tryz
namespace FrameTold
def pe : PE := fun i => match Nat.beq i 73 with
  | true => some noEscV
  | false => match Nat.beq i 185 with
    | true => some countV
    | false => match Nat.beq i 190 with
      | true => some indexV
      | false => none
theorem hpe : ∀ f g, pe f = some g → PeOK prog f g := by
  intro f g h
  unfold pe at h
  split at h
  · rename_i hb
    have hb := beq_true.1 hb
    subst hb
    cases h
    exact noEsc_ok func73 (by kernel_rfl) (by kernel_rfl) (by kernel_rfl) (by kernel_rfl)
  · split at h
    · rename_i hb
      have hb := beq_true.1 hb
      subst hb
      cases h
      exact count_ok func185 (by kernel_rfl) (by kernel_rfl) (by kernel_rfl) (by kernel_rfl)
    · split at h
      · rename_i hb
        have hb := beq_true.1 hb
        subst hb
        cases h
        exact index_ok func190 (by kernel_rfl) (by kernel_rfl) (by kernel_rfl) (by kernel_rfl)
      · cases h
def po : Nat → Option OC := fun i => match Nat.beq i 137 with
  | true => some (mkNoZeroO 5)
  | false => none
theorem hpo : ∀ f o, po f = some o → OCOK prog f o := by
  intro f o h
  unfold po at h
  split at h
  · rename_i hb
    have hb := beq_true.1 hb
    subst hb
    cases h
    exact mkNoZero_ok (ps := f137.params) (t := 51) func137 (by kernel_rfl) (by kernel_rfl) (by kernel_rfl) (by kernel_rfl) (by kernel_rfl)
  · cases h
noncomputable def told : Told prog := (toldOf prog pe hpe).withExt po hpo
theorem bool_only (b : Bool) : ∀ φ v', VRel φ (.bool b) v' → v' = .bool b := fun φ v' h => h.inv_bool
end FrameTold
