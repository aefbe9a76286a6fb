/- The closed facts of the statement AdmitSteps. -/
import Derived.Test.YtdidkjghemcipaaGreatRows
import Derived.WalkKit
import Derived.ProofKit
namespace Go.Proofs.YtdidkjghemcipaaGreat.admitSteps
open Go.ChangeShapes Go.WideShapes Go.ChangeAt Go.RowKit
theorem over (lifted : ∀ (os : Os) (_ : os.Started) (H : Type) (enc : TypeId × Value → H), ReturnsInHanded {} Tryz.checked os 12 .any (Rows.admitStepsSpec.pre6 enc Tryz.prog Tryz.f12 Rows.admitStepsRow.domain false) (Rows.admitStepsSpec.post enc Tryz.prog Tryz.f12 false true false false)) : Rows.admitStepsRow.holds Tryz.pinned (OpenSpec.ofChange Rows.admitStepsSpec) :=
  OpenClaim.holds_of_wide 12 Tryz.f12 rfl rfl rfl rfl rfl rfl rfl ⟨rfl, rfl, rfl, rfl, rfl⟩ rfl rfl rfl rfl rfl (by kernel_rfl) Tryz.func12 (by kernel_rfl)
    (of_decide_eq_true (by kernel_rfl)) (by unfold Func.isWrapper; first | (rw [if_pos (by decide +kernel)]; kernel_rfl) | (rw [if_neg (by decide +kernel)]; exact ⟨rfl, rfl⟩))
    (fun os started H enc _ => lifted os started H enc)
end Go.Proofs.YtdidkjghemcipaaGreat.admitSteps
