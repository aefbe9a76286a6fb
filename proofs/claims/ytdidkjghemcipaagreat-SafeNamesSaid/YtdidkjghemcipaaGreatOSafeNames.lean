/- The closed facts of the statement SafeNames. -/
import Derived.Test.YtdidkjghemcipaaGreatRows
import Derived.WalkKit
import Derived.ProofKit
namespace Go.Proofs.YtdidkjghemcipaaGreat.safeNames
open Go.ChangeShapes Go.WideShapes Go.ChangeAt Go.RowKit
theorem over (lifted : ∀ (os : Os) (_ : os.Started) (H : Type) (enc : TypeId × Value → H), ReturnsInHanded {} Tryz.checked os 9 .any (Rows.safeNamesSpec.pre6 enc Tryz.prog Tryz.f9 Rows.safeNamesRow.domain false) (Rows.safeNamesSpec.post enc Tryz.prog Tryz.f9 false true false false)) : Rows.safeNamesRow.holds Tryz.pinned (OpenSpec.ofChange Rows.safeNamesSpec) :=
  OpenClaim.holds_of_wide 9 Tryz.f9 rfl rfl rfl rfl rfl rfl rfl ⟨rfl, rfl, rfl, rfl, rfl⟩ rfl rfl rfl rfl rfl (by kernel_rfl) Tryz.func9 (by kernel_rfl)
    (of_decide_eq_true (by kernel_rfl)) (by unfold Func.isWrapper; first | (rw [if_pos (by decide +kernel)]; kernel_rfl) | (rw [if_neg (by decide +kernel)]; exact ⟨rfl, rfl⟩))
    (fun os started H enc _ => lifted os started H enc)
end Go.Proofs.YtdidkjghemcipaaGreat.safeNames
