/- The closed facts of the statement SafeTells. -/
import Derived.Test.YtdidkjghemcipaaGreatRows
import Derived.WalkKit
import Derived.ProofKit
namespace Go.Proofs.YtdidkjghemcipaaGreat.safeTells
open Go.ChangeShapes Go.WideShapes Go.ChangeAt Go.RowKit
theorem over (lifted : ∀ (os : Os) (_ : os.Started) (H : Type) (enc : TypeId × Value → H), ReturnsInHanded {} Tryz.checked os 8 .any (Rows.safeTellsSpec.pre6 enc Tryz.prog Tryz.f8 Rows.safeTellsRow.domain false) (Rows.safeTellsSpec.post enc Tryz.prog Tryz.f8 false true false false)) : Rows.safeTellsRow.holds Tryz.pinned (OpenSpec.ofChange Rows.safeTellsSpec) :=
  OpenClaim.holds_of_wide 8 Tryz.f8 rfl rfl rfl rfl rfl rfl rfl ⟨rfl, rfl, rfl, rfl, rfl⟩ rfl rfl rfl rfl rfl (by kernel_rfl) Tryz.func8 (by kernel_rfl)
    (of_decide_eq_true (by kernel_rfl)) (by unfold Func.isWrapper; first | (rw [if_pos (by decide +kernel)]; kernel_rfl) | (rw [if_neg (by decide +kernel)]; exact ⟨rfl, rfl⟩))
    (fun os started H enc _ => lifted os started H enc)
end Go.Proofs.YtdidkjghemcipaaGreat.safeTells
