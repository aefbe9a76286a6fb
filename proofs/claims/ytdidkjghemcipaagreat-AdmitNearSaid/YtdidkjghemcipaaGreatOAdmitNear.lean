/- The closed facts of the statement AdmitNear. -/
import Derived.Test.YtdidkjghemcipaaGreatRows
import Derived.WalkKit
import Derived.ProofKit
namespace Go.Proofs.YtdidkjghemcipaaGreat.admitNear
open Go.ChangeShapes Go.WideShapes Go.ChangeAt Go.RowKit
theorem c1 : (Rows.admitNearRow.inPlace == Tryz.pinned.checked.prog.inPlace 14) = true := by kernel_rfl
theorem c2 : (Rows.admitNearRow.unfollowed == Tryz.pinned.checked.prog.unfollowed 14) = true := by kernel_rfl
theorem c3 : (Rows.admitNearRow.recurses == Tryz.pinned.checked.prog.recurses 14) = true := by kernel_rfl
theorem c4 : (Rows.admitNearRow.named == Tryz.pinned.checked.prog.varsNamed 14) = true := by kernel_rfl
theorem over (lifted : ∀ (os : Os) (_ : os.Started) (H : Type) (enc : TypeId × Value → H), ReturnsInHanded {} Tryz.checked os 14 .any (Rows.admitNearSpec.pre6 enc Tryz.prog Tryz.f14 Rows.admitNearRow.domain false) (Rows.admitNearSpec.post enc Tryz.prog Tryz.f14 false true false false)) : Rows.admitNearRow.holds Tryz.pinned (OpenSpec.ofChange Rows.admitNearSpec) :=
  OpenClaim.holds_of_wide 14 Tryz.f14 rfl rfl rfl rfl rfl rfl rfl ⟨rfl, rfl, rfl, rfl, rfl⟩ rfl rfl rfl rfl rfl (by kernel_rfl) Tryz.func14 (by unfold joinedFacts; rw [c1, c2, c3, c4]; kernel_rfl)
    (of_decide_eq_true (by kernel_rfl)) (by unfold Func.isWrapper; first | (rw [if_pos (by decide +kernel)]; kernel_rfl) | (rw [if_neg (by decide +kernel)]; exact ⟨rfl, rfl⟩))
    (fun os started H enc _ => lifted os started H enc)
end Go.Proofs.YtdidkjghemcipaaGreat.admitNear
