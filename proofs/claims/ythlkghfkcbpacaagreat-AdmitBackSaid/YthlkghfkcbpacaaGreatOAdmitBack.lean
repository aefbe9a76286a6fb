/- The closed facts of the statement AdmitBack. -/
import Derived.Test.YthlkghfkcbpacaaGreatRows
import Derived.WalkKit
import Derived.ProofKit
namespace Go.Proofs.YthlkghfkcbpacaaGreat.admitBack
open Go.ChangeShapes Go.WideShapes Go.ChangeAt Go.RowKit
theorem c1 : (Rows.admitBackRow.inPlace == Tryz.pinned.checked.prog.inPlace 5) = true := by kernel_rfl
theorem c2 : (Rows.admitBackRow.unfollowed == Tryz.pinned.checked.prog.unfollowed 5) = true := by kernel_rfl
theorem c3 : (Rows.admitBackRow.recurses == Tryz.pinned.checked.prog.recurses 5) = true := by kernel_rfl
theorem c4 : (Rows.admitBackRow.named == Tryz.pinned.checked.prog.varsNamed 5) = true := by kernel_rfl
theorem over (lifted : ∀ (os : Os) (_ : os.Started) (H : Type) (enc : TypeId × Value → H), ReturnsInHanded {} Tryz.checked os 5 .any (Rows.admitBackSpec.pre6 enc Tryz.prog Tryz.f5 Rows.admitBackRow.domain false) (Rows.admitBackSpec.post enc Tryz.prog Tryz.f5 false true false false)) : Rows.admitBackRow.holds Tryz.pinned (OpenSpec.ofChange Rows.admitBackSpec) :=
  OpenClaim.holds_of_wide 5 Tryz.f5 rfl rfl rfl rfl rfl rfl rfl ⟨rfl, rfl, rfl, rfl, rfl⟩ rfl rfl rfl rfl rfl (by kernel_rfl) Tryz.func5 (by unfold joinedFacts; rw [c1, c2, c3, c4]; kernel_rfl)
    (of_decide_eq_true (by kernel_rfl)) (by unfold Func.isWrapper; first | (rw [if_pos (by decide +kernel)]; kernel_rfl) | (rw [if_neg (by decide +kernel)]; exact ⟨rfl, rfl⟩))
    (fun os started H enc _ => lifted os started H enc)
end Go.Proofs.YthlkghfkcbpacaaGreat.admitBack
