/- The closed facts of the statement AdmitKeeps. -/
import Derived.Test.YthlkghfkcbpacaaGreatRows
import Derived.WalkKit
import Derived.ProofKit
namespace Go.Proofs.YthlkghfkcbpacaaGreat.admitKeeps
open Go.ChangeShapes Go.WideShapes Go.ChangeAt Go.RowKit
theorem c1 : (Rows.admitKeepsRow.inPlace == Tryz.pinned.checked.prog.inPlace 4) = true := by kernel_rfl
theorem c2 : (Rows.admitKeepsRow.unfollowed == Tryz.pinned.checked.prog.unfollowed 4) = true := by kernel_rfl
theorem c3 : (Rows.admitKeepsRow.recurses == Tryz.pinned.checked.prog.recurses 4) = true := by kernel_rfl
theorem c4 : (Rows.admitKeepsRow.named == Tryz.pinned.checked.prog.varsNamed 4) = true := by kernel_rfl
theorem over (lifted : ∀ (os : Os) (_ : os.Started) (H : Type) (enc : TypeId × Value → H), ReturnsInHanded {} Tryz.checked os 4 .any (Rows.admitKeepsSpec.pre6 enc Tryz.prog Tryz.f4 Rows.admitKeepsRow.domain false) (Rows.admitKeepsSpec.post enc Tryz.prog Tryz.f4 false true false false)) : Rows.admitKeepsRow.holds Tryz.pinned (OpenSpec.ofChange Rows.admitKeepsSpec) :=
  OpenClaim.holds_of_wide 4 Tryz.f4 rfl rfl rfl rfl rfl rfl rfl ⟨rfl, rfl, rfl, rfl, rfl⟩ rfl rfl rfl rfl rfl (by kernel_rfl) Tryz.func4 (by unfold joinedFacts; rw [c1, c2, c3, c4]; kernel_rfl)
    (of_decide_eq_true (by kernel_rfl)) (by unfold Func.isWrapper; first | (rw [if_pos (by decide +kernel)]; kernel_rfl) | (rw [if_neg (by decide +kernel)]; exact ⟨rfl, rfl⟩))
    (fun os started H enc _ => lifted os started H enc)
end Go.Proofs.YthlkghfkcbpacaaGreat.admitKeeps
