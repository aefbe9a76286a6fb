/- The closed facts of the statement AdmitRuns. -/
import Derived.Test.YtdidkjghemcipaaGreatRows
import Derived.WalkKit
import Derived.ProofKit
namespace Go.Proofs.YtdidkjghemcipaaGreat.admitRuns
open Go.ChangeShapes Go.WideShapes Go.ChangeAt Go.RowKit
theorem c1 : (Rows.admitRunsRow.inPlace == Tryz.pinned.checked.prog.inPlace 13) = true := by kernel_rfl
theorem c2 : (Rows.admitRunsRow.unfollowed == Tryz.pinned.checked.prog.unfollowed 13) = true := by kernel_rfl
theorem c3 : (Rows.admitRunsRow.recurses == Tryz.pinned.checked.prog.recurses 13) = true := by kernel_rfl
theorem c4 : (Rows.admitRunsRow.named == Tryz.pinned.checked.prog.varsNamed 13) = true := by kernel_rfl
theorem over (lifted : ∀ (os : Os) (_ : os.Started) (H : Type) (enc : TypeId × Value → H), ReturnsInHanded {} Tryz.checked os 13 .any (Rows.admitRunsSpec.pre6 enc Tryz.prog Tryz.f13 Rows.admitRunsRow.domain false) (Rows.admitRunsSpec.post enc Tryz.prog Tryz.f13 false true false false)) : Rows.admitRunsRow.holds Tryz.pinned (OpenSpec.ofChange Rows.admitRunsSpec) :=
  OpenClaim.holds_of_wide 13 Tryz.f13 rfl rfl rfl rfl rfl rfl rfl ⟨rfl, rfl, rfl, rfl, rfl⟩ rfl rfl rfl rfl rfl (by kernel_rfl) Tryz.func13 (by unfold joinedFacts; rw [c1, c2, c3, c4]; kernel_rfl)
    (of_decide_eq_true (by kernel_rfl)) (by unfold Func.isWrapper; first | (rw [if_pos (by decide +kernel)]; kernel_rfl) | (rw [if_neg (by decide +kernel)]; exact ⟨rfl, rfl⟩))
    (fun os started H enc _ => lifted os started H enc)
end Go.Proofs.YtdidkjghemcipaaGreat.admitRuns
