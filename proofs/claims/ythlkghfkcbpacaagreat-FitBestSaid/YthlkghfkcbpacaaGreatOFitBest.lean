/- The closed facts of the statement FitBest. -/
import Derived.Test.YthlkghfkcbpacaaGreatRows
import Derived.WalkKit
import Derived.ProofKit
namespace Go.Proofs.YthlkghfkcbpacaaGreat.fitBest
open Go.ChangeShapes Go.WideShapes Go.ChangeAt Go.RowKit
theorem c1 : (Rows.fitBestRow.inPlace == Tryz.pinned.checked.prog.inPlace 8) = true := by kernel_rfl
theorem c2 : (Rows.fitBestRow.unfollowed == Tryz.pinned.checked.prog.unfollowed 8) = true := by kernel_rfl
theorem c3 : (Rows.fitBestRow.recurses == Tryz.pinned.checked.prog.recurses 8) = true := by kernel_rfl
theorem c4 : (Rows.fitBestRow.named == Tryz.pinned.checked.prog.varsNamed 8) = true := by kernel_rfl
theorem over (lifted : ∀ (os : Os) (_ : os.Started) (H : Type) (enc : TypeId × Value → H), ReturnsInHanded {} Tryz.checked os 8 .any (Rows.fitBestSpec.pre6 enc Tryz.prog Tryz.f8 Rows.fitBestRow.domain false) (Rows.fitBestSpec.post enc Tryz.prog Tryz.f8 false true false false)) : Rows.fitBestRow.holds Tryz.pinned (OpenSpec.ofChange Rows.fitBestSpec) :=
  OpenClaim.holds_of_wide 8 Tryz.f8 rfl rfl rfl rfl rfl rfl rfl ⟨rfl, rfl, rfl, rfl, rfl⟩ rfl rfl rfl rfl rfl (by kernel_rfl) Tryz.func8 (by unfold joinedFacts; rw [c1, c2, c3, c4]; kernel_rfl)
    (of_decide_eq_true (by kernel_rfl)) (by unfold Func.isWrapper; first | (rw [if_pos (by decide +kernel)]; kernel_rfl) | (rw [if_neg (by decide +kernel)]; exact ⟨rfl, rfl⟩))
    (fun os started H enc _ => lifted os started H enc)
end Go.Proofs.YthlkghfkcbpacaaGreat.fitBest
