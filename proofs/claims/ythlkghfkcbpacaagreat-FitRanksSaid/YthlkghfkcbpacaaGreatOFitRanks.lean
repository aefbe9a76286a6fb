/- The closed facts of the statement FitRanks. -/
import Derived.Test.YthlkghfkcbpacaaGreatRows
import Derived.WalkKit
import Derived.ProofKit
namespace Go.Proofs.YthlkghfkcbpacaaGreat.fitRanks
open Go.ChangeShapes Go.WideShapes Go.ChangeAt Go.RowKit
theorem c1 : (Rows.fitRanksRow.inPlace == Tryz.pinned.checked.prog.inPlace 6) = true := by kernel_rfl
theorem c2 : (Rows.fitRanksRow.unfollowed == Tryz.pinned.checked.prog.unfollowed 6) = true := by kernel_rfl
theorem c3 : (Rows.fitRanksRow.recurses == Tryz.pinned.checked.prog.recurses 6) = true := by kernel_rfl
theorem c4 : (Rows.fitRanksRow.named == Tryz.pinned.checked.prog.varsNamed 6) = true := by kernel_rfl
theorem over (lifted : ∀ (os : Os) (_ : os.Started) (H : Type) (enc : TypeId × Value → H), ReturnsInHanded {} Tryz.checked os 6 .any (Rows.fitRanksSpec.pre6 enc Tryz.prog Tryz.f6 Rows.fitRanksRow.domain false) (Rows.fitRanksSpec.post enc Tryz.prog Tryz.f6 false true false false)) : Rows.fitRanksRow.holds Tryz.pinned (OpenSpec.ofChange Rows.fitRanksSpec) :=
  OpenClaim.holds_of_wide 6 Tryz.f6 rfl rfl rfl rfl rfl rfl rfl ⟨rfl, rfl, rfl, rfl, rfl⟩ rfl rfl rfl rfl rfl (by kernel_rfl) Tryz.func6 (by unfold joinedFacts; rw [c1, c2, c3, c4]; kernel_rfl)
    (of_decide_eq_true (by kernel_rfl)) (by unfold Func.isWrapper; first | (rw [if_pos (by decide +kernel)]; kernel_rfl) | (rw [if_neg (by decide +kernel)]; exact ⟨rfl, rfl⟩))
    (fun os started H enc _ => lifted os started H enc)
end Go.Proofs.YthlkghfkcbpacaaGreat.fitRanks
