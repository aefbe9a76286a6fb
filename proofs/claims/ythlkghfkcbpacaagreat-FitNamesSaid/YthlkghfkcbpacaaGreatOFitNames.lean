/- The closed facts of the statement FitNames. -/
import Derived.Test.YthlkghfkcbpacaaGreatRows
import Derived.WalkKit
import Derived.ProofKit
namespace Go.Proofs.YthlkghfkcbpacaaGreat.fitNames
open Go.ChangeShapes Go.WideShapes Go.ChangeAt Go.RowKit
theorem c1 : (Rows.fitNamesRow.inPlace == Tryz.pinned.checked.prog.inPlace 9) = true := by kernel_rfl
theorem c2 : (Rows.fitNamesRow.unfollowed == Tryz.pinned.checked.prog.unfollowed 9) = true := by kernel_rfl
theorem c3 : (Rows.fitNamesRow.recurses == Tryz.pinned.checked.prog.recurses 9) = true := by kernel_rfl
theorem c4 : (Rows.fitNamesRow.named == Tryz.pinned.checked.prog.varsNamed 9) = true := by kernel_rfl
theorem over (lifted : ∀ (os : Os) (_ : os.Started) (H : Type) (enc : TypeId × Value → H), ReturnsInHanded {} Tryz.checked os 9 .any (Rows.fitNamesSpec.pre6 enc Tryz.prog Tryz.f9 Rows.fitNamesRow.domain false) (Rows.fitNamesSpec.post enc Tryz.prog Tryz.f9 false true false false)) : Rows.fitNamesRow.holds Tryz.pinned (OpenSpec.ofChange Rows.fitNamesSpec) :=
  OpenClaim.holds_of_wide 9 Tryz.f9 rfl rfl rfl rfl rfl rfl rfl ⟨rfl, rfl, rfl, rfl, rfl⟩ rfl rfl rfl rfl rfl (by kernel_rfl) Tryz.func9 (by unfold joinedFacts; rw [c1, c2, c3, c4]; kernel_rfl)
    (of_decide_eq_true (by kernel_rfl)) (by unfold Func.isWrapper; first | (rw [if_pos (by decide +kernel)]; kernel_rfl) | (rw [if_neg (by decide +kernel)]; exact ⟨rfl, rfl⟩))
    (fun os started H enc _ => lifted os started H enc)
end Go.Proofs.YthlkghfkcbpacaaGreat.fitNames
