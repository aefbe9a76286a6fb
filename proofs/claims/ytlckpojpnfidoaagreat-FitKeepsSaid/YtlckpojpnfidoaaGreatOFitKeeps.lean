/- The closed facts of the statement FitKeeps. -/
import Derived.Test.YtlckpojpnfidoaaGreatRows
import Derived.WalkKit
import Derived.ProofKit
namespace Go.Proofs.YtlckpojpnfidoaaGreat.fitKeeps
open Go.ChangeShapes Go.WideShapes Go.ChangeAt Go.RowKit
theorem c1 : (Rows.fitKeepsRow.inPlace == Tryz.pinned.checked.prog.inPlace 3) = true := by kernel_rfl
theorem c2 : (Rows.fitKeepsRow.unfollowed == Tryz.pinned.checked.prog.unfollowed 3) = true := by kernel_rfl
theorem c3 : (Rows.fitKeepsRow.recurses == Tryz.pinned.checked.prog.recurses 3) = true := by kernel_rfl
theorem c4 : (Rows.fitKeepsRow.named == Tryz.pinned.checked.prog.varsNamed 3) = true := by kernel_rfl
theorem over (lifted : ∀ (os : Os) (_ : os.Started) (H : Type) (enc : TypeId × Value → H), ReturnsInHanded {} Tryz.checked os 3 .any (Rows.fitKeepsSpec.pre6 enc Tryz.prog Tryz.f3 Rows.fitKeepsRow.domain false) (Rows.fitKeepsSpec.post enc Tryz.prog Tryz.f3 false true false false)) : Rows.fitKeepsRow.holds Tryz.pinned (OpenSpec.ofChange Rows.fitKeepsSpec) :=
  OpenClaim.holds_of_wide 3 Tryz.f3 rfl rfl rfl rfl rfl rfl rfl ⟨rfl, rfl, rfl, rfl, rfl⟩ rfl rfl rfl rfl rfl (by kernel_rfl) Tryz.func3 (by unfold joinedFacts; rw [c1, c2, c3, c4]; kernel_rfl)
    (of_decide_eq_true (by kernel_rfl)) (by unfold Func.isWrapper; first | (rw [if_pos (by decide +kernel)]; kernel_rfl) | (rw [if_neg (by decide +kernel)]; exact ⟨rfl, rfl⟩))
    (fun os started H enc _ => lifted os started H enc)
end Go.Proofs.YtlckpojpnfidoaaGreat.fitKeeps
