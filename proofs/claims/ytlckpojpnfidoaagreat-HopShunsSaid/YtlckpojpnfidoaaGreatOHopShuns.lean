/- The closed facts of the statement HopShuns. -/
import Derived.Test.YtlckpojpnfidoaaGreatRows
import Derived.WalkKit
import Derived.ProofKit
namespace Go.Proofs.YtlckpojpnfidoaaGreat.hopShuns
open Go.ChangeShapes Go.WideShapes Go.ChangeAt Go.RowKit
theorem c1 : (Rows.hopShunsRow.inPlace == Tryz.pinned.checked.prog.inPlace 12) = true := by kernel_rfl
theorem c2 : (Rows.hopShunsRow.unfollowed == Tryz.pinned.checked.prog.unfollowed 12) = true := by kernel_rfl
theorem c3 : (Rows.hopShunsRow.recurses == Tryz.pinned.checked.prog.recurses 12) = true := by kernel_rfl
theorem c4 : (Rows.hopShunsRow.named == Tryz.pinned.checked.prog.varsNamed 12) = true := by kernel_rfl
theorem over (lifted : ∀ (os : Os) (_ : os.Started) (H : Type) (enc : TypeId × Value → H), ReturnsInHanded {} Tryz.checked os 12 .any (Rows.hopShunsSpec.pre6 enc Tryz.prog Tryz.f12 Rows.hopShunsRow.domain false) (Rows.hopShunsSpec.post enc Tryz.prog Tryz.f12 false true false false)) : Rows.hopShunsRow.holds Tryz.pinned (OpenSpec.ofChange Rows.hopShunsSpec) :=
  OpenClaim.holds_of_wide 12 Tryz.f12 rfl rfl rfl rfl rfl rfl rfl ⟨rfl, rfl, rfl, rfl, rfl⟩ rfl rfl rfl rfl rfl (by kernel_rfl) Tryz.func12 (by unfold joinedFacts; rw [c1, c2, c3, c4]; kernel_rfl)
    (of_decide_eq_true (by kernel_rfl)) (by unfold Func.isWrapper; first | (rw [if_pos (by decide +kernel)]; kernel_rfl) | (rw [if_neg (by decide +kernel)]; exact ⟨rfl, rfl⟩))
    (fun os started H enc _ => lifted os started H enc)
end Go.Proofs.YtlckpojpnfidoaaGreat.hopShuns
