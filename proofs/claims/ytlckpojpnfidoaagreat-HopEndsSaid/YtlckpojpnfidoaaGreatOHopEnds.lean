/- The closed facts of the statement HopEnds. -/
import Derived.Test.YtlckpojpnfidoaaGreatRows
import Derived.WalkKit
import Derived.ProofKit
namespace Go.Proofs.YtlckpojpnfidoaaGreat.hopEnds
open Go.ChangeShapes Go.WideShapes Go.ChangeAt Go.RowKit
theorem c1 : (Rows.hopEndsRow.inPlace == Tryz.pinned.checked.prog.inPlace 9) = true := by kernel_rfl
theorem c2 : (Rows.hopEndsRow.unfollowed == Tryz.pinned.checked.prog.unfollowed 9) = true := by kernel_rfl
theorem c3 : (Rows.hopEndsRow.recurses == Tryz.pinned.checked.prog.recurses 9) = true := by kernel_rfl
theorem c4 : (Rows.hopEndsRow.named == Tryz.pinned.checked.prog.varsNamed 9) = true := by kernel_rfl
theorem over (lifted : ∀ (os : Os) (_ : os.Started) (H : Type) (enc : TypeId × Value → H), ReturnsInHanded {} Tryz.checked os 9 .any (Rows.hopEndsSpec.pre6 enc Tryz.prog Tryz.f9 Rows.hopEndsRow.domain false) (Rows.hopEndsSpec.post enc Tryz.prog Tryz.f9 false true false false)) : Rows.hopEndsRow.holds Tryz.pinned (OpenSpec.ofChange Rows.hopEndsSpec) :=
  OpenClaim.holds_of_wide 9 Tryz.f9 rfl rfl rfl rfl rfl rfl rfl ⟨rfl, rfl, rfl, rfl, rfl⟩ rfl rfl rfl rfl rfl (by kernel_rfl) Tryz.func9 (by unfold joinedFacts; rw [c1, c2, c3, c4]; kernel_rfl)
    (of_decide_eq_true (by kernel_rfl)) (by unfold Func.isWrapper; first | (rw [if_pos (by decide +kernel)]; kernel_rfl) | (rw [if_neg (by decide +kernel)]; exact ⟨rfl, rfl⟩))
    (fun os started H enc _ => lifted os started H enc)
end Go.Proofs.YtlckpojpnfidoaaGreat.hopEnds
