/- The closed facts of the statement HopTries. -/
import Derived.Test.YtlckpojpnfidoaaGreatRows
import Derived.WalkKit
import Derived.ProofKit
namespace Go.Proofs.YtlckpojpnfidoaaGreat.hopTries
open Go.ChangeShapes Go.WideShapes Go.ChangeAt Go.RowKit
theorem c1 : (Rows.hopTriesRow.inPlace == Tryz.pinned.checked.prog.inPlace 8) = true := by kernel_rfl
theorem c2 : (Rows.hopTriesRow.unfollowed == Tryz.pinned.checked.prog.unfollowed 8) = true := by kernel_rfl
theorem c3 : (Rows.hopTriesRow.recurses == Tryz.pinned.checked.prog.recurses 8) = true := by kernel_rfl
theorem c4 : (Rows.hopTriesRow.named == Tryz.pinned.checked.prog.varsNamed 8) = true := by kernel_rfl
theorem over (lifted : ∀ (os : Os) (_ : os.Started) (H : Type) (enc : TypeId × Value → H), ReturnsInHanded {} Tryz.checked os 8 .any (Rows.hopTriesSpec.pre6 enc Tryz.prog Tryz.f8 Rows.hopTriesRow.domain false) (Rows.hopTriesSpec.post enc Tryz.prog Tryz.f8 false true false false)) : Rows.hopTriesRow.holds Tryz.pinned (OpenSpec.ofChange Rows.hopTriesSpec) :=
  OpenClaim.holds_of_wide 8 Tryz.f8 rfl rfl rfl rfl rfl rfl rfl ⟨rfl, rfl, rfl, rfl, rfl⟩ rfl rfl rfl rfl rfl (by kernel_rfl) Tryz.func8 (by unfold joinedFacts; rw [c1, c2, c3, c4]; kernel_rfl)
    (of_decide_eq_true (by kernel_rfl)) (by unfold Func.isWrapper; first | (rw [if_pos (by decide +kernel)]; kernel_rfl) | (rw [if_neg (by decide +kernel)]; exact ⟨rfl, rfl⟩))
    (fun os started H enc _ => lifted os started H enc)
end Go.Proofs.YtlckpojpnfidoaaGreat.hopTries
