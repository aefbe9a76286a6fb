/- The closed facts of the statement HopNames. -/
import Derived.Test.YtlckpojpnfidoaaGreatRows
import Derived.WalkKit
import Derived.ProofKit
namespace Go.Proofs.YtlckpojpnfidoaaGreat.hopNames
open Go.ChangeShapes Go.WideShapes Go.ChangeAt Go.RowKit
theorem c1 : (Rows.hopNamesRow.inPlace == Tryz.pinned.checked.prog.inPlace 10) = true := by kernel_rfl
theorem c2 : (Rows.hopNamesRow.unfollowed == Tryz.pinned.checked.prog.unfollowed 10) = true := by kernel_rfl
theorem c3 : (Rows.hopNamesRow.recurses == Tryz.pinned.checked.prog.recurses 10) = true := by kernel_rfl
theorem c4 : (Rows.hopNamesRow.named == Tryz.pinned.checked.prog.varsNamed 10) = true := by kernel_rfl
theorem over (lifted : ∀ (os : Os) (_ : os.Started) (H : Type) (enc : TypeId × Value → H), ReturnsInHanded {} Tryz.checked os 10 .any (Rows.hopNamesSpec.pre6 enc Tryz.prog Tryz.f10 Rows.hopNamesRow.domain false) (Rows.hopNamesSpec.post enc Tryz.prog Tryz.f10 false true false false)) : Rows.hopNamesRow.holds Tryz.pinned (OpenSpec.ofChange Rows.hopNamesSpec) :=
  OpenClaim.holds_of_wide 10 Tryz.f10 rfl rfl rfl rfl rfl rfl rfl ⟨rfl, rfl, rfl, rfl, rfl⟩ rfl rfl rfl rfl rfl (by kernel_rfl) Tryz.func10 (by unfold joinedFacts; rw [c1, c2, c3, c4]; kernel_rfl)
    (of_decide_eq_true (by kernel_rfl)) (by unfold Func.isWrapper; first | (rw [if_pos (by decide +kernel)]; kernel_rfl) | (rw [if_neg (by decide +kernel)]; exact ⟨rfl, rfl⟩))
    (fun os started H enc _ => lifted os started H enc)
end Go.Proofs.YtlckpojpnfidoaaGreat.hopNames
