/- The closed facts of the statement DetectHeat. -/
import Derived.Test.YtlckpojpnfidoaaGreatRows
import Derived.WalkKit
import Derived.ProofKit
namespace Go.Proofs.YtlckpojpnfidoaaGreat.detectHeat
open Go.ChangeShapes Go.WideShapes Go.ChangeAt Go.RowKit
theorem c1 : (Rows.detectHeatRow.inPlace == Tryz.pinned.checked.prog.inPlace 5) = true := by kernel_rfl
theorem c2 : (Rows.detectHeatRow.unfollowed == Tryz.pinned.checked.prog.unfollowed 5) = true := by kernel_rfl
theorem c3 : (Rows.detectHeatRow.recurses == Tryz.pinned.checked.prog.recurses 5) = true := by kernel_rfl
theorem c4 : (Rows.detectHeatRow.named == Tryz.pinned.checked.prog.varsNamed 5) = true := by kernel_rfl
theorem over (lifted : ∀ (os : Os) (_ : os.Started) (H : Type) (enc : TypeId × Value → H), ReturnsInHanded {} Tryz.checked os 5 .any (Rows.detectHeatSpec.pre6 enc Tryz.prog Tryz.f5 Rows.detectHeatRow.domain false) (Rows.detectHeatSpec.post enc Tryz.prog Tryz.f5 false true false false)) : Rows.detectHeatRow.holds Tryz.pinned (OpenSpec.ofChange Rows.detectHeatSpec) :=
  OpenClaim.holds_of_wide 5 Tryz.f5 rfl rfl rfl rfl rfl rfl rfl ⟨rfl, rfl, rfl, rfl, rfl⟩ rfl rfl rfl rfl rfl (by kernel_rfl) Tryz.func5 (by unfold joinedFacts; rw [c1, c2, c3, c4]; kernel_rfl)
    (of_decide_eq_true (by kernel_rfl)) (by unfold Func.isWrapper; first | (rw [if_pos (by decide +kernel)]; kernel_rfl) | (rw [if_neg (by decide +kernel)]; exact ⟨rfl, rfl⟩))
    (fun os started H enc _ => lifted os started H enc)
end Go.Proofs.YtlckpojpnfidoaaGreat.detectHeat
