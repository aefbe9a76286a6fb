/- The closed facts of the statement DetectSafe. -/
import Derived.Test.YtlckpojpnfidoaaGreatRows
import Derived.WalkKit
import Derived.ProofKit
namespace Go.Proofs.YtlckpojpnfidoaaGreat.detectSafe
open Go.ChangeShapes Go.WideShapes Go.ChangeAt Go.RowKit
theorem c1 : (Rows.detectSafeRow.inPlace == Tryz.pinned.checked.prog.inPlace 7) = true := by kernel_rfl
theorem c2 : (Rows.detectSafeRow.unfollowed == Tryz.pinned.checked.prog.unfollowed 7) = true := by kernel_rfl
theorem c3 : (Rows.detectSafeRow.recurses == Tryz.pinned.checked.prog.recurses 7) = true := by kernel_rfl
theorem c4 : (Rows.detectSafeRow.named == Tryz.pinned.checked.prog.varsNamed 7) = true := by kernel_rfl
theorem over (lifted : ∀ (os : Os) (_ : os.Started) (H : Type) (enc : TypeId × Value → H), ReturnsInHanded {} Tryz.checked os 7 .any (Rows.detectSafeSpec.pre6 enc Tryz.prog Tryz.f7 Rows.detectSafeRow.domain false) (Rows.detectSafeSpec.post enc Tryz.prog Tryz.f7 false true false false)) : Rows.detectSafeRow.holds Tryz.pinned (OpenSpec.ofChange Rows.detectSafeSpec) :=
  OpenClaim.holds_of_wide 7 Tryz.f7 rfl rfl rfl rfl rfl rfl rfl ⟨rfl, rfl, rfl, rfl, rfl⟩ rfl rfl rfl rfl rfl (by kernel_rfl) Tryz.func7 (by unfold joinedFacts; rw [c1, c2, c3, c4]; kernel_rfl)
    (of_decide_eq_true (by kernel_rfl)) (by unfold Func.isWrapper; first | (rw [if_pos (by decide +kernel)]; kernel_rfl) | (rw [if_neg (by decide +kernel)]; exact ⟨rfl, rfl⟩))
    (fun os started H enc _ => lifted os started H enc)
end Go.Proofs.YtlckpojpnfidoaaGreat.detectSafe
