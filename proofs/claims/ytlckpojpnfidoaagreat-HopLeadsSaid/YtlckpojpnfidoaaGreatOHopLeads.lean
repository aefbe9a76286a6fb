/- The closed facts of the statement HopLeads. -/
import Derived.Test.YtlckpojpnfidoaaGreatRows
import Derived.WalkKit
import Derived.ProofKit
namespace Go.Proofs.YtlckpojpnfidoaaGreat.hopLeads
open Go.ChangeShapes Go.WideShapes Go.ChangeAt Go.RowKit
theorem c1 : (Rows.hopLeadsRow.inPlace == Tryz.pinned.checked.prog.inPlace 11) = true := by kernel_rfl
theorem c2 : (Rows.hopLeadsRow.unfollowed == Tryz.pinned.checked.prog.unfollowed 11) = true := by kernel_rfl
theorem c3 : (Rows.hopLeadsRow.recurses == Tryz.pinned.checked.prog.recurses 11) = true := by kernel_rfl
theorem c4 : (Rows.hopLeadsRow.named == Tryz.pinned.checked.prog.varsNamed 11) = true := by kernel_rfl
theorem over (lifted : ∀ (os : Os) (_ : os.Started) (H : Type) (enc : TypeId × Value → H), ReturnsInHanded {} Tryz.checked os 11 .any (Rows.hopLeadsSpec.pre6 enc Tryz.prog Tryz.f11 Rows.hopLeadsRow.domain false) (Rows.hopLeadsSpec.post enc Tryz.prog Tryz.f11 false true false false)) : Rows.hopLeadsRow.holds Tryz.pinned (OpenSpec.ofChange Rows.hopLeadsSpec) :=
  OpenClaim.holds_of_wide 11 Tryz.f11 rfl rfl rfl rfl rfl rfl rfl ⟨rfl, rfl, rfl, rfl, rfl⟩ rfl rfl rfl rfl rfl (by kernel_rfl) Tryz.func11 (by unfold joinedFacts; rw [c1, c2, c3, c4]; kernel_rfl)
    (of_decide_eq_true (by kernel_rfl)) (by unfold Func.isWrapper; first | (rw [if_pos (by decide +kernel)]; kernel_rfl) | (rw [if_neg (by decide +kernel)]; exact ⟨rfl, rfl⟩))
    (fun os started H enc _ => lifted os started H enc)
end Go.Proofs.YtlckpojpnfidoaaGreat.hopLeads
