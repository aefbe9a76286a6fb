/- Part 8 of the rules and of the walks that the proofs of this seat rest on; no condition. -/
import Derived.Test.YthlkghfkcbpacaaGreatA06
import Derived.Deep.Slices
import Derived.OpenShut
import Derived.SizedLaws
import Derived.Carry
import Derived.Below
set_option linter.unusedVariables false
set_option linter.unusedSimpArgs false
namespace Go.Dr
open Go.Proofs
set_option maxRecDepth 20000
set_option maxHeartbeats 2000000
set_option linter.unusedSimpArgs false
set_option linter.unusedVariables false
theorem p10_StepS {S : SHeap} {u v xv : Value} {s : Snap} {p : List Int} {x : Step} (hu : rSnap.V S u s) (hv : (rSlice 8 rI64).V S v p) (hx : rStep.V S xv x) : FnSt Tryz.prog 12 #[u, v, xv] S (stepV s p x).1 (stepV s p x).2.1 (.int .i64 (stepV s p x).2.2) := by
  obtain ⟨_, _, _, _, hQ8, _⟩ := V_slice.1 hv
  refine Fn.frozen (p10_Step hu hv hx) fun w S' M' hw => ?_
  rcases hw with ⟨c, e, he, hcr, hst, rfl, rfl⟩ | ⟨q, b, tl, cap, hst, hqr, hql, rfl, hqc, rfl⟩
  · rw [hst]
    exact .inl ⟨rfl, _, rfl, V_nil, V_clV hcr⟩
  · rw [hst]
    exact .inr ⟨b, _, rfl, fun S'' hl hS => ⟨_, rfl, blk_slice hl hS rfl hqc (by rw [hql]; exact hQ8) hqr, V_clV noC_rng⟩⟩
theorem w10_Step {S : SHeap} {u v xv : Value} {s : Snap} {p q : List Int} {c : Clause} {e : Int} {x : Step} (h : stepV s p x = (q, c, e)) (hu : rSnap.V S u s) (hv : (rSlice 8 rI64).V S v p) (hx : rStep.V S xv x) : FnSt Tryz.prog 12 #[u, v, xv] S q c (.int .i64 e) := by
  have hh := p10_StepS hu hv hx
  rw [h] at hh; exact hh
theorem p10_RunS {S : SHeap} {u v lv : Value} {s : Snap} {p : List Int} {l : List Step} (hu : rSnap.V S u s) (hv : (rSlice 8 rI64).V S v p) (hl : (rSlice 24 rStep).V S lv l) :
    FnLs Tryz.prog 15 #[u, v, lv] S 8 rI64 (runV s p l).1 [.int .i64 (runV s p l).2.1, .int .i64 (runV s p l).2.2] := by
  refine Fn.frozen (p10_Run hu hv hl) fun w S' M' hw => ?_
  obtain ⟨a, c, rfl, ⟨h1, h2, h3⟩, ⟨he, rfl⟩ | ⟨b, tl, rfl, rfl⟩⟩ := hw
  · rw [he]
    exact .inl ⟨rfl, _, rfl, V_slice.2 ⟨_, _, rfl, by simp, by simp, by simp, by simp⟩⟩
  · exact .inr ⟨b, _, rfl, fun S'' hl hS => ⟨_, rfl, blk_slice hl hS rfl h1 h2 h3⟩⟩
theorem w10_Run {S : SHeap} {u v lv : Value} {s : Snap} {p q : List Int} {l : List Step} {n e : Int} (h : runV s p l = (q, n, e)) (hu : rSnap.V S u s) (hv : (rSlice 8 rI64).V S v p) (hl : (rSlice 24 rStep).V S lv l) : FnLs Tryz.prog 15 #[u, v, lv] S 8 rI64 q [.int .i64 n, .int .i64 e] := by
  have hh := p10_RunS hu hv hl
  rw [h] at hh; exact hh
theorem w10_Ways {S : SHeap} {u v : Value} {s : Snap} {p q : List Int} {pod : Int} (h : waysV s p pod = q) (hn : s.nodes.length ≤ 1000) (hpr : Rng pod) (hu : rSnap.V S u s) (hv : (rSlice 8 rI64).V S v p) : FnL Tryz.prog 19 #[u, v, .int .i64 pod] S 8 rI64 q := by
  have hh := p10_Ways pod hu hv hn hpr
  rw [h] at hh; exact hh
theorem w10_May {S : SHeap} {u v xv : Value} {s : Snap} {p : List Int} {x : Step} {b : Bool} (h : mayV s p x = b) (hu : rSnap.V S u s) (hv : (rSlice 8 rI64).V S v p) (hx : rStep.V S xv x) : FnV Tryz.prog 18 #[u, v, xv] S (.bool b) := by
  have hh := p10_May hu hv hx
  rw [h] at hh; exact hh
theorem f10_1 : stepV chap10 [0, 1, -1] ⟨2, 2, 0⟩ = ([], ⟨1, 0, 0, 5⟩, 100) := by decide +kernel
theorem f10_2 : stepV chap10 [0, 1, -1] ⟨2, 2, 2⟩ = ([0, 1, 2], noC, 0) := by decide +kernel
theorem f10_3 : runV chap10 [0, 1, -1] [⟨1, 0, 0⟩, ⟨2, 2, 0⟩, ⟨1, 1, 0⟩, ⟨1, 2, 0⟩] = ([], 3, 100) := by decide +kernel
theorem f10_4 : waysV chap10 [0, 1, -1] 2 = [2] := by decide +kernel
theorem f10_5 : waysV chap10 [0, 1, -1] 0 = [] := by decide +kernel
theorem f10_6 : mayV chap10 [0, 1, -1] ⟨1, 0, 0⟩ = true := by decide +kernel
theorem s16_L10e {P K : Prop} (k : K) (h : Goal K → P := by
  intro zk
  (first | refine Walk ?_ | refine JC.block ?_ | refine JC.drawN 5 rfl [0, 1, 2, 3, 4, 5, 6, 7, 8, 9, 10, 11, 12, 13, 14] [8, 9, 10, 11, 12, 13, 14] Tryz_mixed (by decide +kernel) ?_ | (refine JO.eff rfl rfl rfl (JEff.callR rfl (q10_chapter) rfl ?_); intro zqa zqb zqc zqd) | (refine JO.eff rfl rfl rfl (JEff.callV rfl (q10_on _ _ (by unfold Rng; omega) (by unfold Rng; omega)) rfl ?_); intro zqa zqb) | (refine JO.eff rfl rfl rfl (JEff.callV rfl (q10_off _ (by unfold Rng; omega)) rfl ?_); intro zqa zqb) | (refine JO.eff rfl rfl rfl (JEff.callV rfl (r0_EqInts (by exact vta) (by exact vta)) rfl ?_); intro zqa zqb) | (refine JO.eff rfl rfl rfl (JEff.callV rfl (p10_May (by exact vta) (by exact vta) (by exact vta)) rfl ?_); intro zqa zqb) | (refine JO.eff rfl rfl rfl (JEff.callL rfl (p10_Ways _ (by exact vta) (by exact vta) (by first | assumption | omega) (by first | assumption | (unfold Rng; omega))) rfl ?_); intro zqa zqb zqc zqd zqe zqf) | (refine WNew ?_) | (refine WPut ?_))
  (repeat (first | revert zqg | revert zqf | revert zqe | revert zqd | revert zqc | revert zqb | revert zqa))
  exact zk.k) : P := h ⟨k⟩
theorem q10_works {S : SHeap} : FnV Tryz.prog 16 #[] S (.bool true) := by
  (refine Fn.enter (args := []) Tryz.func16 rfl Tryz.ntmps16 rfl ?_; intro w0)
  repeat (refine s16_L10e ?_; intros)
  (refine JO.eff rfl rfl rfl (JEff.buildS (bt := 8) (rep := rI64) (ys := [(0 : Int), 1, -1]) rfl rfl (⟨⟨V_num, nna⟩, ⟨V_num, nna⟩, ⟨V_num, nna⟩, trivial⟩) rfl rfl rfl (by decide) rfl ?_); intro S2 a2 hl2 hV2)
  have hcl5 : ∀ S, rClause.V S (clV ⟨1, 0, 0, 5⟩) ⟨1, 0, 0, 5⟩ := fun S => V_clV (by simp [Rng])
  have hcl0 : ∀ S, rClause.V S (clV noC) noC := fun S => V_clV noC_rng
  repeat (refine s16_L10e ?_; intros)
  refine JC.partF0 (σ := Addr) [(1, _), (2, _)] (fun q => [(4, .pointer (some q)), (5, .int .i64 100)]) (fun SA q => PtrTo SA q rClause ⟨1, 0, 0, 5⟩) ?_ (by exact sba) ?_; rotate_left; rintro SA kp hlA hiA; (try dsimp only at hiA); dsimp only [List.cons_append, List.nil_append]; rotate_left
  · refine JC.drawTree 3 rfl [9, 11] [0, 1] (.alt (ofL [2] (.alt (ofL [3, 4, 5, 6, 7, 8, 9, 10, 11] .nil) (ofL [8, 3, 4, 5, 6, 7, 9, 10, 11] .nil))) (ofL [8, 2, 3, 4, 5, 6, 7, 9, 10, 11] .nil)) Tryz_mixed (by decide +kernel) ?_
    repeat (refine s16_L10e ?_; intros)
    refine JO.alt ?_ ?_
    · repeat (refine s16_L10e ?_; intros)
      refine JO.alt ?_ ?_
      all_goals
        repeat (first | (refine Walk ?_; intros) | refine JC.block ?_ | refine JC.drawN 5 rfl [0, 1, 2, 3, 4, 5, 6, 7, 8, 9, 10, 11, 12, 13, 14] [8, 9, 10, 11, 12, 13, 14] Tryz_mixed (by decide +kernel) ?_ | (refine JO.eff rfl rfl rfl (JEff.callSt rfl (w10_Step f10_1 (by exact vta) (by exact vta) (V_stV (by simp [Rng]))) rfl ?_); intro _ _ _ _ _ _ _) | (refine JO.eff rfl rfl rfl (JEff.callR rfl (q10_chapter) rfl ?_); intro _ _ _ _) | (refine JO.eff rfl rfl rfl (JEff.callV rfl (q10_on _ _ (by unfold Rng; omega) (by unfold Rng; omega)) rfl ?_); intro _ _) | (refine JO.eff rfl rfl rfl (JEff.callV rfl (q10_off _ (by unfold Rng; omega)) rfl ?_); intro _ _) | (refine JO.eff rfl rfl rfl (JEff.callV rfl (r0_EqInts (by exact vta) (by exact vta)) rfl ?_); intro _ _) | (refine JO.eff rfl rfl rfl (JEff.callV rfl (p10_May (by exact vta) (by exact vta) (by exact vta)) rfl ?_); intro _ _) | (refine JO.eff rfl rfl rfl (JEff.callL rfl (p10_Ways _ (by exact vta) (by exact vta) (by first | assumption | omega) (by first | assumption | (unfold Rng; omega))) rfl ?_); intro _ _ _ _ _ _) | (refine WNew ?_; intros) | (refine WPut ?_; intros))
        exact JX.partF ((_)) (by exact lea) (by exact pta) rfl (by exact sba) (by exact sba)
    · repeat (first | (refine Walk ?_; intros) | refine JC.block ?_ | refine JC.drawN 5 rfl [0, 1, 2, 3, 4, 5, 6, 7, 8, 9, 10, 11, 12, 13, 14] [8, 9, 10, 11, 12, 13, 14] Tryz_mixed (by decide +kernel) ?_ | (refine JO.eff rfl rfl rfl (JEff.callSt rfl (w10_Step f10_1 (by exact vta) (by exact vta) (V_stV (by simp [Rng]))) rfl ?_); intro _ _ _ _ _ _ _) | (refine JO.eff rfl rfl rfl (JEff.callR rfl (q10_chapter) rfl ?_); intro _ _ _ _) | (refine JO.eff rfl rfl rfl (JEff.callV rfl (q10_on _ _ (by unfold Rng; omega) (by unfold Rng; omega)) rfl ?_); intro _ _) | (refine JO.eff rfl rfl rfl (JEff.callV rfl (q10_off _ (by unfold Rng; omega)) rfl ?_); intro _ _) | (refine JO.eff rfl rfl rfl (JEff.callV rfl (r0_EqInts (by exact vta) (by exact vta)) rfl ?_); intro _ _) | (refine JO.eff rfl rfl rfl (JEff.callV rfl (p10_May (by exact vta) (by exact vta) (by exact vta)) rfl ?_); intro _ _) | (refine JO.eff rfl rfl rfl (JEff.callL rfl (p10_Ways _ (by exact vta) (by exact vta) (by first | assumption | omega) (by first | assumption | (unfold Rng; omega))) rfl ?_); intro _ _ _ _ _ _) | (refine WNew ?_; intros) | (refine WPut ?_; intros))
      exact JX.partF ((_)) (by exact lea) (by exact pta) rfl (by exact sba) (by exact sba)
  repeat (refine s16_L10e ?_; intros)
  refine JC.partF0 (σ := Option Addr × Nat) [(1, _), (2, _), (4, _), (5, _)] (fun q => [(6, .slice q.1 3 q.2), (8, .int .i64 0)]) (fun SB q => (rSlice 8 rI64).V SB (.slice q.1 3 q.2) [0, 1, 2]) ?_ (by exact sba) ?_; rotate_left; rintro SB ⟨ra, rc⟩ hlB hiB; (try dsimp only at hiB); dsimp only [List.cons_append, List.nil_append]; rotate_left
  · refine JC.drawTree 4 rfl [9, 11] [0, 1] (.alt (ofL [2] (.alt (ofL [3, 4, 5, 6, 7, 8, 9, 10, 11] .nil) (ofL [8, 3, 4, 5, 6, 7, 9, 10, 11] .nil))) (ofL [8, 2, 3, 4, 5, 6, 7, 9, 10, 11] .nil)) Tryz_mixed (by decide +kernel) ?_
    repeat (refine s16_L10e ?_; intros)
    refine JO.alt ?_ ?_
    · repeat (refine s16_L10e ?_; intros)
      refine JO.alt ?_ ?_
      all_goals
        repeat (first | (refine Walk ?_; intros) | refine JC.block ?_ | refine JC.drawN 5 rfl [0, 1, 2, 3, 4, 5, 6, 7, 8, 9, 10, 11, 12, 13, 14] [8, 9, 10, 11, 12, 13, 14] Tryz_mixed (by decide +kernel) ?_ | (refine JO.eff rfl rfl rfl (JEff.callSt rfl (w10_Step f10_2 (by exact vta) (by exact vta) (V_stV (by simp [Rng]))) rfl ?_); intro _ _ _ _ _ _ _) | (refine JO.eff rfl rfl rfl (JEff.callR rfl (q10_chapter) rfl ?_); intro _ _ _ _) | (refine JO.eff rfl rfl rfl (JEff.callV rfl (q10_on _ _ (by unfold Rng; omega) (by unfold Rng; omega)) rfl ?_); intro _ _) | (refine JO.eff rfl rfl rfl (JEff.callV rfl (q10_off _ (by unfold Rng; omega)) rfl ?_); intro _ _) | (refine JO.eff rfl rfl rfl (JEff.callV rfl (r0_EqInts (by exact vta) (by exact vta)) rfl ?_); intro _ _) | (refine JO.eff rfl rfl rfl (JEff.callV rfl (p10_May (by exact vta) (by exact vta) (by exact vta)) rfl ?_); intro _ _) | (refine JO.eff rfl rfl rfl (JEff.callL rfl (p10_Ways _ (by exact vta) (by exact vta) (by first | assumption | omega) (by first | assumption | (unfold Rng; omega))) rfl ?_); intro _ _ _ _ _ _) | (refine WNew ?_; intros) | (refine WPut ?_; intros))
        exact JX.partF ((_, _)) (by exact lea) (by exact vta) rfl (by exact sba) (by exact sba)
    · repeat (first | (refine Walk ?_; intros) | refine JC.block ?_ | refine JC.drawN 5 rfl [0, 1, 2, 3, 4, 5, 6, 7, 8, 9, 10, 11, 12, 13, 14] [8, 9, 10, 11, 12, 13, 14] Tryz_mixed (by decide +kernel) ?_ | (refine JO.eff rfl rfl rfl (JEff.callSt rfl (w10_Step f10_2 (by exact vta) (by exact vta) (V_stV (by simp [Rng]))) rfl ?_); intro _ _ _ _ _ _ _) | (refine JO.eff rfl rfl rfl (JEff.callR rfl (q10_chapter) rfl ?_); intro _ _ _ _) | (refine JO.eff rfl rfl rfl (JEff.callV rfl (q10_on _ _ (by unfold Rng; omega) (by unfold Rng; omega)) rfl ?_); intro _ _) | (refine JO.eff rfl rfl rfl (JEff.callV rfl (q10_off _ (by unfold Rng; omega)) rfl ?_); intro _ _) | (refine JO.eff rfl rfl rfl (JEff.callV rfl (r0_EqInts (by exact vta) (by exact vta)) rfl ?_); intro _ _) | (refine JO.eff rfl rfl rfl (JEff.callV rfl (p10_May (by exact vta) (by exact vta) (by exact vta)) rfl ?_); intro _ _) | (refine JO.eff rfl rfl rfl (JEff.callL rfl (p10_Ways _ (by exact vta) (by exact vta) (by first | assumption | omega) (by first | assumption | (unfold Rng; omega))) rfl ?_); intro _ _ _ _ _ _) | (refine WNew ?_; intros) | (refine WPut ?_; intros))
      exact JX.partF ((_, _)) (by exact lea) (by exact vta) rfl (by exact sba) (by exact sba)
  repeat (refine s16_L10e ?_; intros)
  (refine JO.eff rfl rfl rfl (JEff.buildS (bt := 24) (rep := rStep) (ys := [(⟨1, 0, 0⟩ : Step), ⟨2, 2, 0⟩, ⟨1, 1, 0⟩, ⟨1, 2, 0⟩]) rfl rfl (⟨⟨V_stV (by simp [Rng]), nna⟩, ⟨V_stV (by simp [Rng]), nna⟩, ⟨V_stV (by simp [Rng]), nna⟩, ⟨V_stV (by simp [Rng]), nna⟩, trivial⟩) rfl rfl rfl (by decide) rfl ?_); intro S7 a7 hl7 hV7)
  repeat (first | (refine Walk ?_; intros) | refine JC.block ?_ | refine JC.drawN 5 rfl [0, 1, 2, 3, 4, 5, 6, 7, 8, 9, 10, 11, 12, 13, 14] [8, 9, 10, 11, 12, 13, 14] Tryz_mixed (by decide +kernel) ?_ | (refine JO.eff rfl rfl rfl (JEff.callLs rfl (w10_Run f10_3 (by exact vta) (by exact vta) hV7) rfl ?_); intro _ _ _ _ _ _) | (refine JO.eff rfl rfl rfl (JEff.callR rfl (q10_chapter) rfl ?_); intro _ _ _ _) | (refine JO.eff rfl rfl rfl (JEff.callV rfl (q10_on _ _ (by unfold Rng; omega) (by unfold Rng; omega)) rfl ?_); intro _ _) | (refine JO.eff rfl rfl rfl (JEff.callV rfl (q10_off _ (by unfold Rng; omega)) rfl ?_); intro _ _) | (refine JO.eff rfl rfl rfl (JEff.callV rfl (r0_EqInts (by exact vta) (by exact vta)) rfl ?_); intro _ _) | (refine JO.eff rfl rfl rfl (JEff.callV rfl (p10_May (by exact vta) (by exact vta) (by exact vta)) rfl ?_); intro _ _) | (refine JO.eff rfl rfl rfl (JEff.callL rfl (p10_Ways _ (by exact vta) (by exact vta) (by first | assumption | omega) (by first | assumption | (unfold Rng; omega))) rfl ?_); intro _ _ _ _ _ _) | (refine WNew ?_; intros) | (refine WPut ?_; intros))
  refine JC.drawTree 6 rfl [0, 1, 2, 3, 4, 5, 6, 7, 11, 12, 13, 14, 15, 16, 22, 23, 24, 25, 27, 28, 29, 30, 35, 36, 37, 38, 39, 40, 41, 42, 43, 44, 45, 46, 47, 48, 49] [0, 1, 2, 3, 4, 5, 6, 7, 8, 9, 10, 11, 12, 13, 14, 15, 16, 17, 18] (.alt (ofL [19, 20, 21, 22, 23, 24, 25, 26, 27, 28, 29, 30, 31, 32, 33, 34, 35, 36, 37, 38, 39, 40, 41, 42, 43, 44, 45, 46, 47, 48, 49] .nil) (ofL [20, 19, 21, 22, 23, 24, 25, 26, 27, 28, 29, 30, 31, 32, 33, 34, 35, 36, 37, 38, 39, 40, 41, 42, 43, 44, 45, 46, 47, 48, 49] .nil)) Tryz_mixed (by decide +kernel) ?_
  repeat (first | (refine Walk ?_; intros) | refine JC.block ?_ | refine JC.drawN 5 rfl [0, 1, 2, 3, 4, 5, 6, 7, 8, 9, 10, 11, 12, 13, 14] [8, 9, 10, 11, 12, 13, 14] Tryz_mixed (by decide +kernel) ?_ | refine JO.pure rfl rfl rfl (JPure.eqR rfl vta rfl V_cl rfl rfl ?_) | (refine JO.eff rfl rfl rfl (JEff.callR rfl (q10_chapter) rfl ?_); intro _ _ _ _) | (refine JO.eff rfl rfl rfl (JEff.callV rfl (q10_on _ _ (by unfold Rng; omega) (by unfold Rng; omega)) rfl ?_); intro _ _) | (refine JO.eff rfl rfl rfl (JEff.callV rfl (q10_off _ (by unfold Rng; omega)) rfl ?_); intro _ _) | (refine JO.eff rfl rfl rfl (JEff.callV rfl (r0_EqInts (by exact vta) (by exact vta)) rfl ?_); intro _ _) | (refine JO.eff rfl rfl rfl (JEff.callV rfl (p10_May (by exact vta) (by exact vta) (by exact vta)) rfl ?_); intro _ _) | (refine JO.eff rfl rfl rfl (JEff.callL rfl (p10_Ways _ (by exact vta) (by exact vta) (by first | assumption | omega) (by first | assumption | (unfold Rng; omega))) rfl ?_); intro _ _ _ _ _ _) | (refine WNew ?_; intros) | (refine WPut ?_; intros))
  (refine JO.eff rfl rfl rfl (JEff.buildS (bt := 8) (rep := rI64) (ys := [(0 : Int), 1, 2]) rfl rfl (⟨⟨V_num, nna⟩, ⟨V_num, nna⟩, ⟨V_num, nna⟩, trivial⟩) rfl rfl rfl (by decide) rfl ?_); intro S8 a8 hl8 hV8)
  repeat (first | (refine Walk ?_; intros) | refine JC.block ?_ | refine JC.drawN 5 rfl [0, 1, 2, 3, 4, 5, 6, 7, 8, 9, 10, 11, 12, 13, 14] [8, 9, 10, 11, 12, 13, 14] Tryz_mixed (by decide +kernel) ?_ | (refine JO.eff rfl rfl rfl (JEff.callV rfl (w_EqInts (by exact vta) (by exact vta)) rfl ?_); intro _ _) | (refine JO.eff rfl rfl rfl (JEff.callR rfl (q10_chapter) rfl ?_); intro _ _ _ _) | (refine JO.eff rfl rfl rfl (JEff.callV rfl (q10_on _ _ (by unfold Rng; omega) (by unfold Rng; omega)) rfl ?_); intro _ _) | (refine JO.eff rfl rfl rfl (JEff.callV rfl (q10_off _ (by unfold Rng; omega)) rfl ?_); intro _ _) | (refine JO.eff rfl rfl rfl (JEff.callV rfl (r0_EqInts (by exact vta) (by exact vta)) rfl ?_); intro _ _) | (refine JO.eff rfl rfl rfl (JEff.callV rfl (p10_May (by exact vta) (by exact vta) (by exact vta)) rfl ?_); intro _ _) | (refine JO.eff rfl rfl rfl (JEff.callL rfl (p10_Ways _ (by exact vta) (by exact vta) (by first | assumption | omega) (by first | assumption | (unfold Rng; omega))) rfl ?_); intro _ _ _ _ _ _) | (refine WNew ?_; intros) | (refine WPut ?_; intros))
  refine JO.alt ?_ ?_
  · repeat (first | (refine Walk ?_; intros) | refine JC.block ?_ | refine JC.drawN 5 rfl [0, 1, 2, 3, 4, 5, 6, 7, 8, 9, 10, 11, 12, 13, 14] [8, 9, 10, 11, 12, 13, 14] Tryz_mixed (by decide +kernel) ?_ | (refine JO.eff rfl rfl rfl (JEff.callL rfl (w10_Ways f10_4 (by decide) (by simp [Rng]) (by exact vta) (by exact vta)) rfl ?_); intro _ _ _ _ _ _) | (refine JO.eff rfl rfl rfl (JEff.callR rfl (q10_chapter) rfl ?_); intro _ _ _ _) | (refine JO.eff rfl rfl rfl (JEff.callV rfl (q10_on _ _ (by unfold Rng; omega) (by unfold Rng; omega)) rfl ?_); intro _ _) | (refine JO.eff rfl rfl rfl (JEff.callV rfl (q10_off _ (by unfold Rng; omega)) rfl ?_); intro _ _) | (refine JO.eff rfl rfl rfl (JEff.callV rfl (r0_EqInts (by exact vta) (by exact vta)) rfl ?_); intro _ _) | (refine JO.eff rfl rfl rfl (JEff.callV rfl (p10_May (by exact vta) (by exact vta) (by exact vta)) rfl ?_); intro _ _) | (refine JO.eff rfl rfl rfl (JEff.callL rfl (p10_Ways _ (by exact vta) (by exact vta) (by first | assumption | omega) (by first | assumption | (unfold Rng; omega))) rfl ?_); intro _ _ _ _ _ _) | (refine WNew ?_; intros) | (refine WPut ?_; intros))
    (refine JO.eff rfl rfl rfl (JEff.buildS (bt := 8) (rep := rI64) (ys := [(2 : Int)]) rfl rfl (⟨⟨V_num, nna⟩, trivial⟩) rfl rfl rfl (by decide) rfl ?_); intro S9 a9 hl9 hV9)
    repeat (first | (refine Walk ?_; intros) | refine JC.block ?_ | refine JC.drawN 5 rfl [0, 1, 2, 3, 4, 5, 6, 7, 8, 9, 10, 11, 12, 13, 14] [8, 9, 10, 11, 12, 13, 14] Tryz_mixed (by decide +kernel) ?_ | (refine JO.eff rfl rfl rfl (JEff.callV rfl (w_EqInts (by exact vta) (by exact vta)) rfl ?_); intro _ _) | (refine JO.eff rfl rfl rfl (JEff.callL rfl (w10_Ways f10_5 (by decide) (by simp [Rng]) (by exact vta) (by exact vta)) rfl ?_); intro _ _ _ _ _ _) | (refine JO.eff rfl rfl rfl (JEff.callV rfl (w10_May f10_6 (by exact vta) (by exact vta) (V_stV (by simp [Rng]))) rfl ?_); intro _ _) | (refine JO.eff rfl rfl rfl (JEff.callR rfl (q10_chapter) rfl ?_); intro _ _ _ _) | (refine JO.eff rfl rfl rfl (JEff.callV rfl (q10_on _ _ (by unfold Rng; omega) (by unfold Rng; omega)) rfl ?_); intro _ _) | (refine JO.eff rfl rfl rfl (JEff.callV rfl (q10_off _ (by unfold Rng; omega)) rfl ?_); intro _ _) | (refine JO.eff rfl rfl rfl (JEff.callV rfl (r0_EqInts (by exact vta) (by exact vta)) rfl ?_); intro _ _) | (refine JO.eff rfl rfl rfl (JEff.callV rfl (p10_May (by exact vta) (by exact vta) (by exact vta)) rfl ?_); intro _ _) | (refine JO.eff rfl rfl rfl (JEff.callL rfl (p10_Ways _ (by exact vta) (by exact vta) (by first | assumption | omega) (by first | assumption | (unfold Rng; omega))) rfl ?_); intro _ _ _ _ _ _) | (refine WNew ?_; intros) | (refine WPut ?_; intros))
    (refine JX.ret1 Tryz.results16 (ResV.tmp rfl) (List.nil_sublist _) ?_)
    exact ⟨rfl, rfl⟩
  · (refine JO.eff rfl rfl rfl (JEff.buildS (bt := 8) (rep := rI64) (ys := [(2 : Int)]) rfl rfl (⟨⟨V_num, nna⟩, trivial⟩) rfl rfl rfl (by decide) rfl ?_); intro S9 a9 hl9 hV9)
    repeat (first | (refine Walk ?_; intros) | refine JC.block ?_ | refine JC.drawN 5 rfl [0, 1, 2, 3, 4, 5, 6, 7, 8, 9, 10, 11, 12, 13, 14] [8, 9, 10, 11, 12, 13, 14] Tryz_mixed (by decide +kernel) ?_ | (refine JO.eff rfl rfl rfl (JEff.callL rfl (w10_Ways f10_4 (by decide) (by simp [Rng]) (by exact vta) (by exact vta)) rfl ?_); intro _ _ _ _ _ _) | (refine JO.eff rfl rfl rfl (JEff.callR rfl (q10_chapter) rfl ?_); intro _ _ _ _) | (refine JO.eff rfl rfl rfl (JEff.callV rfl (q10_on _ _ (by unfold Rng; omega) (by unfold Rng; omega)) rfl ?_); intro _ _) | (refine JO.eff rfl rfl rfl (JEff.callV rfl (q10_off _ (by unfold Rng; omega)) rfl ?_); intro _ _) | (refine JO.eff rfl rfl rfl (JEff.callV rfl (r0_EqInts (by exact vta) (by exact vta)) rfl ?_); intro _ _) | (refine JO.eff rfl rfl rfl (JEff.callV rfl (p10_May (by exact vta) (by exact vta) (by exact vta)) rfl ?_); intro _ _) | (refine JO.eff rfl rfl rfl (JEff.callL rfl (p10_Ways _ (by exact vta) (by exact vta) (by first | assumption | omega) (by first | assumption | (unfold Rng; omega))) rfl ?_); intro _ _ _ _ _ _) | (refine WNew ?_; intros) | (refine WPut ?_; intros))
    repeat (first | (refine Walk ?_; intros) | refine JC.block ?_ | refine JC.drawN 5 rfl [0, 1, 2, 3, 4, 5, 6, 7, 8, 9, 10, 11, 12, 13, 14] [8, 9, 10, 11, 12, 13, 14] Tryz_mixed (by decide +kernel) ?_ | (refine JO.eff rfl rfl rfl (JEff.callV rfl (w_EqInts (by exact vta) (by exact vta)) rfl ?_); intro _ _) | (refine JO.eff rfl rfl rfl (JEff.callL rfl (w10_Ways f10_5 (by decide) (by simp [Rng]) (by exact vta) (by exact vta)) rfl ?_); intro _ _ _ _ _ _) | (refine JO.eff rfl rfl rfl (JEff.callV rfl (w10_May f10_6 (by exact vta) (by exact vta) (V_stV (by simp [Rng]))) rfl ?_); intro _ _) | (refine JO.eff rfl rfl rfl (JEff.callR rfl (q10_chapter) rfl ?_); intro _ _ _ _) | (refine JO.eff rfl rfl rfl (JEff.callV rfl (q10_on _ _ (by unfold Rng; omega) (by unfold Rng; omega)) rfl ?_); intro _ _) | (refine JO.eff rfl rfl rfl (JEff.callV rfl (q10_off _ (by unfold Rng; omega)) rfl ?_); intro _ _) | (refine JO.eff rfl rfl rfl (JEff.callV rfl (r0_EqInts (by exact vta) (by exact vta)) rfl ?_); intro _ _) | (refine JO.eff rfl rfl rfl (JEff.callV rfl (p10_May (by exact vta) (by exact vta) (by exact vta)) rfl ?_); intro _ _) | (refine JO.eff rfl rfl rfl (JEff.callL rfl (p10_Ways _ (by exact vta) (by exact vta) (by first | assumption | omega) (by first | assumption | (unfold Rng; omega))) rfl ?_); intro _ _ _ _ _ _) | (refine WNew ?_; intros) | (refine WPut ?_; intros))
    (refine JX.ret1 Tryz.results16 (ResV.tmp rfl) (List.nil_sublist _) ?_)
    exact ⟨rfl, rfl⟩
end Go.Dr
namespace Go.Dr
section
variable {s : Snap} {p : List Int} (hp : ∀ x ∈ p, x = -1)
include hp
end
end Go.Dr
namespace Go.Dr
end Go.Dr
namespace Go.Dr
theorem zip_set_sub (n : Int) (hn : 0 ≤ n) : ∀ (p : List Int) (pods : List Pod) (i : Nat),
    (((p.set i (-1)).zip pods).filter (fun x => decide (x.1 = n))).map (fun x => x.2) |>.Sublist (((p.zip pods).filter (fun x => decide (x.1 = n))).map (fun x => x.2))
  | [], pods, i => by simp
  | x :: p, [], i => by cases i <;> simp
  | x :: p, y :: pods, 0 => by
    simp only [List.set_cons_zero, List.zip_cons_cons, List.filter_cons]
    rw [if_neg (by simp; omega)]
    split
    · exact List.sublist_cons_self _ _
    · exact List.Sublist.refl _
  | x :: p, y :: pods, i + 1 => by
    have ih := zip_set_sub n hn p pods i
    simp only [List.set_cons_succ, List.zip_cons_cons, List.filter_cons]
    split
    · exact List.Sublist.cons_cons _ ih
    · exact ih
theorem onN_set {s : Snap} {p : List Int} {i n : Nat} : (onN s (p.set i (-1)) n).Sublist (onN s p n) := zip_set_sub n (by omega) p s.pods i
theorem sum_sub {a b : List Int} (h : a.Sublist b) (hb : ∀ x ∈ b, 0 ≤ x) : a.sum ≤ b.sum := by
  induction h with
  | slnil => simp
  | cons x _ ih =>
    have := ih (fun y hy => hb y (by simp [hy]))
    have := hb x (by simp)
    simp only [List.sum_cons]; omega
  | cons_cons x _ ih =>
    have := ih (fun y hy => hb y (by simp [hy]))
    simp only [List.sum_cons]; omega
theorem shaped_req {s : Snap} (h : shapedB s = true) : ∀ x ∈ s.pods, ∀ z ∈ x.req, 0 ≤ z := by
  intro x hx
  unfold shapedB at h
  simp only [Bool.and_eq_true, List.all_eq_true] at h
  have h1 := h.2.1.2 x hx
  unfold podB at h1
  simp only [Bool.and_eq_true] at h1
  exact fun z hz => (check_vec h1.1.1.2.1.1.1 z hz).1
theorem used_set {s : Snap} {p : List Int} (hs : checkS s = 0) (i n k : Nat) (hk : k < 5) : at0 (usedV s (p.set i (-1)) n) k ≤ at0 (usedV s p n) k := by
  have hsh := (checkS_ok hs).1
  have e : ∀ q : List Int, at0 (usedV s q n) k = ((onN s q n).map (fun x => at0 x.req k)).sum := by
    intro q
    unfold usedV at0
    rw [List.getD_eq_getElem?_getD, List.getElem?_map, List.getElem?_range hk]
    rfl
  rw [e, e]
  refine sum_sub (onN_set.map _) fun z hz => ?_
  obtain ⟨x, hx, rfl⟩ := List.mem_map.1 hz
  obtain ⟨w, hw, rfl⟩ := List.mem_map.1 hx
  have hxp : w.2 ∈ s.pods := (List.of_mem_zip (List.mem_filter.1 hw).1).2
  unfold at0
  rw [List.getD_eq_getElem?_getD]
  cases h : w.2.req[k]? with
  | none => simp
  | some y => exact shaped_req hsh _ hxp y (List.mem_of_getElem? h)
theorem cntI_le {n : Nat} {f g : Nat → Bool} (h : ∀ j, j < n → f j = true → g j = true) : cntI n f ≤ cntI n g := by
  induction n with
  | zero => simp [cntI]
  | succ n ih =>
    have := ih (fun j hj => h j (by omega))
    rw [cntI_step, cntI_step]
    have h1 := h n (by omega)
    cases hf : f n with
    | false => rw [if_neg (by simp)]; split <;> omega
    | true => rw [if_pos rfl, if_pos (h1 hf)]; omega
theorem set_get {p : List Int} {i j : Nat} {n : Int} (h : (p.set i (-1))[j]? = some n) (hn : 0 ≤ n) : p[j]? = some n ∧ j ≠ i := by
  rw [List.getElem?_set] at h
  split at h
  · split at h
    · cases h; omega
    · cases h
  · rename_i hne
    exact ⟨h, fun e => hne e.symm⟩
theorem about_set {s : Snap} {p : List Int} {i a : Nat} (x : Near) (b : Bool) : about8 s (p.set i (-1)) a x b ≤ about8 s p a x b ∨ ∀ m, (p.set i (-1))[a]? = some m → m < 0 := by
  by_cases h : ∃ m, (p.set i (-1))[a]? = some m ∧ 0 ≤ m
  · left
    obtain ⟨m, hm, hm0⟩ := h
    have hpa := (set_get hm hm0).1
    unfold about8
    rw [List.length_set]
    refine cntI_le fun j _ hj => ?_
    unfold aboutF at hj ⊢
    rw [hm] at hj
    rw [hpa]
    cases hq : (p.set i (-1))[j]? with
    | none => rw [hq] at hj; simp at hj
    | some n =>
      rw [hq] at hj
      cases hpod : s.pods[j]? with
      | none => rw [hpod] at hj; simp at hj
      | some y =>
        rw [hpod] at hj
        simp only at hj
        have hn : 0 ≤ n := by simp only [Bool.and_eq_true, decide_eq_true_eq] at hj; exact hj.1.1.1
        rw [(set_get hq hn).1]
        exact hj
  · right
    intro m hm
    by_cases h0 : 0 ≤ m
    · exact absurd ⟨m, hm, h0⟩ h
    · omega
theorem double_set {s : Snap} {p : List Int} {i a : Nat} {m : Int} (hm : (p.set i (-1))[a]? = some m) (hm0 : 0 ≤ m) : double8 s (p.set i (-1)) a ≤ double8 s p a := by
  have hpa := (set_get hm hm0).1
  unfold double8
  rw [List.length_set]
  refine cntI_le fun j _ hj => ?_
  unfold doubleF at hj ⊢
  rw [hm] at hj
  rw [hpa]
  cases hq : (p.set i (-1))[j]? with
  | none => rw [hq] at hj; simp at hj
  | some n =>
    rw [hq] at hj
    cases hpod : s.pods[j]? with
    | none => rw [hpod] at hj; simp at hj
    | some y =>
      rw [hpod] at hj
      cases hpa2 : s.pods[a]? with
      | none => rw [hpa2] at hj; simp at hj
      | some r =>
        rw [hpa2] at hj
        simp only at hj
        have hn : n = m := by simp only [Bool.and_eq_true, decide_eq_true_eq] at hj; exact hj.1.2
        rw [(set_get hq (by omega)).1]
        exact hj
theorem of8_set {s : Snap} {p : List Int} {i a : Nat} {kind : Int} (h : (of8 s (p.set i (-1)) kind a).2 = true) : (of8 s p kind a).2 = true ∧ (kind ≠ 4 → (of8 s (p.set i (-1)) kind a).1 ≤ (of8 s p kind a).1) := by
  cases hm : (p.set i (-1))[a]? with
  | none => unfold of8 at h; rw [hm] at h; simp at h
  | some m =>
    by_cases hm0 : 0 ≤ m
    · have hpa := (set_get hm hm0).1
      have hab := fun x b => (about_set (s := s) (p := p) (i := i) (a := a) x b).resolve_right (fun hh => absurd (hh m hm) (by omega))
      have hdb := double_set (s := s) hm hm0
      unfold of8 at h ⊢
      rw [hm] at h ⊢
      rw [hpa]
      cases hx : s.pods[a]? with
      | none => rw [hx] at h; simp at h
      | some x =>
        rw [hx] at h
        simp only at h ⊢
        rw [if_neg (by omega)] at h
        rw [if_neg (show ¬ m < 0 by omega), if_neg (show ¬ m < 0 by omega)]
        cases hnd : s.nodes[m.toNat]? with
        | none => rw [hnd] at h; simp at h
        | some nd =>
          rw [hnd] at h
          simp only at h ⊢
          by_cases k2 : kind = 2
          · simp only [if_pos k2] at h ⊢; exact ⟨trivial, fun _ => Int.le_refl _⟩
          simp only [if_neg k2] at h ⊢
          by_cases k3 : kind = 3
          · simp only [if_pos k3] at h ⊢; exact ⟨trivial, fun _ => Int.le_refl _⟩
          simp only [if_neg k3] at h ⊢
          by_cases k4 : kind = 4
          · simp only [if_pos k4] at h ⊢
            split
            · rename_i h5; rw [if_pos h5] at h; simp at h
            · exact ⟨rfl, fun hh => absurd k4 hh⟩
          simp only [if_neg k4] at h ⊢
          by_cases k5 : kind = 5
          · simp only [if_pos k5] at h ⊢
            split
            · rename_i h5; rw [if_pos h5] at h; simp at h
            · exact ⟨rfl, fun _ => hab _ _⟩
          simp only [if_neg k5] at h ⊢
          split
          · rename_i h5; rw [if_pos h5] at h; simp at h
          · rename_i h5
            rw [if_neg h5] at h
            split
            · rename_i h6; rw [if_pos h6] at h; simp at h
            · exact ⟨rfl, fun _ => hdb⟩
    · unfold of8 at h
      rw [hm] at h
      cases hx : s.pods[a]? with
      | none => rw [hx] at h; simp at h
      | some x =>
        rw [hx] at h
        simp only at h
        rw [if_pos (by omega)] at h
        simp at h
theorem find_named {L : List Clause} (h : L.Pairwise (fun c d => nameC c ≠ nameC d)) {c d : Clause} (hd : d ∈ L) (hn : nameC d = nameC c) : findC L c = d.by_ := by
  have hf := find_self h hd
  simp only [nameC, Prod.mk.injEq] at hn
  unfold findC
  rw [← hn.1, ← hn.2.1, ← hn.2.2, hf]
theorem off_by {s : Snap} {p : List Int} {i : Nat} (hok : checkP s p = 0) {c : Clause} (hc : c ∈ allL s (p.set i (-1))) (h4 : c.kind ≠ 4) (h7 : c.kind ≠ 7) (h8 : c.kind ≠ 8) : c.by_ ≤ findC (allL s p) c := by
  have hq := checkP_set (i := i) hok (odd_none s)
  have hnm := allL_names s p
  have hal : allL s p = allC s p := by unfold allL; rw [if_pos hok]
  unfold allL at hc
  rw [if_pos hq] at hc
  unfold allC at hc
  simp only [List.mem_append] at hc
  rcases hc with ((hc | hc) | hc) | hc
  · obtain ⟨n, k, hn, hk, rfl⟩ := mem_caps hc
    have hm : capN s p n k ∈ allL s p := by
      rw [hal]
      unfold allC capsC capTo
      simp only [List.mem_append, List.range_zero, List.map_nil, List.append_nil]
      exact .inl (.inl (.inl (List.mem_flatMap.2 ⟨n, by simpa using hn, List.mem_map.2 ⟨k, by simpa using hk, rfl⟩⟩)))
    refine Int.le_trans ?_ (Int.le_of_eq (find_named hnm hm rfl).symm)
    have := used_set (checkP_ok hok).1 (p := p) i n k hk
    simp only [capN]; omega
  · obtain ⟨t, a, ht, ha, rfl, h⟩ := mem_kinds hc
    obtain ⟨g1, g2⟩ := of8_set h
    rw [List.length_set] at ha
    have hm : (⟨(t : Int) + 2, a, 0, (of8 s p ((t : Int) + 2) a).1⟩ : Clause) ∈ allL s p := by
      rw [hal]
      unfold allC
      simp only [List.mem_append]
      refine .inl (.inl (.inr ?_))
      unfold kindsTo podsTo
      refine List.mem_flatMap.2 ⟨t, by simpa using ht, List.mem_flatMap.2 ⟨a, by simpa using ha, ?_⟩⟩
      unfold podC1
      rw [if_pos g1]; simp
    refine Int.le_trans ?_ (Int.le_of_eq (find_named hnm hm rfl).symm)
    exact g2 h4
  · obtain ⟨o, _, rfl, _⟩ := mem_spread hc
    exact absurd rfl h7
  · obtain ⟨o, _, rfl⟩ := mem_min hc
    exact absurd rfl h8
end Go.Dr
namespace Go.Dr
theorem zip_set_same {f : Int × Pod → Bool} : ∀ (p : List Int) (pods : List Pod) (i : Nat) (v : Int), (∀ x y, p[i]? = some x → pods[i]? = some y → f (x, y) = false ∧ f (v, y) = false) →
    ((p.set i v).zip pods).filter f = (p.zip pods).filter f
  | [], pods, i, v, _ => by simp
  | x :: p, [], i, v, _ => by cases i <;> simp
  | x :: p, y :: pods, 0, v, h => by
    obtain ⟨h1, h2⟩ := h x y rfl rfl
    simp only [List.set_cons_zero, List.zip_cons_cons, List.filter_cons, h1, h2]
    simp
  | x :: p, y :: pods, i + 1, v, h => by
    have ih := zip_set_same p pods i v (fun a b ha hb => h a b (by simpa using ha) (by simpa using hb))
    simp only [List.set_cons_succ, List.zip_cons_cons, List.filter_cons, ih]
theorem onN_same {s : Snap} {p : List Int} {i : Nat} {v n : Int} (h1 : ∀ x, p[i]? = some x → x ≠ n) (h2 : v ≠ n) : onN s (p.set i v) n = onN s p n := by
  unfold onN
  rw [zip_set_same]
  intro x y hx _
  exact ⟨by simpa using h1 x hx, by simpa using h2⟩
theorem owned_same {s : Snap} {p : List Int} {i o : Nat} {v : Int} (h : ∀ y, s.pods[i]? = some y → y.owner ≠ ownName s o) : ownedL s (p.set i v) o = ownedL s p o := by
  unfold ownedL
  rw [zip_set_same]
  intro x y _ hy
  have := h y hy
  exact ⟨by simp [this], by simp [this]⟩
theorem used_same {s : Snap} {p : List Int} {i : Nat} {v n : Int} (h1 : ∀ x, p[i]? = some x → x ≠ n) (h2 : v ≠ n) : usedV s (p.set i v) n = usedV s p n := by
  unfold usedV; rw [onN_same h1 h2]
theorem placed_same {s : Snap} {p : List Int} {i o : Nat} {v : Int} (h : ∀ y, s.pods[i]? = some y → y.owner ≠ ownName s o) : placedN s (p.set i v) o = placedN s p o := by
  unfold placedN; rw [owned_same h]
theorem counts_same {s : Snap} {p : List Int} {i o : Nat} {v : Int} (h : ∀ y, s.pods[i]? = some y → y.owner ≠ ownName s o) : countsL s (p.set i v) o = countsL s p o := by
  unfold countsL; rw [owned_same h]
theorem skew_same {s : Snap} {p : List Int} {i o : Nat} {v : Int} (h : ∀ y, s.pods[i]? = some y → y.owner ≠ ownName s o) : skewV s (p.set i v) o = skewV s p o := by
  have e : spreadL s (p.set i v) o = spreadL s p o := by
    unfold spreadL domCount
    rw [counts_same h]
  unfold skewV; rw [e]
theorem of8_same {s : Snap} {p : List Int} {i a : Nat} {v : Int} {kind : Int} (ha : a ≠ i) (hk : kind = 2 ∨ kind = 3) : of8 s (p.set i v) kind a = of8 s p kind a := by
  have e : (p.set i v)[a]? = p[a]? := by rw [List.getElem?_set_ne (fun h => ha h.symm)]
  unfold of8
  rw [e]
  rcases hk with rfl | rfl <;> rfl
theorem double_same {s : Snap} {p : List Int} {i a : Nat} {v : Int} (ha : a ≠ i) (h : ∀ x y, s.pods[i]? = some x → s.pods[a]? = some y → x.owner ≠ y.owner) : double8 s (p.set i v) a = double8 s p a := by
  have e : (p.set i v)[a]? = p[a]? := by rw [List.getElem?_set_ne (fun h => ha h.symm)]
  unfold double8
  rw [List.length_set]
  refine cntI_congr fun j hj => ?_
  unfold doubleF
  rw [e]
  by_cases hji : j = i
  · subst hji
    rw [List.getElem?_set_self (by simpa using hj), List.getElem?_eq_getElem hj]
    cases hx : s.pods[j]? with
    | none => cases p[a]? <;> rfl
    | some x =>
      cases hm : p[a]? with
      | none => rfl
      | some m =>
        cases hy : s.pods[a]? with
        | none => rfl
        | some y =>
          have := h x y hx hy
          simp [this]
  · rw [List.getElem?_set_ne (fun h => hji h.symm)]
end Go.Dr
namespace Go.Dr
theorem rise_pw : ∀ (l : List ByteArray) (p : Option ByteArray), riseN p l = true → (∀ a, p = some a → ∀ x ∈ l, ltS a x = true) ∧ l.Pairwise (fun a b => ltS a b = true)
  | [], p, _ => ⟨by simp, List.Pairwise.nil⟩
  | x :: l, p, h => by
    simp only [riseN, Bool.and_eq_true] at h
    obtain ⟨h1, h2⟩ := rise_pw l (some x) h.2
    refine ⟨?_, List.pairwise_cons.2 ⟨h1 x rfl, h2⟩⟩
    rintro a rfl y hy
    have h3 : ltS a x = true := h.1.2
    rcases List.mem_cons.1 hy with rfl | hy
    · exact h3
    · exact ltS_trans h3 (h1 x rfl y hy)
theorem own_idx {s : Snap} (hs : checkS s = 0) {o : Nat} {x : Owner} (hx : s.owners[o]? = some x) : idxF (fun y => decide (y.name = x.name)) s.owners = o := by
  have hsh := (checkS_ok hs).1
  have hr : riseN none (oNames s) = true := by
    unfold shapedB at hsh; simp only [Bool.and_eq_true] at hsh; exact hsh.1.2.2
  have hpw := (rise_pw _ _ hr).2
  have hfi : s.owners.findIdx? (fun y => decide (y.name = x.name)) = some o := by
    rw [List.findIdx?_eq_some_iff_getElem]
    obtain ⟨h1, h2⟩ := List.getElem?_eq_some_iff.1 hx
    refine ⟨h1, by rw [h2]; simp, fun j hj hh => ?_⟩
    have := List.pairwise_iff_getElem.1 hpw j o (by simp [oNames]; omega) (by simp [oNames]; omega) hj
    simp only [oNames, List.getElem_map, h2] at this
    have hh : (s.owners[j]).name = x.name := by simpa using hh
    rw [hh] at this
    unfold ltS at this; rw [bytesLess_irr] at this; cases this
  unfold idxF; rw [hfi]
theorem in_caps {s : Snap} {p : List Int} {n k : Nat} (hok : checkP s p = 0) (hn : n < s.nodes.length) (hk : k < 5) : capN s p n k ∈ allL s p := by
  unfold allL; rw [if_pos hok]
  unfold allC capsC capTo
  simp only [List.mem_append, List.range_zero, List.map_nil, List.append_nil]
  exact .inl (.inl (.inl (List.mem_flatMap.2 ⟨n, by simpa using hn, List.mem_map.2 ⟨k, by simpa using hk, rfl⟩⟩)))
theorem in_kinds {s : Snap} {p : List Int} {t a : Nat} (hok : checkP s p = 0) (ht : t < 5) (ha : a < p.length) (h : (of8 s p ((t : Int) + 2) a).2 = true) : (⟨(t : Int) + 2, a, 0, (of8 s p ((t : Int) + 2) a).1⟩ : Clause) ∈ allL s p := by
  unfold allL; rw [if_pos hok]
  unfold allC
  simp only [List.mem_append]
  refine .inl (.inl (.inr ?_))
  unfold kindsTo podsTo
  refine List.mem_flatMap.2 ⟨t, by simpa using ht, List.mem_flatMap.2 ⟨a, by simpa using ha, ?_⟩⟩
  unfold podC1
  rw [if_pos h]; simp
theorem in_spread {s : Snap} {p : List Int} {o : Nat} (hok : checkP s p = 0) (ho : o < s.owners.length) (h : topoOf s o ≠ noS) : (⟨7, o, 0, skewV s p o⟩ : Clause) ∈ allL s p := by
  unfold allL; rw [if_pos hok]
  unfold allC
  simp only [List.mem_append]
  refine .inl (.inr ?_)
  unfold spreadTo
  refine List.mem_flatMap.2 ⟨o, by simpa using ho, ?_⟩
  unfold spreadC1
  rw [if_neg h]; simp
theorem in_min {s : Snap} {p : List Int} {o : Nat} (hok : checkP s p = 0) (ho : o < s.owners.length) : minC1 s p o ∈ allL s p := by
  unfold allL; rw [if_pos hok]
  unfold allC
  simp only [List.mem_append]
  refine .inr ?_
  unfold minTo
  exact List.mem_map.2 ⟨o, by simpa using ho, rfl⟩
theorem of8_asks {s : Snap} {p : List Int} {a : Nat} {kind : Int} (h : (of8 s p kind a).2 = true) : ∃ y, s.pods[a]? = some y ∧ (kind = 4 → y.with_.topo ≠ noS) ∧ (kind = 5 → y.apart.topo ≠ noS) := by
  unfold of8 at h
  split at h
  · rename_i m y _ hy
    refine ⟨y, hy, ?_, ?_⟩
    · rintro rfl hn
      split at h
      · cases h
      · split at h
        · simp [hn] at h
        · cases h
    · rintro rfl hn
      split at h
      · cases h
      · split at h
        · simp [hn] at h
        · cases h
  · cases h
theorem of8_double {s : Snap} {p : List Int} {i a : Nat} {v : Int} (ha : a ≠ i) (h : ∀ x y, s.pods[i]? = some x → s.pods[a]? = some y → x.owner ≠ y.owner) : of8 s (p.set i v) 6 a = of8 s p 6 a := by
  have e : (p.set i v)[a]? = p[a]? := by rw [List.getElem?_set_ne (fun h => ha h.symm)]
  unfold of8
  rw [e, double_same ha h]
  rfl
def nearC (s : Snap) (p : List Int) (x : Step) (c : Clause) : Prop :=
  (c.kind = 1 ∧ x.kind = 2 ∧ c.a = x.node) ∨ ((c.kind = 2 ∨ c.kind = 3) ∧ x.kind = 2 ∧ c.a = x.pod) ∨
  ((c.kind = 4 ∨ c.kind = 5) ∧ ∃ (a : Nat) (y : Pod), c.a = a ∧ a < p.length ∧ s.pods[a]? = some y ∧ ¬ (y.with_.topo = noS ∧ y.apart.topo = noS)) ∨
  (c.kind = 6 ∧ x.kind = 2 ∧ ∃ (a : Nat) (y z : Pod), c.a = a ∧ a < p.length ∧ s.pods[a]? = some y ∧ s.pods[x.pod.toNat]? = some z ∧ y.owner = z.owner) ∨
  ((c.kind = 7 ∨ c.kind = 8) ∧ ∃ z : Pod, s.pods[x.pod.toNat]? = some z ∧ c.a = idxF (fun o => decide (o.name = z.owner)) s.owners)
theorem own_at {s : Snap} (hs : checkS s = 0) {o : Nat} (ho : o < s.owners.length) {z : Pod} (h : z.owner = ownName s o) : (o : Int) = idxF (fun y => decide (y.name = z.owner)) s.owners := by
  have hw : s.owners[o]? = some s.owners[o] := List.getElem?_eq_getElem ho
  have : z.owner = s.owners[o].name := by rw [h]; unfold ownName; rw [hw]
  rw [this]
  exact (own_idx hs hw).symm
theorem near_worse {s : Snap} {p : List Int} {x : Step} {c : Clause} (h : (applyP s p x).2 = 0) (hc : c ∈ allL s (applyP s p x).1) (hw : findC (allL s p) c < c.by_) : nearC s p x c := by
  obtain ⟨v, e1, hi, hi0, hv, hok, hst⟩ := apply_set h
  rw [e1] at hc
  unfold nearC
  have hxp : ((x.pod.toNat : Nat) : Int) = x.pod := by omega
  generalize x.pod.toNat = i at *
  have hq := checkP_set (i := i) hok hv
  have hnm := allL_names s p
  obtain ⟨hs, hlen, _⟩ := checkP_ok hok
  obtain ⟨z, hz⟩ : ∃ z, s.pods[i]? = some z := ⟨_, List.getElem?_eq_getElem (by omega)⟩
  have hev : x.kind = 1 → c.kind = 4 ∨ c.kind = 7 ∨ c.kind = 8 := by
    intro hk
    rcases hst with ⟨_, rfl, _⟩ | ⟨hk2, _⟩
    · by_cases h4 : c.kind = 4
      · exact .inl h4
      by_cases h7 : c.kind = 7
      · exact .inr (.inl h7)
      by_cases h8 : c.kind = 8
      · exact .inr (.inr h8)
      have := off_by hok hc h4 h7 h8; omega
    · omega
  have hk12 : x.kind = 1 ∨ x.kind = 2 := by
    rcases hst with ⟨h, _⟩ | ⟨h, _⟩
    · exact .inl h
    · exact .inr h
  have hsame : c ∈ allL s p → False := fun hm => by have := find_named hnm hm rfl; omega
  unfold allL at hc
  rw [if_pos hq] at hc
  unfold allC at hc
  simp only [List.mem_append] at hc
  rcases hc with ((hc | hc) | hc) | hc
  · obtain ⟨n, k, hn, hk, rfl⟩ := mem_caps hc
    have hk2 : x.kind = 2 := by
      rcases hk12 with h | h
      · have := hev h; simp [capN] at this
      · exact h
    refine .inl ⟨rfl, hk2, ?_⟩
    by_cases hne : (n : Int) = x.node
    · exact hne
    · exfalso
      rcases hst with ⟨hk1, _⟩ | ⟨_, hvn, hn0, _, _, hat⟩
      · omega
      apply hsame
      have hu : usedV s (p.set i v) n = usedV s p n := used_same (fun w hw => by have := at0_some hw; omega) (by omega)
      have : capN s (p.set i v) n k = capN s p n k := by unfold capN; rw [hu]
      rw [this]
      exact in_caps hok hn hk
  · obtain ⟨t, a, ht, ha, rfl, h8⟩ := mem_kinds hc
    rw [List.length_set] at ha
    have hkeep : of8 s (p.set i v) ((t : Int) + 2) a = of8 s p ((t : Int) + 2) a → False := by
      intro e
      apply hsame
      rw [e] at h8 ⊢
      exact in_kinds hok ht ha h8
    have h2of : t ≠ 2 → x.kind = 2 := by
      intro h2
      rcases hk12 with h | h
      · have := hev h; dsimp only at this; omega
      · exact h
    obtain ⟨y, hy, hy4, hy5⟩ := of8_asks h8
    have ht5 : t = 0 ∨ t = 1 ∨ t = 2 ∨ t = 3 ∨ t = 4 := by omega
    rcases ht5 with rfl | rfl | rfl | rfl | rfl
    · refine .inr (.inl ⟨.inl rfl, h2of (by omega), ?_⟩)
      by_cases hai : a = i
      · subst hai; exact hxp
      · exact absurd (of8_same hai (.inl rfl)) hkeep
    · refine .inr (.inl ⟨.inr rfl, h2of (by omega), ?_⟩)
      by_cases hai : a = i
      · subst hai; exact hxp
      · exact absurd (of8_same hai (.inr rfl)) hkeep
    · exact .inr (.inr (.inl ⟨.inl rfl, a, y, rfl, ha, hy, fun hh => hy4 rfl hh.1⟩))
    · exact .inr (.inr (.inl ⟨.inr rfl, a, y, rfl, ha, hy, fun hh => hy5 rfl hh.2⟩))
    · refine .inr (.inr (.inr (.inl ⟨rfl, h2of (by omega), a, y, z, rfl, ha, hy, hz, ?_⟩)))
      by_cases hai : a = i
      · subst hai; rw [hz] at hy; cases hy; rfl
      by_cases ho : y.owner = z.owner
      · exact ho
      · refine absurd (of8_double hai fun x' y' hx' hy' => ?_) hkeep
        rw [hz] at hx'; cases hx'; rw [hy] at hy'; cases hy'
        exact fun e => ho e.symm
  · obtain ⟨o, ho, rfl, ht⟩ := mem_spread hc
    refine .inr (.inr (.inr (.inr ⟨.inl rfl, z, hz, ?_⟩)))
    by_cases hown : z.owner = ownName s o
    · exact own_at hs ho hown
    · exfalso
      apply hsame
      rw [skew_same (fun y hy => by rw [hz] at hy; cases hy; exact hown)]
      exact in_spread hok ho ht
  · obtain ⟨o, ho, rfl⟩ := mem_min hc
    refine .inr (.inr (.inr (.inr ⟨.inr rfl, z, hz, ?_⟩)))
    by_cases hown : z.owner = ownName s o
    · exact own_at hs ho hown
    · exfalso
      apply hsame
      have : minC1 s (p.set i v) o = minC1 s p o := by
        unfold minC1
        rw [placed_same (fun y hy => by rw [hz] at hy; cases hy; exact hown)]
      rw [this]
      exact in_min hok ho
theorem find_nn (s : Snap) (p : List Int) (c : Clause) : 0 ≤ findC (allL s p) c := by
  unfold findC
  split
  · rename_i d hd
    exact ((allL_rng s p).2 d (List.mem_of_find?_eq_some hd)).1
  · exact Int.le_refl 0
theorem near_step {s : Snap} {p q : List Int} {x : Step} {c : Clause} {e : Int} (hok : checkP s p = 0) (h : stepV s p x = (q, c, e)) :
    (c.kind = 0 ∧ (e ≠ 100 ∨ (x.kind = 2 ∧ cordonAt s x.node = true))) ∨ (nearC s p x c ∧ e = 100 ∧ 0 < c.by_) := by
  unfold stepV at h
  split at h
  · rename_i h1
    cases h
    refine .inl ⟨rfl, .inl ?_⟩
    unfold applyP
    have e1 : z0 (checkP s p) = true := by simp [z0, hok]
    simp only [e1, Bool.not_true, Bool.false_eq_true, if_false]
    split
    · decide
    · split
      · decide
      · split <;> simp
  · rename_i h1
    have h1 : (applyP s p x).2 = 0 := Classical.not_not.1 h1
    split at h
    · rename_i h2
      cases h
      exact .inl ⟨rfl, .inr h2⟩
    · obtain ⟨hq, _, _⟩ := apply_check h1
      rw [worse_ok hok hq] at h
      split at h
      · rename_i c' r hcr
        cases h
        have hm : c ∈ (allL s (applyP s p x).1).filter (worseF (allL s p)) := by
          have : c ∈ c :: r := by simp
          rw [← hcr] at this; exact this
        obtain ⟨hm1, hm2⟩ := List.mem_filter.1 hm
        have hm2 : findC (allL s p) c < c.by_ := by simpa [worseF] using hm2
        have := find_nn s p c
        exact .inr ⟨near_worse h1 hm1 hm2, rfl, by omega⟩
      · cases h
        exact .inl ⟨rfl, .inl (by simp)⟩
end Go.Dr
namespace Go.Dr
section
variable {C : Cx} {R : Rg} {Q : Post} {S S' : SHeap} {M M' : List MEnt} {e : Env} {rest : List Nat}
variable {d : Nat} {ty : TypeId} {pos : String} {aft : Array Edge} {g : Option (Nat × Bool)} {an : Bool}
end
end Go.Dr
namespace Go.Dr
open Go.Proofs
set_option maxRecDepth 20000
set_option maxHeartbeats 2000000
set_option linter.unusedSimpArgs false
set_option linter.unusedVariables false
theorem next_facts {s : Snap} {p : List Int} {x : Step} (hp : 0 < p.length) (hn : 0 < s.nodes.length) : 0 ≤ (nextV s p x).pod ∧ (nextV s p x).pod < p.length ∧ 0 ≤ (nextV s p x).node ∧ (nextV s p x).node < s.nodes.length ∧
    (((nextV s p x).kind = 1 ∧ (nextV s p x).node = 0 ∧ 0 ≤ at0 p (nextV s p x).pod.toNat) ∨ ((nextV s p x).kind = 2 ∧ at0 p (nextV s p x).pod.toNat < 0)) := by
  have hbp := bring_rng x.pod (show (0 : Int) < (p.length : Int) by omega)
  have hbn := bring_rng x.node (show (0 : Int) < (s.nodes.length : Int) by omega)
  unfold nextV
  split
  · rename_i h; exact ⟨hbp.1, hbp.2, Int.le_refl _, by dsimp only; omega, .inl ⟨rfl, rfl, h⟩⟩
  · rename_i h; exact ⟨hbp.1, hbp.2, hbn.1, hbn.2, .inr ⟨rfl, by dsimp only at h ⊢; omega⟩⟩
end Go.Dr
namespace Go.Dr
theorem step_ok {s : Snap} {p q : List Int} {x : Step} {c : Clause} (h : stepV s p x = (q, c, 0)) : (applyP s p x).2 = 0 ∧ q = (applyP s p x).1 ∧ (allL s q).filter (worseF (allL s p)) = [] ∧ c = noC ∧ ¬ (x.kind = 2 ∧ cordonAt s x.node = true) := by
  unfold stepV at h
  split at h
  · rename_i h1; exact absurd (congrArg (fun z => z.2.2) h) h1
  · rename_i h1
    have h1 : (applyP s p x).2 = 0 := Classical.not_not.1 h1
    split at h
    · cases h
    · rename_i h2
      obtain ⟨hq, _, _⟩ := apply_check h1
      obtain ⟨_, _, _, _, _, hok, _⟩ := apply_set h1
      rw [worse_ok hok hq] at h
      split at h
      · cases h
      · rename_i h3
        cases h
        exact ⟨h1, rfl, h3, rfl, h2⟩
theorem findC_name {L : List Clause} {c d : Clause} (h : nameC d = nameC c) : findC L d = findC L c := by
  simp only [nameC, Prod.mk.injEq] at h
  unfold findC
  rw [h.1, h.2.1, h.2.2]
def keepsC (s : Snap) (L : List Clause) (p : List Int) : Prop := ∀ c ∈ allL s p, c.by_ ≤ findC L c
theorem keeps_self (s : Snap) (p : List Int) : keepsC s (allL s p) p := fun c hc => Int.le_of_eq (find_named (allL_names s p) hc rfl).symm
theorem keeps_step {s : Snap} {p0 p q : List Int} {x : Step} {c : Clause} (hk : keepsC s (allL s p0) p) (h : stepV s p x = (q, c, 0)) : keepsC s (allL s p0) q := by
  obtain ⟨_, _, h3, _⟩ := step_ok h
  intro d hd
  have h4 := List.filter_eq_nil_iff.1 h3 d hd
  have h4 : d.by_ ≤ findC (allL s p) d := by simp [worseF] at h4; omega
  refine Int.le_trans h4 ?_
  have h5 : findC (allL s p) d = 0 ∨ ∃ f, f ∈ allL s p ∧ nameC f = nameC d ∧ findC (allL s p) d = f.by_ := by
    cases hf : (allL s p).find? (isC d.kind d.a d.b) with
    | none => left; unfold findC; rw [hf]
    | some f =>
      right
      refine ⟨f, List.mem_of_find?_eq_some hf, ?_, by unfold findC; rw [hf]⟩
      have := List.find?_some hf
      rw [isC_name] at this
      exact of_decide_eq_true this
  rcases h5 with h5 | ⟨f, hf, hn, h5⟩
  · rw [h5]; exact find_nn s p0 d
  · rw [h5, ← findC_name hn]
    exact hk f hf
theorem next_bad {s : Snap} {p q : List Int} {x : Step} {c : Clause} {e : Int} (hok : checkP s p = 0) (hk : (x.kind = 1 ∧ x.node = 0 ∧ 0 ≤ at0 p x.pod.toNat) ∨ (x.kind = 2 ∧ 0 ≤ x.node ∧ x.node < s.nodes.length ∧ at0 p x.pod.toNat < 0)) (hp : 0 ≤ x.pod ∧ x.pod < p.length) (h : stepV s p x = (q, c, e)) (he : e ≠ 0) :
    (e = 100 ∨ e = 110) ∧ q = [] ∧ (e = 110 → x.kind = 2 ∧ lostAt s x.node = true) ∧ (c.kind ≠ 0 → 1 ≤ c.by_) := by
  have hby : c.kind ≠ 0 → 1 ≤ c.by_ := fun h0 => by
    rcases near_step hok h with ⟨h1, _⟩ | ⟨_, _, h1⟩
    · exact absurd h1 h0
    · omega
  refine (fun hh => ⟨hh.1, hh.2.1, hh.2.2, hby⟩) (?_ : (e = 100 ∨ e = 110) ∧ q = [] ∧ (e = 110 → x.kind = 2 ∧ lostAt s x.node = true))
  have hat : at0 p x.pod.toNat < 0 → at0 p x.pod.toNat = -1 := by
    intro h0
    have hz : p[x.pod.toNat]? = some (p[x.pod.toNat]'(by omega)) := List.getElem?_eq_getElem (by omega)
    have hz0 := at0_some hz
    have := (checkP_ok hok).2.2 _ (List.mem_of_getElem? hz)
    unfold oddP at this
    simp only [Bool.or_eq_false_iff, decide_eq_false_iff_not] at this
    omega
  unfold stepV at h
  split at h
  · rename_i h1
    cases h
    unfold applyP at h1 ⊢
    have e1 : z0 (checkP s p) = true := by simp [z0, hok]
    simp only [e1, Bool.not_true, Bool.false_eq_true, if_false] at h1 ⊢
    rcases hk with ⟨k1, k2, k3⟩ | ⟨k1, k2, k3, k4⟩
    · exfalso
      apply h1
      have a1 : ¬ x.pod < 0 := by omega
      have a2 : ¬ (p.length : Int) ≤ x.pod := by omega
      have a3 : ¬ at0 p x.pod.toNat = -1 := by omega
      simp [k1, k2, a1, a2, a3]
    · have a1 : ¬ x.pod < 0 := by omega
      have a2 : ¬ (p.length : Int) ≤ x.pod := by omega
      have a3 := hat k4
      have a4 : ¬ x.node < 0 := by omega
      have a5 : ¬ (s.nodes.length : Int) ≤ x.node := by omega
      cases hl : lostAt s x.node with
      | true => exact ⟨.inr (by simp [k1, a1, a2, a3, a4, a5, hl]), by first | rfl | trivial, fun _ => ⟨k1, by first | exact hl | rfl | trivial⟩⟩
      | false =>
        exfalso
        apply h1
        simp [k1, a1, a2, a3, a4, a5, hl]
  · split at h
    · cases h; exact ⟨.inl rfl, rfl, fun hh => by simp at hh⟩
    · split at h
      · cases h; exact ⟨.inl rfl, rfl, fun hh => by simp at hh⟩
      · cases h; exact absurd rfl he
theorem ways_placed {s : Snap} {p : List Int} {i : Nat} (h : 0 ≤ at0 p i) : waysV s p i = [] := by
  unfold waysV
  rw [List.map_eq_nil_iff, List.filter_eq_nil_iff]
  intro n _ hm
  unfold mayV at hm
  have hm : (stepV s p ⟨2, i, n⟩).2.2 = 0 := of_decide_eq_true hm
  obtain ⟨q, c, e, hs⟩ : ∃ q c e, stepV s p ⟨2, i, n⟩ = (q, c, e) := ⟨_, _, _, rfl⟩
  rw [hs] at hm
  obtain rfl : e = 0 := hm
  obtain ⟨h1, _⟩ := step_ok hs
  obtain ⟨_, _, _, _, _, _, hh⟩ := apply_set h1
  rcases hh with ⟨h2, _⟩ | ⟨_, _, _, _, _, h2⟩
  · simp at h2
  · simp only [Int.toNat_natCast] at h2; omega
theorem ways_may {s : Snap} {p : List Int} {i k : Nat} {n : Int} (h : (waysV s p i)[k]? = some n) : ∃ q, stepV s p ⟨2, i, n⟩ = (q, noC, 0) ∧ 0 ≤ n ∧ n < s.nodes.length := by
  have hm := List.mem_of_getElem? h
  unfold waysV at hm
  obtain ⟨m, hm1, rfl⟩ := List.mem_map.1 hm
  obtain ⟨hm2, hm3⟩ := List.mem_filter.1 hm1
  have hm3 : (stepV s p ⟨2, i, m⟩).2.2 = 0 := of_decide_eq_true hm3
  obtain ⟨q, c, e, hs⟩ : ∃ q c e, stepV s p ⟨2, i, m⟩ = (q, c, e) := ⟨_, _, _, rfl⟩
  rw [hs] at hm3
  obtain rfl : e = 0 := hm3
  obtain ⟨_, _, _, rfl, _⟩ := step_ok hs
  have := List.mem_range.1 hm2
  exact ⟨q, hs, by omega, by omega⟩
theorem back_ok {s : Snap} {p q : List Int} {i : Nat} {n : Int} (hs : sumV s p = 0) (h : stepV s p ⟨2, i, n⟩ = (q, noC, 0)) : stepV s q ⟨1, i, 0⟩ = (p, noC, 0) := by
  obtain ⟨h1, hq, _, _⟩ := step_ok h
  obtain ⟨hcq, hlq, _⟩ := apply_check h1
  obtain ⟨v, e1, hi, _, _, hok, hh⟩ := apply_set h1
  simp only [Int.toNat_natCast] at hi e1 hh
  rcases hh with ⟨h2, _⟩ | ⟨_, hvn, hn0, _, _, hat⟩
  · simp at h2
  have hvn : v = n := hvn
  have hvn2 := hvn.symm
  subst hvn2
  try dsimp only at hn0 e1
  rw [← hq] at hcq hlq
  have e2 : q = p.set i n := hq.trans e1
  have hpi : p[i]? = some (-1) := by
    have hz : p[i]? = some p[i] := List.getElem?_eq_getElem hi
    rw [hz]; have := at0_some hz; rw [← this, hat]
  have e3 : q.set i (-1) = p := by
    rw [e2, List.set_set]
    refine List.ext_getElem? fun j => ?_
    rw [List.getElem?_set]
    split
    · rename_i hj; subst hj; first | rw [hpi] | rw [if_pos hi, hpi]
    · rfl
  have hqi : at0 q i = n := by
    refine at0_some ?_
    rw [e2, List.getElem?_set_self hi]
  have ha : applyP s q ⟨1, i, 0⟩ = (p, 0) := by
    unfold applyP
    have z1 : z0 (checkP s q) = true := by simp [z0, hcq]
    have a2 : ¬ (q.length : Int) ≤ (i : Int) := by omega
    have a3 : ¬ n = -1 := by omega
    have a4 : ¬ (i : Int) < 0 := by omega
    simp [z1, a2, a3, a4, hqi, e3]
  unfold stepV
  rw [ha]
  have hw : (allL s p).filter (worseF (allL s q)) = [] := by
    rw [List.filter_eq_nil_iff]
    intro c hc
    have := (sum_zero (allL_rng s p).2).1 hs c hc
    have h0 := find_nn s q c
    simp [worseF]; omega
  have hwo := worse_ok hcq hok
  dsimp only
  rw [hwo, hw]
  simp
end Go.Dr
namespace Go.Dr
open Go.Proofs
set_option maxRecDepth 20000
set_option maxHeartbeats 2000000
set_option linter.unusedSimpArgs false
set_option linter.unusedVariables false
theorem w9_Safe {S : SHeap} {u v : Value} {s : Snap} {p : List Int} {b : Bool} {e : Int} (h : (safeB s p, checkP s p) = (b, e)) (hu : rSnap.V S u s) (hv : (rSlice 8 rI64).V S v p) : FnV Tryz.prog 24 #[u, v] S (.tuple #[.bool b, .int .i64 e]) := by
  obtain ⟨rfl, rfl⟩ := Prod.mk.injEq .. ▸ h
  exact p9_Safe hu hv
end Go.Dr
namespace Go.Dr
open Go.Proofs
set_option maxRecDepth 20000
set_option maxHeartbeats 2000000
set_option linter.unusedSimpArgs false
set_option linter.unusedVariables false
theorem s26_L10k {P K : Prop} (k : K) (h : Goal K → P := by
  intro zk
  (first | refine Walk ?_ | refine JC.block ?_ | refine JC.drawN 4 rfl [0, 1, 2, 3, 4, 5, 6, 7, 8, 9, 10, 11, 12, 13, 14, 15, 16, 17, 18, 19, 20, 21, 22, 23, 24, 25, 26, 27] [0, 1, 2, 3, 4, 5, 6, 7, 8, 9, 10, 11, 12, 13, 14, 15, 16, 17, 18, 19, 20, 21, 22, 23, 24, 25, 26, 27] Tryz_mixed (by decide +kernel) ?_ | (refine WBox ?_))
  (repeat (first | revert zqg | revert zqf | revert zqe | revert zqd | revert zqc | revert zqb | revert zqa))
  exact zk.k) : P := h ⟨k⟩
theorem q10_find {S : SHeap} {u v : Value} {L : List Clause} {c : Clause} (hu : (rSlice 32 rClause).V S u L) (hv : rClause.V S v c) : FnV Tryz.prog 26 #[u, v] S (.int .i64 (findC L c)) := by
  obtain ⟨a0, c0, rfl, _, _, hb, _⟩ := V_slice.1 hu
  unfold big at hb
  (refine Fn.enter (args := [.slice a0 L.length c0, v]) Tryz.func26 rfl Tryz.ntmps26 rfl ?_; intro w0)
  repeat (refine s26_L10k ?_; intros)
  unfold findC
  refine JC.loopF0 [(0, _), (3, _)] (fun (k : Nat) => [(5, .int .i64 k)]) (fun Sk k => k ≤ L.length ∧ ((L.drop k).find? (isC c.kind c.a c.b) = L.find? (isC c.kind c.a c.b))) (fun k => L.length - k) 0 (by exact sba) (by exact sba) ⟨Nat.zero_le _, rfl⟩ ?_; intro Sk k hlk hik; obtain ⟨hk, hik⟩ := hik; (try dsimp only at hk hik); dsimp only [List.cons_append, List.nil_append]
  repeat (refine s26_L10k ?_; intros)
  refine JC.cond rfl (fun hc => ?_) (fun hc => ?_)
  · have hk' := dlt hc
    obtain ⟨x, hx, hd⟩ := drop_at hk'
    rw [hd, List.find?_cons] at hik
    repeat' (first | (refine s26_L10k ?_; intros) | (refine JO.guard rfl rfl rfl rfl ?_ ?_ <;> intro _) | (refine JC.cond rfl ?_ ?_ <;> intro _))
    all_goals first
      | ((refine JX.ret1 Tryz.results26 (ResV.tmp rfl) (List.nil_sublist _) ?_); have hx : isC c.kind c.a c.b x = true := (by simp [isC, *]); rw [hx] at hik; exact ⟨rfl, by rw [← hik]⟩)
      | (exfalso; simp_all; done)
      | (have hx : isC c.kind c.a c.b x = false := (by simp_all [isC]); rw [hx] at hik; exact JX.roundF (k + 1) (by exact lea) ⟨by omega, hik⟩ (by (try dsimp only); omega) rfl (by exact sba) (by exact sba))
  · have hk' := dnlt hc
    rw [List.drop_eq_nil_of_le hk'] at hik
    repeat (refine s26_L10k ?_; intros)
    (refine JX.ret1 Tryz.results26 (ResV.tmp rfl) (List.nil_sublist _) ?_)
    exact ⟨rfl, by rw [← hik]; rfl⟩
theorem s4_L10k {P K : Prop} (k : K) (h : Goal K → P := by
  intro zk
  (first | refine Walk ?_ | refine JC.block ?_ | refine JC.drawN 24 rfl [0, 1, 2, 3, 4, 5, 6, 7, 8, 9, 10, 11] [5, 6, 7, 8, 9, 11] Tryz_mixed (by decide +kernel) ?_ | (refine JO.eff rfl rfl rfl (JEff.callV rfl (q10_works) rfl ?_); intro zqa zqb) | (refine JO.eff rfl rfl rfl (JEff.callR rfl (q10_cut (by exact vta)) rfl ?_); intro zqa zqb zqc zqd) | (refine JO.eff rfl rfl rfl (JEff.callL rfl (q10_fitted (by exact vta) (by exact vta) (by first | assumption | omega) (by first | assumption | omega)) rfl ?_); intro zqa zqb zqc zqd zqe zqf) | (refine JO.eff rfl rfl rfl (JEff.callLE rfl (p8_All (by exact vta) (by exact vta)) rfl ?_); intro zqa zqb zqc zqd zqe zqf) | (refine JO.eff rfl rfl rfl (JEff.callV rfl (p7_Check (by exact vta) (by exact vta)) rfl ?_); intro zqa zqb) | (refine JO.eff rfl rfl rfl (JEff.callV rfl (p9_Safe (by exact vta) (by exact vta)) rfl ?_); intro zqa zqb) | (refine JO.eff rfl rfl rfl (JEff.callV rfl (q10_next (by exact vta) (by exact vta) (by exact vta) (by assumption) (by assumption) (by assumption) (by assumption)) rfl ?_); intro zqa zqb) | (refine JO.eff rfl rfl rfl (JEff.callV rfl (q10_find (by exact vta) (by exact vta)) rfl ?_); intro zqa zqb) | (refine WNew ?_) | (refine WPut ?_))
  (repeat (first | revert zqg | revert zqf | revert zqe | revert zqd | revert zqc | revert zqb | revert zqa))
  exact zk.k) : P := h ⟨k⟩
theorem a10_AdmitKeeps {S : SHeap} {u v w : Value} {s : Snap} {l : List Int} {xs : List Step} (hu : rSnap.V S u s) (hv : (rSlice 8 rI64).V S v l) (hw : (rSlice 24 rStep).V S w xs) : FnV Tryz.prog 4 #[u, v, w] S (.bool true) := by
  obtain ⟨cs, rfl, hcs⟩ := V_agg rfl hu
  obtain ⟨a0, c0, rfl, _, _, hlb, _⟩ := V_slice.1 hw
  unfold big at hlb
  (refine Fn.enter (args := [.agg cs.toArray, v, .slice a0 xs.length c0]) Tryz.func4 rfl Tryz.ntmps4 rfl ?_; intro w0)
  repeat (refine s4_L10k ?_; intros)
  refine JO.eff rfl rfl rfl (JEff.box rfl rfl ?_); intro bb hbb
  repeat (refine s4_L10k ?_; intros)
  refine JO.pure rfl rfl rfl (JPure.loadM (rep := rSnap) (x0 := s) (mid := cs) rfl (by (first | exact List.mem_cons_self | exact List.mem_cons_of_mem _ List.mem_cons_self | exact List.mem_cons_of_mem _ (List.mem_cons_of_mem _ List.mem_cons_self))) (by show cs.take 3 = cs; exact List.take_of_length_le (by rw [rSnap.len hcs]; exact Nat.le_refl _)) (rSnap.mono (by exact lea) hcs) (.inl rfl) rfl ?_)
  refine JO.eff rfl rfl rfl (JEff.callR rfl (q10_cut (Rp.val_V (rSnap.mono (by exact lea) hcs))) rfl ?_); intro cw S1 hl1 hcw
  repeat (refine s4_L10k ?_; intros)
  refine JO.eff rfl rfl rfl (JEff.storeW rfl rfl hcw nna (List.Perm.refl _) (by show 3 = cs.length; exact (rSnap.len hcs).symm) (by intro l hl; cases hl) ?_)
  refine JO.freezeV hcw nna hbb (by intro l hl; cases hl) ?_; intro S2 hl2 hpb
  have hn : (cutS s).nodes.length ≤ 1000 := by simp only [cutS, List.length_take]; omega
  have hpd : (cutS s).pods.length ≤ 1000 := by simp only [cutS, List.length_take]; omega
  generalize cutS s = s' at *
  have hP := fit_check s' l
  have hfl := fit_len s' l
  repeat (refine s4_L10k ?_; intros)
  by_cases hc : checkP s' (fitV s' l) = 0
  · rw [decide_eq_true hc]
    obtain ⟨_, _, hp24, _, _, _, hpr⟩ := placed_hyps hc
    repeat (refine s4_L10k ?_; intros)
    by_cases hp0 : (fitV s' l).length = 0
    · rw [decide_eq_true (show ((fitV s' l).length : Int) = 0 by omega)]
      repeat (refine s4_L10k ?_; intros)
      rw [decide_eq_true (rfl : checkP s' (fitV s' l) = checkP s' (fitV s' l))]
      repeat (refine s4_L10k ?_; intros)
      (refine JX.ret1 Tryz.results4 (ResV.tmp rfl) (List.nil_sublist _) ?_)
      exact ⟨rfl, rfl⟩
    rw [decide_eq_false (show ¬ ((fitV s' l).length : Int) = 0 by omega)]
    repeat (refine s4_L10k ?_; intros)
    by_cases hn0 : s'.nodes.length = 0
    · rw [decide_eq_true (show (s'.nodes.length : Int) = 0 by omega)]
      repeat (refine s4_L10k ?_; intros)
      rw [decide_eq_true (rfl : checkP s' (fitV s' l) = checkP s' (fitV s' l))]
      repeat (refine s4_L10k ?_; intros)
      (refine JX.ret1 Tryz.results4 (ResV.tmp rfl) (List.nil_sublist _) ?_)
      exact ⟨rfl, rfl⟩
    rw [decide_eq_false (show ¬ (s'.nodes.length : Int) = 0 by omega)]
    have hn0' : 0 < s'.nodes.length := by omega
    have hpV := (by assumption : (rSlice 8 rI64).V _ (.slice _ _ _) (fitV s' l))
    generalize fitV s' l = p0 at *
    obtain ⟨a, ha⟩ : ∃ a, safeB s' p0 = a := ⟨_, rfl⟩
    have hS1 : (safeB s' p0, checkP s' p0) = (a, 0) := by rw [ha, hc]
    have hsafe : a = true → sumV s' p0 = 0 := by rw [← ha]; simp [safeB]
    repeat (first | (refine Walk ?_; intros) | refine JC.block ?_ | refine JC.drawN 24 rfl [0, 1, 2, 3, 4, 5, 6, 7, 8, 9, 10, 11] [5, 6, 7, 8, 9, 11] Tryz_mixed (by decide +kernel) ?_ | (refine JO.eff rfl rfl rfl (JEff.callV rfl (w9_Safe hS1 (by exact vta) (by exact vta)) rfl ?_); intro _ _) | (refine JO.eff rfl rfl rfl (JEff.callV rfl (q10_works) rfl ?_); intro _ _) | (refine JO.eff rfl rfl rfl (JEff.callR rfl (q10_cut (by exact vta)) rfl ?_); intro _ _ _ _) | (refine JO.eff rfl rfl rfl (JEff.callL rfl (q10_fitted (by exact vta) (by exact vta) (by first | assumption | omega) (by first | assumption | omega)) rfl ?_); intro _ _ _ _ _ _) | (refine JO.eff rfl rfl rfl (JEff.callLE rfl (p8_All (by exact vta) (by exact vta)) rfl ?_); intro _ _ _ _ _ _) | (refine JO.eff rfl rfl rfl (JEff.callV rfl (p7_Check (by exact vta) (by exact vta)) rfl ?_); intro _ _) | (refine JO.eff rfl rfl rfl (JEff.callV rfl (p9_Safe (by exact vta) (by exact vta)) rfl ?_); intro _ _) | (refine JO.eff rfl rfl rfl (JEff.callV rfl (q10_next (by exact vta) (by exact vta) (by exact vta) (by assumption) (by assumption) (by assumption) (by assumption)) rfl ?_); intro _ _) | (refine JO.eff rfl rfl rfl (JEff.callV rfl (q10_find (by exact vta) (by exact vta)) rfl ?_); intro _ _) | (refine WNew ?_; intros) | (refine WPut ?_; intros))
    refine JC.loopF0 (σ := Nat × Option Addr × Nat × List Int) [(2, _), (3, _), (8, _), (10, _)] (fun q => [(7, .slice q.2.1 q.2.2.2.length q.2.2.1), (12, .int .i64 q.1)]) (fun Si q => q.1 ≤ xs.length ∧ (rSlice 8 rI64).V Si (.slice q.2.1 q.2.2.2.length q.2.2.1) q.2.2.2 ∧ checkP s' q.2.2.2 = 0 ∧ q.2.2.2.length = p0.length ∧ keepsC s' (allL s' p0) q.2.2.2 ∧ (a = true → sumV s' q.2.2.2 = 0)) (fun q => xs.length - q.1) ((0, _, _, p0)) (by exact sba) (by exact sba) (⟨Nat.zero_le _, hpV.mono (by exact lea), hc, rfl, keeps_self s' p0, hsafe⟩) ?_; rintro Si ⟨k, ra, rc, Q⟩ hli hii; (try dsimp only at hii); dsimp only [List.cons_append, List.nil_append]
    obtain ⟨hk, hV, hQ, hQl, hkp, hsf⟩ := hii
    try dsimp only at hk hV hQ hQl hkp hsf
    repeat (refine s4_L10k ?_; intros)
    refine JO.guard rfl rfl rfl rfl (fun g1 => ?_) (fun g1 => ?_)
    · have hk' := dlt g1
      obtain ⟨x, hx, _⟩ := drop_at hk'
      repeat (refine s4_L10k ?_; intros)
      refine JC.cond rfl (fun g2 => ?_) (fun g2 => ?_)
      · have hp0' : 0 < Q.length := by omega
        have hp1 : Q.length ≤ 1000 := by omega
        obtain ⟨f1, f2, f3, f4, f5⟩ := next_facts (p := Q) (x := x) hp0' hn0'
        have hxrng : Rng (nextV s' Q x).kind ∧ Rng (nextV s' Q x).pod ∧ Rng (nextV s' Q x).node := by
          refine ⟨?_, by unfold Rng; omega, by unfold Rng; omega⟩
          rcases f5 with ⟨h, _⟩ | ⟨h, _⟩ <;> rw [h] <;> simp [Rng]
        have hyV := V_stV (S := Si) hxrng
        repeat (refine s4_L10k ?_; intros)
        refine JC.partF0 (σ := Addr) [(2, _), (3, _), (7, _), (8, _), (10, _), (12, _)] (fun q => [(13, .pointer (some q))]) (fun SA q => PtrTo SA q rStep (nextV s' Q x)) ?_ (by exact sba) ?_; rotate_left; rintro SA kx hlA hiA; (try dsimp only at hiA); dsimp only [List.cons_append, List.nil_append]; rotate_left
        · refine JC.drawTree 12 rfl [] [0, 1, 2, 3, 4, 5] (.alt (ofL [6, 7, 8] .nil) (ofL [7, 6, 8] .nil)) Tryz_mixed (by decide +kernel) ?_
          repeat (refine s4_L10k ?_; intros)
          refine JO.alt ?_ ?_
          all_goals
            repeat (refine s4_L10k ?_; intros)
            exact JX.partF ((_)) (by exact lea) (by exact pta) rfl (by exact sba) (by exact sba)
        generalize nextV s' Q x = y at *
        obtain ⟨q, c, e, hst⟩ : ∃ q c e, stepV s' Q y = (q, c, e) := ⟨_, _, _, rfl⟩
        obtain ⟨nd, hnd⟩ : ∃ nd, s'.nodes[y.node.toNat]? = some nd := ⟨_, List.getElem?_eq_getElem (by omega)⟩
        by_cases he : e = 0
        · subst he
          obtain ⟨h1, h2, h3, rfl, h5⟩ := step_ok hst
          have hq0 : checkP s' q = 0 := by rw [h2]; exact (apply_check h1).1
          have hql : q.length = p0.length := by rw [h2, (apply_check h1).2.1, hQl]
          have hkq := keeps_step hkp hst
          have hsq : a = true → sumV s' q = 0 := fun ht => safe_stays (hsf ht) h3
          have hsb : a = true → safeB s' q = true := fun ht => by simp [safeB, hq0, hsq ht]
          repeat (first | (refine Walk ?_; intros) | refine JC.block ?_ | refine JC.drawN 24 rfl [0, 1, 2, 3, 4, 5, 6, 7, 8, 9, 10, 11] [5, 6, 7, 8, 9, 11] Tryz_mixed (by decide +kernel) ?_ | (refine JO.eff rfl rfl rfl (JEff.callSt rfl (w10_Step hst (by exact vta) (by exact vta) (by exact vta)) rfl ?_); intro _ _ _ _ _ _ _) | (refine JO.eff rfl rfl rfl (JEff.callV rfl (q10_works) rfl ?_); intro _ _) | (refine JO.eff rfl rfl rfl (JEff.callR rfl (q10_cut (by exact vta)) rfl ?_); intro _ _ _ _) | (refine JO.eff rfl rfl rfl (JEff.callL rfl (q10_fitted (by exact vta) (by exact vta) (by first | assumption | omega) (by first | assumption | omega)) rfl ?_); intro _ _ _ _ _ _) | (refine JO.eff rfl rfl rfl (JEff.callLE rfl (p8_All (by exact vta) (by exact vta)) rfl ?_); intro _ _ _ _ _ _) | (refine JO.eff rfl rfl rfl (JEff.callV rfl (p7_Check (by exact vta) (by exact vta)) rfl ?_); intro _ _) | (refine JO.eff rfl rfl rfl (JEff.callV rfl (p9_Safe (by exact vta) (by exact vta)) rfl ?_); intro _ _) | (refine JO.eff rfl rfl rfl (JEff.callV rfl (q10_next (by exact vta) (by exact vta) (by exact vta) (by assumption) (by assumption) (by assumption) (by assumption)) rfl ?_); intro _ _) | (refine JO.eff rfl rfl rfl (JEff.callV rfl (q10_find (by exact vta) (by exact vta)) rfl ?_); intro _ _) | (refine WNew ?_; intros) | (refine WPut ?_; intros))
          have hVq := (by assumption : (rSlice 8 rI64).V _ (.slice _ _ _) q)
          rw [decide_eq_true hq0]
          repeat (refine s4_L10k ?_; intros)
          rw [decide_eq_true hq0]
          repeat (refine s4_L10k ?_; intros)
          cases a with
          | true =>
            rw [hsb rfl]
            repeat (refine s4_L10k ?_; intros)
            by_cases hk2 : y.kind = 2
            · rw [decide_eq_true hk2]
              have hcd : nd.cordon = false := by
                cases hcc : nd.cordon with
                | false => rfl
                | true => exact absurd ⟨hk2, by unfold cordonAt; rw [hnd]; exact hcc⟩ h5
              repeat (refine s4_L10k ?_; intros)
              rw [hcd]
              repeat (refine s4_L10k ?_; intros)
              refine JC.loopF0 (σ := Nat) [(2, _), (3, _), (8, _), (10, _), (12, _), (14, _), (17, _)] (fun z => [(21, .int .i64 z)]) (fun Sj z => z ≤ (allL s' q).length) (fun z => (allL s' q).length - z) (0) (by exact sba) (by exact sba) (Nat.zero_le _) ?_; rintro Sj m hlj hij; (try dsimp only at hij); dsimp only [List.cons_append, List.nil_append]
              repeat (refine s4_L10k ?_; intros)
              refine JC.cond rfl (fun hc2 => ?_) (fun hc2 => ?_)
              · have hk2 := dlt hc2
                obtain ⟨x2, hx2, _⟩ := drop_at hk2
                have hle := hkq x2 (List.mem_of_getElem? hx2)
                repeat (refine s4_L10k ?_; intros)
                rw [decide_eq_false (show ¬ findC (allL s' p0) x2 < x2.by_ by omega)]
                repeat (refine s4_L10k ?_; intros)
                exact JX.roundF (m + 1) (by exact lea) (by omega) (by (try dsimp only); omega) rfl (by exact sba) (by exact sba)
              · repeat (refine s4_L10k ?_; intros)
                exact JX.roundF ((k + 1, _, _, q)) (by exact lea) (⟨by omega, hVq.mono (by exact lea), hq0, hql, hkq, hsq⟩) (by (try dsimp only); omega) rfl (by exact sba) (by exact sba)
            · rw [decide_eq_false hk2]
              repeat (refine s4_L10k ?_; intros)
              refine JC.loopF0 (σ := Nat) [(2, _), (3, _), (8, _), (10, _), (12, _), (14, _), (17, _)] (fun z => [(21, .int .i64 z)]) (fun Sj z => z ≤ (allL s' q).length) (fun z => (allL s' q).length - z) (0) (by exact sba) (by exact sba) (Nat.zero_le _) ?_; rintro Sj m hlj hij; (try dsimp only at hij); dsimp only [List.cons_append, List.nil_append]
              repeat (refine s4_L10k ?_; intros)
              refine JC.cond rfl (fun hc2 => ?_) (fun hc2 => ?_)
              · have hk2 := dlt hc2
                obtain ⟨x2, hx2, _⟩ := drop_at hk2
                have hle := hkq x2 (List.mem_of_getElem? hx2)
                repeat (refine s4_L10k ?_; intros)
                rw [decide_eq_false (show ¬ findC (allL s' p0) x2 < x2.by_ by omega)]
                repeat (refine s4_L10k ?_; intros)
                exact JX.roundF (m + 1) (by exact lea) (by omega) (by (try dsimp only); omega) rfl (by exact sba) (by exact sba)
              · repeat (refine s4_L10k ?_; intros)
                exact JX.roundF ((k + 1, _, _, q)) (by exact lea) (⟨by omega, hVq.mono (by exact lea), hq0, hql, hkq, hsq⟩) (by (try dsimp only); omega) rfl (by exact sba) (by exact sba)
          | false =>
            repeat (refine s4_L10k ?_; intros)
            by_cases hk2 : y.kind = 2
            · rw [decide_eq_true hk2]
              have hcd : nd.cordon = false := by
                cases hcc : nd.cordon with
                | false => rfl
                | true => exact absurd ⟨hk2, by unfold cordonAt; rw [hnd]; exact hcc⟩ h5
              repeat (refine s4_L10k ?_; intros)
              rw [hcd]
              repeat (refine s4_L10k ?_; intros)
              refine JC.loopF0 (σ := Nat) [(2, _), (3, _), (8, _), (10, _), (12, _), (14, _), (17, _)] (fun z => [(21, .int .i64 z)]) (fun Sj z => z ≤ (allL s' q).length) (fun z => (allL s' q).length - z) (0) (by exact sba) (by exact sba) (Nat.zero_le _) ?_; rintro Sj m hlj hij; (try dsimp only at hij); dsimp only [List.cons_append, List.nil_append]
              repeat (refine s4_L10k ?_; intros)
              refine JC.cond rfl (fun hc2 => ?_) (fun hc2 => ?_)
              · have hk2 := dlt hc2
                obtain ⟨x2, hx2, _⟩ := drop_at hk2
                have hle := hkq x2 (List.mem_of_getElem? hx2)
                repeat (refine s4_L10k ?_; intros)
                rw [decide_eq_false (show ¬ findC (allL s' p0) x2 < x2.by_ by omega)]
                repeat (refine s4_L10k ?_; intros)
                exact JX.roundF (m + 1) (by exact lea) (by omega) (by (try dsimp only); omega) rfl (by exact sba) (by exact sba)
              · repeat (refine s4_L10k ?_; intros)
                exact JX.roundF ((k + 1, _, _, q)) (by exact lea) (⟨by omega, hVq.mono (by exact lea), hq0, hql, hkq, hsq⟩) (by (try dsimp only); omega) rfl (by exact sba) (by exact sba)
            · rw [decide_eq_false hk2]
              repeat (refine s4_L10k ?_; intros)
              refine JC.loopF0 (σ := Nat) [(2, _), (3, _), (8, _), (10, _), (12, _), (14, _), (17, _)] (fun z => [(21, .int .i64 z)]) (fun Sj z => z ≤ (allL s' q).length) (fun z => (allL s' q).length - z) (0) (by exact sba) (by exact sba) (Nat.zero_le _) ?_; rintro Sj m hlj hij; (try dsimp only at hij); dsimp only [List.cons_append, List.nil_append]
              repeat (refine s4_L10k ?_; intros)
              refine JC.cond rfl (fun hc2 => ?_) (fun hc2 => ?_)
              · have hk2 := dlt hc2
                obtain ⟨x2, hx2, _⟩ := drop_at hk2
                have hle := hkq x2 (List.mem_of_getElem? hx2)
                repeat (refine s4_L10k ?_; intros)
                rw [decide_eq_false (show ¬ findC (allL s' p0) x2 < x2.by_ by omega)]
                repeat (refine s4_L10k ?_; intros)
                exact JX.roundF (m + 1) (by exact lea) (by omega) (by (try dsimp only); omega) rfl (by exact sba) (by exact sba)
              · repeat (refine s4_L10k ?_; intros)
                exact JX.roundF ((k + 1, _, _, q)) (by exact lea) (⟨by omega, hVq.mono (by exact lea), hq0, hql, hkq, hsq⟩) (by (try dsimp only); omega) rfl (by exact sba) (by exact sba)
        · obtain ⟨h1, rfl, h3, h4⟩ := next_bad hQ (f5.imp id (fun h => ⟨h.1, f3, f4, h.2⟩)) ⟨f1, f2⟩ hst he
          rcases h1 with rfl | rfl
          · repeat (first | (refine Walk ?_; intros) | refine JC.block ?_ | refine JC.drawN 24 rfl [0, 1, 2, 3, 4, 5, 6, 7, 8, 9, 10, 11] [5, 6, 7, 8, 9, 11] Tryz_mixed (by decide +kernel) ?_ | (refine JO.eff rfl rfl rfl (JEff.callSt rfl (w10_Step hst (by exact vta) (by exact vta) (by exact vta)) rfl ?_); intro _ _ _ _ _ _ _) | (refine JO.eff rfl rfl rfl (JEff.callV rfl (q10_works) rfl ?_); intro _ _) | (refine JO.eff rfl rfl rfl (JEff.callR rfl (q10_cut (by exact vta)) rfl ?_); intro _ _ _ _) | (refine JO.eff rfl rfl rfl (JEff.callL rfl (q10_fitted (by exact vta) (by exact vta) (by first | assumption | omega) (by first | assumption | omega)) rfl ?_); intro _ _ _ _ _ _) | (refine JO.eff rfl rfl rfl (JEff.callLE rfl (p8_All (by exact vta) (by exact vta)) rfl ?_); intro _ _ _ _ _ _) | (refine JO.eff rfl rfl rfl (JEff.callV rfl (p7_Check (by exact vta) (by exact vta)) rfl ?_); intro _ _) | (refine JO.eff rfl rfl rfl (JEff.callV rfl (p9_Safe (by exact vta) (by exact vta)) rfl ?_); intro _ _) | (refine JO.eff rfl rfl rfl (JEff.callV rfl (q10_next (by exact vta) (by exact vta) (by exact vta) (by assumption) (by assumption) (by assumption) (by assumption)) rfl ?_); intro _ _) | (refine JO.eff rfl rfl rfl (JEff.callV rfl (q10_find (by exact vta) (by exact vta)) rfl ?_); intro _ _) | (refine WNew ?_; intros) | (refine WPut ?_; intros))
            by_cases hck : c.kind = 0
            · rw [decide_eq_true hck]
              repeat (refine s4_L10k ?_; intros)
              exact JX.roundF ((k + 1, _, _, Q)) (by exact lea) (⟨by omega, hV.mono (by exact lea), hQ, hQl, hkp, hsf⟩) (by (try dsimp only); omega) rfl (by exact sba) (by exact sba)
            · rw [decide_eq_false hck]
              repeat (refine s4_L10k ?_; intros)
              rw [decide_eq_false (show ¬ c.by_ < 1 by have := h4 hck; omega)]
              repeat (refine s4_L10k ?_; intros)
              exact JX.roundF ((k + 1, _, _, Q)) (by exact lea) (⟨by omega, hV.mono (by exact lea), hQ, hQl, hkp, hsf⟩) (by (try dsimp only); omega) rfl (by exact sba) (by exact sba)
          · have hls : nd.lost = true := by have := (h3 rfl).2; unfold lostAt at this; rw [hnd] at this; exact this
            repeat (first | (refine Walk ?_; intros) | refine JC.block ?_ | refine JC.drawN 24 rfl [0, 1, 2, 3, 4, 5, 6, 7, 8, 9, 10, 11] [5, 6, 7, 8, 9, 11] Tryz_mixed (by decide +kernel) ?_ | (refine JO.eff rfl rfl rfl (JEff.callSt rfl (w10_Step hst (by exact vta) (by exact vta) (by exact vta)) rfl ?_); intro _ _ _ _ _ _ _) | (refine JO.eff rfl rfl rfl (JEff.callV rfl (q10_works) rfl ?_); intro _ _) | (refine JO.eff rfl rfl rfl (JEff.callR rfl (q10_cut (by exact vta)) rfl ?_); intro _ _ _ _) | (refine JO.eff rfl rfl rfl (JEff.callL rfl (q10_fitted (by exact vta) (by exact vta) (by first | assumption | omega) (by first | assumption | omega)) rfl ?_); intro _ _ _ _ _ _) | (refine JO.eff rfl rfl rfl (JEff.callLE rfl (p8_All (by exact vta) (by exact vta)) rfl ?_); intro _ _ _ _ _ _) | (refine JO.eff rfl rfl rfl (JEff.callV rfl (p7_Check (by exact vta) (by exact vta)) rfl ?_); intro _ _) | (refine JO.eff rfl rfl rfl (JEff.callV rfl (p9_Safe (by exact vta) (by exact vta)) rfl ?_); intro _ _) | (refine JO.eff rfl rfl rfl (JEff.callV rfl (q10_next (by exact vta) (by exact vta) (by exact vta) (by assumption) (by assumption) (by assumption) (by assumption)) rfl ?_); intro _ _) | (refine JO.eff rfl rfl rfl (JEff.callV rfl (q10_find (by exact vta) (by exact vta)) rfl ?_); intro _ _) | (refine WNew ?_; intros) | (refine WPut ?_; intros))
            rw [hls]
            repeat (refine s4_L10k ?_; intros)
            by_cases hck : c.kind = 0
            · rw [decide_eq_true hck]
              repeat (refine s4_L10k ?_; intros)
              exact JX.roundF ((k + 1, _, _, Q)) (by exact lea) (⟨by omega, hV.mono (by exact lea), hQ, hQl, hkp, hsf⟩) (by (try dsimp only); omega) rfl (by exact sba) (by exact sba)
            · rw [decide_eq_false hck]
              repeat (refine s4_L10k ?_; intros)
              rw [decide_eq_false (show ¬ c.by_ < 1 by have := h4 hck; omega)]
              repeat (refine s4_L10k ?_; intros)
              exact JX.roundF ((k + 1, _, _, Q)) (by exact lea) (⟨by omega, hV.mono (by exact lea), hQ, hQl, hkp, hsf⟩) (by (try dsimp only); omega) rfl (by exact sba) (by exact sba)
      · repeat (refine s4_L10k ?_; intros)
        (refine JX.ret1 Tryz.results4 (ResV.tmp rfl) (List.nil_sublist _) ?_)
        exact ⟨rfl, rfl⟩
    · repeat (refine s4_L10k ?_; intros)
      (refine JX.ret1 Tryz.results4 (ResV.tmp rfl) (List.nil_sublist _) ?_)
      exact ⟨rfl, rfl⟩
  · rw [decide_eq_false hc]
    repeat (refine s4_L10k ?_; intros)
    rw [decide_eq_true (rfl : checkP s' (fitV s' l) = checkP s' (fitV s' l))]
    repeat (refine s4_L10k ?_; intros)
    (refine JX.ret1 Tryz.results4 (ResV.tmp rfl) (List.nil_sublist _) ?_)
    exact ⟨rfl, rfl⟩
end Go.Dr
namespace Go.Dr
open Go.RowKit
def heapS (w : World) : SHeap := fun b => w.heap[b]?
theorem agree_heapS (w : World) : Agree (heapS w) w := fun _ _ h => h
theorem heapS_cell {w : World} {a : Addr} {v : Value} (h : w.cell? a = some v) : (heapS w).cell? a = some v := by
  unfold World.cell? at h
  unfold SHeap.cell? heapS
  exact h
class RdR {α : Type} (P : Program) (T : TypeId) (rep : Rp α) : Prop where
  rd : ∀ {H : Type} {enc : TypeId × Value → H} {w : World} {base : Nat} {spare : Nat → Bool} {held : Bool} {fuel : Nat} {cs : List Value} {d : DataW H} {ps : List MemPlace},
    DataW.trod enc P w base spare held fuel T cs = some (d, ps) → (∀ n ∈ d.weights P T, n ≤ reachBytes) → ∃ x, rep.R (heapS w) cs x
theorem cells_sz {α : Type} {P : Program} {T : TypeId} {rep : Rp α} (h : TyR P T rep) : P.cellsOf T = rep.sz := by
  obtain ⟨i, hi, hs⟩ := h.i
  unfold Program.cellsOf
  rw [hi]
  exact hs
theorem bytes_of {P : Program} {E : TypeId} {bt : Nat} (h : Byt P E bt) : P.bytesOf E = bt := by
  have := h.h
  unfold Program.bytesOf
  rw [this]; rfl
instance {P : Program} {T : TypeId} [h : Und P T (.int .i64)] : RdR P T rI64 where
  rd ht _ := by
    obtain ⟨n, rfl, _, hw⟩ := DataW.trod_int h.h ht
    refine ⟨n, rfl, ?_⟩
    simp only [Lit.wf, Bool.and_eq_true, decide_eq_true_eq] at hw
    exact hw
instance {P : Program} {T : TypeId} [h : Und P T .bool] : RdR P T rBool where
  rd ht _ := by
    obtain ⟨b, rfl, _⟩ := DataW.trod_bool h.h ht
    exact ⟨b, rfl⟩
theorem reach_big : reachBytes ≤ big := by decide
instance {P : Program} {T : TypeId} [h : Und P T .string] : RdR P T rStr where
  rd ht hw := by
    obtain ⟨s, rfl, hd, hs⟩ := DataW.trod_string h.h ht
    cases hd
    refine ⟨s, rfl, ?_⟩
    have := hw s.data.toList.length (by simp [DataW.weights])
    have e : s.data.toList.length = s.size := Array.length_toList
    have := reach_big
    omega
theorem list_of {α : Type} : ∀ {n : Nat} {q : Nat → α → Prop}, (∀ i, i < n → ∃ x, q i x) → ∃ l : List α, l.length = n ∧ ∀ i x, l[i]? = some x → q i x
  | 0, _, _ => ⟨[], rfl, fun i x h => by simp at h⟩
  | n + 1, q, h => by
    obtain ⟨x, hx⟩ := h 0 (by omega)
    obtain ⟨l, hl, hq⟩ := list_of (n := n) (q := fun i => q (i + 1)) (fun i hi => h (i + 1) (by omega))
    refine ⟨x :: l, by simp [hl], fun i y hy => ?_⟩
    cases i with
    | zero => cases hy; exact hx
    | succ i => exact hq i y hy
theorem weights_all {H : Type} {P : Program} {e : TypeId} : ∀ {l : List (DataW H)} {d : DataW H} {n : Nat}, d ∈ l → n ∈ d.weights P e → n ∈ DataW.weightsAll P e l
  | a :: l, d, n, hd, hn => by
    simp only [DataW.weightsAll, List.mem_append]
    rcases List.mem_cons.1 hd with rfl | hd
    · exact .inl hn
    · exact .inr (weights_all hd hn)
instance {α : Type} {P : Program} {T E : TypeId} {bt : Nat} {rep : Rp α} [hu : Und P T (.slice E)] [hr : RdR P E rep] [ht : TyR P E rep] [hb : Byt P E bt] [hz : NeZero bt] : RdR P T (rSlice bt rep) where
  rd h hw := by
    rcases Deep.open_slice hu.h h with ⟨rfl, _⟩ | ⟨a, len, cap, m, n, D, Pl, rfl, _, hlc, hcm, hm, hx, hel⟩
    · exact ⟨[], none, 0, 0, rfl, rfl, Nat.le_refl _, by simp, Nat.zero_le _, fun i x h => by simp at h⟩
    · cases hx
      have hmb : len ≤ m := by rw [hm]; split <;> omega
      have hrb := reach_big
      have hbt1 : 1 ≤ bt := Nat.one_le_iff_ne_zero.2 hz.out
      have hlen1 : len * 1 ≤ len * bt := Nat.mul_le_mul_left _ hbt1
      have hwt := hw ((((List.range len).map D).length + ((List.range (m - len)).map fun j => D (len + j)).length) * P.bytesOf E) (by simp [DataW.weights, hu.h])
      rw [bytes_of hb] at hwt
      simp only [List.length_map, List.length_range] at hwt
      have hlen : len * bt ≤ (len + (m - len)) * bt := Nat.mul_le_mul_right _ (by omega)
      obtain ⟨xs, hxl, hxs⟩ := list_of (n := len) (q := fun i x => PtrTo (heapS _) (a.add (i * rep.sz)) rep x) (fun i hi => by
        obtain ⟨cs', h1, h2⟩ := hel i (by omega)
        obtain ⟨_, hcl, hcs⟩ := World.cells?_some h1
        obtain ⟨x, hx⟩ := hr.rd h2 (fun k hk => hw k (by
          simp only [DataW.weights, hu.h, List.mem_cons, List.mem_append]
          exact .inr (.inl (weights_all (List.mem_map.2 ⟨i, by simpa using hi, rfl⟩) hk))))
        rw [cells_sz ht] at hcs hcl
        refine ⟨x, cs', hx, fun j v hv => heapS_cell ?_⟩
        have hj := (List.getElem?_eq_some_iff.1 hv).1
        rw [hcs j (by omega)]; exact hv)
      refine ⟨xs, some a, len, cap, rfl, hxl, hlc, by omega, by omega, fun i x h => ⟨a, rfl, hxs i x h⟩⟩
instance {P : Program} {T E : TypeId} {n : Nat} [hu : Und P T (.array n E)] [he : Und P E (.int .i64)] [ht : TyR P E rI64] [htt : TyR P T (rArr n)] : RdR P T (rArr n) where
  rd h _ := by
    rename_i cs d ps _
    obtain ⟨xs, m, rfl, _, hcl, hxl, hx⟩ := DataW.trod_array hu.h h
    have hsz : P.cellsOf E = 1 := cells_sz ht
    rw [cells_sz htt] at hcl
    have hcl : cs.length = n := hcl
    obtain ⟨l, hll, hl⟩ := list_of (n := n) (q := fun i (z : Int) => cs[i]? = some (.int .i64 z) ∧ Rng z) (fun i hi => by
      have h1 := hx i hi
      rw [hsz, Nat.mul_one, List.getElem?_eq_getElem (by omega)] at h1
      obtain ⟨z, hz, _, hw⟩ := DataW.trod_int he.h h1
      refine ⟨z, ?_, ?_⟩
      · have : ((cs.drop i).take 1)[0]? = some (.int .i64 z) := by rw [hz]; rfl
        rw [List.getElem?_take, if_pos (by omega), List.getElem?_drop] at this
        simpa using this
      · simp only [Lit.wf, Bool.and_eq_true, decide_eq_true_eq] at hw
        exact hw)
    refine ⟨l, hll, ?_, fun x hx => ?_⟩
    · apply List.ext_getElem?
      intro i
      rw [List.getElem?_map]
      by_cases hi : i < n
      · have hg : l[i]? = some l[i] := List.getElem?_eq_getElem (by omega)
        rw [hg, (hl i _ hg).1]; rfl
      · rw [List.getElem?_eq_none (by omega), List.getElem?_eq_none (by omega)]; rfl
    · obtain ⟨i, hi⟩ := List.getElem?_of_mem hx
      exact (hl i x hi).2
structure RdF {α : Type} (P : Program) (off : Nat) (fs : List Field) (rep : Rp α) : Prop where
  run : ∀ {H : Type} {enc : TypeId × Value → H} {w : World} {base : Nat} {spare : Nat → Bool} {held : Bool} {m : Nat} {cs : List Value} {xs : List (DataW H × List MemPlace)}, cs.length = off + rep.sz → xs.length = fs.length →
    (∀ (i : Nat) (f : Field), fs[i]? = some f → DataW.trod enc P w base spare held m f.type ((cs.drop f.offset).take (P.cellsOf f.type)) = xs[i]?) →
    (∀ n ∈ DataW.weightsEach P (fs.map (·.type)) (xs.map (·.1)), n ≤ reachBytes) → ∃ x, rep.R (heapS w) (cs.drop off) x
theorem RdF.last {α : Type} {P : Program} {off : Nat} {f : Field} {rep : Rp α} (ho : f.offset = off) (hr : RdR P f.type rep) (hs : P.cellsOf f.type = rep.sz) : RdF P off [f] rep := ⟨by
  intro H enc w base spare held m cs xs hc hl hx hw
  match xs, hl with
  | [y], _ =>
    have h1 := hx 0 f rfl
    rw [ho, hs, List.take_of_length_le (by rw [List.length_drop]; omega)] at h1
    refine hr.rd (d := y.1) (ps := y.2) h1 (fun n hn => hw n ?_)
    simp only [List.map_cons, DataW.weightsEach, List.mem_append]
    exact .inl hn⟩
theorem RdF.cons {α β : Type} {P : Program} {off : Nat} {f : Field} {fs : List Field} {a : Rp α} {b : Rp β} (ho : f.offset = off) (hr : RdR P f.type a) (hs : P.cellsOf f.type = a.sz) (h : RdF P (off + a.sz) fs b) : RdF P off (f :: fs) (rSeq a b) := ⟨by
  intro H enc w base spare held m cs xs hc hl hx hw
  match xs, hl with
  | y :: ys, hl =>
    have hc : cs.length = off + (a.sz + b.sz) := hc
    have h1 := hx 0 f rfl
    rw [ho, hs] at h1
    obtain ⟨x1, hx1⟩ := hr.rd (d := y.1) (ps := y.2) h1 (fun n hn => hw n (by
      simp only [List.map_cons, DataW.weightsEach, List.mem_append]
      exact .inl hn))
    obtain ⟨x2, hx2⟩ := h.run (cs := cs) (xs := ys) (by omega) (by simpa using hl) (fun i g hg => hx (i + 1) g hg) (fun n hn => hw n (by
      simp only [List.map_cons, DataW.weightsEach, List.mem_append]
      exact .inr hn))
    refine ⟨(x1, x2), (cs.drop off).take a.sz, cs.drop (off + a.sz), ?_, hx1, hx2⟩
    rw [← List.drop_drop, List.take_append_drop]⟩
theorem RdR.struct {α : Type} {P : Program} {T : TypeId} {fs : Array Field} {rep : Rp α} (hu : P.underlying T = some (.struct fs)) (hs : P.cellsOf T = rep.sz) (h : RdF P 0 fs.toList rep) : RdR P T rep where
  rd ht hw := by
    obtain ⟨xs, n, rfl, hx, hcl, hxl, hel⟩ := DataW.trod_struct hu ht
    cases hx
    obtain ⟨x, hx⟩ := h.run (xs := xs) (by rw [hcl, hs]; omega) (by simpa using hxl) (fun i f hf => hel i f (by simpa using hf)) (fun k hk => hw k (by simpa [DataW.weights, hu] using hk))
    exact ⟨x, by simpa using hx⟩
theorem RdR.map {α γ : Type} {P : Program} {T : TypeId} {a : Rp α} {f : γ → α} (g : α → γ) (hg : ∀ y, f (g y) = y) (h : RdR P T a) : RdR P T (rMap f a) where
  rd ht hw := by
    obtain ⟨x, hx⟩ := h.rd ht hw
    exact ⟨g x, by show a.R _ _ (f (g x)); rw [hg]; exact hx⟩
theorem notAgg_ok {P : Program} {W : World} {base : Nat} {T : TypeId} {v : Value} {d : TypeDesc} (hu : P.underlying T = some d) (ha : isAggD d = false) (h : Value.okWide P W .any base T v) : ∀ cs, v ≠ .agg cs := by
  rintro cs rfl
  unfold Value.okWide at h
  rw [hu] at h
  cases d <;> first | (cases ha; done) | (simp only [Cell.okWide, Cell.ok, hu] at h; done) | (simp [Cell.okWide, Cell.ok, hu] at h)
theorem agg_ok {P : Program} {W : World} {base : Nat} {T : TypeId} {v : Value} {d : TypeDesc} (hu : P.underlying T = some d) (ha : isAggD d = true) (h : Value.okWide P W .any base T v) : ∃ cs, v = .agg cs := by
  unfold Value.okWide at h
  rw [hu] at h
  cases d <;> first | (cases ha; done) | (obtain ⟨cs, h, _⟩ := h; exact ⟨cs, h⟩)
theorem rd_arg {α : Type} {H : Type} {enc : TypeId × Value → H} {P : Program} {W : World} {base : Nat} {T : TypeId} {v : Value} {d : DataW H} {ps : List MemPlace} (rep : Rp α) [ht : TyR P T rep] [hr : RdR P T rep] (hok : Value.okWide P W .any base T v)
    (h : DataW.Trod enc P W 0 (fun _ => true) true T v d ps) (hw : ∀ n ∈ d.weights P T, n ≤ reachBytes) : ∃ x, rep.V (heapS W) v x := by
  obtain ⟨fuel, hf⟩ := h
  obtain ⟨x, hx⟩ := hr.rd hf hw
  obtain ⟨dd, hd, ha⟩ := ht.u
  cases hag : rep.agg with
  | true =>
    obtain ⟨cs, rfl⟩ := agg_ok hd (ha.trans hag) hok
    exact ⟨x, cs.toList, by simpa [Value.cells] using hx, by simp [hag]⟩
  | false =>
    have hn := notAgg_ok hd (ha.trans hag) hok
    have hc : v.cells = #[v] := by cases v <;> first | rfl | exact absurd rfl (hn _)
    rw [hc] at hx
    exact ⟨x, [v], hx, by simp [hag]⟩
theorem sized_arg {H : Type} {P : Program} {ts : List TypeId} {ds : List (DataW H)} (h : (DataW.weightsEach P ts ds).all (· ≤ reachBytes) = true) {j : Nat} {t : TypeId} {d : DataW H} (ht : ts[j]? = some t) (hd : ds[j]? = some d) : ∀ n ∈ d.weights P t, n ≤ reachBytes := fun n hn => by
  have := List.all_eq_true.1 h _ (DataW.weights_mem_each ht hd n hn)
  simpa using this
theorem FnV.calls {P : Program} {f : FuncId} {args : Array Value} {r : Value} {W : World} (h : FnV P f args (heapS W) r) : Calls P f args W fun e W' => e = .returned r ∧ Below W.heap.size W W' := by
  refine (h W (agree_heapS W) (by simp) .nil (by simp)).mono ?_
  rintro e w' ⟨v, S', M', rfl, hw, rfl, rfl⟩
  exact ⟨rfl, hw.below⟩
end Go.Dr
namespace Go.Dr
open Go.Proofs
set_option maxRecDepth 20000
instance : RdR Tryz.prog 82 rLabel := RdR.map (fun y => ⟨y.1, y.2⟩) (fun _ => rfl) (RdR.struct Tryz.underlying82 (by kernel_rfl) (RdF.cons rfl (show RdR Tryz.prog 9 rStr from inferInstance) (by kernel_rfl) (RdF.last rfl (show RdR Tryz.prog 9 rStr from inferInstance) (by kernel_rfl))))
instance : RdR Tryz.prog 199 rTerm := RdR.map (fun y => ⟨y.1, y.2.1, y.2.2⟩) (fun _ => rfl) (RdR.struct Tryz.underlying199 (by kernel_rfl) (RdF.cons rfl (show RdR Tryz.prog 3 rI64 from inferInstance) (by kernel_rfl) (RdF.cons rfl (show RdR Tryz.prog 9 rStr from inferInstance) (by kernel_rfl) (RdF.last rfl (show RdR Tryz.prog 9 rStr from inferInstance) (by kernel_rfl)))))
instance : RdR Tryz.prog 77 rNear := RdR.map (fun y => ⟨y.1, y.2⟩) (fun _ => rfl) (RdR.struct Tryz.underlying77 (by kernel_rfl) (RdF.cons rfl (show RdR Tryz.prog 9 rStr from inferInstance) (by kernel_rfl) (RdF.last rfl (show RdR Tryz.prog 75 (rSlice 40 rTerm) from inferInstance) (by kernel_rfl))))
instance : RdR Tryz.prog 33 rNode := RdR.map (fun y => ⟨y.1, y.2.1, y.2.2.1, y.2.2.2.1, y.2.2.2.2.1, y.2.2.2.2.2⟩) (fun _ => rfl) (RdR.struct Tryz.underlying33 (by kernel_rfl) (RdF.cons rfl (show RdR Tryz.prog 9 rStr from inferInstance) (by kernel_rfl) (RdF.cons rfl (show RdR Tryz.prog 30 (rArr 5) from inferInstance) (by kernel_rfl) (RdF.cons rfl (show RdR Tryz.prog 31 (rSlice 32 rLabel) from inferInstance) (by kernel_rfl) (RdF.cons rfl (show RdR Tryz.prog 31 (rSlice 32 rLabel) from inferInstance) (by kernel_rfl) (RdF.cons rfl (show RdR Tryz.prog 4 rBool from inferInstance) (by kernel_rfl) (RdF.last rfl (show RdR Tryz.prog 4 rBool from inferInstance) (by kernel_rfl))))))))
instance : RdR Tryz.prog 79 rPod := RdR.map (fun y => ⟨y.1, y.2.1, y.2.2.1, y.2.2.2.1, y.2.2.2.2.1, y.2.2.2.2.2.1, y.2.2.2.2.2.2.1, y.2.2.2.2.2.2.2.1, y.2.2.2.2.2.2.2.2⟩) (fun _ => rfl) (RdR.struct Tryz.underlying79 (by kernel_rfl) (RdF.cons rfl (show RdR Tryz.prog 9 rStr from inferInstance) (by kernel_rfl) (RdF.cons rfl (show RdR Tryz.prog 9 rStr from inferInstance) (by kernel_rfl) (RdF.cons rfl (show RdR Tryz.prog 30 (rArr 5) from inferInstance) (by kernel_rfl) (RdF.cons rfl (show RdR Tryz.prog 31 (rSlice 32 rLabel) from inferInstance) (by kernel_rfl) (RdF.cons rfl (show RdR Tryz.prog 75 (rSlice 40 rTerm) from inferInstance) (by kernel_rfl) (RdF.cons rfl (show RdR Tryz.prog 31 (rSlice 32 rLabel) from inferInstance) (by kernel_rfl) (RdF.cons rfl (show RdR Tryz.prog 77 rNear from inferInstance) (by kernel_rfl) (RdF.cons rfl (show RdR Tryz.prog 77 rNear from inferInstance) (by kernel_rfl) (RdF.last rfl (show RdR Tryz.prog 9 rStr from inferInstance) (by kernel_rfl)))))))))))
instance : RdR Tryz.prog 47 rOwner := RdR.map (fun y => ⟨y.1, y.2.1, y.2.2.1, y.2.2.2.1, y.2.2.2.2⟩) (fun _ => rfl) (RdR.struct Tryz.underlying47 (by kernel_rfl) (RdF.cons rfl (show RdR Tryz.prog 9 rStr from inferInstance) (by kernel_rfl) (RdF.cons rfl (show RdR Tryz.prog 3 rI64 from inferInstance) (by kernel_rfl) (RdF.cons rfl (show RdR Tryz.prog 9 rStr from inferInstance) (by kernel_rfl) (RdF.cons rfl (show RdR Tryz.prog 3 rI64 from inferInstance) (by kernel_rfl) (RdF.last rfl (show RdR Tryz.prog 4 rBool from inferInstance) (by kernel_rfl)))))))
instance : RdR Tryz.prog 26 rSnap := RdR.map (fun y => ⟨y.1, y.2.1, y.2.2⟩) (fun _ => rfl) (RdR.struct Tryz.underlying26 (by kernel_rfl) (RdF.cons rfl (show RdR Tryz.prog 22 (rSlice 112 rNode) from inferInstance) (by kernel_rfl) (RdF.cons rfl (show RdR Tryz.prog 23 (rSlice 240 rPod) from inferInstance) (by kernel_rfl) (RdF.last rfl (show RdR Tryz.prog 24 (rSlice 56 rOwner) from inferInstance) (by kernel_rfl)))))
instance : RdR Tryz.prog 40 rStep := RdR.map (fun y => ⟨y.1, y.2.1, y.2.2⟩) (fun _ => rfl) (RdR.struct Tryz.underlying40 (by kernel_rfl) (RdF.cons rfl (show RdR Tryz.prog 3 rI64 from inferInstance) (by kernel_rfl) (RdF.cons rfl (show RdR Tryz.prog 3 rI64 from inferInstance) (by kernel_rfl) (RdF.last rfl (show RdR Tryz.prog 3 rI64 from inferInstance) (by kernel_rfl)))))
instance : RdR Tryz.prog 35 rClause := RdR.map (fun y => ⟨y.1, y.2.1, y.2.2.1, y.2.2.2⟩) (fun _ => rfl) (RdR.struct Tryz.underlying35 (by kernel_rfl) (RdF.cons rfl (show RdR Tryz.prog 3 rI64 from inferInstance) (by kernel_rfl) (RdF.cons rfl (show RdR Tryz.prog 3 rI64 from inferInstance) (by kernel_rfl) (RdF.cons rfl (show RdR Tryz.prog 3 rI64 from inferInstance) (by kernel_rfl) (RdF.last rfl (show RdR Tryz.prog 3 rI64 from inferInstance) (by kernel_rfl))))))
end Go.Dr
namespace Go.Dr
open Go.Proofs
set_option maxRecDepth 20000
set_option maxHeartbeats 2000000
set_option linter.unusedSimpArgs false
set_option linter.unusedVariables false
theorem s5_L10l {P K : Prop} (k : K) (h : Goal K → P := by
  intro zk
  (first | refine Walk ?_ | refine JC.block ?_ | (refine JO.eff rfl rfl rfl (JEff.callV rfl (q10_on _ _ (by unfold Rng; omega) (by unfold Rng; omega)) rfl ?_); intro zqa zqb) | (refine JO.eff rfl rfl rfl (JEff.callV rfl (q10_off _ (by unfold Rng; omega)) rfl ?_); intro zqa zqb) | (refine JO.eff rfl rfl rfl (JEff.callV rfl (q10_works) rfl ?_); intro zqa zqb) | (refine JO.eff rfl rfl rfl (JEff.callV rfl (r0_EqInts (by exact vta) (by exact vta)) rfl ?_); intro zqa zqb) | (refine JO.eff rfl rfl rfl (JEff.callL rfl (p10_Ways _ (by exact vta) (by exact vta) (by first | assumption | omega) (by first | assumption | (unfold Rng; omega))) rfl ?_); intro zqa zqb zqc zqd zqe zqf) | (refine JO.eff rfl rfl rfl (JEff.callR rfl (q10_cut (by exact vta)) rfl ?_); intro zqa zqb zqc zqd) | (refine JO.eff rfl rfl rfl (JEff.callL rfl (q10_fitted (by exact vta) (by exact vta) (by first | assumption | omega) (by first | assumption | omega)) rfl ?_); intro zqa zqb zqc zqd zqe zqf) | (refine JO.eff rfl rfl rfl (JEff.callV rfl (p9_Safe (by exact vta) (by exact vta)) rfl ?_); intro zqa zqb) | (refine WNew ?_) | (refine WPut ?_))
  (repeat (first | revert zqg | revert zqf | revert zqe | revert zqd | revert zqc | revert zqb | revert zqa))
  exact zk.k) : P := h ⟨k⟩
theorem a10_AdmitBack {S : SHeap} {u v : Value} {s : Snap} {l : List Int} (hu : rSnap.V S u s) (hv : (rSlice 8 rI64).V S v l) : FnV Tryz.prog 5 #[u, v] S (.bool true) := by
  obtain ⟨cs, rfl, hcs⟩ := V_agg rfl hu
  (refine Fn.enter (args := [.agg cs.toArray, v]) Tryz.func5 rfl Tryz.ntmps5 rfl ?_; intro w0)
  repeat (refine s5_L10l ?_; intros)
  refine JO.eff rfl rfl rfl (JEff.box rfl rfl ?_); intro bb hbb
  repeat (refine s5_L10l ?_; intros)
  refine JO.pure rfl rfl rfl (JPure.loadM (rep := rSnap) (x0 := s) (mid := cs) rfl (by (first | exact List.mem_cons_self | exact List.mem_cons_of_mem _ List.mem_cons_self | exact List.mem_cons_of_mem _ (List.mem_cons_of_mem _ List.mem_cons_self))) (by show cs.take 3 = cs; exact List.take_of_length_le (by rw [rSnap.len hcs]; exact Nat.le_refl _)) (rSnap.mono (by exact lea) hcs) (.inl rfl) rfl ?_)
  refine JO.eff rfl rfl rfl (JEff.callR rfl (q10_cut (Rp.val_V (rSnap.mono (by exact lea) hcs))) rfl ?_); intro cw S1 hl1 hcw
  repeat (refine s5_L10l ?_; intros)
  refine JO.eff rfl rfl rfl (JEff.storeW rfl rfl hcw nna (List.Perm.refl _) (by show 3 = cs.length; exact (rSnap.len hcs).symm) (by intro l hl; cases hl) ?_)
  refine JO.freezeV hcw nna hbb (by intro l hl; cases hl) ?_; intro S2 hl2 hpb
  have hn : (cutS s).nodes.length ≤ 1000 := by simp only [cutS, List.length_take]; omega
  have hpd : (cutS s).pods.length ≤ 1000 := by simp only [cutS, List.length_take]; omega
  generalize cutS s = s' at *
  have hfl := fit_len s' l
  obtain ⟨a, e, ha⟩ : ∃ a e, (safeB s' (fitV s' l), checkP s' (fitV s' l)) = (a, e) := ⟨_, _, rfl⟩
  by_cases he : e = 0
  · subst he
    have hc : checkP s' (fitV s' l) = 0 := (Prod.mk.inj ha).2
    repeat (first | (refine Walk ?_; intros) | refine JC.block ?_ | (refine JO.eff rfl rfl rfl (JEff.callV rfl (w9_Safe ha (by exact vta) (by exact vta)) rfl ?_); intro _ _) | (refine JO.eff rfl rfl rfl (JEff.callV rfl (q10_on _ _ (by unfold Rng; omega) (by unfold Rng; omega)) rfl ?_); intro _ _) | (refine JO.eff rfl rfl rfl (JEff.callV rfl (q10_off _ (by unfold Rng; omega)) rfl ?_); intro _ _) | (refine JO.eff rfl rfl rfl (JEff.callV rfl (q10_works) rfl ?_); intro _ _) | (refine JO.eff rfl rfl rfl (JEff.callV rfl (r0_EqInts (by exact vta) (by exact vta)) rfl ?_); intro _ _) | (refine JO.eff rfl rfl rfl (JEff.callL rfl (p10_Ways _ (by exact vta) (by exact vta) (by first | assumption | omega) (by first | assumption | (unfold Rng; omega))) rfl ?_); intro _ _ _ _ _ _) | (refine JO.eff rfl rfl rfl (JEff.callR rfl (q10_cut (by exact vta)) rfl ?_); intro _ _ _ _) | (refine JO.eff rfl rfl rfl (JEff.callL rfl (q10_fitted (by exact vta) (by exact vta) (by first | assumption | omega) (by first | assumption | omega)) rfl ?_); intro _ _ _ _ _ _) | (refine JO.eff rfl rfl rfl (JEff.callV rfl (p9_Safe (by exact vta) (by exact vta)) rfl ?_); intro _ _) | (refine WNew ?_; intros) | (refine WPut ?_; intros))
    cases a with
    | false =>
      repeat (refine s5_L10l ?_; intros)
      (refine JX.ret1 Tryz.results5 (ResV.tmp rfl) (List.nil_sublist _) ?_)
      exact ⟨rfl, rfl⟩
    | true =>
      have hsafe : sumV s' (fitV s' l) = 0 := by have := (Prod.mk.inj ha).1; simp only [safeB, Bool.and_eq_true, decide_eq_true_eq] at this; exact this.2
      generalize fitV s' l = p at *
      repeat (refine s5_L10l ?_; intros)
      refine JC.loopF0 (σ := Nat) [(2, _), (5, _)] (fun q => [(8, .int .i64 q)]) (fun Si q => q ≤ p.length) (fun q => p.length - q) (0) (by exact sba) (by exact sba) (Nat.zero_le _) ?_; rintro Si ci hli hii; (try dsimp only at hii); dsimp only [List.cons_append, List.nil_append]
      repeat (refine s5_L10l ?_; intros)
      refine JC.cond rfl (fun hc1 => ?_) (fun hc1 => ?_)
      · have hk' := dlt hc1
        obtain ⟨z, hz, _⟩ := drop_at hk'
        have hz0 := at0_some hz
        repeat (refine s5_L10l ?_; intros)
        by_cases h0 : 0 ≤ z
        · rw [decide_eq_true h0]
          have hl0 : (waysV s' p ci).length = 0 := by rw [ways_placed (by omega)]; rfl
          repeat (refine s5_L10l ?_; intros)
          rw [decide_eq_false (show ¬ (0 : Int) < ((waysV s' p ci).length : Int) by omega)]
          repeat (refine s5_L10l ?_; intros)
          refine JC.loopF0 (σ := Nat) [(2, _), (5, _), (8, _), (9, _)] (fun q => [(10, .int .i64 q)]) (fun Sj q => q ≤ (waysV s' p ci).length) (fun q => (waysV s' p ci).length - q) (0) (by exact sba) (by exact sba) (Nat.zero_le _) ?_; rintro Sj m hlj hij; (try dsimp only at hij); dsimp only [List.cons_append, List.nil_append]
          repeat (refine s5_L10l ?_; intros)
          refine JC.cond rfl (fun hc2 => ?_) (fun hc2 => ?_)
          · have hk2 := dlt hc2
            obtain ⟨n, hn1, _⟩ := drop_at hk2
            obtain ⟨q, hst, hn2, hn3⟩ := ways_may hn1
            have hback := back_ok hsafe hst
            have hr2 : Rng (2 : Int) ∧ Rng (ci : Int) ∧ Rng n := ⟨by simp [Rng], by unfold Rng; omega, by unfold Rng; omega⟩
            have hr1 : Rng (1 : Int) ∧ Rng (ci : Int) ∧ Rng (0 : Int) := ⟨by simp [Rng], by unfold Rng; omega, by simp [Rng]⟩
            repeat (refine s5_L10l ?_; intros)
            refine JC.partF0 (σ := Option Addr × Nat) [(2, _), (5, _), (8, _), (9, _), (10, _)] (fun z => [(11, .slice z.1 q.length z.2), (13, .int .i64 0)]) (fun SA z => (rSlice 8 rI64).V SA (.slice z.1 q.length z.2) q) ?_ (by exact sba) ?_; rotate_left; rintro SA ⟨ra, rc⟩ hlA hiA; (try dsimp only at hiA); dsimp only [List.cons_append, List.nil_append]; rotate_left
            · refine JC.drawTree 15 rfl [14, 16] [0, 1, 2, 3, 4, 5, 6] (.alt (ofL [7] (.alt (ofL [8, 9, 10, 11, 12, 13, 14, 15, 16] .nil) (ofL [13, 8, 9, 10, 11, 12, 14, 15, 16] .nil))) (ofL [13, 7, 8, 9, 10, 11, 12, 14, 15, 16] .nil)) Tryz_mixed (by decide +kernel) ?_
              repeat (refine s5_L10l ?_; intros)
              refine JO.alt ?_ ?_
              · repeat (refine s5_L10l ?_; intros)
                refine JO.alt ?_ ?_
                all_goals
                  repeat (first | (refine Walk ?_; intros) | refine JC.block ?_ | (refine JO.eff rfl rfl rfl (JEff.callSt rfl (w10_Step hst (by exact vta) (by exact vta) (V_stV hr2)) rfl ?_); intro _ _ _ _ _ _ _) | (refine JO.eff rfl rfl rfl (JEff.callV rfl (q10_on _ _ (by unfold Rng; omega) (by unfold Rng; omega)) rfl ?_); intro _ _) | (refine JO.eff rfl rfl rfl (JEff.callV rfl (q10_off _ (by unfold Rng; omega)) rfl ?_); intro _ _) | (refine JO.eff rfl rfl rfl (JEff.callV rfl (q10_works) rfl ?_); intro _ _) | (refine JO.eff rfl rfl rfl (JEff.callV rfl (r0_EqInts (by exact vta) (by exact vta)) rfl ?_); intro _ _) | (refine JO.eff rfl rfl rfl (JEff.callL rfl (p10_Ways _ (by exact vta) (by exact vta) (by first | assumption | omega) (by first | assumption | (unfold Rng; omega))) rfl ?_); intro _ _ _ _ _ _) | (refine JO.eff rfl rfl rfl (JEff.callR rfl (q10_cut (by exact vta)) rfl ?_); intro _ _ _ _) | (refine JO.eff rfl rfl rfl (JEff.callL rfl (q10_fitted (by exact vta) (by exact vta) (by first | assumption | omega) (by first | assumption | omega)) rfl ?_); intro _ _ _ _ _ _) | (refine JO.eff rfl rfl rfl (JEff.callV rfl (p9_Safe (by exact vta) (by exact vta)) rfl ?_); intro _ _) | (refine WNew ?_; intros) | (refine WPut ?_; intros))
                  exact JX.partF ((_, _)) (by exact lea) (by exact vta) rfl (by exact sba) (by exact sba)
              · repeat (first | (refine Walk ?_; intros) | refine JC.block ?_ | (refine JO.eff rfl rfl rfl (JEff.callSt rfl (w10_Step hst (by exact vta) (by exact vta) (V_stV hr2)) rfl ?_); intro _ _ _ _ _ _ _) | (refine JO.eff rfl rfl rfl (JEff.callV rfl (q10_on _ _ (by unfold Rng; omega) (by unfold Rng; omega)) rfl ?_); intro _ _) | (refine JO.eff rfl rfl rfl (JEff.callV rfl (q10_off _ (by unfold Rng; omega)) rfl ?_); intro _ _) | (refine JO.eff rfl rfl rfl (JEff.callV rfl (q10_works) rfl ?_); intro _ _) | (refine JO.eff rfl rfl rfl (JEff.callV rfl (r0_EqInts (by exact vta) (by exact vta)) rfl ?_); intro _ _) | (refine JO.eff rfl rfl rfl (JEff.callL rfl (p10_Ways _ (by exact vta) (by exact vta) (by first | assumption | omega) (by first | assumption | (unfold Rng; omega))) rfl ?_); intro _ _ _ _ _ _) | (refine JO.eff rfl rfl rfl (JEff.callR rfl (q10_cut (by exact vta)) rfl ?_); intro _ _ _ _) | (refine JO.eff rfl rfl rfl (JEff.callL rfl (q10_fitted (by exact vta) (by exact vta) (by first | assumption | omega) (by first | assumption | omega)) rfl ?_); intro _ _ _ _ _ _) | (refine JO.eff rfl rfl rfl (JEff.callV rfl (p9_Safe (by exact vta) (by exact vta)) rfl ?_); intro _ _) | (refine WNew ?_; intros) | (refine WPut ?_; intros))
                exact JX.partF ((_, _)) (by exact lea) (by exact vta) rfl (by exact sba) (by exact sba)
            repeat (refine s5_L10l ?_; intros)
            refine JC.partF0 (σ := Option Addr × Nat) [(2, _), (5, _), (8, _), (9, _), (10, _)] (fun z => [(14, .slice z.1 p.length z.2), (16, .int .i64 0)]) (fun SB z => (rSlice 8 rI64).V SB (.slice z.1 p.length z.2) p) ?_ (by exact sba) ?_; rotate_left; rintro SB ⟨rb, rd⟩ hlB hiB; (try dsimp only at hiB); dsimp only [List.cons_append, List.nil_append]; rotate_left
            · refine JC.drawTree 18 rfl [10, 12] [0, 1, 2] (.alt (ofL [3] (.alt (ofL [4, 5, 6, 7, 8, 9, 10, 11, 12] .nil) (ofL [9, 4, 5, 6, 7, 8, 10, 11, 12] .nil))) (ofL [9, 3, 4, 5, 6, 7, 8, 10, 11, 12] .nil)) Tryz_mixed (by decide +kernel) ?_
              repeat (refine s5_L10l ?_; intros)
              refine JO.alt ?_ ?_
              · repeat (refine s5_L10l ?_; intros)
                refine JO.alt ?_ ?_
                all_goals
                  repeat (first | (refine Walk ?_; intros) | refine JC.block ?_ | (refine JO.eff rfl rfl rfl (JEff.callSt rfl (w10_Step hback (by exact vta) (by exact vta) (V_stV hr1)) rfl ?_); intro _ _ _ _ _ _ _) | (refine JO.eff rfl rfl rfl (JEff.callV rfl (q10_on _ _ (by unfold Rng; omega) (by unfold Rng; omega)) rfl ?_); intro _ _) | (refine JO.eff rfl rfl rfl (JEff.callV rfl (q10_off _ (by unfold Rng; omega)) rfl ?_); intro _ _) | (refine JO.eff rfl rfl rfl (JEff.callV rfl (q10_works) rfl ?_); intro _ _) | (refine JO.eff rfl rfl rfl (JEff.callV rfl (r0_EqInts (by exact vta) (by exact vta)) rfl ?_); intro _ _) | (refine JO.eff rfl rfl rfl (JEff.callL rfl (p10_Ways _ (by exact vta) (by exact vta) (by first | assumption | omega) (by first | assumption | (unfold Rng; omega))) rfl ?_); intro _ _ _ _ _ _) | (refine JO.eff rfl rfl rfl (JEff.callR rfl (q10_cut (by exact vta)) rfl ?_); intro _ _ _ _) | (refine JO.eff rfl rfl rfl (JEff.callL rfl (q10_fitted (by exact vta) (by exact vta) (by first | assumption | omega) (by first | assumption | omega)) rfl ?_); intro _ _ _ _ _ _) | (refine JO.eff rfl rfl rfl (JEff.callV rfl (p9_Safe (by exact vta) (by exact vta)) rfl ?_); intro _ _) | (refine WNew ?_; intros) | (refine WPut ?_; intros))
                  exact JX.partF ((_, _)) (by exact lea) (by exact vta) rfl (by exact sba) (by exact sba)
              · repeat (first | (refine Walk ?_; intros) | refine JC.block ?_ | (refine JO.eff rfl rfl rfl (JEff.callSt rfl (w10_Step hback (by exact vta) (by exact vta) (V_stV hr1)) rfl ?_); intro _ _ _ _ _ _ _) | (refine JO.eff rfl rfl rfl (JEff.callV rfl (q10_on _ _ (by unfold Rng; omega) (by unfold Rng; omega)) rfl ?_); intro _ _) | (refine JO.eff rfl rfl rfl (JEff.callV rfl (q10_off _ (by unfold Rng; omega)) rfl ?_); intro _ _) | (refine JO.eff rfl rfl rfl (JEff.callV rfl (q10_works) rfl ?_); intro _ _) | (refine JO.eff rfl rfl rfl (JEff.callV rfl (r0_EqInts (by exact vta) (by exact vta)) rfl ?_); intro _ _) | (refine JO.eff rfl rfl rfl (JEff.callL rfl (p10_Ways _ (by exact vta) (by exact vta) (by first | assumption | omega) (by first | assumption | (unfold Rng; omega))) rfl ?_); intro _ _ _ _ _ _) | (refine JO.eff rfl rfl rfl (JEff.callR rfl (q10_cut (by exact vta)) rfl ?_); intro _ _ _ _) | (refine JO.eff rfl rfl rfl (JEff.callL rfl (q10_fitted (by exact vta) (by exact vta) (by first | assumption | omega) (by first | assumption | omega)) rfl ?_); intro _ _ _ _ _ _) | (refine JO.eff rfl rfl rfl (JEff.callV rfl (p9_Safe (by exact vta) (by exact vta)) rfl ?_); intro _ _) | (refine WNew ?_; intros) | (refine WPut ?_; intros))
                exact JX.partF ((_, _)) (by exact lea) (by exact vta) rfl (by exact sba) (by exact sba)
            repeat (first | (refine Walk ?_; intros) | refine JC.block ?_ | (refine JO.eff rfl rfl rfl (JEff.callV rfl (w_EqInts (by exact vta) (by exact vta)) rfl ?_); intro _ _) | (refine JO.eff rfl rfl rfl (JEff.callV rfl (q10_on _ _ (by unfold Rng; omega) (by unfold Rng; omega)) rfl ?_); intro _ _) | (refine JO.eff rfl rfl rfl (JEff.callV rfl (q10_off _ (by unfold Rng; omega)) rfl ?_); intro _ _) | (refine JO.eff rfl rfl rfl (JEff.callV rfl (q10_works) rfl ?_); intro _ _) | (refine JO.eff rfl rfl rfl (JEff.callV rfl (r0_EqInts (by exact vta) (by exact vta)) rfl ?_); intro _ _) | (refine JO.eff rfl rfl rfl (JEff.callL rfl (p10_Ways _ (by exact vta) (by exact vta) (by first | assumption | omega) (by first | assumption | (unfold Rng; omega))) rfl ?_); intro _ _ _ _ _ _) | (refine JO.eff rfl rfl rfl (JEff.callR rfl (q10_cut (by exact vta)) rfl ?_); intro _ _ _ _) | (refine JO.eff rfl rfl rfl (JEff.callL rfl (q10_fitted (by exact vta) (by exact vta) (by first | assumption | omega) (by first | assumption | omega)) rfl ?_); intro _ _ _ _ _ _) | (refine JO.eff rfl rfl rfl (JEff.callV rfl (p9_Safe (by exact vta) (by exact vta)) rfl ?_); intro _ _) | (refine WNew ?_; intros) | (refine WPut ?_; intros))
            exact JX.roundF (m + 1) (by exact lea) (by omega) (by (try dsimp only); omega) rfl (by exact sba) (by exact sba)
          · repeat (refine s5_L10l ?_; intros)
            exact JX.roundF (ci + 1) (by exact lea) (by omega) (by (try dsimp only); omega) rfl (by exact sba) (by exact sba)
        · rw [decide_eq_false h0]
          repeat (refine s5_L10l ?_; intros)
          refine JC.loopF0 (σ := Nat) [(2, _), (5, _), (8, _), (9, _)] (fun q => [(10, .int .i64 q)]) (fun Sj q => q ≤ (waysV s' p ci).length) (fun q => (waysV s' p ci).length - q) (0) (by exact sba) (by exact sba) (Nat.zero_le _) ?_; rintro Sj m hlj hij; (try dsimp only at hij); dsimp only [List.cons_append, List.nil_append]
          repeat (refine s5_L10l ?_; intros)
          refine JC.cond rfl (fun hc2 => ?_) (fun hc2 => ?_)
          · have hk2 := dlt hc2
            obtain ⟨n, hn1, _⟩ := drop_at hk2
            obtain ⟨q, hst, hn2, hn3⟩ := ways_may hn1
            have hback := back_ok hsafe hst
            have hr2 : Rng (2 : Int) ∧ Rng (ci : Int) ∧ Rng n := ⟨by simp [Rng], by unfold Rng; omega, by unfold Rng; omega⟩
            have hr1 : Rng (1 : Int) ∧ Rng (ci : Int) ∧ Rng (0 : Int) := ⟨by simp [Rng], by unfold Rng; omega, by simp [Rng]⟩
            repeat (refine s5_L10l ?_; intros)
            refine JC.partF0 (σ := Option Addr × Nat) [(2, _), (5, _), (8, _), (9, _), (10, _)] (fun z => [(11, .slice z.1 q.length z.2), (13, .int .i64 0)]) (fun SA z => (rSlice 8 rI64).V SA (.slice z.1 q.length z.2) q) ?_ (by exact sba) ?_; rotate_left; rintro SA ⟨ra, rc⟩ hlA hiA; (try dsimp only at hiA); dsimp only [List.cons_append, List.nil_append]; rotate_left
            · refine JC.drawTree 15 rfl [14, 16] [0, 1, 2, 3, 4, 5, 6] (.alt (ofL [7] (.alt (ofL [8, 9, 10, 11, 12, 13, 14, 15, 16] .nil) (ofL [13, 8, 9, 10, 11, 12, 14, 15, 16] .nil))) (ofL [13, 7, 8, 9, 10, 11, 12, 14, 15, 16] .nil)) Tryz_mixed (by decide +kernel) ?_
              repeat (refine s5_L10l ?_; intros)
              refine JO.alt ?_ ?_
              · repeat (refine s5_L10l ?_; intros)
                refine JO.alt ?_ ?_
                all_goals
                  repeat (first | (refine Walk ?_; intros) | refine JC.block ?_ | (refine JO.eff rfl rfl rfl (JEff.callSt rfl (w10_Step hst (by exact vta) (by exact vta) (V_stV hr2)) rfl ?_); intro _ _ _ _ _ _ _) | (refine JO.eff rfl rfl rfl (JEff.callV rfl (q10_on _ _ (by unfold Rng; omega) (by unfold Rng; omega)) rfl ?_); intro _ _) | (refine JO.eff rfl rfl rfl (JEff.callV rfl (q10_off _ (by unfold Rng; omega)) rfl ?_); intro _ _) | (refine JO.eff rfl rfl rfl (JEff.callV rfl (q10_works) rfl ?_); intro _ _) | (refine JO.eff rfl rfl rfl (JEff.callV rfl (r0_EqInts (by exact vta) (by exact vta)) rfl ?_); intro _ _) | (refine JO.eff rfl rfl rfl (JEff.callL rfl (p10_Ways _ (by exact vta) (by exact vta) (by first | assumption | omega) (by first | assumption | (unfold Rng; omega))) rfl ?_); intro _ _ _ _ _ _) | (refine JO.eff rfl rfl rfl (JEff.callR rfl (q10_cut (by exact vta)) rfl ?_); intro _ _ _ _) | (refine JO.eff rfl rfl rfl (JEff.callL rfl (q10_fitted (by exact vta) (by exact vta) (by first | assumption | omega) (by first | assumption | omega)) rfl ?_); intro _ _ _ _ _ _) | (refine JO.eff rfl rfl rfl (JEff.callV rfl (p9_Safe (by exact vta) (by exact vta)) rfl ?_); intro _ _) | (refine WNew ?_; intros) | (refine WPut ?_; intros))
                  exact JX.partF ((_, _)) (by exact lea) (by exact vta) rfl (by exact sba) (by exact sba)
              · repeat (first | (refine Walk ?_; intros) | refine JC.block ?_ | (refine JO.eff rfl rfl rfl (JEff.callSt rfl (w10_Step hst (by exact vta) (by exact vta) (V_stV hr2)) rfl ?_); intro _ _ _ _ _ _ _) | (refine JO.eff rfl rfl rfl (JEff.callV rfl (q10_on _ _ (by unfold Rng; omega) (by unfold Rng; omega)) rfl ?_); intro _ _) | (refine JO.eff rfl rfl rfl (JEff.callV rfl (q10_off _ (by unfold Rng; omega)) rfl ?_); intro _ _) | (refine JO.eff rfl rfl rfl (JEff.callV rfl (q10_works) rfl ?_); intro _ _) | (refine JO.eff rfl rfl rfl (JEff.callV rfl (r0_EqInts (by exact vta) (by exact vta)) rfl ?_); intro _ _) | (refine JO.eff rfl rfl rfl (JEff.callL rfl (p10_Ways _ (by exact vta) (by exact vta) (by first | assumption | omega) (by first | assumption | (unfold Rng; omega))) rfl ?_); intro _ _ _ _ _ _) | (refine JO.eff rfl rfl rfl (JEff.callR rfl (q10_cut (by exact vta)) rfl ?_); intro _ _ _ _) | (refine JO.eff rfl rfl rfl (JEff.callL rfl (q10_fitted (by exact vta) (by exact vta) (by first | assumption | omega) (by first | assumption | omega)) rfl ?_); intro _ _ _ _ _ _) | (refine JO.eff rfl rfl rfl (JEff.callV rfl (p9_Safe (by exact vta) (by exact vta)) rfl ?_); intro _ _) | (refine WNew ?_; intros) | (refine WPut ?_; intros))
                exact JX.partF ((_, _)) (by exact lea) (by exact vta) rfl (by exact sba) (by exact sba)
            repeat (refine s5_L10l ?_; intros)
            refine JC.partF0 (σ := Option Addr × Nat) [(2, _), (5, _), (8, _), (9, _), (10, _)] (fun z => [(14, .slice z.1 p.length z.2), (16, .int .i64 0)]) (fun SB z => (rSlice 8 rI64).V SB (.slice z.1 p.length z.2) p) ?_ (by exact sba) ?_; rotate_left; rintro SB ⟨rb, rd⟩ hlB hiB; (try dsimp only at hiB); dsimp only [List.cons_append, List.nil_append]; rotate_left
            · refine JC.drawTree 18 rfl [10, 12] [0, 1, 2] (.alt (ofL [3] (.alt (ofL [4, 5, 6, 7, 8, 9, 10, 11, 12] .nil) (ofL [9, 4, 5, 6, 7, 8, 10, 11, 12] .nil))) (ofL [9, 3, 4, 5, 6, 7, 8, 10, 11, 12] .nil)) Tryz_mixed (by decide +kernel) ?_
              repeat (refine s5_L10l ?_; intros)
              refine JO.alt ?_ ?_
              · repeat (refine s5_L10l ?_; intros)
                refine JO.alt ?_ ?_
                all_goals
                  repeat (first | (refine Walk ?_; intros) | refine JC.block ?_ | (refine JO.eff rfl rfl rfl (JEff.callSt rfl (w10_Step hback (by exact vta) (by exact vta) (V_stV hr1)) rfl ?_); intro _ _ _ _ _ _ _) | (refine JO.eff rfl rfl rfl (JEff.callV rfl (q10_on _ _ (by unfold Rng; omega) (by unfold Rng; omega)) rfl ?_); intro _ _) | (refine JO.eff rfl rfl rfl (JEff.callV rfl (q10_off _ (by unfold Rng; omega)) rfl ?_); intro _ _) | (refine JO.eff rfl rfl rfl (JEff.callV rfl (q10_works) rfl ?_); intro _ _) | (refine JO.eff rfl rfl rfl (JEff.callV rfl (r0_EqInts (by exact vta) (by exact vta)) rfl ?_); intro _ _) | (refine JO.eff rfl rfl rfl (JEff.callL rfl (p10_Ways _ (by exact vta) (by exact vta) (by first | assumption | omega) (by first | assumption | (unfold Rng; omega))) rfl ?_); intro _ _ _ _ _ _) | (refine JO.eff rfl rfl rfl (JEff.callR rfl (q10_cut (by exact vta)) rfl ?_); intro _ _ _ _) | (refine JO.eff rfl rfl rfl (JEff.callL rfl (q10_fitted (by exact vta) (by exact vta) (by first | assumption | omega) (by first | assumption | omega)) rfl ?_); intro _ _ _ _ _ _) | (refine JO.eff rfl rfl rfl (JEff.callV rfl (p9_Safe (by exact vta) (by exact vta)) rfl ?_); intro _ _) | (refine WNew ?_; intros) | (refine WPut ?_; intros))
                  exact JX.partF ((_, _)) (by exact lea) (by exact vta) rfl (by exact sba) (by exact sba)
              · repeat (first | (refine Walk ?_; intros) | refine JC.block ?_ | (refine JO.eff rfl rfl rfl (JEff.callSt rfl (w10_Step hback (by exact vta) (by exact vta) (V_stV hr1)) rfl ?_); intro _ _ _ _ _ _ _) | (refine JO.eff rfl rfl rfl (JEff.callV rfl (q10_on _ _ (by unfold Rng; omega) (by unfold Rng; omega)) rfl ?_); intro _ _) | (refine JO.eff rfl rfl rfl (JEff.callV rfl (q10_off _ (by unfold Rng; omega)) rfl ?_); intro _ _) | (refine JO.eff rfl rfl rfl (JEff.callV rfl (q10_works) rfl ?_); intro _ _) | (refine JO.eff rfl rfl rfl (JEff.callV rfl (r0_EqInts (by exact vta) (by exact vta)) rfl ?_); intro _ _) | (refine JO.eff rfl rfl rfl (JEff.callL rfl (p10_Ways _ (by exact vta) (by exact vta) (by first | assumption | omega) (by first | assumption | (unfold Rng; omega))) rfl ?_); intro _ _ _ _ _ _) | (refine JO.eff rfl rfl rfl (JEff.callR rfl (q10_cut (by exact vta)) rfl ?_); intro _ _ _ _) | (refine JO.eff rfl rfl rfl (JEff.callL rfl (q10_fitted (by exact vta) (by exact vta) (by first | assumption | omega) (by first | assumption | omega)) rfl ?_); intro _ _ _ _ _ _) | (refine JO.eff rfl rfl rfl (JEff.callV rfl (p9_Safe (by exact vta) (by exact vta)) rfl ?_); intro _ _) | (refine WNew ?_; intros) | (refine WPut ?_; intros))
                exact JX.partF ((_, _)) (by exact lea) (by exact vta) rfl (by exact sba) (by exact sba)
            repeat (first | (refine Walk ?_; intros) | refine JC.block ?_ | (refine JO.eff rfl rfl rfl (JEff.callV rfl (w_EqInts (by exact vta) (by exact vta)) rfl ?_); intro _ _) | (refine JO.eff rfl rfl rfl (JEff.callV rfl (q10_on _ _ (by unfold Rng; omega) (by unfold Rng; omega)) rfl ?_); intro _ _) | (refine JO.eff rfl rfl rfl (JEff.callV rfl (q10_off _ (by unfold Rng; omega)) rfl ?_); intro _ _) | (refine JO.eff rfl rfl rfl (JEff.callV rfl (q10_works) rfl ?_); intro _ _) | (refine JO.eff rfl rfl rfl (JEff.callV rfl (r0_EqInts (by exact vta) (by exact vta)) rfl ?_); intro _ _) | (refine JO.eff rfl rfl rfl (JEff.callL rfl (p10_Ways _ (by exact vta) (by exact vta) (by first | assumption | omega) (by first | assumption | (unfold Rng; omega))) rfl ?_); intro _ _ _ _ _ _) | (refine JO.eff rfl rfl rfl (JEff.callR rfl (q10_cut (by exact vta)) rfl ?_); intro _ _ _ _) | (refine JO.eff rfl rfl rfl (JEff.callL rfl (q10_fitted (by exact vta) (by exact vta) (by first | assumption | omega) (by first | assumption | omega)) rfl ?_); intro _ _ _ _ _ _) | (refine JO.eff rfl rfl rfl (JEff.callV rfl (p9_Safe (by exact vta) (by exact vta)) rfl ?_); intro _ _) | (refine WNew ?_; intros) | (refine WPut ?_; intros))
            exact JX.roundF (m + 1) (by exact lea) (by omega) (by (try dsimp only); omega) rfl (by exact sba) (by exact sba)
          · repeat (refine s5_L10l ?_; intros)
            exact JX.roundF (ci + 1) (by exact lea) (by omega) (by (try dsimp only); omega) rfl (by exact sba) (by exact sba)
      · repeat (refine s5_L10l ?_; intros)
        (refine JX.ret1 Tryz.results5 (ResV.tmp rfl) (List.nil_sublist _) ?_)
        exact ⟨rfl, rfl⟩
  · repeat (first | (refine Walk ?_; intros) | refine JC.block ?_ | (refine JO.eff rfl rfl rfl (JEff.callV rfl (w9_Safe ha (by exact vta) (by exact vta)) rfl ?_); intro _ _) | (refine JO.eff rfl rfl rfl (JEff.callV rfl (q10_on _ _ (by unfold Rng; omega) (by unfold Rng; omega)) rfl ?_); intro _ _) | (refine JO.eff rfl rfl rfl (JEff.callV rfl (q10_off _ (by unfold Rng; omega)) rfl ?_); intro _ _) | (refine JO.eff rfl rfl rfl (JEff.callV rfl (q10_works) rfl ?_); intro _ _) | (refine JO.eff rfl rfl rfl (JEff.callV rfl (r0_EqInts (by exact vta) (by exact vta)) rfl ?_); intro _ _) | (refine JO.eff rfl rfl rfl (JEff.callL rfl (p10_Ways _ (by exact vta) (by exact vta) (by first | assumption | omega) (by first | assumption | (unfold Rng; omega))) rfl ?_); intro _ _ _ _ _ _) | (refine JO.eff rfl rfl rfl (JEff.callR rfl (q10_cut (by exact vta)) rfl ?_); intro _ _ _ _) | (refine JO.eff rfl rfl rfl (JEff.callL rfl (q10_fitted (by exact vta) (by exact vta) (by first | assumption | omega) (by first | assumption | omega)) rfl ?_); intro _ _ _ _ _ _) | (refine JO.eff rfl rfl rfl (JEff.callV rfl (p9_Safe (by exact vta) (by exact vta)) rfl ?_); intro _ _) | (refine WNew ?_; intros) | (refine WPut ?_; intros))
    rw [decide_eq_false he]
    repeat (refine s5_L10l ?_; intros)
    (refine JX.ret1 Tryz.results5 (ResV.tmp rfl) (List.nil_sublist _) ?_)
    exact ⟨rfl, rfl⟩
end Go.Dr
