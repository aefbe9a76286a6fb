/- Part 11 of the rules and of the walks that the proofs of this seat rest on; no condition. -/
import Derived.Test.YthlkghfkcbpacaaGreatA09
import Derived.Deep.Slices
import Derived.OpenShut
import Derived.SizedLaws
import Derived.Carry
import Derived.Below
set_option linter.unusedVariables false
set_option linter.unusedSimpArgs false
namespace Go.Dr
open Go.Proofs
set_option maxRecDepth 20000
set_option maxHeartbeats 2000000
set_option linter.unusedSimpArgs false
set_option linter.unusedVariables false
theorem w14_Left {S : SHeap} {u v : Value} {s : Snap} {p : List Int} {n z : Int} (h : leftV s p n = z) (hu : rSnap.V S u s) (hv : (rSlice 8 rI64).V S v p) : FnV Tryz.prog 31 #[u, v, .int .i64 n] S (.int .i64 z) := by
  have hh := p14_Left n hu hv
  rw [h] at hh; exact hh
theorem w14_Best {S : SHeap} {u v : Value} {s : Snap} {p : List Int} {n z : Int} {b : Bool} (h : bestV s p n = (z, b)) (hn : s.nodes.length ≤ 1000) (hpr : Rng n) (hu : rSnap.V S u s) (hv : (rSlice 8 rI64).V S v p) : FnV Tryz.prog 29 #[u, v, .int .i64 n] S (.tuple #[.int .i64 z, .bool b]) := by
  have hh := p14_Best n hu hv hn hpr
  rw [h] at hh; exact hh
theorem w14_Rank {S : SHeap} {u v : Value} {s : Snap} {p q : List Int} {n : Int} (h : rankV s p n = q) (hn : s.nodes.length ≤ 1000) (hpr : Rng n) (hu : rSnap.V S u s) (hv : (rSlice 8 rI64).V S v p) : FnL Tryz.prog 33 #[u, v, .int .i64 n] S 8 rI64 q := by
  have hh := p14_Rank n hu hv hn hpr
  rw [h] at hh; exact hh
theorem w14_Order {S : SHeap} {u v : Value} {s : Snap} {pods q : List Int} (h : orderV s pods = q) (hpl : pods.length ≤ 1000) (hu : rSnap.V S u s) (hv : (rSlice 8 rI64).V S v pods) : FnL Tryz.prog 38 #[u, v] S 8 rI64 q := by
  have hh := p14_Order hu hv hpl
  rw [h] at hh; exact hh
theorem s35_L14l {P K : Prop} (k : K) (h : Goal K → P := by
  intro zk
  (first | refine Walk ?_ | refine JC.block ?_ | (refine JO.eff rfl rfl rfl (JEff.callV rfl (r0_EqInts (by exact vta) (by exact vta)) rfl ?_); intro zqa zqb) | (refine JO.eff rfl rfl rfl (JEff.callV rfl (p14_Best _ (by exact vta) (by exact vta) (by first | assumption | omega) (by first | assumption | (unfold Rng; omega))) rfl ?_); intro zqa zqb) | (refine JO.eff rfl rfl rfl (JEff.callV rfl (p14_Left _ (by exact vta) (by exact vta)) rfl ?_); intro zqa zqb) | (refine JO.eff rfl rfl rfl (JEff.callL rfl (p14_Rank _ (by exact vta) (by exact vta) (by first | assumption | omega) (by first | assumption | (unfold Rng; omega))) rfl ?_); intro zqa zqb zqc zqd zqe zqf) | (refine JO.eff rfl rfl rfl (JEff.callL rfl (p14_Order (by exact vta) (by exact vta) (by first | assumption | omega)) rfl ?_); intro zqa zqb zqc zqd zqe zqf) | (refine JO.eff rfl rfl rfl (JEff.callR rfl (q14_chapter) rfl ?_); intro zqa zqb zqc zqd) | (refine WNew ?_) | (refine WPut ?_))
  (repeat (first | revert zqg | revert zqf | revert zqe | revert zqd | revert zqc | revert zqb | revert zqa))
  exact zk.k) : P := h ⟨k⟩
theorem q14_works {S : SHeap} : FnV Tryz.prog 35 #[] S (.bool true) := by
  (refine Fn.enter (args := []) Tryz.func35 rfl Tryz.ntmps35 rfl ?_; intro w0)
  repeat (refine s35_L14l ?_; intros)
  (refine JO.eff rfl rfl rfl (JEff.buildS (bt := 8) (rep := rI64) (ys := [(0 : Int), 1, -1, -1]) rfl rfl (⟨⟨V_num, nna⟩, ⟨V_num, nna⟩, ⟨V_num, nna⟩, ⟨V_num, nna⟩, trivial⟩) rfl rfl rfl (by decide) rfl ?_); intro S2 a2 hl2 hV2)
  repeat (refine s35_L14l ?_; intros)
  (refine JO.eff rfl rfl rfl (JEff.buildS (bt := 8) (rep := rI64) (ys := [(0 : Int), 0, 1, -1]) rfl rfl (⟨⟨V_num, nna⟩, ⟨V_num, nna⟩, ⟨V_num, nna⟩, ⟨V_num, nna⟩, trivial⟩) rfl rfl rfl (by decide) rfl ?_); intro S3 a3 hl3 hV3)
  repeat (first | (refine Walk ?_; intros) | refine JC.block ?_ | (refine JO.eff rfl rfl rfl (JEff.callV rfl (w14_Best f14_5 (by decide) (by simp [Rng]) (by exact vta) (by exact vta)) rfl ?_); intro _ _) | (refine JO.eff rfl rfl rfl (JEff.callV rfl (r0_EqInts (by exact vta) (by exact vta)) rfl ?_); intro _ _) | (refine JO.eff rfl rfl rfl (JEff.callV rfl (p14_Best _ (by exact vta) (by exact vta) (by first | assumption | omega) (by first | assumption | (unfold Rng; omega))) rfl ?_); intro _ _) | (refine JO.eff rfl rfl rfl (JEff.callV rfl (p14_Left _ (by exact vta) (by exact vta)) rfl ?_); intro _ _) | (refine JO.eff rfl rfl rfl (JEff.callL rfl (p14_Rank _ (by exact vta) (by exact vta) (by first | assumption | omega) (by first | assumption | (unfold Rng; omega))) rfl ?_); intro _ _ _ _ _ _) | (refine JO.eff rfl rfl rfl (JEff.callL rfl (p14_Order (by exact vta) (by exact vta) (by first | assumption | omega)) rfl ?_); intro _ _ _ _ _ _) | (refine JO.eff rfl rfl rfl (JEff.callR rfl (q14_chapter) rfl ?_); intro _ _ _ _) | (refine WNew ?_; intros) | (refine WPut ?_; intros))
  (refine JO.eff rfl rfl rfl (JEff.buildS (bt := 8) (rep := rI64) (ys := [(-1 : Int), -1, -1, -1]) rfl rfl (⟨⟨V_num, nna⟩, ⟨V_num, nna⟩, ⟨V_num, nna⟩, ⟨V_num, nna⟩, trivial⟩) rfl rfl rfl (by decide) rfl ?_); intro S4 a4 hl4 hV4)
  repeat (refine s35_L14l ?_; intros)
  (refine JO.eff rfl rfl rfl (JEff.buildS (bt := 8) (rep := rI64) (ys := [(0 : Int), 1, 2, 3]) rfl rfl (⟨⟨V_num, nna⟩, ⟨V_num, nna⟩, ⟨V_num, nna⟩, ⟨V_num, nna⟩, trivial⟩) rfl rfl rfl (by decide) rfl ?_); intro S5 a5 hl5 hV5)
  repeat (first | (refine Walk ?_; intros) | refine JC.block ?_ | (refine JO.eff rfl rfl rfl (JEff.callLL rfl (w14_Pack f14_7 (by exact vta) (by exact vta) (by exact vta) (by decide)) rfl ?_); intro _ _ _ _ _ _ _ _ _ _) | (refine JO.eff rfl rfl rfl (JEff.callV rfl (r0_EqInts (by exact vta) (by exact vta)) rfl ?_); intro _ _) | (refine JO.eff rfl rfl rfl (JEff.callV rfl (p14_Best _ (by exact vta) (by exact vta) (by first | assumption | omega) (by first | assumption | (unfold Rng; omega))) rfl ?_); intro _ _) | (refine JO.eff rfl rfl rfl (JEff.callV rfl (p14_Left _ (by exact vta) (by exact vta)) rfl ?_); intro _ _) | (refine JO.eff rfl rfl rfl (JEff.callL rfl (p14_Rank _ (by exact vta) (by exact vta) (by first | assumption | omega) (by first | assumption | (unfold Rng; omega))) rfl ?_); intro _ _ _ _ _ _) | (refine JO.eff rfl rfl rfl (JEff.callL rfl (p14_Order (by exact vta) (by exact vta) (by first | assumption | omega)) rfl ?_); intro _ _ _ _ _ _) | (refine JO.eff rfl rfl rfl (JEff.callR rfl (q14_chapter) rfl ?_); intro _ _ _ _) | (refine WNew ?_; intros) | (refine WPut ?_; intros))
  repeat' (first | (refine Walk ?_; intros) | refine JC.block ?_ | (refine JO.eff rfl rfl rfl (JEff.callV rfl (w14_Left f14_1 (by exact vta) (by exact vta)) rfl ?_); intro _ _) | (refine JO.eff rfl rfl rfl (JEff.callV rfl (w14_Left f14_2 (by exact vta) (by exact vta)) rfl ?_); intro _ _) | (refine JO.eff rfl rfl rfl (JEff.callL rfl (w14_Rank f14_3 (by decide) (by simp [Rng]) (by exact vta) (by exact vta)) rfl ?_); intro _ _ _ _ _ _) | (refine JO.eff rfl rfl rfl (JEff.callL rfl (w14_Rank f14_4 (by decide) (by simp [Rng]) (by exact vta) (by exact vta)) rfl ?_); intro _ _ _ _ _ _) | (refine JO.eff rfl rfl rfl (JEff.callL rfl (w14_Order f14_6 (by decide) (by exact vta) (by exact vta)) rfl ?_); intro _ _ _ _ _ _) | (refine JO.eff rfl rfl rfl (JEff.callV rfl (w_EqInts (by exact vta) (by exact vta)) rfl ?_); intro _ _) | (refine JO.eff rfl rfl rfl (JEff.buildS (bt := 8) (rep := rI64) (ys := [(1 : Int), 0]) rfl rfl ⟨⟨V_num, nna⟩, ⟨V_num, nna⟩, trivial⟩ rfl rfl rfl (by decide) rfl ?_); intro _ _ _ _) | (refine JO.eff rfl rfl rfl (JEff.buildS (bt := 8) (rep := rI64) (ys := [(0 : Int)]) rfl rfl ⟨⟨V_num, nna⟩, trivial⟩ rfl rfl rfl (by decide) rfl ?_); intro _ _ _ _) | (refine JO.eff rfl rfl rfl (JEff.buildS (bt := 8) (rep := rI64) (ys := [(3 : Int), 2, 1, 0, 1]) rfl rfl ⟨⟨V_num, nna⟩, ⟨V_num, nna⟩, ⟨V_num, nna⟩, ⟨V_num, nna⟩, ⟨V_num, nna⟩, trivial⟩ rfl rfl rfl (by decide) rfl ?_); intro _ _ _ _) | (refine JO.eff rfl rfl rfl (JEff.buildS (bt := 8) (rep := rI64) (ys := [(0 : Int), 2, 1, 3]) rfl rfl ⟨⟨V_num, nna⟩, ⟨V_num, nna⟩, ⟨V_num, nna⟩, ⟨V_num, nna⟩, trivial⟩ rfl rfl rfl (by decide) rfl ?_); intro _ _ _ _) | (refine JO.eff rfl rfl rfl (JEff.buildS (bt := 8) (rep := rI64) (ys := [(1 : Int), 0, 0, 0]) rfl rfl ⟨⟨V_num, nna⟩, ⟨V_num, nna⟩, ⟨V_num, nna⟩, ⟨V_num, nna⟩, trivial⟩ rfl rfl rfl (by decide) rfl ?_); intro _ _ _ _) | (refine JO.eff rfl rfl rfl (JEff.callV rfl (r0_EqInts (by exact vta) (by exact vta)) rfl ?_); intro _ _) | (refine JO.eff rfl rfl rfl (JEff.callV rfl (p14_Best _ (by exact vta) (by exact vta) (by first | assumption | omega) (by first | assumption | (unfold Rng; omega))) rfl ?_); intro _ _) | (refine JO.eff rfl rfl rfl (JEff.callV rfl (p14_Left _ (by exact vta) (by exact vta)) rfl ?_); intro _ _) | (refine JO.eff rfl rfl rfl (JEff.callL rfl (p14_Rank _ (by exact vta) (by exact vta) (by first | assumption | omega) (by first | assumption | (unfold Rng; omega))) rfl ?_); intro _ _ _ _ _ _) | (refine JO.eff rfl rfl rfl (JEff.callL rfl (p14_Order (by exact vta) (by exact vta) (by first | assumption | omega)) rfl ?_); intro _ _ _ _ _ _) | (refine JO.eff rfl rfl rfl (JEff.callR rfl (q14_chapter) rfl ?_); intro _ _ _ _) | (refine WNew ?_; intros) | (refine WPut ?_; intros) | (refine JO.guard rfl rfl rfl rfl ?_ ?_ <;> intro _) | (refine JC.cond rfl ?_ ?_ <;> intro _))
  (refine JX.ret1 Tryz.results35 (ResV.tmp rfl) (List.nil_sublist _) ?_)
  exact ⟨rfl, rfl⟩
end Go.Dr
namespace Go.Dr
open Go.Proofs
set_option maxRecDepth 20000
set_option maxHeartbeats 2000000
set_option linter.unusedSimpArgs false
set_option linter.unusedVariables false
theorem w14r_Best {S : SHeap} {u v : Value} {s : Snap} {p : List Int} {n z : Int} {b : Bool} (h : bestV s p n = (z, b)) (hn : s.nodes.length ≤ 1000) (hpr : Rng n) (hu : rSnap.V S u s) (hv : (rSlice 8 rI64).V S v p) : FnV Tryz.prog 30 #[u, v, .int .i64 n] S (.tuple #[.int .i64 z, .bool b]) := by
  have hh := r14_Best n hu hv hn hpr
  rw [h] at hh; exact hh
theorem s6_L14m {P K : Prop} (k : K) (h : Goal K → P := by
  intro zk
  (first | refine Walk ?_ | refine JC.block ?_ | refine JC.drawN 11 rfl [0, 1, 2, 4, 5, 6, 3, 7, 8, 9, 10, 11, 12, 14, 15, 16, 13, 17, 18, 19, 20, 21, 22, 23, 24, 25, 26, 27, 28, 29, 30] [0, 1, 2, 8, 9, 10, 11, 12, 19, 20, 21, 22, 23, 24, 25, 26, 27, 28, 29, 30] Tryz_mixed (by decide +kernel) ?_ | (refine JO.eff rfl rfl rfl (JEff.callV rfl (r0_EqInts (by exact vta) (by exact vta)) rfl ?_); intro zqa zqb) | (refine JO.eff rfl rfl rfl (JEff.callR rfl (q14_cut (by exact vta)) rfl ?_); intro zqa zqb zqc zqd) | (refine JO.eff rfl rfl rfl (JEff.callL rfl (r0_CopyInts (by exact vta)) rfl ?_); intro zqa zqb zqc zqd zqe zqf) | (refine JO.eff rfl rfl rfl (JEff.callV rfl (p14_Best _ (by exact vta) (by exact vta) (by first | assumption | omega) (by first | assumption | (unfold Rng; omega))) rfl ?_); intro zqa zqb) | (refine JO.eff rfl rfl rfl (JEff.callV rfl (r14_Best _ (by exact vta) (by exact vta) (by first | assumption | omega) (by first | assumption | (unfold Rng; omega))) rfl ?_); intro zqa zqb) | (refine JO.eff rfl rfl rfl (JEff.callV rfl (p14_Left _ (by exact vta) (by exact vta)) rfl ?_); intro zqa zqb) | (refine JO.eff rfl rfl rfl (JEff.callV rfl (r14_Left _ (by exact vta) (by exact vta)) rfl ?_); intro zqa zqb) | (refine JO.eff rfl rfl rfl (JEff.callL rfl (p14_Rank _ (by exact vta) (by exact vta) (by first | assumption | omega) (by first | assumption | (unfold Rng; omega))) rfl ?_); intro zqa zqb zqc zqd zqe zqf) | (refine JO.eff rfl rfl rfl (JEff.callL rfl (r14_Rank _ (by exact vta) (by exact vta) (by first | assumption | omega) (by first | assumption | (unfold Rng; omega))) rfl ?_); intro zqa zqb zqc zqd zqe zqf) | (refine JO.eff rfl rfl rfl (JEff.callV rfl (q14_works) rfl ?_); intro zqa zqb))
  (repeat (first | revert zqg | revert zqf | revert zqe | revert zqd | revert zqc | revert zqb | revert zqa))
  exact zk.k) : P := h ⟨k⟩
theorem a14_FitRanks {S : SHeap} {u v xv : Value} {s : Snap} {p : List Int} {at_ : Int} (hu : rSnap.V S u s) (hv : (rSlice 8 rI64).V S v p) (hx : rI64.V S xv at_) : FnV Tryz.prog 6 #[u, v, xv] S (.bool true) := by
  obtain ⟨cs, rfl, hcs⟩ := V_agg rfl hu
  obtain ⟨rfl, hxr⟩ := V_i64.1 hx
  (refine Fn.enter (args := [.agg cs.toArray, v, .int .i64 at_]) Tryz.func6 rfl Tryz.ntmps6 rfl ?_; intro w0)
  repeat (refine s6_L14m ?_; intros)
  refine JO.eff rfl rfl rfl (JEff.box rfl rfl ?_); intro bb hbb
  repeat (refine s6_L14m ?_; intros)
  refine JO.pure rfl rfl rfl (JPure.loadM (rep := rSnap) (x0 := s) (mid := cs) rfl (by (first | exact List.mem_cons_self | exact List.mem_cons_of_mem _ List.mem_cons_self | exact List.mem_cons_of_mem _ (List.mem_cons_of_mem _ List.mem_cons_self))) (by show cs.take 3 = cs; exact List.take_of_length_le (by rw [rSnap.len hcs]; exact Nat.le_refl _)) (rSnap.mono (by exact lea) hcs) (.inl rfl) rfl ?_)
  refine JO.eff rfl rfl rfl (JEff.callR rfl (q14_cut (Rp.val_V (rSnap.mono (by exact lea) hcs))) rfl ?_); intro cw S1 hl1 hcw
  repeat (refine s6_L14m ?_; intros)
  refine JO.eff rfl rfl rfl (JEff.storeW rfl rfl hcw nna (List.Perm.refl _) (by show 3 = cs.length; exact (rSnap.len hcs).symm) (by intro l hl; cases hl) ?_)
  refine JO.freezeV hcw nna hbb (by intro l hl; cases hl) ?_; intro S2 hl2 hpb
  have hnl : (cutS s).nodes.length ≤ 1000 := by simp [cutS]; omega
  generalize cutS s = s' at *
  repeat (refine s6_L14m ?_; intros)
  refine JC.loopF0 (σ := Nat) [(1, _), (2, _), (3, _), (7, _)] (fun q => [(8, .int .i64 q)]) (fun Si q => q ≤ 4) (fun q => 4 - q) (0) (by exact sba) (by exact sba) (by omega) ?_; rintro Si k hli hii; (try dsimp only at hii); dsimp only [List.cons_append, List.nil_append]
  repeat (refine s6_L14m ?_; intros)
  refine JC.cond rfl (fun hc => ?_) (fun hc => ?_)
  · have hc := of_decide_eq_true hc
    repeat (refine s6_L14m ?_; intros)
    refine JC.cond rfl (fun hk => ?_) (fun hk => ?_)
    · have hk := of_decide_eq_true hk
      have hnr : Rng ((k : Int) - 1) := by unfold Rng; omega
      rcases hb : bestV s' p ((k : Int) - 1) with ⟨z, b⟩
      repeat (first | (refine Walk ?_; intros) | refine JC.block ?_ | refine JC.drawN 11 rfl [0, 1, 2, 4, 5, 6, 3, 7, 8, 9, 10, 11, 12, 14, 15, 16, 13, 17, 18, 19, 20, 21, 22, 23, 24, 25, 26, 27, 28, 29, 30] [0, 1, 2, 8, 9, 10, 11, 12, 19, 20, 21, 22, 23, 24, 25, 26, 27, 28, 29, 30] Tryz_mixed (by decide +kernel) ?_ | (refine JO.eff rfl rfl rfl (JEff.callV rfl (w14_Best hb hnl hnr (by exact vta) (by exact vta)) rfl ?_); intro _ _) | (refine JO.eff rfl rfl rfl (JEff.callV rfl (w14r_Best hb hnl hnr (by exact vta) (by exact vta)) rfl ?_); intro _ _) | (refine JO.eff rfl rfl rfl (JEff.callV rfl (r0_EqInts (by exact vta) (by exact vta)) rfl ?_); intro _ _) | (refine JO.eff rfl rfl rfl (JEff.callR rfl (q14_cut (by exact vta)) rfl ?_); intro _ _ _ _) | (refine JO.eff rfl rfl rfl (JEff.callL rfl (r0_CopyInts (by exact vta)) rfl ?_); intro _ _ _ _ _ _) | (refine JO.eff rfl rfl rfl (JEff.callV rfl (p14_Best _ (by exact vta) (by exact vta) (by first | assumption | omega) (by first | assumption | (unfold Rng; omega))) rfl ?_); intro _ _) | (refine JO.eff rfl rfl rfl (JEff.callV rfl (r14_Best _ (by exact vta) (by exact vta) (by first | assumption | omega) (by first | assumption | (unfold Rng; omega))) rfl ?_); intro _ _) | (refine JO.eff rfl rfl rfl (JEff.callV rfl (p14_Left _ (by exact vta) (by exact vta)) rfl ?_); intro _ _) | (refine JO.eff rfl rfl rfl (JEff.callV rfl (r14_Left _ (by exact vta) (by exact vta)) rfl ?_); intro _ _) | (refine JO.eff rfl rfl rfl (JEff.callL rfl (p14_Rank _ (by exact vta) (by exact vta) (by first | assumption | omega) (by first | assumption | (unfold Rng; omega))) rfl ?_); intro _ _ _ _ _ _) | (refine JO.eff rfl rfl rfl (JEff.callL rfl (r14_Rank _ (by exact vta) (by exact vta) (by first | assumption | omega) (by first | assumption | (unfold Rng; omega))) rfl ?_); intro _ _ _ _ _ _) | (refine JO.eff rfl rfl rfl (JEff.callV rfl (q14_works) rfl ?_); intro _ _))
      rw [decide_eq_true (rfl : leftV s' p (((k : Int) - 1)) = leftV s' p (((k : Int) - 1)))]
      repeat (first | (refine Walk ?_; intros) | refine JC.block ?_ | refine JC.drawN 11 rfl [0, 1, 2, 4, 5, 6, 3, 7, 8, 9, 10, 11, 12, 14, 15, 16, 13, 17, 18, 19, 20, 21, 22, 23, 24, 25, 26, 27, 28, 29, 30] [0, 1, 2, 8, 9, 10, 11, 12, 19, 20, 21, 22, 23, 24, 25, 26, 27, 28, 29, 30] Tryz_mixed (by decide +kernel) ?_ | (refine JO.eff rfl rfl rfl (JEff.callV rfl (w_EqInts (by exact vta) (by exact vta)) rfl ?_); intro _ _) | (refine JO.eff rfl rfl rfl (JEff.callV rfl (r0_EqInts (by exact vta) (by exact vta)) rfl ?_); intro _ _) | (refine JO.eff rfl rfl rfl (JEff.callR rfl (q14_cut (by exact vta)) rfl ?_); intro _ _ _ _) | (refine JO.eff rfl rfl rfl (JEff.callL rfl (r0_CopyInts (by exact vta)) rfl ?_); intro _ _ _ _ _ _) | (refine JO.eff rfl rfl rfl (JEff.callV rfl (p14_Best _ (by exact vta) (by exact vta) (by first | assumption | omega) (by first | assumption | (unfold Rng; omega))) rfl ?_); intro _ _) | (refine JO.eff rfl rfl rfl (JEff.callV rfl (r14_Best _ (by exact vta) (by exact vta) (by first | assumption | omega) (by first | assumption | (unfold Rng; omega))) rfl ?_); intro _ _) | (refine JO.eff rfl rfl rfl (JEff.callV rfl (p14_Left _ (by exact vta) (by exact vta)) rfl ?_); intro _ _) | (refine JO.eff rfl rfl rfl (JEff.callV rfl (r14_Left _ (by exact vta) (by exact vta)) rfl ?_); intro _ _) | (refine JO.eff rfl rfl rfl (JEff.callL rfl (p14_Rank _ (by exact vta) (by exact vta) (by first | assumption | omega) (by first | assumption | (unfold Rng; omega))) rfl ?_); intro _ _ _ _ _ _) | (refine JO.eff rfl rfl rfl (JEff.callL rfl (r14_Rank _ (by exact vta) (by exact vta) (by first | assumption | omega) (by first | assumption | (unfold Rng; omega))) rfl ?_); intro _ _ _ _ _ _) | (refine JO.eff rfl rfl rfl (JEff.callV rfl (q14_works) rfl ?_); intro _ _))
      rw [decide_eq_true (rfl : z = z)]
      repeat (refine s6_L14m ?_; intros)
      rw [beq_self_eq_true b]
      repeat (refine s6_L14m ?_; intros)
      exact JX.roundF (k + 1) (by exact lea) (by omega) (by (try dsimp only); omega) rfl (by exact sba) (by exact sba)
    · have hk := of_decide_eq_false hk
      have hnr := hxr
      rcases hb : bestV s' p at_ with ⟨z, b⟩
      repeat (first | (refine Walk ?_; intros) | refine JC.block ?_ | refine JC.drawN 11 rfl [0, 1, 2, 4, 5, 6, 3, 7, 8, 9, 10, 11, 12, 14, 15, 16, 13, 17, 18, 19, 20, 21, 22, 23, 24, 25, 26, 27, 28, 29, 30] [0, 1, 2, 8, 9, 10, 11, 12, 19, 20, 21, 22, 23, 24, 25, 26, 27, 28, 29, 30] Tryz_mixed (by decide +kernel) ?_ | (refine JO.eff rfl rfl rfl (JEff.callV rfl (w14_Best hb hnl hnr (by exact vta) (by exact vta)) rfl ?_); intro _ _) | (refine JO.eff rfl rfl rfl (JEff.callV rfl (w14r_Best hb hnl hnr (by exact vta) (by exact vta)) rfl ?_); intro _ _) | (refine JO.eff rfl rfl rfl (JEff.callV rfl (r0_EqInts (by exact vta) (by exact vta)) rfl ?_); intro _ _) | (refine JO.eff rfl rfl rfl (JEff.callR rfl (q14_cut (by exact vta)) rfl ?_); intro _ _ _ _) | (refine JO.eff rfl rfl rfl (JEff.callL rfl (r0_CopyInts (by exact vta)) rfl ?_); intro _ _ _ _ _ _) | (refine JO.eff rfl rfl rfl (JEff.callV rfl (p14_Best _ (by exact vta) (by exact vta) (by first | assumption | omega) (by first | assumption | (unfold Rng; omega))) rfl ?_); intro _ _) | (refine JO.eff rfl rfl rfl (JEff.callV rfl (r14_Best _ (by exact vta) (by exact vta) (by first | assumption | omega) (by first | assumption | (unfold Rng; omega))) rfl ?_); intro _ _) | (refine JO.eff rfl rfl rfl (JEff.callV rfl (p14_Left _ (by exact vta) (by exact vta)) rfl ?_); intro _ _) | (refine JO.eff rfl rfl rfl (JEff.callV rfl (r14_Left _ (by exact vta) (by exact vta)) rfl ?_); intro _ _) | (refine JO.eff rfl rfl rfl (JEff.callL rfl (p14_Rank _ (by exact vta) (by exact vta) (by first | assumption | omega) (by first | assumption | (unfold Rng; omega))) rfl ?_); intro _ _ _ _ _ _) | (refine JO.eff rfl rfl rfl (JEff.callL rfl (r14_Rank _ (by exact vta) (by exact vta) (by first | assumption | omega) (by first | assumption | (unfold Rng; omega))) rfl ?_); intro _ _ _ _ _ _) | (refine JO.eff rfl rfl rfl (JEff.callV rfl (q14_works) rfl ?_); intro _ _))
      rw [decide_eq_true (rfl : leftV s' p (at_) = leftV s' p (at_))]
      repeat (first | (refine Walk ?_; intros) | refine JC.block ?_ | refine JC.drawN 11 rfl [0, 1, 2, 4, 5, 6, 3, 7, 8, 9, 10, 11, 12, 14, 15, 16, 13, 17, 18, 19, 20, 21, 22, 23, 24, 25, 26, 27, 28, 29, 30] [0, 1, 2, 8, 9, 10, 11, 12, 19, 20, 21, 22, 23, 24, 25, 26, 27, 28, 29, 30] Tryz_mixed (by decide +kernel) ?_ | (refine JO.eff rfl rfl rfl (JEff.callV rfl (w_EqInts (by exact vta) (by exact vta)) rfl ?_); intro _ _) | (refine JO.eff rfl rfl rfl (JEff.callV rfl (r0_EqInts (by exact vta) (by exact vta)) rfl ?_); intro _ _) | (refine JO.eff rfl rfl rfl (JEff.callR rfl (q14_cut (by exact vta)) rfl ?_); intro _ _ _ _) | (refine JO.eff rfl rfl rfl (JEff.callL rfl (r0_CopyInts (by exact vta)) rfl ?_); intro _ _ _ _ _ _) | (refine JO.eff rfl rfl rfl (JEff.callV rfl (p14_Best _ (by exact vta) (by exact vta) (by first | assumption | omega) (by first | assumption | (unfold Rng; omega))) rfl ?_); intro _ _) | (refine JO.eff rfl rfl rfl (JEff.callV rfl (r14_Best _ (by exact vta) (by exact vta) (by first | assumption | omega) (by first | assumption | (unfold Rng; omega))) rfl ?_); intro _ _) | (refine JO.eff rfl rfl rfl (JEff.callV rfl (p14_Left _ (by exact vta) (by exact vta)) rfl ?_); intro _ _) | (refine JO.eff rfl rfl rfl (JEff.callV rfl (r14_Left _ (by exact vta) (by exact vta)) rfl ?_); intro _ _) | (refine JO.eff rfl rfl rfl (JEff.callL rfl (p14_Rank _ (by exact vta) (by exact vta) (by first | assumption | omega) (by first | assumption | (unfold Rng; omega))) rfl ?_); intro _ _ _ _ _ _) | (refine JO.eff rfl rfl rfl (JEff.callL rfl (r14_Rank _ (by exact vta) (by exact vta) (by first | assumption | omega) (by first | assumption | (unfold Rng; omega))) rfl ?_); intro _ _ _ _ _ _) | (refine JO.eff rfl rfl rfl (JEff.callV rfl (q14_works) rfl ?_); intro _ _))
      rw [decide_eq_true (rfl : z = z)]
      repeat (refine s6_L14m ?_; intros)
      rw [beq_self_eq_true b]
      repeat (refine s6_L14m ?_; intros)
      exact JX.roundF (k + 1) (by exact lea) (by omega) (by (try dsimp only); omega) rfl (by exact sba) (by exact sba)
  · repeat (first | (refine Walk ?_; intros) | refine JC.block ?_ | refine JC.drawN 11 rfl [0, 1, 2, 4, 5, 6, 3, 7, 8, 9, 10, 11, 12, 14, 15, 16, 13, 17, 18, 19, 20, 21, 22, 23, 24, 25, 26, 27, 28, 29, 30] [0, 1, 2, 8, 9, 10, 11, 12, 19, 20, 21, 22, 23, 24, 25, 26, 27, 28, 29, 30] Tryz_mixed (by decide +kernel) ?_ | (refine JO.eff rfl rfl rfl (JEff.callV rfl (w_EqInts (by exact vta) (by exact vta)) rfl ?_); intro _ _) | (refine JO.eff rfl rfl rfl (JEff.callV rfl (r0_EqInts (by exact vta) (by exact vta)) rfl ?_); intro _ _) | (refine JO.eff rfl rfl rfl (JEff.callR rfl (q14_cut (by exact vta)) rfl ?_); intro _ _ _ _) | (refine JO.eff rfl rfl rfl (JEff.callL rfl (r0_CopyInts (by exact vta)) rfl ?_); intro _ _ _ _ _ _) | (refine JO.eff rfl rfl rfl (JEff.callV rfl (p14_Best _ (by exact vta) (by exact vta) (by first | assumption | omega) (by first | assumption | (unfold Rng; omega))) rfl ?_); intro _ _) | (refine JO.eff rfl rfl rfl (JEff.callV rfl (r14_Best _ (by exact vta) (by exact vta) (by first | assumption | omega) (by first | assumption | (unfold Rng; omega))) rfl ?_); intro _ _) | (refine JO.eff rfl rfl rfl (JEff.callV rfl (p14_Left _ (by exact vta) (by exact vta)) rfl ?_); intro _ _) | (refine JO.eff rfl rfl rfl (JEff.callV rfl (r14_Left _ (by exact vta) (by exact vta)) rfl ?_); intro _ _) | (refine JO.eff rfl rfl rfl (JEff.callL rfl (p14_Rank _ (by exact vta) (by exact vta) (by first | assumption | omega) (by first | assumption | (unfold Rng; omega))) rfl ?_); intro _ _ _ _ _ _) | (refine JO.eff rfl rfl rfl (JEff.callL rfl (r14_Rank _ (by exact vta) (by exact vta) (by first | assumption | omega) (by first | assumption | (unfold Rng; omega))) rfl ?_); intro _ _ _ _ _ _) | (refine JO.eff rfl rfl rfl (JEff.callV rfl (q14_works) rfl ?_); intro _ _))
    (refine JX.ret1 Tryz.results6 (ResV.tmp rfl) (List.nil_sublist _) ?_)
    exact ⟨rfl, rfl⟩
end Go.Dr
namespace Go.Dr
open Go.RowKit
def heapS (w : World) : SHeap := fun b => w.heap[b]?
theorem agree_heapS (w : World) : Agree (heapS w) w := fun _ _ h => h
theorem heapS_cell {w : World} {a : Addr} {v : Value} (h : w.cell? a = some v) : (heapS w).cell? a = some v := by
  unfold World.cell? at h
  unfold SHeap.cell? heapS
  exact h
class RdR {α : Type} (P : Program) (T : TypeId) (rep : Rp α) : Prop where
  rd : ∀ {H : Type} {enc : TypeId × Value → H} {w : World} {base : Nat} {spare : Nat → Bool} {held : Bool} {fuel : Nat} {cs : List Value} {d : DataW H} {ps : List MemPlace},
    DataW.trod enc P w base spare held fuel T cs = some (d, ps) → (∀ n ∈ d.weights P T, n ≤ reachBytes) → ∃ x, rep.R (heapS w) cs x
theorem cells_sz {α : Type} {P : Program} {T : TypeId} {rep : Rp α} (h : TyR P T rep) : P.cellsOf T = rep.sz := by
  obtain ⟨i, hi, hs⟩ := h.i
  unfold Program.cellsOf
  rw [hi]
  exact hs
theorem bytes_of {P : Program} {E : TypeId} {bt : Nat} (h : Byt P E bt) : P.bytesOf E = bt := by
  have := h.h
  unfold Program.bytesOf
  rw [this]; rfl
instance {P : Program} {T : TypeId} [h : Und P T (.int .i64)] : RdR P T rI64 where
  rd ht _ := by
    obtain ⟨n, rfl, _, hw⟩ := DataW.trod_int h.h ht
    refine ⟨n, rfl, ?_⟩
    simp only [Lit.wf, Bool.and_eq_true, decide_eq_true_eq] at hw
    exact hw
instance {P : Program} {T : TypeId} [h : Und P T .bool] : RdR P T rBool where
  rd ht _ := by
    obtain ⟨b, rfl, _⟩ := DataW.trod_bool h.h ht
    exact ⟨b, rfl⟩
theorem reach_big : reachBytes ≤ big := by decide
instance {P : Program} {T : TypeId} [h : Und P T .string] : RdR P T rStr where
  rd ht hw := by
    obtain ⟨s, rfl, hd, hs⟩ := DataW.trod_string h.h ht
    cases hd
    refine ⟨s, rfl, ?_⟩
    have := hw s.data.toList.length (by simp [DataW.weights])
    have e : s.data.toList.length = s.size := Array.length_toList
    have := reach_big
    omega
theorem list_of {α : Type} : ∀ {n : Nat} {q : Nat → α → Prop}, (∀ i, i < n → ∃ x, q i x) → ∃ l : List α, l.length = n ∧ ∀ i x, l[i]? = some x → q i x
  | 0, _, _ => ⟨[], rfl, fun i x h => by simp at h⟩
  | n + 1, q, h => by
    obtain ⟨x, hx⟩ := h 0 (by omega)
    obtain ⟨l, hl, hq⟩ := list_of (n := n) (q := fun i => q (i + 1)) (fun i hi => h (i + 1) (by omega))
    refine ⟨x :: l, by simp [hl], fun i y hy => ?_⟩
    cases i with
    | zero => cases hy; exact hx
    | succ i => exact hq i y hy
theorem weights_all {H : Type} {P : Program} {e : TypeId} : ∀ {l : List (DataW H)} {d : DataW H} {n : Nat}, d ∈ l → n ∈ d.weights P e → n ∈ DataW.weightsAll P e l
  | a :: l, d, n, hd, hn => by
    simp only [DataW.weightsAll, List.mem_append]
    rcases List.mem_cons.1 hd with rfl | hd
    · exact .inl hn
    · exact .inr (weights_all hd hn)
instance {α : Type} {P : Program} {T E : TypeId} {bt : Nat} {rep : Rp α} [hu : Und P T (.slice E)] [hr : RdR P E rep] [ht : TyR P E rep] [hb : Byt P E bt] [hz : NeZero bt] : RdR P T (rSlice bt rep) where
  rd h hw := by
    rcases Deep.open_slice hu.h h with ⟨rfl, _⟩ | ⟨a, len, cap, m, n, D, Pl, rfl, _, hlc, hcm, hm, hx, hel⟩
    · exact ⟨[], none, 0, 0, rfl, rfl, Nat.le_refl _, by simp, Nat.zero_le _, fun i x h => by simp at h⟩
    · cases hx
      have hmb : len ≤ m := by rw [hm]; split <;> omega
      have hrb := reach_big
      have hbt1 : 1 ≤ bt := Nat.one_le_iff_ne_zero.2 hz.out
      have hlen1 : len * 1 ≤ len * bt := Nat.mul_le_mul_left _ hbt1
      have hwt := hw ((((List.range len).map D).length + ((List.range (m - len)).map fun j => D (len + j)).length) * P.bytesOf E) (by simp [DataW.weights, hu.h])
      rw [bytes_of hb] at hwt
      simp only [List.length_map, List.length_range] at hwt
      have hlen : len * bt ≤ (len + (m - len)) * bt := Nat.mul_le_mul_right _ (by omega)
      obtain ⟨xs, hxl, hxs⟩ := list_of (n := len) (q := fun i x => PtrTo (heapS _) (a.add (i * rep.sz)) rep x) (fun i hi => by
        obtain ⟨cs', h1, h2⟩ := hel i (by omega)
        obtain ⟨_, hcl, hcs⟩ := World.cells?_some h1
        obtain ⟨x, hx⟩ := hr.rd h2 (fun k hk => hw k (by
          simp only [DataW.weights, hu.h, List.mem_cons, List.mem_append]
          exact .inr (.inl (weights_all (List.mem_map.2 ⟨i, by simpa using hi, rfl⟩) hk))))
        rw [cells_sz ht] at hcs hcl
        refine ⟨x, cs', hx, fun j v hv => heapS_cell ?_⟩
        have hj := (List.getElem?_eq_some_iff.1 hv).1
        rw [hcs j (by omega)]; exact hv)
      refine ⟨xs, some a, len, cap, rfl, hxl, hlc, by omega, by omega, fun i x h => ⟨a, rfl, hxs i x h⟩⟩
instance {P : Program} {T E : TypeId} {n : Nat} [hu : Und P T (.array n E)] [he : Und P E (.int .i64)] [ht : TyR P E rI64] [htt : TyR P T (rArr n)] : RdR P T (rArr n) where
  rd h _ := by
    rename_i cs d ps _
    obtain ⟨xs, m, rfl, _, hcl, hxl, hx⟩ := DataW.trod_array hu.h h
    have hsz : P.cellsOf E = 1 := cells_sz ht
    rw [cells_sz htt] at hcl
    have hcl : cs.length = n := hcl
    obtain ⟨l, hll, hl⟩ := list_of (n := n) (q := fun i (z : Int) => cs[i]? = some (.int .i64 z) ∧ Rng z) (fun i hi => by
      have h1 := hx i hi
      rw [hsz, Nat.mul_one, List.getElem?_eq_getElem (by omega)] at h1
      obtain ⟨z, hz, _, hw⟩ := DataW.trod_int he.h h1
      refine ⟨z, ?_, ?_⟩
      · have : ((cs.drop i).take 1)[0]? = some (.int .i64 z) := by rw [hz]; rfl
        rw [List.getElem?_take, if_pos (by omega), List.getElem?_drop] at this
        simpa using this
      · simp only [Lit.wf, Bool.and_eq_true, decide_eq_true_eq] at hw
        exact hw)
    refine ⟨l, hll, ?_, fun x hx => ?_⟩
    · apply List.ext_getElem?
      intro i
      rw [List.getElem?_map]
      by_cases hi : i < n
      · have hg : l[i]? = some l[i] := List.getElem?_eq_getElem (by omega)
        rw [hg, (hl i _ hg).1]; rfl
      · rw [List.getElem?_eq_none (by omega), List.getElem?_eq_none (by omega)]; rfl
    · obtain ⟨i, hi⟩ := List.getElem?_of_mem hx
      exact (hl i x hi).2
structure RdF {α : Type} (P : Program) (off : Nat) (fs : List Field) (rep : Rp α) : Prop where
  run : ∀ {H : Type} {enc : TypeId × Value → H} {w : World} {base : Nat} {spare : Nat → Bool} {held : Bool} {m : Nat} {cs : List Value} {xs : List (DataW H × List MemPlace)}, cs.length = off + rep.sz → xs.length = fs.length →
    (∀ (i : Nat) (f : Field), fs[i]? = some f → DataW.trod enc P w base spare held m f.type ((cs.drop f.offset).take (P.cellsOf f.type)) = xs[i]?) →
    (∀ n ∈ DataW.weightsEach P (fs.map (·.type)) (xs.map (·.1)), n ≤ reachBytes) → ∃ x, rep.R (heapS w) (cs.drop off) x
theorem RdF.last {α : Type} {P : Program} {off : Nat} {f : Field} {rep : Rp α} (ho : f.offset = off) (hr : RdR P f.type rep) (hs : P.cellsOf f.type = rep.sz) : RdF P off [f] rep := ⟨by
  intro H enc w base spare held m cs xs hc hl hx hw
  match xs, hl with
  | [y], _ =>
    have h1 := hx 0 f rfl
    rw [ho, hs, List.take_of_length_le (by rw [List.length_drop]; omega)] at h1
    refine hr.rd (d := y.1) (ps := y.2) h1 (fun n hn => hw n ?_)
    simp only [List.map_cons, DataW.weightsEach, List.mem_append]
    exact .inl hn⟩
theorem RdF.cons {α β : Type} {P : Program} {off : Nat} {f : Field} {fs : List Field} {a : Rp α} {b : Rp β} (ho : f.offset = off) (hr : RdR P f.type a) (hs : P.cellsOf f.type = a.sz) (h : RdF P (off + a.sz) fs b) : RdF P off (f :: fs) (rSeq a b) := ⟨by
  intro H enc w base spare held m cs xs hc hl hx hw
  match xs, hl with
  | y :: ys, hl =>
    have hc : cs.length = off + (a.sz + b.sz) := hc
    have h1 := hx 0 f rfl
    rw [ho, hs] at h1
    obtain ⟨x1, hx1⟩ := hr.rd (d := y.1) (ps := y.2) h1 (fun n hn => hw n (by
      simp only [List.map_cons, DataW.weightsEach, List.mem_append]
      exact .inl hn))
    obtain ⟨x2, hx2⟩ := h.run (cs := cs) (xs := ys) (by omega) (by simpa using hl) (fun i g hg => hx (i + 1) g hg) (fun n hn => hw n (by
      simp only [List.map_cons, DataW.weightsEach, List.mem_append]
      exact .inr hn))
    refine ⟨(x1, x2), (cs.drop off).take a.sz, cs.drop (off + a.sz), ?_, hx1, hx2⟩
    rw [← List.drop_drop, List.take_append_drop]⟩
theorem RdR.struct {α : Type} {P : Program} {T : TypeId} {fs : Array Field} {rep : Rp α} (hu : P.underlying T = some (.struct fs)) (hs : P.cellsOf T = rep.sz) (h : RdF P 0 fs.toList rep) : RdR P T rep where
  rd ht hw := by
    obtain ⟨xs, n, rfl, hx, hcl, hxl, hel⟩ := DataW.trod_struct hu ht
    cases hx
    obtain ⟨x, hx⟩ := h.run (xs := xs) (by rw [hcl, hs]; omega) (by simpa using hxl) (fun i f hf => hel i f (by simpa using hf)) (fun k hk => hw k (by simpa [DataW.weights, hu] using hk))
    exact ⟨x, by simpa using hx⟩
theorem RdR.map {α γ : Type} {P : Program} {T : TypeId} {a : Rp α} {f : γ → α} (g : α → γ) (hg : ∀ y, f (g y) = y) (h : RdR P T a) : RdR P T (rMap f a) where
  rd ht hw := by
    obtain ⟨x, hx⟩ := h.rd ht hw
    exact ⟨g x, by show a.R _ _ (f (g x)); rw [hg]; exact hx⟩
theorem notAgg_ok {P : Program} {W : World} {base : Nat} {T : TypeId} {v : Value} {d : TypeDesc} (hu : P.underlying T = some d) (ha : isAggD d = false) (h : Value.okWide P W .any base T v) : ∀ cs, v ≠ .agg cs := by
  rintro cs rfl
  unfold Value.okWide at h
  rw [hu] at h
  cases d <;> first | (cases ha; done) | (simp only [Cell.okWide, Cell.ok, hu] at h; done) | (simp [Cell.okWide, Cell.ok, hu] at h)
theorem agg_ok {P : Program} {W : World} {base : Nat} {T : TypeId} {v : Value} {d : TypeDesc} (hu : P.underlying T = some d) (ha : isAggD d = true) (h : Value.okWide P W .any base T v) : ∃ cs, v = .agg cs := by
  unfold Value.okWide at h
  rw [hu] at h
  cases d <;> first | (cases ha; done) | (obtain ⟨cs, h, _⟩ := h; exact ⟨cs, h⟩)
theorem rd_arg {α : Type} {H : Type} {enc : TypeId × Value → H} {P : Program} {W : World} {base : Nat} {T : TypeId} {v : Value} {d : DataW H} {ps : List MemPlace} (rep : Rp α) [ht : TyR P T rep] [hr : RdR P T rep] (hok : Value.okWide P W .any base T v)
    (h : DataW.Trod enc P W 0 (fun _ => true) true T v d ps) (hw : ∀ n ∈ d.weights P T, n ≤ reachBytes) : ∃ x, rep.V (heapS W) v x := by
  obtain ⟨fuel, hf⟩ := h
  obtain ⟨x, hx⟩ := hr.rd hf hw
  obtain ⟨dd, hd, ha⟩ := ht.u
  cases hag : rep.agg with
  | true =>
    obtain ⟨cs, rfl⟩ := agg_ok hd (ha.trans hag) hok
    exact ⟨x, cs.toList, by simpa [Value.cells] using hx, by simp [hag]⟩
  | false =>
    have hn := notAgg_ok hd (ha.trans hag) hok
    have hc : v.cells = #[v] := by cases v <;> first | rfl | exact absurd rfl (hn _)
    rw [hc] at hx
    exact ⟨x, [v], hx, by simp [hag]⟩
theorem sized_arg {H : Type} {P : Program} {ts : List TypeId} {ds : List (DataW H)} (h : (DataW.weightsEach P ts ds).all (· ≤ reachBytes) = true) {j : Nat} {t : TypeId} {d : DataW H} (ht : ts[j]? = some t) (hd : ds[j]? = some d) : ∀ n ∈ d.weights P t, n ≤ reachBytes := fun n hn => by
  have := List.all_eq_true.1 h _ (DataW.weights_mem_each ht hd n hn)
  simpa using this
theorem FnV.calls {P : Program} {f : FuncId} {args : Array Value} {r : Value} {W : World} (h : FnV P f args (heapS W) r) : Calls P f args W fun e W' => e = .returned r ∧ Below W.heap.size W W' := by
  refine (h W (agree_heapS W) (by simp) .nil (by simp)).mono ?_
  rintro e w' ⟨v, S', M', rfl, hw, rfl, rfl⟩
  exact ⟨rfl, hw.below⟩
end Go.Dr
namespace Go.Dr
open Go.Proofs
set_option maxRecDepth 20000
instance : RdR Tryz.prog 82 rLabel := RdR.map (fun y => ⟨y.1, y.2⟩) (fun _ => rfl) (RdR.struct Tryz.underlying82 (by kernel_rfl) (RdF.cons rfl (show RdR Tryz.prog 9 rStr from inferInstance) (by kernel_rfl) (RdF.last rfl (show RdR Tryz.prog 9 rStr from inferInstance) (by kernel_rfl))))
instance : RdR Tryz.prog 199 rTerm := RdR.map (fun y => ⟨y.1, y.2.1, y.2.2⟩) (fun _ => rfl) (RdR.struct Tryz.underlying199 (by kernel_rfl) (RdF.cons rfl (show RdR Tryz.prog 3 rI64 from inferInstance) (by kernel_rfl) (RdF.cons rfl (show RdR Tryz.prog 9 rStr from inferInstance) (by kernel_rfl) (RdF.last rfl (show RdR Tryz.prog 9 rStr from inferInstance) (by kernel_rfl)))))
instance : RdR Tryz.prog 77 rNear := RdR.map (fun y => ⟨y.1, y.2⟩) (fun _ => rfl) (RdR.struct Tryz.underlying77 (by kernel_rfl) (RdF.cons rfl (show RdR Tryz.prog 9 rStr from inferInstance) (by kernel_rfl) (RdF.last rfl (show RdR Tryz.prog 75 (rSlice 40 rTerm) from inferInstance) (by kernel_rfl))))
instance : RdR Tryz.prog 33 rNode := RdR.map (fun y => ⟨y.1, y.2.1, y.2.2.1, y.2.2.2.1, y.2.2.2.2.1, y.2.2.2.2.2⟩) (fun _ => rfl) (RdR.struct Tryz.underlying33 (by kernel_rfl) (RdF.cons rfl (show RdR Tryz.prog 9 rStr from inferInstance) (by kernel_rfl) (RdF.cons rfl (show RdR Tryz.prog 30 (rArr 5) from inferInstance) (by kernel_rfl) (RdF.cons rfl (show RdR Tryz.prog 31 (rSlice 32 rLabel) from inferInstance) (by kernel_rfl) (RdF.cons rfl (show RdR Tryz.prog 31 (rSlice 32 rLabel) from inferInstance) (by kernel_rfl) (RdF.cons rfl (show RdR Tryz.prog 4 rBool from inferInstance) (by kernel_rfl) (RdF.last rfl (show RdR Tryz.prog 4 rBool from inferInstance) (by kernel_rfl))))))))
instance : RdR Tryz.prog 79 rPod := RdR.map (fun y => ⟨y.1, y.2.1, y.2.2.1, y.2.2.2.1, y.2.2.2.2.1, y.2.2.2.2.2.1, y.2.2.2.2.2.2.1, y.2.2.2.2.2.2.2.1, y.2.2.2.2.2.2.2.2⟩) (fun _ => rfl) (RdR.struct Tryz.underlying79 (by kernel_rfl) (RdF.cons rfl (show RdR Tryz.prog 9 rStr from inferInstance) (by kernel_rfl) (RdF.cons rfl (show RdR Tryz.prog 9 rStr from inferInstance) (by kernel_rfl) (RdF.cons rfl (show RdR Tryz.prog 30 (rArr 5) from inferInstance) (by kernel_rfl) (RdF.cons rfl (show RdR Tryz.prog 31 (rSlice 32 rLabel) from inferInstance) (by kernel_rfl) (RdF.cons rfl (show RdR Tryz.prog 75 (rSlice 40 rTerm) from inferInstance) (by kernel_rfl) (RdF.cons rfl (show RdR Tryz.prog 31 (rSlice 32 rLabel) from inferInstance) (by kernel_rfl) (RdF.cons rfl (show RdR Tryz.prog 77 rNear from inferInstance) (by kernel_rfl) (RdF.cons rfl (show RdR Tryz.prog 77 rNear from inferInstance) (by kernel_rfl) (RdF.last rfl (show RdR Tryz.prog 9 rStr from inferInstance) (by kernel_rfl)))))))))))
instance : RdR Tryz.prog 47 rOwner := RdR.map (fun y => ⟨y.1, y.2.1, y.2.2.1, y.2.2.2.1, y.2.2.2.2⟩) (fun _ => rfl) (RdR.struct Tryz.underlying47 (by kernel_rfl) (RdF.cons rfl (show RdR Tryz.prog 9 rStr from inferInstance) (by kernel_rfl) (RdF.cons rfl (show RdR Tryz.prog 3 rI64 from inferInstance) (by kernel_rfl) (RdF.cons rfl (show RdR Tryz.prog 9 rStr from inferInstance) (by kernel_rfl) (RdF.cons rfl (show RdR Tryz.prog 3 rI64 from inferInstance) (by kernel_rfl) (RdF.last rfl (show RdR Tryz.prog 4 rBool from inferInstance) (by kernel_rfl)))))))
instance : RdR Tryz.prog 26 rSnap := RdR.map (fun y => ⟨y.1, y.2.1, y.2.2⟩) (fun _ => rfl) (RdR.struct Tryz.underlying26 (by kernel_rfl) (RdF.cons rfl (show RdR Tryz.prog 22 (rSlice 112 rNode) from inferInstance) (by kernel_rfl) (RdF.cons rfl (show RdR Tryz.prog 23 (rSlice 240 rPod) from inferInstance) (by kernel_rfl) (RdF.last rfl (show RdR Tryz.prog 24 (rSlice 56 rOwner) from inferInstance) (by kernel_rfl)))))
instance : RdR Tryz.prog 40 rStep := RdR.map (fun y => ⟨y.1, y.2.1, y.2.2⟩) (fun _ => rfl) (RdR.struct Tryz.underlying40 (by kernel_rfl) (RdF.cons rfl (show RdR Tryz.prog 3 rI64 from inferInstance) (by kernel_rfl) (RdF.cons rfl (show RdR Tryz.prog 3 rI64 from inferInstance) (by kernel_rfl) (RdF.last rfl (show RdR Tryz.prog 3 rI64 from inferInstance) (by kernel_rfl)))))
instance : RdR Tryz.prog 35 rClause := RdR.map (fun y => ⟨y.1, y.2.1, y.2.2.1, y.2.2.2⟩) (fun _ => rfl) (RdR.struct Tryz.underlying35 (by kernel_rfl) (RdF.cons rfl (show RdR Tryz.prog 3 rI64 from inferInstance) (by kernel_rfl) (RdF.cons rfl (show RdR Tryz.prog 3 rI64 from inferInstance) (by kernel_rfl) (RdF.cons rfl (show RdR Tryz.prog 3 rI64 from inferInstance) (by kernel_rfl) (RdF.last rfl (show RdR Tryz.prog 3 rI64 from inferInstance) (by kernel_rfl))))))
end Go.Dr
namespace Go.Dr
theorem rank_sorted (s : Snap) (p : List Int) (pod : Int) : (rankV s p pod).Pairwise (fun a b => ltBy (leftAt s p pod) b a = false) := by rw [rank_i]; exact iSort_sorted _ _
def lastK (key : Int → Int) (l : List Int) : Nat → Int
  | 0 => -1
  | m + 1 => match l[m]? with | some y => key y | none => -1
theorem rank_apply {s : Snap} {p : List Int} {pod n : Int} (h : n ∈ waysV s p pod) : applyP s p ⟨2, pod, n⟩ = (p.set pod.toNat n, 0) := by
  obtain ⟨_, _, _, _, h1⟩ := ways_mem h
  obtain ⟨h2, h3, _⟩ := step_ok h1
  exact Prod.ext h3.symm h2
theorem rank_next {s : Snap} {p : List Int} {pod x : Int} {m : Nat} (h : (rankV s p pod)[m]? = some x) : ¬ leftAt s p pod x < lastK (leftAt s p pod) (rankV s p pod) m ∧ (leftAt s p pod x = lastK (leftAt s p pod) (rankV s p pod) m → ∃ y, (rankV s p pod)[((m : Int) - 1).toNat]? = some y ∧ y ≤ x ∧ 0 < m) := by
  have h0 : 0 ≤ leftAt s p pod x := (leftV_rng s (p.set pod.toNat x) x).1
  cases m with
  | zero => simp only [lastK]; exact ⟨by omega, fun h => by omega⟩
  | succ m =>
    have hm := (List.getElem?_eq_some_iff.1 h).1
    have hy : (rankV s p pod)[m]? = some (rankV s p pod)[m] := List.getElem?_eq_getElem (by omega)
    have hs := List.pairwise_iff_getElem.1 (rank_sorted s p pod) m (m + 1) (by omega) hm (by omega)
    have hx := (List.getElem?_eq_some_iff.1 h).2
    rw [hx] at hs
    simp only [lastK, hy]
    simp only [ltBy, Bool.or_eq_false_iff, Bool.and_eq_false_iff, decide_eq_false_iff_not] at hs
    refine ⟨by omega, fun he => ⟨_, by rw [show (((m + 1 : Nat) : Int) - 1).toNat = m by omega]; exact hy, by omega, by omega⟩⟩
theorem lastK_step {key : Int → Int} {l : List Int} {m : Nat} {x : Int} (h : l[m]? = some x) : lastK key l (m + 1) = key x := by simp [lastK, h]
end Go.Dr
namespace Go.Dr
open Go.Proofs
set_option maxRecDepth 20000
set_option maxHeartbeats 2000000
set_option linter.unusedSimpArgs false
set_option linter.unusedVariables false
theorem w7_Apply {S : SHeap} {u v xv : Value} {s : Snap} {p q : List Int} {x : Step} {e : Int} (h : applyP s p x = (q, e)) (hq8 : q.length * 8 ≤ big) (hqr : ∀ z ∈ q, Rng z) (hu : rSnap.V S u s) (hv : (rSlice 8 rI64).V S v p) (hx : rStep.V S xv x) : FnLs Tryz.prog 41 #[u, v, xv] S 8 rI64 q [.int .i64 e] := by
  refine Fn.frozen (p7_Apply hu hv hx) fun w S' M' hw => ?_
  rw [h] at hw
  obtain ⟨a, c, rfl, ⟨hn, rfl, rfl⟩ | ⟨b, tl, rfl, hc, rfl⟩⟩ := hw
  · subst hn
    exact .inl ⟨rfl, _, rfl, V_slice.2 ⟨_, _, rfl, by simp, by simp, by simp, by simp⟩⟩
  · exact .inr ⟨b, _, rfl, fun S'' hl hS => ⟨_, rfl, blk_slice hl hS rfl hc hq8 hqr⟩⟩
theorem s8_L14n {P K : Prop} (k : K) (h : Goal K → P := by
  intro zk
  (first | refine Walk ?_ | refine JC.block ?_ | refine JC.drawN 8 rfl [0, 1, 2, 4, 5, 6, 3, 7, 8, 9] [0, 1, 2, 8, 9] Tryz_mixed (by decide +kernel) ?_ | refine JC.drawN 16 rfl [0, 1, 2, 3, 4, 5, 6, 7, 8, 9, 10, 11, 12, 13] [0, 1, 2, 3, 4, 5, 6, 7, 9, 10, 11, 12, 13] Tryz_mixed (by decide +kernel) ?_ | refine JC.drawN 17 rfl [0, 1, 2, 3, 4, 5, 6, 7] [0, 1, 2, 3, 4, 5, 7] Tryz_mixed (by decide +kernel) ?_ | refine JC.drawN 18 rfl [0, 1, 2, 3, 4, 5, 6, 7, 8, 9, 10, 11, 12, 13, 14, 15, 16, 17, 18, 19, 20, 21, 22, 23, 24, 25, 26, 27, 28, 29, 30, 31, 32] [0, 1, 2, 3, 4, 5, 6, 7, 9, 10, 11, 12, 13, 14, 15, 16, 17, 18, 19, 20, 21, 22, 23, 24, 25, 26, 27, 28, 29, 30, 31, 32] Tryz_mixed (by decide +kernel) ?_ | (refine JO.eff rfl rfl rfl (JEff.callL rfl (p10_Ways _ (by exact vta) (by exact vta) (by first | assumption | omega) (by first | assumption | (unfold Rng; omega))) rfl ?_); intro zqa zqb zqc zqd zqe zqf) | (refine JO.eff rfl rfl rfl (JEff.callV rfl (p7_Check (by exact vta) (by exact vta)) rfl ?_); intro zqa zqb) | (refine JO.eff rfl rfl rfl (JEff.callR rfl (q14_cut (by exact vta)) rfl ?_); intro zqa zqb zqc zqd) | (refine JO.eff rfl rfl rfl (JEff.callV rfl (p14_Best _ (by exact vta) (by exact vta) (by first | assumption | omega) (by first | assumption | (unfold Rng; omega))) rfl ?_); intro zqa zqb) | (refine JO.eff rfl rfl rfl (JEff.callV rfl (p14_Left _ (by exact vta) (by exact vta)) rfl ?_); intro zqa zqb) | (refine JO.eff rfl rfl rfl (JEff.callL rfl (p14_Rank _ (by exact vta) (by exact vta) (by first | assumption | omega) (by first | assumption | (unfold Rng; omega))) rfl ?_); intro zqa zqb zqc zqd zqe zqf) | (refine JO.eff rfl rfl rfl (JEff.callV rfl (q14_works) rfl ?_); intro zqa zqb) | (refine JO.eff rfl rfl rfl (JEff.callL rfl (q14_fitted (by exact vta) (by exact vta) (by first | assumption | omega) (by first | assumption | omega)) rfl ?_); intro zqa zqb zqc zqd zqe zqf) | (refine JO.eff rfl rfl rfl (JEff.callV rfl (q14_in _ _ (by exact vta)) rfl ?_); intro zqa zqb))
  (repeat (first | revert zqg | revert zqf | revert zqe | revert zqd | revert zqc | revert zqb | revert zqa))
  exact zk.k) : P := h ⟨k⟩
theorem a14_FitBest {S : SHeap} {u v : Value} {s : Snap} {l : List Int} (hu : rSnap.V S u s) (hv : (rSlice 8 rI64).V S v l) : FnV Tryz.prog 8 #[u, v] S (.bool true) := by
  obtain ⟨cs, rfl, hcs⟩ := V_agg rfl hu
  (refine Fn.enter (args := [.agg cs.toArray, v]) Tryz.func8 rfl Tryz.ntmps8 rfl ?_; intro w0)
  repeat (refine s8_L14n ?_; intros)
  refine JO.eff rfl rfl rfl (JEff.box rfl rfl ?_); intro bb hbb
  repeat (refine s8_L14n ?_; intros)
  refine JO.pure rfl rfl rfl (JPure.loadM (rep := rSnap) (x0 := s) (mid := cs) rfl (by (first | exact List.mem_cons_self | exact List.mem_cons_of_mem _ List.mem_cons_self | exact List.mem_cons_of_mem _ (List.mem_cons_of_mem _ List.mem_cons_self))) (by show cs.take 3 = cs; exact List.take_of_length_le (by rw [rSnap.len hcs]; exact Nat.le_refl _)) (rSnap.mono (by exact lea) hcs) (.inl rfl) rfl ?_)
  refine JO.eff rfl rfl rfl (JEff.callR rfl (q14_cut (Rp.val_V (rSnap.mono (by exact lea) hcs))) rfl ?_); intro cw S1 hl1 hcw
  repeat (refine s8_L14n ?_; intros)
  refine JO.eff rfl rfl rfl (JEff.storeW rfl rfl hcw nna (List.Perm.refl _) (by show 3 = cs.length; exact (rSnap.len hcs).symm) (by intro l hl; cases hl) ?_)
  refine JO.freezeV hcw nna hbb (by intro l hl; cases hl) ?_; intro S2 hl2 hpb
  have hnl : (cutS s).nodes.length ≤ 1000 := by simp [cutS]; omega
  have hpl : (cutS s).pods.length ≤ 1000 := by simp [cutS]; omega
  generalize cutS s = s' at *
  repeat (refine s8_L14n ?_; intros)
  have hfl : (fitV s' l).length = s'.pods.length := by simp [fitV, fitK]
  generalize fitV s' l = p at *
  by_cases hP : checkP s' p = 0
  · rw [decide_eq_true hP]
    obtain ⟨hs, hlen, hp24, hn8, _, _, hqr⟩ := placed_hyps hP
    repeat (refine s8_L14n ?_; intros)
    refine JC.loopF0 (σ := Nat) [(2, _), (5, _)] (fun q => [(6, .int .i64 q)]) (fun Si q => q ≤ p.length) (fun q => p.length - q) (0) (by exact sba) (by exact sba) (Nat.zero_le _) ?_; rintro Si k hli hii; (try dsimp only at hii); dsimp only [List.cons_append, List.nil_append]
    repeat (refine s8_L14n ?_; intros)
    refine JC.cond rfl (fun hc => ?_) (fun hc => ?_)
    · have hc := dlt hc
      have hkr : Rng (k : Int) := by unfold Rng; omega
      have hrl := rank_len s' p k
      have hrp := rank_perm s' p k
      have hwl := ways_len s' p k
      have hnx := fun m x => @rank_next s' p k x m
      have hls := fun m x => @lastK_step (leftAt s' p k) (rankV s' p k) m x
      have hb : bestV s' p k = match rankV s' p k with | [] => (0, false) | n :: _ => (n, true) := rfl
      generalize hrv : rankV s' p k = r at *
      rcases hbv : bestV s' p k with ⟨z, b⟩
      rw [hbv] at hb
      repeat (first | (refine Walk ?_; intros) | refine JC.block ?_ | refine JC.drawN 8 rfl [0, 1, 2, 4, 5, 6, 3, 7, 8, 9] [0, 1, 2, 8, 9] Tryz_mixed (by decide +kernel) ?_ | refine JC.drawN 16 rfl [0, 1, 2, 3, 4, 5, 6, 7, 8, 9, 10, 11, 12, 13] [0, 1, 2, 3, 4, 5, 6, 7, 9, 10, 11, 12, 13] Tryz_mixed (by decide +kernel) ?_ | refine JC.drawN 17 rfl [0, 1, 2, 3, 4, 5, 6, 7] [0, 1, 2, 3, 4, 5, 7] Tryz_mixed (by decide +kernel) ?_ | refine JC.drawN 18 rfl [0, 1, 2, 3, 4, 5, 6, 7, 8, 9, 10, 11, 12, 13, 14, 15, 16, 17, 18, 19, 20, 21, 22, 23, 24, 25, 26, 27, 28, 29, 30, 31, 32] [0, 1, 2, 3, 4, 5, 6, 7, 9, 10, 11, 12, 13, 14, 15, 16, 17, 18, 19, 20, 21, 22, 23, 24, 25, 26, 27, 28, 29, 30, 31, 32] Tryz_mixed (by decide +kernel) ?_ | (refine JO.eff rfl rfl rfl (JEff.callV rfl (w14_Best hbv hnl hkr (by exact vta) (by exact vta)) rfl ?_); intro _ _) | (refine JO.eff rfl rfl rfl (JEff.callL rfl (w14_Rank hrv hnl hkr (by exact vta) (by exact vta)) rfl ?_); intro _ _ _ _ _ _) | (refine JO.eff rfl rfl rfl (JEff.callL rfl (p10_Ways _ (by exact vta) (by exact vta) (by first | assumption | omega) (by first | assumption | (unfold Rng; omega))) rfl ?_); intro _ _ _ _ _ _) | (refine JO.eff rfl rfl rfl (JEff.callV rfl (p7_Check (by exact vta) (by exact vta)) rfl ?_); intro _ _) | (refine JO.eff rfl rfl rfl (JEff.callR rfl (q14_cut (by exact vta)) rfl ?_); intro _ _ _ _) | (refine JO.eff rfl rfl rfl (JEff.callV rfl (p14_Best _ (by exact vta) (by exact vta) (by first | assumption | omega) (by first | assumption | (unfold Rng; omega))) rfl ?_); intro _ _) | (refine JO.eff rfl rfl rfl (JEff.callV rfl (p14_Left _ (by exact vta) (by exact vta)) rfl ?_); intro _ _) | (refine JO.eff rfl rfl rfl (JEff.callL rfl (p14_Rank _ (by exact vta) (by exact vta) (by first | assumption | omega) (by first | assumption | (unfold Rng; omega))) rfl ?_); intro _ _ _ _ _ _) | (refine JO.eff rfl rfl rfl (JEff.callV rfl (q14_works) rfl ?_); intro _ _) | (refine JO.eff rfl rfl rfl (JEff.callL rfl (q14_fitted (by exact vta) (by exact vta) (by first | assumption | omega) (by first | assumption | omega)) rfl ?_); intro _ _ _ _ _ _) | (refine JO.eff rfl rfl rfl (JEff.callV rfl (q14_in _ _ (by exact vta)) rfl ?_); intro _ _))
      rw [decide_eq_true (by omega : (r.length : Int) = (waysV s' p k).length)]
      have hb1 : b = decide (0 < (r.length : Int)) ∧ (0 < (r.length : Int) → r[0]? = some z) := by
        cases r with
        | nil => cases hb; simp
        | cons n r => cases hb; simp
      obtain ⟨rfl, hz⟩ := hb1
      repeat (refine s8_L14n ?_; intros)
      by_cases h0 : 0 < (r.length : Int)
      · rw [decide_eq_true h0]
        have hz := hz h0
        repeat (refine s8_L14n ?_; intros)
        rw [decide_eq_true (rfl : z = z)]
        repeat (refine s8_L14n ?_; intros)
        refine JC.loopF0 (σ := Nat) [(2, _), (5, _), (6, _), (7, _), (8, _)] (fun q => [(11, .int .i64 (lastK (leftAt s' p k) r q)), (12, .int .i64 q)]) (fun Sj q => q ≤ r.length) (fun q => r.length - q) (0) (by exact sba) (by exact sba) (Nat.zero_le _) ?_; rintro Sj m hlj hij; (try dsimp only at hij); dsimp only [List.cons_append, List.nil_append]
        repeat (refine s8_L14n ?_; intros)
        refine JC.cond rfl (fun hc2 => ?_) (fun hc2 => ?_)
        · have hm' := dlt hc2
          obtain ⟨x, hx, _⟩ := drop_at hm'
          have hxw := hrp.mem_iff.1 (List.mem_of_getElem? hx)
          obtain ⟨hx0, hx1, _, _, _⟩ := ways_mem hxw
          have hxr : Rng x := by unfold Rng; omega
          have hap := rank_apply hxw
          have hV : ∀ S, rStep.V S (.agg (flatCells [.int .i64 2, .int .i64 k, .int .i64 x]).toArray) ⟨2, k, x⟩ := fun S => V_step.2 ⟨by simp [flatCells, Value.cells], by simp [Rng], hkr, hxr⟩
          have hsr : ∀ z ∈ p.set ((k : Int)).toNat x, Rng z := fun z hz => by
            rcases List.mem_or_eq_of_mem_set hz with h | h
            · exact hqr z h
            · exact h ▸ hxr
          repeat (first | (refine Walk ?_; intros) | refine JC.block ?_ | refine JC.drawN 8 rfl [0, 1, 2, 4, 5, 6, 3, 7, 8, 9] [0, 1, 2, 8, 9] Tryz_mixed (by decide +kernel) ?_ | refine JC.drawN 16 rfl [0, 1, 2, 3, 4, 5, 6, 7, 8, 9, 10, 11, 12, 13] [0, 1, 2, 3, 4, 5, 6, 7, 9, 10, 11, 12, 13] Tryz_mixed (by decide +kernel) ?_ | refine JC.drawN 17 rfl [0, 1, 2, 3, 4, 5, 6, 7] [0, 1, 2, 3, 4, 5, 7] Tryz_mixed (by decide +kernel) ?_ | refine JC.drawN 18 rfl [0, 1, 2, 3, 4, 5, 6, 7, 8, 9, 10, 11, 12, 13, 14, 15, 16, 17, 18, 19, 20, 21, 22, 23, 24, 25, 26, 27, 28, 29, 30, 31, 32] [0, 1, 2, 3, 4, 5, 6, 7, 9, 10, 11, 12, 13, 14, 15, 16, 17, 18, 19, 20, 21, 22, 23, 24, 25, 26, 27, 28, 29, 30, 31, 32] Tryz_mixed (by decide +kernel) ?_ | (refine JO.eff rfl rfl rfl (JEff.callLs rfl (w7_Apply hap (by rw [List.length_set]; unfold big; omega) hsr (by exact vta) (by exact vta) (hV _)) rfl ?_); intro _ _ _ _ _ _) | (refine JO.eff rfl rfl rfl (JEff.callL rfl (p10_Ways _ (by exact vta) (by exact vta) (by first | assumption | omega) (by first | assumption | (unfold Rng; omega))) rfl ?_); intro _ _ _ _ _ _) | (refine JO.eff rfl rfl rfl (JEff.callV rfl (p7_Check (by exact vta) (by exact vta)) rfl ?_); intro _ _) | (refine JO.eff rfl rfl rfl (JEff.callR rfl (q14_cut (by exact vta)) rfl ?_); intro _ _ _ _) | (refine JO.eff rfl rfl rfl (JEff.callV rfl (p14_Best _ (by exact vta) (by exact vta) (by first | assumption | omega) (by first | assumption | (unfold Rng; omega))) rfl ?_); intro _ _) | (refine JO.eff rfl rfl rfl (JEff.callV rfl (p14_Left _ (by exact vta) (by exact vta)) rfl ?_); intro _ _) | (refine JO.eff rfl rfl rfl (JEff.callL rfl (p14_Rank _ (by exact vta) (by exact vta) (by first | assumption | omega) (by first | assumption | (unfold Rng; omega))) rfl ?_); intro _ _ _ _ _ _) | (refine JO.eff rfl rfl rfl (JEff.callV rfl (q14_works) rfl ?_); intro _ _) | (refine JO.eff rfl rfl rfl (JEff.callL rfl (q14_fitted (by exact vta) (by exact vta) (by first | assumption | omega) (by first | assumption | omega)) rfl ?_); intro _ _ _ _ _ _) | (refine JO.eff rfl rfl rfl (JEff.callV rfl (q14_in _ _ (by exact vta)) rfl ?_); intro _ _))
          rw [decide_eq_true hxw]
          repeat (refine s8_L14n ?_; intros)
          rw [show leftV s' (p.set ((k : Int)).toNat x) x = leftAt s' p k x from rfl]
          obtain ⟨hn1, hn2⟩ := hnx m x hx
          have hst := hls m x hx
          rw [decide_eq_false hn1]
          repeat (refine s8_L14n ?_; intros)
          by_cases he : leftAt s' p k x = lastK (leftAt s' p k) r m
          · rw [decide_eq_true he]
            obtain ⟨y, hy, hyx, hm0⟩ := hn2 he
            have hnyx : ¬ x < y := by omega
            repeat (refine s8_L14n ?_; intros)
            rw [decide_eq_false hnyx]
            repeat (refine s8_L14n ?_; intros)
            exact JX.roundF (m + 1) (by exact lea) (by omega) (by (try dsimp only); omega) rfl (by (try dsimp only); rw [hst]; exact sba) (by exact sba)
          · rw [decide_eq_false he]
            repeat (refine s8_L14n ?_; intros)
            exact JX.roundF (m + 1) (by exact lea) (by omega) (by (try dsimp only); omega) rfl (by (try dsimp only); rw [hst]; exact sba) (by exact sba)
        · repeat (refine s8_L14n ?_; intros)
          exact JX.roundF (k + 1) (by exact lea) (by omega) (by (try dsimp only); omega) rfl (by exact sba) (by exact sba)
      · rw [decide_eq_false h0]
        repeat (refine s8_L14n ?_; intros)
        refine JC.loopF0 (σ := Nat) [(2, _), (5, _), (6, _), (7, _), (8, _)] (fun q => [(11, .int .i64 (lastK (leftAt s' p k) r q)), (12, .int .i64 q)]) (fun Sj q => q ≤ r.length) (fun q => r.length - q) (0) (by exact sba) (by exact sba) (Nat.zero_le _) ?_; rintro Sj m hlj hij; (try dsimp only at hij); dsimp only [List.cons_append, List.nil_append]
        repeat (refine s8_L14n ?_; intros)
        refine JC.cond rfl (fun hc2 => ?_) (fun hc2 => ?_)
        · have hm' := dlt hc2
          obtain ⟨x, hx, _⟩ := drop_at hm'
          have hxw := hrp.mem_iff.1 (List.mem_of_getElem? hx)
          obtain ⟨hx0, hx1, _, _, _⟩ := ways_mem hxw
          have hxr : Rng x := by unfold Rng; omega
          have hap := rank_apply hxw
          have hV : ∀ S, rStep.V S (.agg (flatCells [.int .i64 2, .int .i64 k, .int .i64 x]).toArray) ⟨2, k, x⟩ := fun S => V_step.2 ⟨by simp [flatCells, Value.cells], by simp [Rng], hkr, hxr⟩
          have hsr : ∀ z ∈ p.set ((k : Int)).toNat x, Rng z := fun z hz => by
            rcases List.mem_or_eq_of_mem_set hz with h | h
            · exact hqr z h
            · exact h ▸ hxr
          repeat (first | (refine Walk ?_; intros) | refine JC.block ?_ | refine JC.drawN 8 rfl [0, 1, 2, 4, 5, 6, 3, 7, 8, 9] [0, 1, 2, 8, 9] Tryz_mixed (by decide +kernel) ?_ | refine JC.drawN 16 rfl [0, 1, 2, 3, 4, 5, 6, 7, 8, 9, 10, 11, 12, 13] [0, 1, 2, 3, 4, 5, 6, 7, 9, 10, 11, 12, 13] Tryz_mixed (by decide +kernel) ?_ | refine JC.drawN 17 rfl [0, 1, 2, 3, 4, 5, 6, 7] [0, 1, 2, 3, 4, 5, 7] Tryz_mixed (by decide +kernel) ?_ | refine JC.drawN 18 rfl [0, 1, 2, 3, 4, 5, 6, 7, 8, 9, 10, 11, 12, 13, 14, 15, 16, 17, 18, 19, 20, 21, 22, 23, 24, 25, 26, 27, 28, 29, 30, 31, 32] [0, 1, 2, 3, 4, 5, 6, 7, 9, 10, 11, 12, 13, 14, 15, 16, 17, 18, 19, 20, 21, 22, 23, 24, 25, 26, 27, 28, 29, 30, 31, 32] Tryz_mixed (by decide +kernel) ?_ | (refine JO.eff rfl rfl rfl (JEff.callLs rfl (w7_Apply hap (by rw [List.length_set]; unfold big; omega) hsr (by exact vta) (by exact vta) (hV _)) rfl ?_); intro _ _ _ _ _ _) | (refine JO.eff rfl rfl rfl (JEff.callL rfl (p10_Ways _ (by exact vta) (by exact vta) (by first | assumption | omega) (by first | assumption | (unfold Rng; omega))) rfl ?_); intro _ _ _ _ _ _) | (refine JO.eff rfl rfl rfl (JEff.callV rfl (p7_Check (by exact vta) (by exact vta)) rfl ?_); intro _ _) | (refine JO.eff rfl rfl rfl (JEff.callR rfl (q14_cut (by exact vta)) rfl ?_); intro _ _ _ _) | (refine JO.eff rfl rfl rfl (JEff.callV rfl (p14_Best _ (by exact vta) (by exact vta) (by first | assumption | omega) (by first | assumption | (unfold Rng; omega))) rfl ?_); intro _ _) | (refine JO.eff rfl rfl rfl (JEff.callV rfl (p14_Left _ (by exact vta) (by exact vta)) rfl ?_); intro _ _) | (refine JO.eff rfl rfl rfl (JEff.callL rfl (p14_Rank _ (by exact vta) (by exact vta) (by first | assumption | omega) (by first | assumption | (unfold Rng; omega))) rfl ?_); intro _ _ _ _ _ _) | (refine JO.eff rfl rfl rfl (JEff.callV rfl (q14_works) rfl ?_); intro _ _) | (refine JO.eff rfl rfl rfl (JEff.callL rfl (q14_fitted (by exact vta) (by exact vta) (by first | assumption | omega) (by first | assumption | omega)) rfl ?_); intro _ _ _ _ _ _) | (refine JO.eff rfl rfl rfl (JEff.callV rfl (q14_in _ _ (by exact vta)) rfl ?_); intro _ _))
          rw [decide_eq_true hxw]
          repeat (refine s8_L14n ?_; intros)
          rw [show leftV s' (p.set ((k : Int)).toNat x) x = leftAt s' p k x from rfl]
          obtain ⟨hn1, hn2⟩ := hnx m x hx
          have hst := hls m x hx
          rw [decide_eq_false hn1]
          repeat (refine s8_L14n ?_; intros)
          by_cases he : leftAt s' p k x = lastK (leftAt s' p k) r m
          · rw [decide_eq_true he]
            obtain ⟨y, hy, hyx, hm0⟩ := hn2 he
            have hnyx : ¬ x < y := by omega
            repeat (refine s8_L14n ?_; intros)
            rw [decide_eq_false hnyx]
            repeat (refine s8_L14n ?_; intros)
            exact JX.roundF (m + 1) (by exact lea) (by omega) (by (try dsimp only); omega) rfl (by (try dsimp only); rw [hst]; exact sba) (by exact sba)
          · rw [decide_eq_false he]
            repeat (refine s8_L14n ?_; intros)
            exact JX.roundF (m + 1) (by exact lea) (by omega) (by (try dsimp only); omega) rfl (by (try dsimp only); rw [hst]; exact sba) (by exact sba)
        · repeat (refine s8_L14n ?_; intros)
          exact JX.roundF (k + 1) (by exact lea) (by omega) (by (try dsimp only); omega) rfl (by exact sba) (by exact sba)
    · repeat (refine s8_L14n ?_; intros)
      (refine JX.ret1 Tryz.results8 (ResV.tmp rfl) (List.nil_sublist _) ?_)
      exact ⟨rfl, rfl⟩
  · rw [decide_eq_false hP]
    repeat (refine s8_L14n ?_; intros)
    (refine JX.ret1 Tryz.results8 (ResV.tmp rfl) (List.nil_sublist _) ?_)
    exact ⟨rfl, rfl⟩
end Go.Dr
namespace Go.Dr
theorem inPods_nodup (n : Nat) (pods : List Int) : (inPods n pods).Nodup := (in_rise n pods).imp fun h => by omega
theorem order_nodup (s : Snap) (pods : List Int) : (orderV s pods).Nodup := by
  unfold orderV
  split
  · have hp : (sortBy (fun i => -sizeV s i) (inPods s.pods.length pods)).Perm (inPods s.pods.length pods) := List.mergeSort_perm _ _
    exact hp.nodup_iff.2 (inPods_nodup _ _)
  · exact List.nodup_nil
theorem ways_taken {s : Snap} {p : List Int} {pod : Int} (h : ¬ at0 p pod.toNat = -1) : waysV s p pod = [] := by
  refine List.eq_nil_iff_forall_not_mem.2 fun n hn => ?_
  have hz := ways_mem hn
  have ha := rank_apply hn
  unfold applyP at ha
  split at ha
  · have := congrArg Prod.snd ha
    dsimp only at this
    rename_i hc
    simp_all [z0]
  · split at ha
    · simp at ha
    · split at ha
      · simp at ha
      · split at ha
        · simp at ha
        · rename_i h4
          simp [h] at h4
theorem best_placed {s : Snap} {p : List Int} {pod : Int} (h : ¬ at0 p pod.toNat = -1) : bestV s p pod = (0, false) := by
  have h1 : rankV s p pod = [] := List.length_eq_zero_iff.1 (by rw [rank_len, ways_taken h]; rfl)
  unfold bestV; rw [h1]
theorem at0_set_ne {q : List Int} {i j : Nat} {n : Int} (h : i ≠ j) : at0 (q.set i n) j = at0 q j := by
  unfold at0; simp [List.getD_eq_getElem?_getD, List.getElem?_set_ne h]
theorem at0_set_eq {q : List Int} {i : Nat} {n : Int} (h : i < q.length) : at0 (q.set i n) i = n := by
  unfold at0; simp [List.getD_eq_getElem?_getD, List.getElem?_set_self h]
theorem pack_inv (s : Snap) : ∀ (o q ws : List Int), o.Nodup → (∀ i ∈ o, 0 ≤ i ∧ i < q.length) →
    (packGo s q ws o).1.length = q.length ∧ (∀ j : Nat, ¬ ((j : Int) ∈ o) → at0 (packGo s q ws o).1 j = at0 q j) ∧ (∀ j : Nat, ¬ at0 q j = -1 → at0 (packGo s q ws o).1 j = at0 q j) ∧
    ∃ w2, (packGo s q ws o).2 = ws ++ w2 ∧ w2.Sublist o ∧ ∀ x ∈ o, (x ∈ w2 ↔ at0 (packGo s q ws o).1 x.toNat = -1)
  | [], q, ws, _, _ => by
    rw [packGo]
    exact ⟨rfl, fun _ _ => rfl, fun _ _ => rfl, [], by simp, List.Sublist.refl _, fun x hx => by cases hx⟩
  | i :: o, q, ws, hnd, hr => by
    obtain ⟨hi, hnd2⟩ := List.nodup_cons.1 hnd
    obtain ⟨hi0, hi1⟩ := hr i (by simp)
    have hii : ((i.toNat : Nat) : Int) = i := by omega
    have hio : ¬ ((i.toNat : Nat) : Int) ∈ o := by rw [hii]; exact hi
    rw [packGo]
    split
    · rename_i h1
      obtain ⟨ha, hb, hc, w2, hd, he, hf⟩ := pack_inv s o q ws hnd2 (fun j hj => hr j (by simp [hj]))
      refine ⟨ha, fun j hj => hb j (fun h => hj (by simp [h])), hc, w2, hd, he.cons _, fun x hx => ?_⟩
      rcases List.mem_cons.1 hx with rfl | hx
      · rw [hb _ hio]
        exact ⟨fun h => absurd (he.subset h) hi, fun h => absurd h h1⟩
      · exact hf x hx
    · rename_i h1
      have h1 : at0 q i.toNat = -1 := Classical.not_not.1 h1
      split
      · rename_i h2
        have hbn : 0 ≤ (bestV s q i).1 := (best_rng (s := s) (p := q) (pod := i) (n := (bestV s q i).1) (by rw [← h2])).1
        obtain ⟨ha, hb, hc, w2, hd, he, hf⟩ := pack_inv s o (q.set i.toNat (bestV s q i).1) ws hnd2 (fun j hj => by rw [List.length_set]; exact hr j (by simp [hj]))
        refine ⟨by rw [ha, List.length_set], fun j hj => ?_, fun j hj => ?_, w2, hd, he.cons _, fun x hx => ?_⟩
        · have hne : i.toNat ≠ j := fun e => hj (by rw [← e, hii]; simp)
          rw [hb j (fun h => hj (by simp [h])), at0_set_ne hne]
        · have hne : i.toNat ≠ j := fun e => hj (by rw [← e]; exact h1)
          have h3 : at0 (q.set i.toNat (bestV s q i).1) j = at0 q j := at0_set_ne hne
          rw [hc j (by rw [h3]; exact hj), h3]
        · rcases List.mem_cons.1 hx with rfl | hx
          · rw [hb _ hio, at0_set_eq (by omega)]
            exact ⟨fun h => absurd (he.subset h) hi, fun h => by omega⟩
          · exact hf x hx
      · obtain ⟨ha, hb, hc, w2, hd, he, hf⟩ := pack_inv s o q (ws ++ [i]) hnd2 (fun j hj => hr j (by simp [hj]))
        refine ⟨ha, fun j hj => hb j (fun h => hj (by simp [h])), hc, i :: w2, by rw [hd]; simp, he.cons_cons _, fun x hx => ?_⟩
        rcases List.mem_cons.1 hx with rfl | hx
        · rw [hb _ hio]
          exact ⟨fun _ => h1, fun _ => by simp⟩
        · rw [← hf x hx]
          refine ⟨fun h => ?_, fun h => by simp [h]⟩
          rcases List.mem_cons.1 h with rfl | h
          · exact absurd (by assumption) hi
          · exact h
def waitK (q o : List Int) (n : Nat) : List Int := ((List.range n).filter (fun (i : Nat) => decide ((i : Int) ∈ o) && decide (at0 q i = -1))).map (fun (i : Nat) => (i : Int))
theorem waitK_rise (q o : List Int) (n : Nat) : (waitK q o n).Pairwise (fun a b => a < b) := by
  unfold waitK
  rw [List.pairwise_map]
  exact (List.pairwise_lt_range.filter _).imp fun h => by omega
theorem waitK_mem {q o : List Int} {n : Nat} {x : Int} : x ∈ waitK q o n ↔ 0 ≤ x ∧ x < n ∧ x ∈ o ∧ at0 q x.toNat = -1 := by
  unfold waitK
  simp only [List.mem_map, List.mem_filter, List.mem_range, decide_eq_true_eq, Bool.and_eq_true]
  constructor
  · rintro ⟨i, ⟨h1, h2, h3⟩, rfl⟩
    exact ⟨by omega, by omega, h2, by simpa using h3⟩
  · rintro ⟨h1, h2, h3, h4⟩
    have e : ((x.toNat : Nat) : Int) = x := by omega
    exact ⟨x.toNat, ⟨by omega, by rw [e]; exact h3, h4⟩, e⟩
theorem waitK_step (q o : List Int) (n : Nat) : waitK q o (n + 1) = waitK q o n ++ (if (n : Int) ∈ o ∧ at0 q n = -1 then [(n : Int)] else []) := by
  unfold waitK
  rw [List.range_succ, List.filter_append, List.map_append]
  congr 1
  by_cases h1 : (n : Int) ∈ o <;> by_cases h2 : at0 q n = -1 <;> simp [h1, h2]
theorem waitK_len (q o : List Int) (n : Nat) : (waitK q o n).length ≤ n := by
  unfold waitK
  rw [List.length_map]
  have := List.length_filter_le (fun (i : Nat) => decide ((i : Int) ∈ o) && decide (at0 q i = -1)) (List.range n)
  simpa using this
theorem pack_waits {s : Snap} {p o : List Int} (hnd : o.Nodup) (hr : ∀ i ∈ o, 0 ≤ i ∧ i < p.length) : (packGo s p [] o).2.mergeSort (fun x y => decide (x ≤ y)) = waitK (packGo s p [] o).1 o p.length := by
  obtain ⟨_, _, _, w2, h2, h3, h4⟩ := pack_inv s o p [] hnd hr
  rw [List.nil_append] at h2
  have hnw : ((packGo s p [] o).2.mergeSort (fun x y => decide (x ≤ y))).Nodup := (List.mergeSort_perm _ _).nodup_iff.2 (by rw [h2]; exact h3.nodup hnd)
  have hsw := List.pairwise_mergeSort (le := fun x y : Int => decide (x ≤ y)) (fun a b c h1 h2 => by simp only [decide_eq_true_eq] at *; omega) (fun a b => by simp only [Bool.or_eq_true, decide_eq_true_eq]; omega) (packGo s p [] o).2
  refine rise_eq_of ?_ (waitK_rise _ _ _) fun x => ?_
  · refine (List.Pairwise.and hsw hnw).imp fun h => ?_
    have h5 := of_decide_eq_true h.1
    have h6 := h.2
    omega
  · rw [List.mem_mergeSort, waitK_mem, h2]
    constructor
    · intro h
      have hx := h3.subset h
      obtain ⟨a, b⟩ := hr x hx
      exact ⟨a, b, hx, (h4 x hx).1 h⟩
    · rintro ⟨_, _, h5, h6⟩
      exact (h4 x h5).2 h6
def packQ (s : Snap) : List Int → List Int → List Int
  | q, [] => q
  | q, i :: l => if (bestV s q i).2 = true then packQ s (q.set i.toNat (bestV s q i).1) l else packQ s q l
theorem packQ_eq (s : Snap) : ∀ (o q ws : List Int), (packGo s q ws o).1 = packQ s q o
  | [], q, ws => by rw [packGo, packQ]
  | i :: o, q, ws => by
    rw [packGo, packQ]
    by_cases h : at0 q i.toNat = -1
    · rw [if_neg (by simpa using h)]
      split
      · exact packQ_eq s o _ _
      · exact packQ_eq s o _ _
    · rw [if_pos h, best_placed h, if_neg (by simp)]
      exact packQ_eq s o _ _
def waitIn (q o : List Int) (i m : Nat) : List Int := waitK q o i ++ (if (i : Int) ∈ o.take m ∧ at0 q i = -1 then [(i : Int)] else [])
theorem waitIn_0 (q o : List Int) (i : Nat) : waitK q o i = waitIn q o i 0 := by simp [waitIn]
theorem waitIn_end (q o : List Int) (i : Nat) : waitIn q o i o.length = waitK q o (i + 1) := by rw [waitK_step]; simp [waitIn]
theorem waitIn_hit {q o : List Int} {i m : Nat} (hnd : o.Nodup) (h : o[m]? = some (i : Int)) (hq : at0 q i = -1) : waitIn q o i (m + 1) = waitIn q o i m ++ [(i : Int)] := by
  have ht : o.take (m + 1) = o.take m ++ [(i : Int)] := by rw [List.take_add_one, h]; rfl
  have hn : ¬ (i : Int) ∈ o.take m := fun hm => by
    have h1 : (o.take (m + 1)).Nodup := hnd.sublist (List.take_sublist _ _)
    rw [ht] at h1
    exact (List.nodup_append.1 h1).2.2 _ hm _ (by simp) rfl
  unfold waitIn
  rw [ht, if_pos ⟨by simp, hq⟩, if_neg (fun hh => hn hh.1), List.append_nil]
theorem waitIn_miss {q o : List Int} {i m : Nat} {x : Int} (h : o[m]? = some x) (hq : ¬ (x = (i : Int) ∧ at0 q i = -1)) : waitIn q o i (m + 1) = waitIn q o i m := by
  have ht : o.take (m + 1) = o.take m ++ [x] := by rw [List.take_add_one, h]; rfl
  unfold waitIn
  congr 1
  rw [ht]
  by_cases h1 : at0 q i = -1
  · have hne : ¬ (i : Int) = x := fun e => hq ⟨e.symm, h1⟩
    simp [hne]
  · simp [h1]
theorem waitIn_len (q o : List Int) (i m : Nat) : (waitIn q o i m).length ≤ i + 1 := by
  have := waitK_len q o i
  unfold waitIn
  split <;> simp <;> omega
theorem packV_eq {s : Snap} {p pods : List Int} (hc : checkP s p = 0) (hlen : p.length = s.pods.length) : packV s p pods = (packQ s p (orderV s pods), waitK (packQ s p (orderV s pods)) (orderV s pods) p.length, 0) := by
  unfold packV
  rw [if_neg (by simpa using hc), pack_waits (order_nodup s pods) (fun i hi => by obtain ⟨a, b, _⟩ := order_mem hi; omega), packQ_eq]
end Go.Dr
namespace Go.Dr
open Go.Proofs
set_option maxRecDepth 20000
set_option maxHeartbeats 2000000
set_option linter.unusedSimpArgs false
set_option linter.unusedVariables false
theorem s37_L14p {P K : Prop} (k : K) (h : Goal K → P := by
  intro zk
  (first | refine Walk ?_ | refine JC.block ?_ | refine JC.drawN 9 rfl [0, 1, 2, 3, 4, 5, 6, 7, 8, 9, 10, 11] [0, 1, 2, 3, 4, 5, 7, 8, 9, 10, 11] Tryz_mixed (by decide +kernel) ?_ | (refine JO.eff rfl rfl rfl (JEff.callV rfl (r14_Best _ (by exact vta) (by exact vta) (by first | assumption | omega) (by first | assumption | (unfold Rng; omega))) rfl ?_); intro zqa zqb) | (refine JO.eff rfl rfl rfl (JEff.callL rfl (r14_Order (by exact vta) (by exact vta) (by first | assumption | omega)) rfl ?_); intro zqa zqb zqc zqd zqe zqf) | (refine JO.eff rfl rfl rfl (JEff.callV rfl (r7_Check (by exact vta) (by exact vta)) rfl ?_); intro zqa zqb) | (refine WBox ?_))
  (repeat (first | revert zqg | revert zqf | revert zqe | revert zqd | revert zqc | revert zqb | revert zqa))
  exact zk.k) : P := h ⟨k⟩
theorem r14_Pack {S : SHeap} {u v w : Value} {s : Snap} {p pods : List Int} (hu : rSnap.V S u s) (hv : (rSlice 8 rI64).V S v p) (hw : (rSlice 8 rI64).V S w pods) (hpl : pods.length ≤ 1000) : FnLL Tryz.prog 37 #[u, v, w] S 8 rI64 (packV s p pods).1 8 rI64 (packV s p pods).2.1 [.int .i64 (packV s p pods).2.2] := by
  have hv0 := hv
  obtain ⟨va, vc, rfl, _, hb8, hb, hpr⟩ := V_slice.1 hv0
  obtain ⟨oa, oc, rfl, _⟩ := V_slice.1 hw
  (refine Fn.enter (args := [u, .slice va p.length vc, .slice oa pods.length oc]) Tryz.func37 rfl Tryz.ntmps37 rfl ?_; intro w0)
  repeat (refine s37_L14p ?_; intros)
  by_cases hc : checkP s p = 0
  · rw [decide_eq_true hc]
    obtain ⟨hs, hlen, hp24, hn8, _, _, hqr⟩ := placed_hyps hc
    rw [packV_eq hc hlen]
    have hol := order_len s pods
    have hom := fun x => @order_mem s pods x
    have hnd := order_nodup s pods
    repeat (refine s37_L14p ?_; intros)
    refine JO.eff rfl rfl rfl (JEff.build0 rI64 rfl ?_); intro b0
    repeat (refine s37_L14p ?_; intros)
    (refine JO.eff rfl rfl rfl (JEff.appendS (rep := rI64) rfl rfl (hv.mono (by exact lea)) rfl rfl (List.Perm.refl _) (by unfold big; omega) (by unfold big; omega) (by intro l hl; cases hl) rfl ?_); intro a2 c2 us hus)
    rw [List.nil_append, Nat.zero_add]
    repeat (refine s37_L14p ?_; intros)
    generalize orderV s pods = o at *
    by_cases hp0 : p = []
    · obtain rfl : o = [] := List.eq_nil_of_length_eq_zero (by rw [hp0] at hlen; simp at hlen; omega)
      refine JC.freezeRow (rep := rI64) (bt := 8) (xs := p) (hus.mono (by exact lea)) rfl (by omega) (by omega) (fun S9 hl9 hV9 => ?_)
      subst hp0
      refine JC.loopF0 (σ := Nat) [(3, _), (10, _), (11, _)] (fun q => [(12, .int .i64 q)]) (fun Si q => q = 0) (fun q => 0) (0) (by exact sba) (by exact sba) (rfl) ?_; rintro Si i hli hii; (try dsimp only at hii); dsimp only [List.cons_append, List.nil_append]
      subst hii
      repeat (refine s37_L14p ?_; intros)
      refine JC.loopF0 (σ := Nat) [(10, _), (11, _)] (fun q => [(15, .slice none 0 0), (16, .int .i64 q)]) (fun Sj q => q = 0) (fun q => 0) (0) (by exact sba) (by exact sba) (rfl) ?_; rintro Sj j hlj hij; (try dsimp only at hij); dsimp only [List.cons_append, List.nil_append]
      subst hij
      repeat (refine s37_L14p ?_; intros)
      (refine JX.ret3 Tryz.results37 (ResV.tmp rfl) (ResV.tmp rfl) (ResV.tmp rfl) (List.nil_sublist _) ?_)
      have e1 : packQ s [] [] = [] := by rw [packQ]
      rw [e1]
      exact ⟨rfl, _, _, rfl, hV9.mono (by exact lea), V_nil⟩
    · have hp1 : 0 < p.length := List.length_pos_iff.2 hp0
      rw [flat_int hus]
      refine JC.rowBlk hp1 (fun b tl hab hbb hnc => ?_)
      subst hab
      refine JC.loopF (σ := Nat × List Int) [(3, _), (10, _), (11, _)] (fun z => [(12, .int .i64 z.1)]) (fun z => [.blk b (.cells (intsT z.2 tl) 3 (0, 0))]) (fun Si z => z.1 ≤ o.length ∧ z.2.length = p.length ∧ (∀ x ∈ z.2, Rng x) ∧ packQ s z.2 (o.drop z.1) = packQ s p o) (fun z => o.length - z.1) ((0, p)) (by exact sba) (by exact sba) rfl (⟨Nat.zero_le _, rfl, hqr, rfl⟩) ?_; rintro Si ⟨i, pq⟩ hli hii; (try dsimp only at hii); dsimp only [List.cons_append, List.nil_append]
      obtain ⟨hi, hql, hqr2, hgo⟩ := hii
      try dsimp only at hi hql hqr2 hgo
      repeat (refine s37_L14p ?_; intros)
      refine JC.cond rfl (fun hc2 => ?_) (fun hc2 => ?_)
      · have hi' := dlt hc2
        obtain ⟨x, hx, hd⟩ := drop_at hi'
        rw [hd, packQ] at hgo
        obtain ⟨hx0, hx1, _⟩ := hom x (List.mem_of_getElem? hx)
        have hxr : Rng x := by unfold Rng; omega
        repeat (refine s37_L14p ?_; intros)
        refine JO.out (fun hout => ?_)
        have hsv := (by assumption : rSnap.V _ _ s)
        refine JO.eff rfl rfl rfl (JEff.lendV rfl (List.Perm.refl _) (by intro l hl; cases hl) hout (fun S1 hl1 hS1 => r14_Best x (hsv.mono (by exact lea)) (blk_slice (SHeap.le.refl S1) hS1 hql.symm hnc (by omega) hqr2) (by omega) hxr) rfl ?_); intro S5 hl5
        rcases hbv : bestV s pq x with ⟨n, ok⟩
        rw [hbv] at hgo
        dsimp only at hgo ⊢
        repeat (refine s37_L14p ?_; intros)
        cases ok
        · rw [if_neg (by simp)] at hgo
          repeat (refine s37_L14p ?_; intros)
          exact JX.roundF (i + 1, pq) (by exact lea) ⟨by omega, hql, hqr2, hgo⟩ (by (try dsimp only); omega) rfl (by exact sba) (by exact sba)
        · rw [if_pos rfl] at hgo
          obtain ⟨hn0, hn1⟩ := best_rng hbv
          have hnr : Rng n := by unfold Rng; omega
          repeat (refine s37_L14p ?_; intros)
          refine JO.pure rfl rfl rfl (JPure.indexRI rfl rfl rfl (by omega) (by omega) ?_)
          refine JO.eff rfl rfl rfl (JEff.storeIT (i := x.toNat) rfl rfl hnr (List.Perm.refl _) (by omega) (by intro l hl; cases hl) ?_)
          repeat (refine s37_L14p ?_; intros)
          exact JX.roundF (i + 1, pq.set x.toNat n) (by exact lea) ⟨by omega, by simp [hql], fun z hz => by
            rcases List.mem_or_eq_of_mem_set hz with h | h
            · exact hqr2 z h
            · exact h ▸ hnr, hgo⟩ (by (try dsimp only); omega) rfl (by exact sba) (by exact sba)
      · have hi' := dnlt hc2
        rw [List.drop_eq_nil_of_le hi', packQ] at hgo
        obtain rfl : i = o.length := by omega
        rw [← hgo]
        refine JC.freeze hbb (fun S9 hl9 hS9 => ?_)
        have hVq := blk_slice (SHeap.le.refl S9) hS9 hql.symm hnc (by omega) hqr2
        repeat (refine s37_L14p ?_; intros)
        (first | refine JC.newRow 3 1 ?_ | refine JO.newRow 3 1 ?_ | refine JX.newRow 3 1 ?_)
        rw [← hql] at hVq ⊢
        refine JC.loopF (σ := Nat × Option Addr × Nat × List Value) [(10, _), (11, _)] (fun q => [(15, .slice q.2.1 ((fun k => waitK pq o k) q.1).length q.2.2.1), (16, ((fun k => .int .i64 k) q.1))]) (fun q => [.row w0.heap.size 3 (Rp.sz rI64) (.slice q.2.1 ((fun k => waitK pq o k) q.1).length q.2.2.1) ((fun k => waitK pq o k) q.1).length (flatCells q.2.2.2)]) (fun Sj q => q.1 ≤ pq.length ∧ allV rI64 Sj q.2.2.2 ((fun k => waitK pq o k) q.1) ∧ ((fun k => True) q.1)) (fun q => pq.length - q.1) (0, none, 0, []) (by exact sba) (by exact sba) (by first | rfl | simp) (⟨Nat.zero_le _, trivial, trivial⟩) ?_; rintro Sj ⟨k, raj, rcj, vsj⟩ hlj ⟨hj, hvj, hij⟩; (try dsimp only at hj hvj hij); dsimp only [List.cons_append, List.nil_append]
        have hwl := waitK_len pq o k
        repeat (refine s37_L14p ?_; intros)
        refine JC.cond rfl (fun hc3 => ?_) (fun hc3 => ?_)
        · have hk' := dlt hc3
          repeat (refine s37_L14p ?_; intros)
          rw [waitIn_0 pq o k] at hvj hwl ⊢
          refine JC.loopF (σ := Nat × Option Addr × Nat × List Value) [(10, _), (11, _), (16, _)] (fun q => [(15, .slice q.2.1 ((fun m => waitIn pq o k m) q.1).length q.2.2.1), (17, ((fun m => .int .i64 m) q.1))]) (fun q => [.row w0.heap.size 3 (Rp.sz rI64) (.slice q.2.1 ((fun m => waitIn pq o k m) q.1).length q.2.2.1) ((fun m => waitIn pq o k m) q.1).length (flatCells q.2.2.2)]) (fun Sl q => q.1 ≤ o.length ∧ allV rI64 Sl q.2.2.2 ((fun m => waitIn pq o k m) q.1) ∧ ((fun m => True) q.1)) (fun q => o.length - q.1) (0, raj, rcj, vsj) (by exact sba) (by exact sba) (by first | rfl | simp) (⟨Nat.zero_le _, hvj, trivial⟩) ?_; rintro Sl ⟨m, ral, rcl, vsl⟩ hll ⟨hl, hvl, hil⟩; (try dsimp only at hl hvl hil); dsimp only [List.cons_append, List.nil_append]
          have hwl2 := waitIn_len pq o k m
          repeat (refine s37_L14p ?_; intros)
          refine JC.cond rfl (fun hc4 => ?_) (fun hc4 => ?_)
          · have hm' := dlt hc4
            obtain ⟨x, hx, _⟩ := drop_at hm'
            obtain ⟨y, hy, _⟩ := drop_at hk'
            have hy0 := at0_some hy
            have hyr := hqr2 y (List.mem_of_getElem? hy)
            repeat (refine s37_L14p ?_; intros)
            by_cases h1 : x = (k : Int)
            · rw [decide_eq_true h1]
              repeat (refine s37_L14p ?_; intros)
              by_cases h2 : y = -1
              · rw [decide_eq_true h2]
                have hst := waitIn_hit hnd (h1 ▸ hx) (hy0.trans h2)
                repeat (refine s37_L14p ?_; intros)
                (refine JO.eff rfl rfl rfl (JEff.build (rep := rI64) (ys := [(k : Int)]) rfl rfl ⟨⟨(V_i64.2 ⟨rfl, by unfold Rng; omega⟩), nna⟩, trivial⟩ rfl rfl rfl rfl ?_); intro bb hbb hvv); (repeat (first | (refine Walk ?_; intros) | refine JC.block ?_)); (refine JO.eff rfl rfl rfl (JEff.appendL (rep := rI64) rfl rfl rfl rfl (List.Perm.swap _ _ _) (by exact hvv.flat) (by intro c hc; exact flat_one (fun v hv => (hvv.size v hv).2) c hc) (by first | omega | (unfold big; omega)) (by unfold big; omega) (by first | exact rowT_ok | (intro l hl; cases hl)) rfl ?_); intro a4 c4; clear hvv hbb)
                repeat (refine s37_L14p ?_; intros)
                exact JX.roundF (m + 1, a4, c4, vsl ++ [(.int .i64 k)]) (by exact lea) ⟨by omega, by (try dsimp only); rw [hst]; exact allV_add (by exact lea) hvl (V_i64.2 ⟨rfl, by unfold Rng; omega⟩) nna, (trivial)⟩ (by (try dsimp only); omega) (by (try dsimp only); rw [hst]; (simp [flat_append] <;> omega)) (by (try dsimp only); rw [hst]; simp only [List.length_append, List.length_cons, List.length_nil]; exact sba) (by exact sba)
              · rw [decide_eq_false h2]
                have hst := waitIn_miss hx (fun h => h2 (hy0.symm.trans h.2))
                repeat (refine s37_L14p ?_; intros)
                exact JX.roundF (m + 1, ral, rcl, vsl) (by exact lea) ⟨by omega, by (try dsimp only); rw [hst]; exact hvl.mono (by exact lea), (trivial)⟩ (by (try dsimp only); omega) (by (try dsimp only); rw [hst]) (by (try dsimp only); rw [hst]; exact sba) (by exact sba)
            · rw [decide_eq_false h1]
              have hst := waitIn_miss (q := pq) hx (fun h => h1 h.1)
              repeat (refine s37_L14p ?_; intros)
              exact JX.roundF (m + 1, ral, rcl, vsl) (by exact lea) ⟨by omega, by (try dsimp only); rw [hst]; exact hvl.mono (by exact lea), (trivial)⟩ (by (try dsimp only); omega) (by (try dsimp only); rw [hst]) (by (try dsimp only); rw [hst]; exact sba) (by exact sba)
          · have hm' := dnlt hc4
            obtain rfl : m = o.length := by omega
            rw [waitIn_end] at hvl hwl2 ⊢
            repeat (refine s37_L14p ?_; intros)
            exact JX.roundF (k + 1, ral, rcl, vsl) (by exact lea) ⟨by omega, hvl.mono (by exact lea), trivial⟩ (by (try dsimp only); omega) rfl (by exact sba) (by exact sba)
        · have hk' := dnlt hc3
          obtain rfl : k = pq.length := by omega
          repeat (refine s37_L14p ?_; intros)
          refine JX.freezeRow (rep := rI64) (bt := 8) hvj rfl (by unfold big; omega) (by unfold big; omega) (fun S8 hl8 hV8 => ?_)
          (refine JX.ret3 Tryz.results37 (ResV.tmp rfl) (ResV.tmp rfl) (ResV.tmp rfl) (List.nil_sublist _) ?_)
          exact ⟨rfl, _, _, rfl, hVq.mono (by exact lea), hV8⟩
  · rw [decide_eq_false hc]
    have hpk : packV s p pods = ([], [], checkP s p) := if_pos hc
    rw [hpk]
    repeat (refine s37_L14p ?_; intros)
    (refine JX.ret3 Tryz.results37 (ResV.tmp rfl) (ResV.tmp rfl) (ResV.tmp rfl) (List.nil_sublist _) ?_)
    exact ⟨rfl, _, _, rfl, V_nil, V_nil⟩
end Go.Dr
namespace Go.Dr
open Go.Proofs
set_option maxRecDepth 20000
set_option maxHeartbeats 2000000
set_option linter.unusedSimpArgs false
set_option linter.unusedVariables false
theorem w14r_Pack {S : SHeap} {u v w : Value} {s : Snap} {p pods q ws : List Int} {e : Int} (h : packV s p pods = (q, ws, e)) (hu : rSnap.V S u s) (hv : (rSlice 8 rI64).V S v p) (hw : (rSlice 8 rI64).V S w pods) (hpl : pods.length ≤ 1000) : FnLL Tryz.prog 37 #[u, v, w] S 8 rI64 q 8 rI64 ws [.int .i64 e] := by
  have hh := r14_Pack hu hv hw hpl
  rw [h] at hh; exact hh
theorem s7_L14q {P K : Prop} (k : K) (h : Goal K → P := by
  intro zk
  (first | refine Walk ?_ | refine JC.block ?_ | refine JC.drawN 1 rfl [0, 2, 3, 4, 5, 6, 1, 7, 8] [0, 8] Tryz_mixed (by decide +kernel) ?_ | refine JC.drawN 5 rfl [0, 1, 2, 3, 4, 5, 6, 7, 8, 9, 10, 11, 12, 13, 14, 15, 17, 18, 16, 19, 20, 21, 22, 23, 24, 25, 26, 27, 28, 29, 30, 31, 32, 33, 34, 35] [0, 1, 3, 4, 5, 7, 8, 9, 10, 11, 12, 13, 14, 15, 21, 22, 23, 24, 26, 27, 28, 29, 31, 32, 34, 35] Tryz_mixed (by decide +kernel) ?_ | (refine JO.eff rfl rfl rfl (JEff.callV rfl (r0_EqInts (by exact vta) (by exact vta)) rfl ?_); intro zqa zqb) | (refine JO.eff rfl rfl rfl (JEff.callR rfl (q14_cut (by exact vta)) rfl ?_); intro zqa zqb zqc zqd) | (refine JO.eff rfl rfl rfl (JEff.callL rfl (r0_CopyInts (by exact vta)) rfl ?_); intro zqa zqb zqc zqd zqe zqf) | (refine JO.eff rfl rfl rfl (JEff.callV rfl (q14_works) rfl ?_); intro zqa zqb) | (refine JO.eff rfl rfl rfl (JEff.callL rfl (p14_Order (by exact vta) (by exact vta) (by first | assumption | omega)) rfl ?_); intro zqa zqb zqc zqd zqe zqf) | (refine JO.eff rfl rfl rfl (JEff.callL rfl (r14_Order (by exact vta) (by exact vta) (by first | assumption | omega)) rfl ?_); intro zqa zqb zqc zqd zqe zqf))
  (repeat (first | revert zqg | revert zqf | revert zqe | revert zqd | revert zqc | revert zqb | revert zqa))
  exact zk.k) : P := h ⟨k⟩
theorem a14_FitPacks {S : SHeap} {u v lv : Value} {s : Snap} {p pods : List Int} (hu : rSnap.V S u s) (hv : (rSlice 8 rI64).V S v p) (hl : (rSlice 8 rI64).V S lv pods) : FnV Tryz.prog 7 #[u, v, lv] S (.bool true) := by
  obtain ⟨cs, rfl, hcs⟩ := V_agg rfl hu
  obtain ⟨a0, c0, rfl, hlc, hl8, hlb, _⟩ := V_slice.1 hl
  unfold big at hlb
  (refine Fn.enter (args := [.agg cs.toArray, v, .slice a0 pods.length c0]) Tryz.func7 rfl Tryz.ntmps7 rfl ?_; intro w0)
  repeat (refine s7_L14q ?_; intros)
  refine JO.eff rfl rfl rfl (JEff.box rfl rfl ?_); intro bb hbb
  repeat (refine s7_L14q ?_; intros)
  refine JO.pure rfl rfl rfl (JPure.loadM (rep := rSnap) (x0 := s) (mid := cs) rfl (by (first | exact List.mem_cons_self | exact List.mem_cons_of_mem _ List.mem_cons_self | exact List.mem_cons_of_mem _ (List.mem_cons_of_mem _ List.mem_cons_self))) (by show cs.take 3 = cs; exact List.take_of_length_le (by rw [rSnap.len hcs]; exact Nat.le_refl _)) (rSnap.mono (by exact lea) hcs) (.inl rfl) rfl ?_)
  repeat (refine s7_L14q ?_; intros)
  refine JO.pure rfl rfl rfl (JPure.sliceS (xs := pods) (rep := rI64) (bt := 8) rfl (by exact vta) rfl rfl rfl (by omega) (by omega) (by omega) ?_); intro a1 c1 y1 hy1 hV1 hyl1 hyb1
  have e1 : y1 = pods.take 40 := hy1.trans (cut_len pods 40)
  subst e1
  refine JO.eff rfl rfl rfl (JEff.callR rfl (q14_cut (Rp.val_V (rSnap.mono (by exact lea) hcs))) rfl ?_); intro cw S1 hl1 hcw
  repeat (refine s7_L14q ?_; intros)
  refine JO.eff rfl rfl rfl (JEff.storeW rfl rfl hcw nna (List.Perm.refl _) (by show 3 = cs.length; exact (rSnap.len hcs).symm) (by intro l hl; cases hl) ?_)
  refine JO.freezeV hcw nna hbb (by intro l hl; cases hl) ?_; intro S2 hl2 hpb
  have hnl : (cutS s).nodes.length ≤ 1000 := by simp [cutS]; omega
  have hsl : (cutS s).pods.length ≤ 1000 := by simp [cutS]; omega
  have hpl : (pods.take 40).length ≤ 1000 := by simp; omega
  generalize cutS s = s' at *
  generalize pods.take 40 = l' at *
  rcases hpk : packV s' p l' with ⟨q, ws, e⟩
  obtain ⟨o, ho⟩ : ∃ o, orderV s' l' = o := ⟨_, rfl⟩
  repeat (first | (refine Walk ?_; intros) | refine JC.block ?_ | refine JC.drawN 1 rfl [0, 2, 3, 4, 5, 6, 1, 7, 8] [0, 8] Tryz_mixed (by decide +kernel) ?_ | refine JC.drawN 5 rfl [0, 1, 2, 3, 4, 5, 6, 7, 8, 9, 10, 11, 12, 13, 14, 15, 17, 18, 16, 19, 20, 21, 22, 23, 24, 25, 26, 27, 28, 29, 30, 31, 32, 33, 34, 35] [0, 1, 3, 4, 5, 7, 8, 9, 10, 11, 12, 13, 14, 15, 21, 22, 23, 24, 26, 27, 28, 29, 31, 32, 34, 35] Tryz_mixed (by decide +kernel) ?_ | (refine JO.eff rfl rfl rfl (JEff.callLL rfl (w14_Pack hpk (by exact vta) (by exact vta) (by exact vta) hpl) rfl ?_); intro _ _ _ _ _ _ _ _ _ _) | (refine JO.eff rfl rfl rfl (JEff.callLL rfl (w14r_Pack hpk (by exact vta) (by exact vta) (by exact vta) hpl) rfl ?_); intro _ _ _ _ _ _ _ _ _ _) | (refine JO.eff rfl rfl rfl (JEff.callV rfl (w_EqInts (by exact vta) (by exact vta)) rfl ?_); intro _ _) | (refine JO.eff rfl rfl rfl (JEff.callV rfl (r0_EqInts (by exact vta) (by exact vta)) rfl ?_); intro _ _) | (refine JO.eff rfl rfl rfl (JEff.callR rfl (q14_cut (by exact vta)) rfl ?_); intro _ _ _ _) | (refine JO.eff rfl rfl rfl (JEff.callL rfl (r0_CopyInts (by exact vta)) rfl ?_); intro _ _ _ _ _ _) | (refine JO.eff rfl rfl rfl (JEff.callV rfl (q14_works) rfl ?_); intro _ _) | (refine JO.eff rfl rfl rfl (JEff.callL rfl (p14_Order (by exact vta) (by exact vta) (by first | assumption | omega)) rfl ?_); intro _ _ _ _ _ _) | (refine JO.eff rfl rfl rfl (JEff.callL rfl (r14_Order (by exact vta) (by exact vta) (by first | assumption | omega)) rfl ?_); intro _ _ _ _ _ _))
  rw [decide_eq_true (rfl : e = e)]
  repeat' (first | (refine Walk ?_; intros) | refine JC.block ?_ | refine JC.drawN 1 rfl [0, 2, 3, 4, 5, 6, 1, 7, 8] [0, 8] Tryz_mixed (by decide +kernel) ?_ | refine JC.drawN 5 rfl [0, 1, 2, 3, 4, 5, 6, 7, 8, 9, 10, 11, 12, 13, 14, 15, 17, 18, 16, 19, 20, 21, 22, 23, 24, 25, 26, 27, 28, 29, 30, 31, 32, 33, 34, 35] [0, 1, 3, 4, 5, 7, 8, 9, 10, 11, 12, 13, 14, 15, 21, 22, 23, 24, 26, 27, 28, 29, 31, 32, 34, 35] Tryz_mixed (by decide +kernel) ?_ | (refine JO.eff rfl rfl rfl (JEff.callV rfl (w_EqInts (by exact vta) (by exact vta)) rfl ?_); intro _ _) | (refine JO.eff rfl rfl rfl (JEff.callV rfl (r0_EqInts (by exact vta) (by exact vta)) rfl ?_); intro _ _) | (refine JO.eff rfl rfl rfl (JEff.callR rfl (q14_cut (by exact vta)) rfl ?_); intro _ _ _ _) | (refine JO.eff rfl rfl rfl (JEff.callL rfl (r0_CopyInts (by exact vta)) rfl ?_); intro _ _ _ _ _ _) | (refine JO.eff rfl rfl rfl (JEff.callV rfl (q14_works) rfl ?_); intro _ _) | (refine JO.eff rfl rfl rfl (JEff.callL rfl (p14_Order (by exact vta) (by exact vta) (by first | assumption | omega)) rfl ?_); intro _ _ _ _ _ _) | (refine JO.eff rfl rfl rfl (JEff.callL rfl (r14_Order (by exact vta) (by exact vta) (by first | assumption | omega)) rfl ?_); intro _ _ _ _ _ _) | (refine JO.guard rfl rfl rfl rfl ?_ ?_ <;> intro _) | (refine JC.cond rfl ?_ ?_ <;> intro _))
  (refine JX.ret1 Tryz.results7 (ResV.tmp rfl) (List.nil_sublist _) ?_)
  exact ⟨rfl, rfl⟩
end Go.Dr
namespace Go.Dr
open Go.Proofs
set_option maxRecDepth 20000
set_option maxHeartbeats 2000000
set_option linter.unusedSimpArgs false
set_option linter.unusedVariables false
theorem raw14 {S : SHeap} {na : Option Addr} {pb sb cap : Nat} {TS : TypeId} (hs : S sb = some (.cells (Value.agg #[.slice na 2 2, .slice (some ⟨pb, 0, none⟩) 4 cap, .slice none 0 0]).cells TS (0, 0))) : PtrTo S ⟨sb, 0, none⟩ rRaw3 (.slice na 2 2, .slice (some ⟨pb, 0, none⟩) 4 cap, .slice none 0 0) :=
  cells_ptr (v := .agg #[.slice na 2 2, .slice (some ⟨pb, 0, none⟩) 4 cap, .slice none 0 0]) hs ⟨[_], [_, _], rfl, ⟨rfl, rfl⟩, [_], [_], rfl, ⟨rfl, rfl⟩, rfl, rfl⟩
theorem snap14 {S : SHeap} {na : Option Addr} {pb sb cap : Nat} {tl : List Value} {r : Int} {TP TS : TypeId} (hr : Rng r) (hcap : 4 ≤ cap) (hs : S sb = some (.cells (Value.agg #[.slice na 2 2, .slice (some ⟨pb, 0, none⟩) 4 cap, .slice none 0 0]).cells TS (0, 0))) (hn : (rSlice 112 rNode).V S (.slice na 2 2) nodes14) (hp : S pb = some (.cells (cellsR (podWs r) tl) TP (0, 0))) : PtrTo S ⟨sb, 0, none⟩ rSnap (chap14 r) := by
  obtain ⟨cs, hR, he⟩ := chap14_V hr hcap hn hp
  exact cells_ptr (v := .agg #[.slice na 2 2, .slice (some ⟨pb, 0, none⟩) 4 cap, .slice none 0 0]) hs (by
    cases he; exact hR)
theorem s9_L14t {P K : Prop} (k : K) (h : Goal K → P := by
  intro zk
  (first | refine Walk ?_ | refine JC.block ?_ | (refine JO.eff rfl rfl rfl (JEff.callV rfl (r0_EqInts (by exact vta) (by exact vta)) rfl ?_); intro zqa zqb) | (refine JO.eff rfl rfl rfl (JEff.callV rfl (p14_Best _ (by exact vta) (by exact vta) (by first | assumption | omega) (by first | assumption | (unfold Rng; omega))) rfl ?_); intro zqa zqb) | (refine JO.eff rfl rfl rfl (JEff.callV rfl (p14_Left _ (by exact vta) (by exact vta)) rfl ?_); intro zqa zqb) | (refine JO.eff rfl rfl rfl (JEff.callL rfl (p14_Rank _ (by exact vta) (by exact vta) (by first | assumption | omega) (by first | assumption | (unfold Rng; omega))) rfl ?_); intro zqa zqb zqc zqd zqe zqf) | (refine JO.eff rfl rfl rfl (JEff.callV rfl (q14_works) rfl ?_); intro zqa zqb) | (refine JO.eff rfl rfl rfl (JEff.callL rfl (p14_Order (by exact vta) (by exact vta) (by first | assumption | omega)) rfl ?_); intro zqa zqb zqc zqd zqe zqf) | (refine JO.eff rfl rfl rfl (JEff.callR rfl (q14_chapter) rfl ?_); intro zqa zqb zqc zqd) | (refine WNew ?_) | (refine WPut ?_))
  (repeat (first | revert zqg | revert zqf | revert zqe | revert zqd | revert zqc | revert zqb | revert zqa))
  exact zk.k) : P := h ⟨k⟩
theorem a14_FitNames {S : SHeap} : FnV Tryz.prog 9 #[] S (.bool true) := by
  haveI : TyR Tryz.prog 23 rVal := ⟨(inferInstance : TyR Tryz.prog 23 (rSlice 240 rPod)).b⟩
  have hRaw : TyR Tryz.prog 26 rRaw3 := ⟨(inferInstance : TyR Tryz.prog 26 rSnap).b⟩
  (refine Fn.enter (args := []) Tryz.func9 rfl Tryz.ntmps9 rfl ?_; intro w0)
  repeat (first | (refine Walk ?_; intros) | refine JC.block ?_ | refine JO.eff rfl rfl rfl (JEff.callM (Mc := []) rfl (List.Perm.refl _) (mayAll rfl) q14_chapterM rfl ?_) | (refine JO.eff rfl rfl rfl (JEff.callV rfl (r0_EqInts (by exact vta) (by exact vta)) rfl ?_); intro _ _) | (refine JO.eff rfl rfl rfl (JEff.callV rfl (p14_Best _ (by exact vta) (by exact vta) (by first | assumption | omega) (by first | assumption | (unfold Rng; omega))) rfl ?_); intro _ _) | (refine JO.eff rfl rfl rfl (JEff.callV rfl (p14_Left _ (by exact vta) (by exact vta)) rfl ?_); intro _ _) | (refine JO.eff rfl rfl rfl (JEff.callL rfl (p14_Rank _ (by exact vta) (by exact vta) (by first | assumption | omega) (by first | assumption | (unfold Rng; omega))) rfl ?_); intro _ _ _ _ _ _) | (refine JO.eff rfl rfl rfl (JEff.callV rfl (q14_works) rfl ?_); intro _ _) | (refine JO.eff rfl rfl rfl (JEff.callL rfl (p14_Order (by exact vta) (by exact vta) (by first | assumption | omega)) rfl ?_); intro _ _ _ _ _ _) | (refine JO.eff rfl rfl rfl (JEff.callR rfl (q14_chapter) rfl ?_); intro _ _ _ _) | (refine WNew ?_; intros) | (refine WPut ?_; intros))
  intro w S1 M1 hl1 hw
  obtain ⟨na, pb, cap, tl, rfl, rfl, hcap, hn1⟩ := hw
  dsimp only [List.cons_append, List.nil_append]
  (refine JO.eff rfl rfl rfl (JEff.alloc rfl ?_); intro sb hsb)
  refine JO.eff rfl rfl rfl (JEff.storeW (ht := hRaw) rfl rfl V_raw3 nna pma rfl (by intro l hl; cases hl) ?_)
  refine JO.freeze hsb (by intro l hl; cases hl) (fun S2 hl2 hS2 => ?_)
  have hpr := raw14 hS2
  repeat (refine s9_L14t ?_; intros)
  (refine JO.eff rfl rfl rfl (JEff.buildS (bt := 8) (rep := rI64) (ys := [(0 : Int), 1, -1, -1]) rfl rfl (⟨⟨V_num, nna⟩, ⟨V_num, nna⟩, ⟨V_num, nna⟩, ⟨V_num, nna⟩, trivial⟩) rfl rfl rfl (by decide) rfl ?_); intro S3 a3 hl3 hV3)
  refine JO.out (fun hout => ?_)
  have hp3 := hout (.blk pb _) List.mem_cons_self pb rfl
  refine JO.blkNew rfl (fun hp0 hpb => ?_)
  refine JO.freeze hpb (by intro l hl; cases hl) (fun S4 hl4 hS4 => ?_)
  have hsnapA := snap14 (by simp [Rng]) hcap ((show SHeap.le S2 S4 by exact lea) _ _ hS2) (hn1.mono (show SHeap.le S1 S4 by exact lea)) hS4
  clear hpr
  repeat (first | (refine Walk ?_; intros) | refine JC.block ?_ | (refine JO.eff rfl rfl rfl (JEff.callV rfl (w14_Best g14_1 (by decide) (by simp [Rng]) (by exact vta) (by exact vta)) rfl ?_); intro _ _) | (refine JO.eff rfl rfl rfl (JEff.callV rfl (w14_Best g14_2 (by decide) (by simp [Rng]) (by exact vta) (by exact vta)) rfl ?_); intro _ _) | (refine JO.eff rfl rfl rfl (JEff.callV rfl (r0_EqInts (by exact vta) (by exact vta)) rfl ?_); intro _ _) | (refine JO.eff rfl rfl rfl (JEff.callV rfl (p14_Best _ (by exact vta) (by exact vta) (by first | assumption | omega) (by first | assumption | (unfold Rng; omega))) rfl ?_); intro _ _) | (refine JO.eff rfl rfl rfl (JEff.callV rfl (p14_Left _ (by exact vta) (by exact vta)) rfl ?_); intro _ _) | (refine JO.eff rfl rfl rfl (JEff.callL rfl (p14_Rank _ (by exact vta) (by exact vta) (by first | assumption | omega) (by first | assumption | (unfold Rng; omega))) rfl ?_); intro _ _ _ _ _ _) | (refine JO.eff rfl rfl rfl (JEff.callV rfl (q14_works) rfl ?_); intro _ _) | (refine JO.eff rfl rfl rfl (JEff.callL rfl (p14_Order (by exact vta) (by exact vta) (by first | assumption | omega)) rfl ?_); intro _ _ _ _ _ _) | (refine JO.eff rfl rfl rfl (JEff.callR rfl (q14_chapter) rfl ?_); intro _ _ _ _) | (refine WNew ?_; intros) | (refine WPut ?_; intros))
  (refine JO.eff rfl rfl rfl (JEff.buildS (bt := 8) (rep := rI64) (ys := [(0 : Int), 0, 1, -1]) rfl rfl (⟨⟨V_num, nna⟩, ⟨V_num, nna⟩, ⟨V_num, nna⟩, ⟨V_num, nna⟩, trivial⟩) rfl rfl rfl (by decide) rfl ?_); intro S5 a5 hl5 hV5)
  repeat (refine s9_L14t ?_; intros)
  (refine JO.eff rfl rfl rfl (JEff.buildS (bt := 8) (rep := rI64) (ys := [(3 : Int), 3, -1, 9, 0]) rfl rfl (⟨⟨V_num, nna⟩, ⟨V_num, nna⟩, ⟨V_num, nna⟩, ⟨V_num, nna⟩, ⟨V_num, nna⟩, trivial⟩) rfl rfl rfl (by decide) rfl ?_); intro S6 a6 hl6 hV6)
  refine JO.eff rfl rfl rfl (JEff.callR rfl (p14_Pack (s := chap14 20) (p := [0, 0, 1, -1]) (pods := [3, 3, -1, 9, 0]) (by exact vta) (by exact vta) (by exact vta) (by decide)) rfl ?_); intro w S7 hl7 hw
  rw [g14_3] at hw
  obtain ⟨qa, qc, wa, wc, rfl, hVq, hVw, hq | ⟨qb, qt, E, rfl, hq6, hq7, hqc⟩⟩ := hw
  · cases hq
  dsimp only at hVq hVw hq7 hqc ⊢
  refine WOps ?_; intros
  refine JX.then_ ?_
  have hsp := ne_none hp3 ((show SHeap.le S2 S3 by exact lea) _ _ hS2)
  have hqp := ne_none hq6 ((show SHeap.le S4 S6 by exact lea) _ _ hS4)
  refine JC.thaw hp0 hpb ((show SHeap.le S4 S7 by exact lea) _ _ hS4) ?_
  have dS := (SHeap.del_other hsp).trans ((show SHeap.le S2 S7 by exact lea) _ _ hS2)
  have dQ := (SHeap.del_other hqp.symm).trans hq7
  have dl := SHeap.le_del (show SHeap.le S3 S7 by exact lea) hp3
  clear hsnapA
  generalize S7.del pb = T1 at dl dS dQ ⊢
  have hprB := raw14 dS
  repeat (refine s9_L14t ?_; intros)
  refine JO.pure rfl rfl rfl (JPure.indexR rPod rfl rfl rfl (by decide) (by decide) ?_)
  refine JO.pure rfl rfl rfl (JPure.fieldP rfl rfl ?_)
  have hsz : (flatCells (podWs 20)).length = 60 := rfl
  refine JO.eff rfl rfl rfl (JEff.storeTo (cellsR (podWs 200) tl) (rep := rArr 5) (x0 := [200, 0, 0, 0, 0]) rfl rfl (V_arr.2 ⟨rfl, rfl, by simp [Rng]⟩) nna pma (by show 52 ≤ (flatCells (podWs 20) ++ tl).length; rw [List.length_append]; omega) (by intro l hl; cases hl) rfl ?_)
  refine JO.freeze hpb (by intro l hl; cases hl) (fun T2 hlT2 hT2 => ?_)
  have hsnapB := snap14 (r := 200) (by simp [Rng]) hcap (hlT2 _ _ dS) ((hn1.mono (show SHeap.le S1 S3 by exact lea)).mono (dl.trans hlT2)) hT2
  clear hprB
  have hVp := hV3.mono (dl.trans hlT2)
  have hVq2 := blk_slice (xs := [0, 0, 1, 0]) (n := 4) (SHeap.le.refl _) (hlT2 _ _ dQ) rfl hqc (by decide) (by simp [Rng])
  repeat' (first | (refine Walk ?_; intros) | refine JC.block ?_ | (refine JO.eff rfl rfl rfl (JEff.callLL rfl (w14_Pack g14_4 (by exact vta) (by exact vta) (by exact vta) (by decide)) rfl ?_); intro _ _ _ _ _ _ _ _ _ _) | (refine JO.eff rfl rfl rfl (JEff.callLL rfl (w14_Pack g14_5 (by exact vta) (by exact vta) V_nil (by decide)) rfl ?_); intro _ _ _ _ _ _ _ _ _ _) | (refine JO.eff rfl rfl rfl (JEff.callV rfl (w14_Left g14_6 (by exact vta) (by exact vta)) rfl ?_); intro _ _) | (refine JO.eff rfl rfl rfl (JEff.callV rfl (w14_Left g14_7 (by exact vta) (by exact vta)) rfl ?_); intro _ _) | (refine JO.eff rfl rfl rfl (JEff.callV rfl (w14_Left g14_8 (by exact vta) (by exact vta)) rfl ?_); intro _ _) | (refine JO.eff rfl rfl rfl (JEff.callV rfl (w14_Left g14_9 (by exact vta) (by exact vta)) rfl ?_); intro _ _) | (refine JO.eff rfl rfl rfl (JEff.callL rfl (w14_Rank g14_10 (by decide) (by simp [Rng]) (by exact vta) (by exact vta)) rfl ?_); intro _ _ _ _ _ _) | (refine JO.eff rfl rfl rfl (JEff.callL rfl (w14_Order g14_11 (by decide) (by exact vta) V_nil) rfl ?_); intro _ _ _ _ _ _) | (refine JO.eff rfl rfl rfl (JEff.callL rfl (w14_Order g14_12 (by decide) (by exact vta) (by exact vta)) rfl ?_); intro _ _ _ _ _ _) | (refine JO.eff rfl rfl rfl (JEff.callV rfl (w_EqInts (by exact vta) (by exact vta)) rfl ?_); intro _ _) | (refine JO.eff rfl rfl rfl (JEff.buildS (bt := 8) (rep := rI64) (ys := [(3 : Int), 2]) rfl rfl ⟨⟨V_num, nna⟩, ⟨V_num, nna⟩, trivial⟩ rfl rfl rfl (by decide) rfl ?_); intro _ _ _ _) | (refine JO.eff rfl rfl rfl (JEff.buildS (bt := 8) (rep := rI64) (ys := [(0 : Int)]) rfl rfl ⟨⟨V_num, nna⟩, trivial⟩ rfl rfl rfl (by decide) rfl ?_); intro _ _ _ _) | (refine JO.eff rfl rfl rfl (JEff.buildS (bt := 8) (rep := rI64) (ys := [(1 : Int), 1, -1, -1]) rfl rfl ⟨⟨V_num, nna⟩, ⟨V_num, nna⟩, ⟨V_num, nna⟩, ⟨V_num, nna⟩, trivial⟩ rfl rfl rfl (by decide) rfl ?_); intro _ _ _ _) | (refine JO.eff rfl rfl rfl (JEff.buildS (bt := 8) (rep := rI64) (ys := [(0 : Int), 0, 1, 0]) rfl rfl ⟨⟨V_num, nna⟩, ⟨V_num, nna⟩, ⟨V_num, nna⟩, ⟨V_num, nna⟩, trivial⟩ rfl rfl rfl (by decide) rfl ?_); intro _ _ _ _) | (refine JO.eff rfl rfl rfl (JEff.buildS (bt := 8) (rep := rI64) (ys := [(0 : Int), 1, 0, -1]) rfl rfl ⟨⟨V_num, nna⟩, ⟨V_num, nna⟩, ⟨V_num, nna⟩, ⟨V_num, nna⟩, trivial⟩ rfl rfl rfl (by decide) rfl ?_); intro _ _ _ _) | (refine JO.eff rfl rfl rfl (JEff.buildS (bt := 8) (rep := rI64) (ys := [(3 : Int)]) rfl rfl ⟨⟨V_num, nna⟩, trivial⟩ rfl rfl rfl (by decide) rfl ?_); intro _ _ _ _) | (refine JO.eff rfl rfl rfl (JEff.buildS (bt := 8) (rep := rI64) (ys := [(-1 : Int), 4]) rfl rfl ⟨⟨V_num, nna⟩, ⟨V_num, nna⟩, trivial⟩ rfl rfl rfl (by decide) rfl ?_); intro _ _ _ _) | (refine JO.eff rfl rfl rfl (JEff.callV rfl (r0_EqInts (by exact vta) (by exact vta)) rfl ?_); intro _ _) | (refine JO.eff rfl rfl rfl (JEff.callV rfl (p14_Best _ (by exact vta) (by exact vta) (by first | assumption | omega) (by first | assumption | (unfold Rng; omega))) rfl ?_); intro _ _) | (refine JO.eff rfl rfl rfl (JEff.callV rfl (p14_Left _ (by exact vta) (by exact vta)) rfl ?_); intro _ _) | (refine JO.eff rfl rfl rfl (JEff.callL rfl (p14_Rank _ (by exact vta) (by exact vta) (by first | assumption | omega) (by first | assumption | (unfold Rng; omega))) rfl ?_); intro _ _ _ _ _ _) | (refine JO.eff rfl rfl rfl (JEff.callV rfl (q14_works) rfl ?_); intro _ _) | (refine JO.eff rfl rfl rfl (JEff.callL rfl (p14_Order (by exact vta) (by exact vta) (by first | assumption | omega)) rfl ?_); intro _ _ _ _ _ _) | (refine JO.eff rfl rfl rfl (JEff.callR rfl (q14_chapter) rfl ?_); intro _ _ _ _) | (refine WNew ?_; intros) | (refine WPut ?_; intros) | (refine JO.guard rfl rfl rfl rfl ?_ ?_ <;> intro _) | (refine JC.cond rfl ?_ ?_ <;> intro _))
  (refine JX.ret1 Tryz.results9 (ResV.tmp rfl) (List.nil_sublist _) ?_)
  exact ⟨rfl, rfl⟩
end Go.Dr
