/- Part 10 of the rules and of the walks that the proofs of this seat rest on; no condition. -/
import Derived.Test.YtdidkjghemcipaaGreatA08
set_option linter.unusedVariables false
set_option linter.unusedSimpArgs false
namespace Go.Dr
open Go.Proofs
set_option maxRecDepth 20000
set_option maxHeartbeats 2000000
set_option linter.unusedSimpArgs false
set_option linter.unusedVariables false
theorem s43_L09c {P K : Prop} (k : K) (h : Goal K → P := by
  intro zk
  (first | refine Walk ?_ | refine JC.block ?_ | refine JC.drawN 7 rfl [0, 1, 2, 3, 4, 5, 6, 7, 8, 9, 10] [0, 1, 2, 3, 4, 5, 6, 7, 9, 10] Tryz_mixed (by decide +kernel) ?_ | (refine JO.eff rfl rfl rfl (JEff.callV rfl (r0_Bring _ _ (by omega) (by omega) (by assumption)) rfl ?_); intro zqa zqb) | (refine WBox ?_))
  (repeat (first | revert zqg | revert zqf | revert zqe | revert zqd | revert zqc | revert zqb | revert zqa))
  exact zk.k) : P := h ⟨k⟩
theorem q9_fitted {S : SHeap} {u v : Value} {s : Snap} {l : List Int} (hu : rSnap.V S u s) (hv : (rSlice 8 rI64).V S v l) (hn : s.nodes.length ≤ 1000) (hpd : s.pods.length ≤ 1000) : FnL Tryz.prog 43 #[u, v] S 8 rI64 (fitV s l) := by
  obtain ⟨a0, c0, rfl, _, _, hlb, _⟩ := V_slice.1 hv
  unfold big at hlb
  have hlr : ∀ z ∈ l, Rng z := fun z hz => by
    obtain ⟨q, cs, h, _⟩ := slice_at hv z hz
    exact h.2
  (refine Fn.enter (args := [u, .slice a0 l.length c0]) Tryz.func43 rfl Tryz.ntmps43 rfl ?_; intro w0)
  repeat (refine s43_L09c ?_; intros)
  (first | refine JC.newRow 3 1 ?_ | refine JO.newRow 3 1 ?_ | refine JX.newRow 3 1 ?_)
  refine JC.loopF (σ := Nat × Option Addr × Nat × List Value) [(1, _), (2, _)] (fun q => [(5, .slice q.2.1 ((fun k => fitK s l k) q.1).length q.2.2.1), (6, ((fun k => .int .i64 k) q.1))]) (fun q => [.row w0.heap.size 3 (Rp.sz rI64) (.slice q.2.1 ((fun k => fitK s l k) q.1).length q.2.2.1) ((fun k => fitK s l k) q.1).length (flatCells q.2.2.2)]) (fun Sk q => q.1 ≤ s.pods.length ∧ allV rI64 Sk q.2.2.2 ((fun k => fitK s l k) q.1) ∧ ((fun k => True) q.1)) (fun q => s.pods.length - q.1) (0, none, 0, []) (by exact sba) (by exact sba) (by first | rfl | simp) (⟨Nat.zero_le _, trivial, trivial⟩) ?_; rintro Sk ⟨k, rak, rck, vsk⟩ hlk ⟨hk, hvk, hik⟩; (try dsimp only at hk hvk hik); dsimp only [List.cons_append, List.nil_append]
  have hfl := fitK_len s l k
  have hnr := fitN_rng s l k
  have hst := fitK_step s l k
  repeat (refine s43_L09c ?_; intros)
  refine JC.cond rfl (fun hc => ?_) (fun hc => ?_)
  · have hk' := dlt hc
    repeat (refine s43_L09c ?_; intros)
    refine JC.cond rfl (fun hc2 => ?_) (fun hc2 => ?_)
    · have hk2 := dlt hc2
      obtain ⟨x, hx, _⟩ := drop_at hk2
      have hxr := hlr x (List.mem_of_getElem? hx)
      have hfn : fitN s l k = bring x ((s.nodes.length : Int) + 1) - 1 := by simp [fitN, hx]
      repeat (refine s43_L09c ?_; intros)
      rw [← hfn]
      repeat (refine s43_L09c ?_; intros)
      refine JO.guard rfl rfl rfl rfl (fun g1 => ?_) (fun g1 => ?_)
      · have g1' := of_decide_eq_true g1
        obtain ⟨nd, hnd, _⟩ := drop_at (l := s.nodes) (show (fitN s l k).toNat < s.nodes.length by omega)
        have hlo : lostAt s (fitN s l k) = nd.lost := by simp [lostAt, hnd]
        repeat (refine s43_L09c ?_; intros)
        refine JC.cond rfl (fun g2 => ?_) (fun g2 => ?_)
        · have hfa : fitAt s l k = -1 := by rw [fitAt, if_pos ⟨by omega, by rw [hlo]; exact g2⟩]
          rw [hfa] at hst
          repeat (refine s43_L09c ?_; intros)
          (refine JO.eff rfl rfl rfl (JEff.build (rep := rI64) (ys := [(-1 : Int)]) rfl rfl ⟨⟨(V_i64.2 ⟨rfl, by unfold Rng; omega⟩), nna⟩, trivial⟩ rfl rfl rfl rfl ?_); intro bb hbb hvv); (repeat (first | (refine Walk ?_; intros) | refine JC.block ?_)); (refine JO.eff rfl rfl rfl (JEff.appendL (rep := rI64) rfl rfl rfl rfl (List.Perm.swap _ _ _) (by exact hvv.flat) (by intro c hc; exact flat_one (fun v hv => (hvv.size v hv).2) c hc) (by first | omega | (unfold big; omega)) (by unfold big; omega) (by first | exact rowT_ok | (intro l hl; cases hl)) rfl ?_); intro a2 c2; clear hvv hbb)
          repeat (refine s43_L09c ?_; intros)
          exact JX.roundF (k + 1, a2, c2, vsk ++ [(.int .i64 ((-1 : Int)))]) (by exact lea) ⟨by omega, by (try dsimp only); rw [hst]; exact allV_add (by exact lea) hvk (V_i64.2 ⟨rfl, by unfold Rng; omega⟩) nna, (trivial)⟩ (by (try dsimp only); omega) (by (try dsimp only); rw [hst]; (simp [flat_append] <;> omega)) (by (try dsimp only); rw [hst]; simp only [List.length_append, List.length_cons, List.length_nil]; exact sba) (by exact sba)
        · have hfa : fitAt s l k = fitN s l k := by rw [fitAt, if_neg (fun h => by rw [hlo, g2] at h; exact absurd h.2 (by simp))]
          rw [hfa] at hst
          repeat (refine s43_L09c ?_; intros)
          (refine JO.eff rfl rfl rfl (JEff.build (rep := rI64) (ys := [fitN s l k]) rfl rfl ⟨⟨(V_i64.2 ⟨rfl, by unfold Rng; omega⟩), nna⟩, trivial⟩ rfl rfl rfl rfl ?_); intro bb hbb hvv); (repeat (first | (refine Walk ?_; intros) | refine JC.block ?_)); (refine JO.eff rfl rfl rfl (JEff.appendL (rep := rI64) rfl rfl rfl rfl (List.Perm.swap _ _ _) (by exact hvv.flat) (by intro c hc; exact flat_one (fun v hv => (hvv.size v hv).2) c hc) (by first | omega | (unfold big; omega)) (by unfold big; omega) (by first | exact rowT_ok | (intro l hl; cases hl)) rfl ?_); intro a2 c2; clear hvv hbb)
          repeat (refine s43_L09c ?_; intros)
          exact JX.roundF (k + 1, a2, c2, vsk ++ [(.int .i64 (fitN s l k))]) (by exact lea) ⟨by omega, by (try dsimp only); rw [hst]; exact allV_add (by exact lea) hvk (V_i64.2 ⟨rfl, by unfold Rng; omega⟩) nna, (trivial)⟩ (by (try dsimp only); omega) (by (try dsimp only); rw [hst]; (simp [flat_append] <;> omega)) (by (try dsimp only); rw [hst]; simp only [List.length_append, List.length_cons, List.length_nil]; exact sba) (by exact sba)
      · have g1' := of_decide_eq_false g1
        have hfa : fitAt s l k = fitN s l k := by rw [fitAt, if_neg (fun h => absurd h.1 (by omega))]
        rw [hfa] at hst
        repeat (refine s43_L09c ?_; intros)
        (refine JO.eff rfl rfl rfl (JEff.build (rep := rI64) (ys := [fitN s l k]) rfl rfl ⟨⟨(V_i64.2 ⟨rfl, by unfold Rng; omega⟩), nna⟩, trivial⟩ rfl rfl rfl rfl ?_); intro bb hbb hvv); (repeat (first | (refine Walk ?_; intros) | refine JC.block ?_)); (refine JO.eff rfl rfl rfl (JEff.appendL (rep := rI64) rfl rfl rfl rfl (List.Perm.swap _ _ _) (by exact hvv.flat) (by intro c hc; exact flat_one (fun v hv => (hvv.size v hv).2) c hc) (by first | omega | (unfold big; omega)) (by unfold big; omega) (by first | exact rowT_ok | (intro l hl; cases hl)) rfl ?_); intro a2 c2; clear hvv hbb)
        repeat (refine s43_L09c ?_; intros)
        exact JX.roundF (k + 1, a2, c2, vsk ++ [(.int .i64 (fitN s l k))]) (by exact lea) ⟨by omega, by (try dsimp only); rw [hst]; exact allV_add (by exact lea) hvk (V_i64.2 ⟨rfl, by unfold Rng; omega⟩) nna, (trivial)⟩ (by (try dsimp only); omega) (by (try dsimp only); rw [hst]; (simp [flat_append] <;> omega)) (by (try dsimp only); rw [hst]; simp only [List.length_append, List.length_cons, List.length_nil]; exact sba) (by exact sba)
    · have hk2 := dnlt hc2
      have hfn : fitN s l k = -1 := by unfold fitN; rw [List.getElem?_eq_none (by omega)]
      have hfa : fitAt s l k = -1 := by rw [fitAt, hfn, if_neg (fun h => absurd h.1 (by omega))]
      rw [hfa] at hst
      repeat (refine s43_L09c ?_; intros)
      (refine JO.eff rfl rfl rfl (JEff.build (rep := rI64) (ys := [(-1 : Int)]) rfl rfl ⟨⟨(V_i64.2 ⟨rfl, by unfold Rng; omega⟩), nna⟩, trivial⟩ rfl rfl rfl rfl ?_); intro bb hbb hvv); (repeat (first | (refine Walk ?_; intros) | refine JC.block ?_)); (refine JO.eff rfl rfl rfl (JEff.appendL (rep := rI64) rfl rfl rfl rfl (List.Perm.swap _ _ _) (by exact hvv.flat) (by intro c hc; exact flat_one (fun v hv => (hvv.size v hv).2) c hc) (by first | omega | (unfold big; omega)) (by unfold big; omega) (by first | exact rowT_ok | (intro l hl; cases hl)) rfl ?_); intro a2 c2; clear hvv hbb)
      repeat (refine s43_L09c ?_; intros)
      exact JX.roundF (k + 1, a2, c2, vsk ++ [(.int .i64 ((-1 : Int)))]) (by exact lea) ⟨by omega, by (try dsimp only); rw [hst]; exact allV_add (by exact lea) hvk (V_i64.2 ⟨rfl, by unfold Rng; omega⟩) nna, (trivial)⟩ (by (try dsimp only); omega) (by (try dsimp only); rw [hst]; (simp [flat_append] <;> omega)) (by (try dsimp only); rw [hst]; simp only [List.length_append, List.length_cons, List.length_nil]; exact sba) (by exact sba)
  · have hk' := dnlt hc
    obtain rfl : k = s.pods.length := by omega
    repeat (refine s43_L09c ?_; intros)
    refine JX.freezeRow (rep := rI64) (bt := 8) hvk rfl (by unfold big; omega) (by unfold big; omega) (fun S9 hl9 hV9 => ?_)
    (refine JX.ret1 Tryz.results43 (ResV.tmp rfl) (List.nil_sublist _) ?_)
    exact ⟨rfl, hV9⟩
theorem s11_L09c {P K : Prop} (k : K) (h : Goal K → P := by
  intro zk
  (first | refine Walk ?_ | refine JC.block ?_ | refine JC.drawN 4 rfl [0, 1, 3, 4, 2, 5, 6, 7] [0, 1, 6, 7] Tryz_mixed (by decide +kernel) ?_ | (refine JO.eff rfl rfl rfl (JEff.callL rfl (p8_Broken (by exact vta) (by exact vta)) rfl ?_); intro zqa zqb zqc zqd zqe zqf) | (refine JO.eff rfl rfl rfl (JEff.callV rfl (p7_Check (by exact vta) (by exact vta)) rfl ?_); intro zqa zqb) | (refine JO.eff rfl rfl rfl (JEff.callR rfl (q9_cut (by exact vta)) rfl ?_); intro zqa zqb zqc zqd) | (refine JO.eff rfl rfl rfl (JEff.callV rfl (p9_Safe (by exact vta) (by exact vta)) rfl ?_); intro zqa zqb) | (refine JO.eff rfl rfl rfl (JEff.callLE rfl (p9_Worse (by exact vta) (by exact vta) (by exact vta)) rfl ?_); intro zqa zqb zqc zqd zqe zqf) | (refine JO.eff rfl rfl rfl (JEff.callV rfl (p9_Sum (by exact vta) (by exact vta)) rfl ?_); intro zqa zqb) | (refine JO.eff rfl rfl rfl (JEff.callV rfl (q9_works) rfl ?_); intro zqa zqb) | (refine JO.eff rfl rfl rfl (JEff.callL rfl (q9_fitted (by exact vta) (by exact vta) (by first | assumption | omega) (by first | assumption | omega)) rfl ?_); intro zqa zqb zqc zqd zqe zqf))
  (repeat (first | revert zqg | revert zqf | revert zqe | revert zqd | revert zqc | revert zqb | revert zqa))
  exact zk.k) : P := h ⟨k⟩
theorem a9_SafeKeeps {S : SHeap} {u v v2 : Value} {s : Snap} {l m : List Int} (hu : rSnap.V S u s) (hv : (rSlice 8 rI64).V S v l) (hv2 : (rSlice 8 rI64).V S v2 m) : FnV Tryz.prog 11 #[u, v, v2] S (.bool true) := by
  obtain ⟨cs, rfl, hcs⟩ := V_agg rfl hu
  (refine Fn.enter (args := [.agg cs.toArray, v, v2]) Tryz.func11 rfl Tryz.ntmps11 rfl ?_; intro w0)
  repeat (refine s11_L09c ?_; intros)
  refine JO.eff rfl rfl rfl (JEff.box rfl rfl ?_); intro bb hbb
  repeat (refine s11_L09c ?_; intros)
  refine JO.pure rfl rfl rfl (JPure.loadM (rep := rSnap) (x0 := s) (mid := cs) rfl (by (first | exact List.mem_cons_self | exact List.mem_cons_of_mem _ List.mem_cons_self | exact List.mem_cons_of_mem _ (List.mem_cons_of_mem _ List.mem_cons_self))) (by show cs.take 3 = cs; exact List.take_of_length_le (by rw [rSnap.len hcs]; exact Nat.le_refl _)) (rSnap.mono (by exact lea) hcs) (.inl rfl) rfl ?_)
  refine JO.eff rfl rfl rfl (JEff.callR rfl (q9_cut (Rp.val_V (rSnap.mono (by exact lea) hcs))) rfl ?_); intro cw S1 hl1 hcw
  repeat (refine s11_L09c ?_; intros)
  refine JO.eff rfl rfl rfl (JEff.storeW rfl rfl hcw nna (List.Perm.refl _) (by show 3 = cs.length; exact (rSnap.len hcs).symm) (by intro l hl; cases hl) ?_)
  refine JO.freezeV hcw nna hbb (by intro l hl; cases hl) ?_; intro S2 hl2 hpb
  have hn : (cutS s).nodes.length ≤ 1000 := by simp only [cutS, List.length_take]; omega
  have hpd : (cutS s).pods.length ≤ 1000 := by simp only [cutS, List.length_take]; omega
  generalize cutS s = s' at *
  have hP := fit_check s' l
  have hQ := fit_check s' m
  by_cases hc : checkS s' = 0
  · rw [hc] at hP hQ
    obtain ⟨a, ha⟩ : ∃ a, safeB s' (fitV s' l) = a := ⟨_, rfl⟩
    obtain ⟨n, hn0⟩ : ∃ n, sumV s' (fitV s' m) = n := ⟨_, rfl⟩
    have hS1 : (safeB s' (fitV s' l), checkP s' (fitV s' l)) = (a, 0) := by rw [ha, hP]
    have hS2 : (safeB s' (fitV s' m), checkP s' (fitV s' m)) = (decide (n = 0), 0) := by simp [safeB, hQ, hn0]
    have hN : (sumV s' (fitV s' m), checkP s' (fitV s' m)) = (n, 0) := by rw [hn0, hQ]
    have hW := worse_ok hP hQ
    have hB := broken_zero s' (fitV s' m)
    have hstay := safe_stays (s := s') (p := fitV s' l) (q := fitV s' m)
    have hsafe : a = true → sumV s' (fitV s' l) = 0 := by rw [← ha]; simp [safeB]
    rw [hn0] at hB hstay
    generalize (allL s' (fitV s' m)).filter (worseF (allL s' (fitV s' l))) = W at *
    repeat (first | (refine Walk ?_; intros) | refine JC.block ?_ | refine JC.drawN 4 rfl [0, 1, 3, 4, 2, 5, 6, 7] [0, 1, 6, 7] Tryz_mixed (by decide +kernel) ?_ | (refine JO.eff rfl rfl rfl (JEff.callV rfl (w9_Safe hS1 (by exact vta) (by exact vta)) rfl ?_); intro _ _) | (refine JO.eff rfl rfl rfl (JEff.callV rfl (w9_Safe hS2 (by exact vta) (by exact vta)) rfl ?_); intro _ _) | (refine JO.eff rfl rfl rfl (JEff.callV rfl (w9_Sum hN (by exact vta) (by exact vta)) rfl ?_); intro _ _) | (refine JO.eff rfl rfl rfl (JEff.callLE rfl (w9_Worse hW (by exact vta) (by exact vta) (by exact vta)) rfl ?_); intro _ _ _ _ _ _) | (refine JO.eff rfl rfl rfl (JEff.callL rfl (p8_Broken (by exact vta) (by exact vta)) rfl ?_); intro _ _ _ _ _ _) | (refine JO.eff rfl rfl rfl (JEff.callV rfl (p7_Check (by exact vta) (by exact vta)) rfl ?_); intro _ _) | (refine JO.eff rfl rfl rfl (JEff.callR rfl (q9_cut (by exact vta)) rfl ?_); intro _ _ _ _) | (refine JO.eff rfl rfl rfl (JEff.callV rfl (p9_Safe (by exact vta) (by exact vta)) rfl ?_); intro _ _) | (refine JO.eff rfl rfl rfl (JEff.callLE rfl (p9_Worse (by exact vta) (by exact vta) (by exact vta)) rfl ?_); intro _ _ _ _ _ _) | (refine JO.eff rfl rfl rfl (JEff.callV rfl (p9_Sum (by exact vta) (by exact vta)) rfl ?_); intro _ _) | (refine JO.eff rfl rfl rfl (JEff.callV rfl (q9_works) rfl ?_); intro _ _) | (refine JO.eff rfl rfl rfl (JEff.callL rfl (q9_fitted (by exact vta) (by exact vta) (by first | assumption | omega) (by first | assumption | omega)) rfl ?_); intro _ _ _ _ _ _))
    rw [beq_self_eq_true (decide (n = 0))]
    repeat (refine s11_L09c ?_; intros)
    rw [hB, beq_self_eq_true (decide (n = 0))]
    repeat (refine s11_L09c ?_; intros)
    cases a with
    | false =>
      repeat (refine s11_L09c ?_; intros)
      (refine JX.ret1 Tryz.results11 (ResV.tmp rfl) (List.nil_sublist _) ?_)
      exact ⟨rfl, rfl⟩
    | true =>
      by_cases hW2 : W = []
      · have hn2 : n = 0 := hstay (hsafe rfl) hW2
        rw [decide_eq_true hn2]
        subst hW2
        repeat (refine s11_L09c ?_; intros)
        (refine JX.ret1 Tryz.results11 (ResV.tmp rfl) (List.nil_sublist _) ?_)
        exact ⟨rfl, rfl⟩
      · have hlen := List.length_pos_iff.2 hW2
        repeat (refine s11_L09c ?_; intros)
        rw [decide_eq_true (show (0 : Int) < (W.length : Int) by omega)]
        repeat (refine s11_L09c ?_; intros)
        (refine JX.ret1 Tryz.results11 (ResV.tmp rfl) (List.nil_sublist _) ?_)
        exact ⟨rfl, rfl⟩
  · have hP' : ¬ checkP s' (fitV s' l) = 0 := by rw [hP]; exact hc
    have hS1 : (safeB s' (fitV s' l), checkP s' (fitV s' l)) = (false, checkS s') := by simp [safeB, hP, hc]
    have hW : worseV s' (fitV s' l) (fitV s' m) = ([], checkS s') := by unfold worseV; rw [if_pos hP', hP]
    repeat (first | (refine Walk ?_; intros) | refine JC.block ?_ | refine JC.drawN 4 rfl [0, 1, 3, 4, 2, 5, 6, 7] [0, 1, 6, 7] Tryz_mixed (by decide +kernel) ?_ | (refine JO.eff rfl rfl rfl (JEff.callV rfl (w9_Safe hS1 (by exact vta) (by exact vta)) rfl ?_); intro _ _) | (refine JO.eff rfl rfl rfl (JEff.callLE rfl (w9_Worse hW (by exact vta) (by exact vta) (by exact vta)) rfl ?_); intro _ _ _ _ _ _) | (refine JO.eff rfl rfl rfl (JEff.callL rfl (p8_Broken (by exact vta) (by exact vta)) rfl ?_); intro _ _ _ _ _ _) | (refine JO.eff rfl rfl rfl (JEff.callV rfl (p7_Check (by exact vta) (by exact vta)) rfl ?_); intro _ _) | (refine JO.eff rfl rfl rfl (JEff.callR rfl (q9_cut (by exact vta)) rfl ?_); intro _ _ _ _) | (refine JO.eff rfl rfl rfl (JEff.callV rfl (p9_Safe (by exact vta) (by exact vta)) rfl ?_); intro _ _) | (refine JO.eff rfl rfl rfl (JEff.callLE rfl (p9_Worse (by exact vta) (by exact vta) (by exact vta)) rfl ?_); intro _ _ _ _ _ _) | (refine JO.eff rfl rfl rfl (JEff.callV rfl (p9_Sum (by exact vta) (by exact vta)) rfl ?_); intro _ _) | (refine JO.eff rfl rfl rfl (JEff.callV rfl (q9_works) rfl ?_); intro _ _) | (refine JO.eff rfl rfl rfl (JEff.callL rfl (q9_fitted (by exact vta) (by exact vta) (by first | assumption | omega) (by first | assumption | omega)) rfl ?_); intro _ _ _ _ _ _))
    refine JC.cond rfl (fun h1 => ?_) (fun h1 => ?_)
    · repeat (refine s11_L09c ?_; intros)
      rw [decide_eq_true hP]
      repeat (refine s11_L09c ?_; intros)
      rw [decide_eq_true (rfl : checkS s' = checkS s')]
      repeat (refine s11_L09c ?_; intros)
      (refine JX.ret1 Tryz.results11 (ResV.tmp rfl) (List.nil_sublist _) ?_)
      exact ⟨rfl, rfl⟩
    · exact absurd (by simpa using h1) hc
end Go.Dr
