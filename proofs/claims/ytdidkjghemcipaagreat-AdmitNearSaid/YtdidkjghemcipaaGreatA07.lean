/- Part 8 of the rules and of the walks that the proofs of this seat rest on; no condition. -/
import Derived.Test.YtdidkjghemcipaaGreatA06
set_option linter.unusedVariables false
set_option linter.unusedSimpArgs false
namespace Go.Dr
open Go.Proofs
set_option maxRecDepth 20000
set_option maxHeartbeats 2000000
set_option linter.unusedSimpArgs false
set_option linter.unusedVariables false
theorem s52_L10c {P K : Prop} (k : K) (h : Goal K → P := by
  intro zk
  (first | refine Walk ?_ | refine JC.block ?_ | (refine JO.eff rfl rfl rfl (JEff.callV rfl (p10_May (by exact vta) (by exact vta) (by exact vta)) rfl ?_); intro zqa zqb) | (refine WBox ?_))
  (repeat (first | revert zqg | revert zqf | revert zqe | revert zqd | revert zqc | revert zqb | revert zqa))
  exact zk.k) : P := h ⟨k⟩
theorem p10_Ways {S : SHeap} {u v : Value} {s : Snap} {p : List Int} (pod : Int) (hu : rSnap.V S u s) (hv : (rSlice 8 rI64).V S v p) (hn : s.nodes.length ≤ 1000) (hpr : Rng pod) : FnL Tryz.prog 52 #[u, v, .int .i64 pod] S 8 rI64 (waysV s p pod) := by
  (refine Fn.enter (args := [u, v, .int .i64 pod]) Tryz.func52 rfl Tryz.ntmps52 rfl ?_; intro w0)
  repeat (refine s52_L10c ?_; intros)
  (first | refine JC.newRow 3 1 ?_ | refine JO.newRow 3 1 ?_ | refine JX.newRow 3 1 ?_)
  refine JC.loopF (σ := Nat × Option Addr × Nat × List Value) [(1, _), (2, _), (3, _), (10, _)] (fun q => [(6, .slice q.2.1 ((fun k => waysK s p pod k) q.1).length q.2.2.1), (11, ((fun k => .int .i64 k) q.1))]) (fun q => [.row w0.heap.size 3 (Rp.sz rI64) (.slice q.2.1 ((fun k => waysK s p pod k) q.1).length q.2.2.1) ((fun k => waysK s p pod k) q.1).length (flatCells q.2.2.2)]) (fun Sk q => q.1 ≤ s.nodes.length ∧ allV rI64 Sk q.2.2.2 ((fun k => waysK s p pod k) q.1) ∧ ((fun k => True) q.1)) (fun q => s.nodes.length - q.1) (0, none, 0, []) (by exact sba) (by exact sba) (by first | rfl | simp) (⟨Nat.zero_le _, trivial, trivial⟩) ?_; rintro Sk ⟨k, rak, rck, vsk⟩ hlk ⟨hk, hvk, hik⟩; (try dsimp only at hk hvk hik); dsimp only [List.cons_append, List.nil_append]
  have hfl := waysK_len s p pod k
  repeat (refine s52_L10c ?_; intros)
  refine JC.cond rfl (fun hc => ?_) (fun hc => ?_)
  · have hk' := dlt hc
    have hst := waysK_step s p pod k
    have hxv : rStep.V Sk (.agg (flatCells [.int .i64 2, .int .i64 pod, .int .i64 k]).toArray) ⟨2, pod, k⟩ := V_step.2 ⟨by simp [flatCells, Value.cells], by simp [Rng], hpr, by unfold Rng; dsimp only; omega⟩
    repeat (refine s52_L10c ?_; intros)
    refine JC.cond rfl (fun hf => ?_) (fun hf => ?_)
    · rw [hf, if_pos rfl] at hst
      repeat (refine s52_L10c ?_; intros)
      (refine JO.eff rfl rfl rfl (JEff.build (rep := rI64) (ys := [(k : Int)]) rfl rfl ⟨⟨(V_i64.2 ⟨rfl, by unfold Rng; omega⟩), nna⟩, trivial⟩ rfl rfl rfl rfl ?_); intro bb hbb hvv); (repeat (first | (refine Walk ?_; intros) | refine JC.block ?_)); (refine JO.eff rfl rfl rfl (JEff.appendL (rep := rI64) rfl rfl rfl rfl (List.Perm.swap _ _ _) (by exact hvv.flat) (by intro c hc; exact flat_one (fun v hv => (hvv.size v hv).2) c hc) (by first | omega | (unfold big; omega)) (by unfold big; omega) (by first | exact rowT_ok | (intro l hl; cases hl)) rfl ?_); intro a2 c2; clear hvv hbb)
      repeat (refine s52_L10c ?_; intros)
      exact JX.roundF (k + 1, a2, c2, vsk ++ [(.int .i64 k)]) (by exact lea) ⟨by omega, by (try dsimp only); rw [hst]; exact allV_add (by exact lea) hvk (V_i64.2 ⟨rfl, by unfold Rng; omega⟩) nna, (trivial)⟩ (by (try dsimp only); omega) (by (try dsimp only); rw [hst]; (simp [flat_append] <;> omega)) (by (try dsimp only); rw [hst]; simp only [List.length_append, List.length_cons, List.length_nil]; exact sba) (by exact sba)
    · rw [hf, if_neg (by simp), List.append_nil] at hst
      repeat (refine s52_L10c ?_; intros)
      exact JX.roundF (k + 1, rak, rck, vsk) (by exact lea) ⟨by omega, by (try dsimp only); rw [hst]; exact hvk.mono (by exact lea), (trivial)⟩ (by (try dsimp only); omega) (by (try dsimp only); rw [hst]) (by (try dsimp only); rw [hst]; exact sba) (by exact sba)
  · have hk' := dnlt hc
    obtain rfl : k = s.nodes.length := by omega
    repeat (refine s52_L10c ?_; intros)
    refine JX.freezeRow (rep := rI64) (bt := 8) hvk rfl (by unfold big; omega) (by unfold big; omega) (fun S9 hl9 hV9 => ?_)
    (refine JX.ret1 Tryz.results52 (ResV.tmp rfl) (List.nil_sublist _) ?_)
    exact ⟨rfl, hV9⟩
def OwnNow (E : TypeId) (S0 : SHeap) (n0 : Nat) (S : SHeap) (a : Option Addr) (c : Nat) (Q : List Int) : Prop :=
  Q = [] ∨ ∃ b tl, a = some ⟨b, 0, none⟩ ∧ Q.length ≤ c ∧ S0 b = none ∧ n0 ≤ b ∧ S b = some (.cells (intsT Q tl) E (0, 0))
def RunAns (E : TypeId) (xs : List Int) (n e : Int) (w : Value) (S' : SHeap) (M' : List MEnt) : Prop :=
  ∃ a c, w = .tuple #[.slice a xs.length c, .int .i64 n, .int .i64 e] ∧ (xs.length ≤ c ∧ xs.length * 8 ≤ big ∧ ∀ z ∈ xs, Rng z) ∧ ((xs = [] ∧ M' = []) ∨ ∃ b tl, a = some ⟨b, 0, none⟩ ∧ M' = [.blk b (.cells (intsT xs tl) E (0, 0))])
theorem cap_of {S : SHeap} {a : Option Addr} {n c : Nat} {xs : List Int} (h : (rSlice 8 rI64).V S (.slice a n c) xs) : n = xs.length ∧ xs.length ≤ c ∧ xs.length * 8 ≤ big ∧ ∀ z ∈ xs, Rng z := by
  have hr : ∀ z ∈ xs, Rng z := fun z hz => by
    obtain ⟨q, cs, h, _⟩ := slice_at h z hz
    exact h.2
  obtain ⟨a', c', h1, h2, h3, _⟩ := V_slice.1 h
  cases h1
  exact ⟨rfl, h2, h3, hr⟩
theorem s50_L10c {P K : Prop} (k : K) (h : Goal K → P := by
  intro zk
  (first | refine Walk ?_ | refine JC.block ?_ | (refine JO.eff rfl rfl rfl (JEff.callV rfl (p7_Check (by exact vta) (by exact vta)) rfl ?_); intro zqa zqb) | (refine JO.eff rfl rfl rfl (JEff.callRow rfl (p_Clone_int (by exact vta)) rfl ?_); intro zqa zqb zqc zqd zqe zqf) | (refine WBox ?_) | (refine WNew ?_) | (refine WPut ?_))
  (repeat (first | revert zqg | revert zqf | revert zqe | revert zqd | revert zqc | revert zqb | revert zqa))
  exact zk.k) : P := h ⟨k⟩
theorem p10_Run {S : SHeap} {u v lv : Value} {s : Snap} {p : List Int} {l : List Step} (hu : rSnap.V S u s) (hv : (rSlice 8 rI64).V S v p) (hl : (rSlice 24 rStep).V S lv l) :
    Fn Tryz.prog 50 #[u, v, lv] S [] (RunAns 3 (runV s p l).1 (runV s p l).2.1 (runV s p l).2.2) := by
  have hv0 := hv
  obtain ⟨a, c, rfl, _, hb8, hb, hpr⟩ := V_slice.1 hv
  obtain ⟨a1, c1, rfl, _, _, hb1, _⟩ := V_slice.1 hl
  unfold big at hb8 hb hb1
  (refine Fn.enter (args := [u, .slice a p.length c, .slice a1 l.length c1]) Tryz.func50 rfl Tryz.ntmps50 rfl ?_; intro w0)
  repeat (refine s50_L10c ?_; intros)
  refine JC.cond rfl (fun he => ?_) (fun he => ?_)
  · have he : ¬ checkP s p = 0 := by simpa using he
    repeat (refine s50_L10c ?_; intros)
    refine JX.ret3 Tryz.results50 (ResV.tmp rfl) (ResV.tmp rfl) (ResV.tmp rfl) (List.nil_sublist _) ?_
    rw [runV, if_pos he]
    exact ⟨_, _, rfl, ⟨Nat.le_refl _, by simp, by simp⟩, .inl ⟨rfl, rfl⟩⟩
  have he : ¬ ¬ checkP s p = 0 := by simpa using he
  rw [runV, if_neg he]
  have hok : checkP s p = 0 := Classical.not_not.1 he
  obtain ⟨_, _, _, _, _, _, hqr⟩ := placed_hyps hok
  repeat (refine s50_L10c ?_; intros)
  rename_i a2 c2 S3 us hl3 hus
  by_cases hp0 : p = []
  · refine JC.freezeRow (rep := rI64) (bt := 8) (xs := p) hus rfl (by unfold big; omega) (by unfold big; omega) (fun S9 hl9 hV9 => ?_)
    have hOwn : OwnNow 3 S w0.heap.size S9 a2 c2 p := .inl hp0
    repeat (refine s50_L10c ?_; intros)
    refine JC.loopF0 (σ := Nat × Option Addr × Nat × List Int) [(2, _), (3, _), (23, _), (24, _)] (fun q => [(6, .slice q.2.1 q.2.2.2.length q.2.2.1), (25, .int .i64 q.1)]) (fun Si q => q.1 ≤ l.length ∧ (rSlice 8 rI64).V Si (.slice q.2.1 q.2.2.2.length q.2.2.1) q.2.2.2 ∧ OwnNow 3 S w0.heap.size Si q.2.1 q.2.2.1 q.2.2.2 ∧ runGo s q.2.2.2 q.1 (l.drop q.1) = runGo s p 0 l) (fun q => l.length - q.1) ((0, a2, c2, p)) (by exact sba) (by exact sba) (⟨Nat.zero_le _, hV9, hOwn, rfl⟩) ?_; rintro Si ⟨i, ra, rc, Q⟩ hli hii; (try dsimp only at hii); dsimp only [List.cons_append, List.nil_append]
    obtain ⟨hi, hV, hO, hgo⟩ := hii
    try dsimp only at hi hV hO hgo
    repeat (refine s50_L10c ?_; intros)
    refine JC.cond rfl (fun hc => ?_) (fun hc => ?_)
    · have hi' := dlt hc
      obtain ⟨x, hx, hd⟩ := drop_at hi'
      rw [hd, runGo] at hgo
      repeat (refine s50_L10c ?_; intros)
      refine JO.eff rfl rfl rfl (JEff.callM (Mc := []) rfl (List.Perm.refl _) (mayAll rfl) (p10_Step (s := s) (p := Q) (x := x) (by exact vta) (by exact vta) (by exact vta)) rfl ?_); intro w S2 M2 hl2 hw
      rcases hw with ⟨cc, e, he2, hcr, hst, rfl, rfl⟩ | ⟨q, b, tl, cap, hst, hqr2, hql, rfl, hqc, rfl⟩
      · dsimp only [List.nil_append]
        have hVc := V_clV (S := S2) hcr
        rw [hst, if_pos he2] at hgo
        repeat (refine s50_L10c ?_; intros)
        refine JC.cond rfl (fun hf => ?_) (fun hf => ?_)
        · repeat (refine s50_L10c ?_; intros)
          refine JX.ret3 Tryz.results50 (ResV.tmp rfl) (ResV.tmp rfl) (ResV.tmp rfl) (List.nil_sublist _) ?_
          rw [← hgo]
          exact ⟨_, _, rfl, ⟨Nat.le_refl _, by simp, by simp⟩, .inl ⟨rfl, rfl⟩⟩
        · exact absurd (by simpa using hf) he2
      · dsimp only [List.cons_append, List.nil_append]
        rw [hst, if_neg (by simp)] at hgo
        have hVc := V_clV (S := S2) noC_rng
        refine JO.blkNew rfl (fun hb0 hbb => ?_)
        refine JO.freeze hbb (by intro l hl; cases hl) (fun S4 hl4 hS4 => ?_)
        obtain ⟨_, _, _, _, hQ8, _⟩ := V_slice.1 hV
        have hVq := blk_slice (SHeap.le.refl S4) hS4 rfl hqc (by rw [hql]; exact hQ8) hqr2
        repeat (refine s50_L10c ?_; intros)
        exact JX.roundF ((i + 1, some ⟨b, 0, none⟩, cap, q)) (by exact lea) (⟨by omega, hVq.mono (by exact lea), .inr ⟨b, tl, rfl, hqc, hb0, hbb, (by exact lea : SHeap.le S4 _) _ _ hS4⟩, by rw [← hgo]; rfl⟩) (by (try dsimp only); omega) rfl (by exact sba) (by exact sba)
    · have hi' := dnlt hc
      rw [List.drop_eq_nil_of_le hi', runGo] at hgo
      obtain rfl : i = l.length := by omega
      repeat (refine s50_L10c ?_; intros)
      rw [← hgo]
      rcases hO with h | ⟨b, tl, rfl, hqc, hb0, hbb, hSb⟩
      · refine JX.ret3 Tryz.results50 (ResV.tmp rfl) (ResV.tmp rfl) (ResV.tmp rfl) (List.Sublist.refl _) ?_
        exact ⟨_, _, rfl, (cap_of hV).2, .inl ⟨h, rfl⟩⟩
      · refine JX.thaw hb0 hbb hSb ?_
        refine JX.ret3 Tryz.results50 (ResV.tmp rfl) (ResV.tmp rfl) (ResV.tmp rfl) (List.Sublist.refl _) ?_
        exact ⟨_, _, rfl, (cap_of hV).2, .inr ⟨b, tl, rfl, rfl⟩⟩
  · have hp1 : 0 < p.length := List.length_pos_iff.2 hp0
    rw [flat_int hus]
    refine JC.rowBlk hp1 (fun b tl hab hbb hnc => ?_)
    subst hab
    refine JC.blkNew rfl (fun hb0 hbb => ?_)
    refine JC.freeze hbb (fun S9 hl9 hS9 => ?_)
    have hV9 := blk_slice (SHeap.le.refl S9) hS9 rfl hnc (by unfold big; omega) hqr
    generalize ha2 : (some (⟨b, 0, none⟩ : Addr)) = a2 at *
    have hOwn : OwnNow 3 S w0.heap.size S9 a2 c2 p := .inr ⟨b, tl, ha2.symm, hnc, hb0, hbb, hS9⟩
    repeat (refine s50_L10c ?_; intros)
    refine JC.loopF0 (σ := Nat × Option Addr × Nat × List Int) [(2, _), (3, _), (23, _), (24, _)] (fun q => [(6, .slice q.2.1 q.2.2.2.length q.2.2.1), (25, .int .i64 q.1)]) (fun Si q => q.1 ≤ l.length ∧ (rSlice 8 rI64).V Si (.slice q.2.1 q.2.2.2.length q.2.2.1) q.2.2.2 ∧ OwnNow 3 S w0.heap.size Si q.2.1 q.2.2.1 q.2.2.2 ∧ runGo s q.2.2.2 q.1 (l.drop q.1) = runGo s p 0 l) (fun q => l.length - q.1) ((0, a2, c2, p)) (by exact sba) (by exact sba) (⟨Nat.zero_le _, hV9, hOwn, rfl⟩) ?_; rintro Si ⟨i, ra, rc, Q⟩ hli hii; (try dsimp only at hii); dsimp only [List.cons_append, List.nil_append]
    obtain ⟨hi, hV, hO, hgo⟩ := hii
    try dsimp only at hi hV hO hgo
    repeat (refine s50_L10c ?_; intros)
    refine JC.cond rfl (fun hc => ?_) (fun hc => ?_)
    · have hi' := dlt hc
      obtain ⟨x, hx, hd⟩ := drop_at hi'
      rw [hd, runGo] at hgo
      repeat (refine s50_L10c ?_; intros)
      refine JO.eff rfl rfl rfl (JEff.callM (Mc := []) rfl (List.Perm.refl _) (mayAll rfl) (p10_Step (s := s) (p := Q) (x := x) (by exact vta) (by exact vta) (by exact vta)) rfl ?_); intro w S2 M2 hl2 hw
      rcases hw with ⟨cc, e, he2, hcr, hst, rfl, rfl⟩ | ⟨q, b, tl, cap, hst, hqr2, hql, rfl, hqc, rfl⟩
      · dsimp only [List.nil_append]
        have hVc := V_clV (S := S2) hcr
        rw [hst, if_pos he2] at hgo
        repeat (refine s50_L10c ?_; intros)
        refine JC.cond rfl (fun hf => ?_) (fun hf => ?_)
        · repeat (refine s50_L10c ?_; intros)
          refine JX.ret3 Tryz.results50 (ResV.tmp rfl) (ResV.tmp rfl) (ResV.tmp rfl) (List.nil_sublist _) ?_
          rw [← hgo]
          exact ⟨_, _, rfl, ⟨Nat.le_refl _, by simp, by simp⟩, .inl ⟨rfl, rfl⟩⟩
        · exact absurd (by simpa using hf) he2
      · dsimp only [List.cons_append, List.nil_append]
        rw [hst, if_neg (by simp)] at hgo
        have hVc := V_clV (S := S2) noC_rng
        refine JO.blkNew rfl (fun hb0 hbb => ?_)
        refine JO.freeze hbb (by intro l hl; cases hl) (fun S4 hl4 hS4 => ?_)
        obtain ⟨_, _, _, _, hQ8, _⟩ := V_slice.1 hV
        have hVq := blk_slice (SHeap.le.refl S4) hS4 rfl hqc (by rw [hql]; exact hQ8) hqr2
        repeat (refine s50_L10c ?_; intros)
        exact JX.roundF ((i + 1, some ⟨b, 0, none⟩, cap, q)) (by exact lea) (⟨by omega, hVq.mono (by exact lea), .inr ⟨b, tl, rfl, hqc, hb0, hbb, (by exact lea : SHeap.le S4 _) _ _ hS4⟩, by rw [← hgo]; rfl⟩) (by (try dsimp only); omega) rfl (by exact sba) (by exact sba)
    · have hi' := dnlt hc
      rw [List.drop_eq_nil_of_le hi', runGo] at hgo
      obtain rfl : i = l.length := by omega
      repeat (refine s50_L10c ?_; intros)
      rw [← hgo]
      rcases hO with h | ⟨b, tl, rfl, hqc, hb0, hbb, hSb⟩
      · refine JX.ret3 Tryz.results50 (ResV.tmp rfl) (ResV.tmp rfl) (ResV.tmp rfl) (List.Sublist.refl _) ?_
        exact ⟨_, _, rfl, (cap_of hV).2, .inl ⟨h, rfl⟩⟩
      · refine JX.thaw hb0 hbb hSb ?_
        refine JX.ret3 Tryz.results50 (ResV.tmp rfl) (ResV.tmp rfl) (ResV.tmp rfl) (List.Sublist.refl _) ?_
        exact ⟨_, _, rfl, (cap_of hV).2, .inr ⟨b, tl, rfl, rfl⟩⟩
end Go.Dr
namespace Go.Dr
open Go.Proofs
set_option maxRecDepth 20000
set_option maxHeartbeats 2000000
set_option linter.unusedSimpArgs false
set_option linter.unusedVariables false
theorem s44_L10d {P K : Prop} (k : K) (h : Goal K → P := by
  intro zk
  (first | refine Walk ?_ | refine JC.block ?_ | refine JC.drawN 1 rfl [0, 1, 2, 3, 4, 5, 6, 7, 8, 9, 10, 11, 12, 13, 14, 15, 16, 17, 18, 19, 20, 21, 22] [0, 1, 2, 3, 4, 5, 6, 7, 8, 9, 10, 11, 12, 13, 14, 15, 16, 17, 18, 19, 20, 21] Tryz_mixed (by decide +kernel) ?_ | (refine WBox ?_))
  (repeat (first | revert zqg | revert zqf | revert zqe | revert zqd | revert zqc | revert zqb | revert zqa))
  exact zk.k) : P := h ⟨k⟩
theorem q10_cut {S : SHeap} {u : Value} {s : Snap} (hu : rSnap.V S u s) : FnR Tryz.prog 44 #[u] S (fun w S' => rSnap.V S' w (cutS s)) := by
  (refine Fn.enter (args := [u]) Tryz.func44 rfl Tryz.ntmps44 rfl ?_; intro w0)
  repeat (refine s44_L10d ?_; intros)
  (refine JO.eff rfl rfl rfl (JEff.alloc rfl ?_); intro cb hcb)
  repeat (refine s44_L10d ?_; intros)
  refine JO.pure rfl rfl rfl (JPure.sliceS (xs := s.nodes) (rep := rNode) (bt := 112) rfl (by exact vta) rfl rfl rfl (by omega) (by omega) (by omega) ?_); intro a1 c1 y1 hy1 hV1 hyl1 hyb1
  repeat (refine s44_L10d ?_; intros)
  refine JO.pure rfl rfl rfl (JPure.sliceS (xs := s.pods) (rep := rPod) (bt := 240) rfl (by exact vta) rfl rfl rfl (by omega) (by omega) (by omega) ?_); intro a2 c2 y2 hy2 hV2 hyl2 hyb2
  repeat (refine s44_L10d ?_; intros)
  refine JO.pure rfl rfl rfl (JPure.sliceS (xs := s.owners) (rep := rOwner) (bt := 56) rfl (by exact vta) rfl rfl rfl (by omega) (by omega) (by omega) ?_); intro a3 c3 y3 hy3 hV3 hyl3 hyb3
  repeat (refine s44_L10d ?_; intros)
  have e1 : y1 = s.nodes.take 12 := hy1.trans (cut_len s.nodes 12)
  have e2 : y2 = s.pods.take 30 := hy2.trans (cut_len s.pods 30)
  have e3 : y3 = s.owners.take 12 := hy3.trans (cut_len s.owners 12)
  subst e1; subst e2; subst e3
  have hV := V_snap (x := cutS s) hV1 hV2 hV3
  refine JO.eff rfl rfl rfl (JEff.storeW rfl rfl hV nna (List.Perm.refl _) rfl (by intro l hl; cases hl) ?_)
  refine JO.freezeV hV nna hcb (by intro l hl; cases hl) ?_; intro S2 hl2 hpo
  repeat (refine s44_L10d ?_; intros)
  exact JX.retCell Tryz.results44 rfl hpo (List.nil_sublist _) (fun w hw => ⟨rfl, hw⟩)
def chap10 : Snap := chapM 1
theorem q10_chapter {S : SHeap} : FnR Tryz.prog 81 #[] S (fun w S' => rSnap.V S' w chap10) := by
  haveI : TyR Tryz.prog 23 rVal := ⟨(inferInstance : TyR Tryz.prog 23 (rSlice 240 rPod)).b⟩
  have hmr : Rng 1 := by simp [Rng]
  (refine Fn.enter (args := []) Tryz.func81 rfl Tryz.ntmps81 rfl ?_; intro w0)
  repeat (first | (refine Walk ?_; intros) | refine JC.block ?_)
  (refine JO.eff rfl rfl rfl (JEff.alloc rfl ?_); intro rb hrb)
  repeat (first | (refine Walk ?_; intros) | refine JC.block ?_)
  (refine JO.eff rfl rfl rfl (JEff.alloc rfl ?_); intro vb hvb)
  repeat (first | (refine Walk ?_; intros) | refine JC.block ?_)
  refine JO.eff rfl rfl rfl (JEff.storeW rfl rfl V_vec15 nna (List.Perm.refl _) rfl (by intro l hl; cases hl) ?_)
  refine JO.freezeV V_vec15 nna hvb (by intro l hl; cases hl) ?_; intro S1 hl1 hpv
  repeat (first | (refine Walk ?_; intros) | refine JC.block ?_)
  obtain ⟨rfl, _, _⟩ := V_arr.1 (by assumption : (rArr 5).V _ _ [15, 0, 0, 0, 0])
  (refine JO.eff rfl rfl rfl (JEff.buildS (bt := 32) (rep := rLabel) (ys := [(⟨zoneS, ⟨#[120]⟩⟩ : Label)]) rfl rfl (⟨⟨V_lab (by decide) (by decide), nna⟩, trivial⟩) rfl rfl rfl (by decide) rfl ?_); intro S2 a2 hl2 hV2)
  repeat (first | (refine Walk ?_; intros) | refine JC.block ?_)
  obtain ⟨rfl, _, _⟩ := V_arr.1 (by assumption : (rArr 5).V _ _ [15, 0, 0, 0, 0])
  (refine JO.eff rfl rfl rfl (JEff.buildS (bt := 32) (rep := rLabel) (ys := [(⟨zoneS, ⟨#[121]⟩⟩ : Label)]) rfl rfl (⟨⟨V_lab (by decide) (by decide), nna⟩, trivial⟩) rfl rfl rfl (by decide) rfl ?_); intro S3 a3 hl3 hV3)
  repeat (first | (refine Walk ?_; intros) | refine JC.block ?_)
  obtain ⟨rfl, _, _⟩ := V_arr.1 (by assumption : (rArr 5).V _ _ [15, 0, 0, 0, 0])
  (refine JO.eff rfl rfl rfl (JEff.buildS (bt := 112) (rep := rNode) (ys := nodes8) rfl rfl ⟨⟨V_node8 (hV2.mono hl3), nna⟩, ⟨V_node8 hV3, nna⟩, ⟨V_node8 V_nil, nna⟩, trivial⟩ rfl rfl rfl (by decide) rfl ?_); intro S4 a4 hl4 hV4)
  repeat (first | (refine Walk ?_; intros) | refine JC.block ?_)
  (refine JO.eff rfl rfl rfl (JEff.buildS (bt := 56) (rep := rOwner) (ys := [(⟨⟨#[111]⟩, 1, zoneS, 1, false⟩ : Owner)]) rfl rfl (⟨⟨V_owner8 hmr, nna⟩, trivial⟩) rfl rfl rfl (by decide) rfl ?_); intro S5 a5 hl5 hV5)
  repeat (first | (refine Walk ?_; intros) | refine JC.block ?_)
  (refine JO.eff rfl rfl rfl (JEff.alloc rfl ?_); intro sb hsb)
  repeat (first | (refine Walk ?_; intros) | refine JC.block ?_)
  refine JO.eff rfl rfl rfl (JEff.storeW rfl rfl (V_snap (x := ⟨nodes8, [], [⟨⟨#[111]⟩, 1, zoneS, 1, false⟩]⟩) (hV4.mono (by exact lea)) V_nil (hV5.mono (by exact lea))) nna (List.Perm.refl _) rfl (by intro l hl; cases hl) ?_)
  repeat (first | (refine Walk ?_; intros) | refine JC.block ?_)
  refine JC.newRow 64 (Rp.sz rPod) ?_
  refine JC.loopF (σ := Nat × Option Addr × Nat × List Value) [(0, _), (2, _)] (fun q => [(3, .int .i64 q.1)])
    (fun q => [.row w0.heap.size 64 (Rp.sz rPod) (.slice q.2.1 q.1 q.2.2.1) q.1 (flatCells q.2.2.2), .blk sb (.cells #[.slice a4 3 3, .slice q.2.1 q.1 q.2.2.1, .slice a5 1 1] 26 (0, 0)), .blk rb (.cells #[.slice none 0 0, .slice none 0 0, .slice none 0 0] 26 (0, 0))])
    (fun Sk q => q.1 ≤ 3 ∧ allV rPod Sk q.2.2.2 (pods8.take q.1)) (fun q => 3 - q.1) (0, none, 0, []) (by exact sba) (by exact sba) (by rfl) ⟨Nat.zero_le _, trivial⟩ ?_
  rintro Sk ⟨k, ra, rc, vs⟩ hlk ⟨hk, hv1⟩
  dsimp only at hk hv1
  dsimp only [List.cons_append, List.nil_append]
  repeat (first | (refine Walk ?_; intros) | refine JC.block ?_)
  refine JC.cond rfl (fun hc => ?_) (fun hc => ?_)
  · have hk' : k < 3 := by have := of_decide_eq_true hc; omega
    obtain ⟨x, hx⟩ : ∃ x, ([112, 113, 114] : List UInt8)[k]? = some x := ⟨_, List.getElem?_eq_getElem (by simpa using hk')⟩
    have hst : pods8.take (k + 1) = pods8.take k ++ [pod8 x] := by
      match k with
      | 0 => cases hx; rfl
      | 1 => cases hx; rfl
      | 2 => cases hx; rfl
      | k + 3 => omega
    have hP := fun S => V_pod8 (S := S) (pqr_at hx)
    have hvl := hv1.length
    have hpl : (pods8.take k).length = k := by rw [List.length_take]; show min k 3 = k; omega
    rw [hpl] at hvl
    repeat (first | (refine Walk ?_; intros) | refine JC.block ?_)
    refine JC.drawTreeF 6 rfl [10] [1] [0, 2, 3, 4, 5, 6, 7] (.alt (ofL [1, 8, 9, 10, 11] .nil) (ofL [8, 1, 9, 10, 11] .nil)) Tryz_mixed (by decide +kernel) ?_
    refine JO.pure rfl rfl rfl (JPure.fieldP rfl rfl ?_)
    repeat (first | (refine Walk ?_; intros) | refine JC.block ?_)
    refine JO.pure rfl rfl rfl (JPure.sliceT rfl rfl rfl rfl (by omega) (by omega) (by show (k : Int) + 1 ≤ 3; omega) ?_)
    repeat (first | (refine Walk ?_; intros) | refine JC.block ?_)
    refine JO.alt ?_ ?_
    · refine JO.eff rfl rfl rfl (JEff.loadE (rVal) (x0 := .slice ra k rc) rfl (by (first | exact List.mem_cons_self | exact List.mem_cons_of_mem _ List.mem_cons_self | exact List.mem_cons_of_mem _ (List.mem_cons_of_mem _ List.mem_cons_self))) rfl ⟨rfl, rfl⟩ inferInstance rfl ?_)
      repeat (first | (refine Walk ?_; intros) | refine JC.block ?_)
      (refine JO.eff rfl rfl rfl (JEff.build (rep := rPod) (ys := [pod8 x]) rfl rfl ⟨⟨hP _, nna⟩, trivial⟩ rfl rfl rfl rfl ?_); intro bb hbb hvv)
      repeat (first | (refine Walk ?_; intros) | refine JC.block ?_)
      (refine JO.eff rfl rfl rfl (JEff.appendL (rep := rPod) rfl rfl rfl rfl (List.Perm.swap _ _ _) (by exact hvv.flat) (by intro c hc; exact flat_one (fun v hv => (hvv.size v hv).2) c hc) (by unfold big; omega) (by unfold big; omega) (by first | exact rowT_ok | (intro l hl; cases hl)) rfl ?_); intro a2 c2; clear hvv hbb)
      repeat (first | (refine Walk ?_; intros) | refine JC.block ?_)
      refine JO.pure rfl rfl rfl (JPure.fieldP rfl rfl ?_)
      refine JO.eff rfl rfl rfl (JEff.store (rep := rVal) (x0 := .slice a2 (k + 1) c2) rfl rfl (V_val.2 ⟨rfl, rfl⟩) nna (List.Perm.swap _ _ _) (by simp [rVal]) (by intro l hl; cases hl) ?_)
      repeat (first | (refine Walk ?_; intros) | refine JC.block ?_)
      refine JX.perm (M' := [_, _, _]) (List.Perm.trans (List.Perm.swap _ _ _) (List.Perm.refl _)) ?_
      exact JX.roundF (k + 1, a2, c2, vs ++ [_]) (by exact lea) ⟨by dsimp only; omega, by (try dsimp only); rw [hst]; exact allV_add (by exact lea) hv1 (hP _) nna⟩ (by (try dsimp only); omega) (by simp [flat_append]; rfl) (by exact sba) (by exact sba)
    · (refine JO.eff rfl rfl rfl (JEff.build (rep := rPod) (ys := [pod8 x]) rfl rfl ⟨⟨hP _, nna⟩, trivial⟩ rfl rfl rfl rfl ?_); intro bb hbb hvv)
      repeat (first | (refine Walk ?_; intros) | refine JC.block ?_)
      refine JO.eff rfl rfl rfl (JEff.loadE (rVal) (x0 := .slice ra k rc) rfl (by (first | exact List.mem_cons_self | exact List.mem_cons_of_mem _ List.mem_cons_self | exact List.mem_cons_of_mem _ (List.mem_cons_of_mem _ List.mem_cons_self))) rfl ⟨rfl, rfl⟩ inferInstance rfl ?_)
      repeat (first | (refine Walk ?_; intros) | refine JC.block ?_)
      (refine JO.eff rfl rfl rfl (JEff.appendL (rep := rPod) rfl rfl rfl rfl (List.Perm.swap _ _ _) (by exact hvv.flat) (by intro c hc; exact flat_one (fun v hv => (hvv.size v hv).2) c hc) (by unfold big; omega) (by unfold big; omega) (by first | exact rowT_ok | (intro l hl; cases hl)) rfl ?_); intro a2 c2; clear hvv hbb)
      repeat (first | (refine Walk ?_; intros) | refine JC.block ?_)
      refine JO.pure rfl rfl rfl (JPure.fieldP rfl rfl ?_)
      refine JO.eff rfl rfl rfl (JEff.store (rep := rVal) (x0 := .slice a2 (k + 1) c2) rfl rfl (V_val.2 ⟨rfl, rfl⟩) nna (List.Perm.swap _ _ _) (by simp [rVal]) (by intro l hl; cases hl) ?_)
      repeat (first | (refine Walk ?_; intros) | refine JC.block ?_)
      refine JX.perm (M' := [_, _, _]) (List.Perm.trans (List.Perm.swap _ _ _) (List.Perm.refl _)) ?_
      exact JX.roundF (k + 1, a2, c2, vs ++ [_]) (by exact lea) ⟨by dsimp only; omega, by (try dsimp only); rw [hst]; exact allV_add (by exact lea) hv1 (hP _) nna⟩ (by (try dsimp only); omega) (by simp [flat_append]; rfl) (by exact sba) (by exact sba)
  · obtain rfl : k = 3 := by have := of_decide_eq_false hc; omega
    refine JC.freezeRow (rep := rPod) (bt := 240) (xs := pods8) hv1 rfl (by decide) (by decide) (fun S9 hl9 hV9 => ?_)
    refine JC.freeze hsb (fun S10 hl10 hS10 => ?_)
    have hfin : PtrTo S10 ⟨sb, 0, none⟩ rSnap (chapM 1) :=
      cells_ptr (v := .agg #[.slice a4 3 3, .slice ra 3 rc, .slice a5 1 1]) hS10 (map_R (seq1 ((hV4.mono (by exact lea)).one rfl) (seq1 ((hV9.mono (by exact lea)).one rfl) ((hV5.mono (by exact lea)).one rfl))))
    repeat (first | (refine Walk ?_; intros) | refine JC.block ?_)
    refine JO.eff rfl rfl rfl (JEff.storeW rfl rfl (by assumption : rSnap.V _ _ (chapM 1)) nna (List.Perm.refl _) rfl (by intro l hl; cases hl) ?_)
    refine JO.freezeV (by assumption : rSnap.V _ _ (chapM 1)) nna hrb (by intro l hl; cases hl) ?_; intro S11 hl11 hpo
    repeat (first | (refine Walk ?_; intros) | refine JC.block ?_)
    exact JX.retCell Tryz.results81 rfl hpo (List.nil_sublist _) (fun w hw => ⟨rfl, hw⟩)
def stV (x : Step) : Value := .agg #[.int .i64 x.kind, .int .i64 x.pod, .int .i64 x.node]
theorem V_stV {S : SHeap} {x : Step} (h : Rng x.kind ∧ Rng x.pod ∧ Rng x.node) : rStep.V S (stV x) x := V_step.2 ⟨rfl, h⟩
theorem q10_off {S : SHeap} (pod : Int) (h : Rng pod) : FnV Tryz.prog 83 #[.int .i64 pod] S (stV ⟨1, pod, 0⟩) := by
  (refine Fn.enter (args := [.int .i64 pod]) Tryz.func83 rfl Tryz.ntmps83 rfl ?_; intro w0)
  repeat (first | (refine Walk ?_; intros) | refine JC.block ?_)
  (refine JO.eff rfl rfl rfl (JEff.alloc rfl ?_); intro cb hcb)
  repeat (first | (refine Walk ?_; intros) | refine JC.block ?_)
  have hV : ∀ S, rStep.V S (.agg (flatCells [.int .i64 1, .int .i64 pod, .int .i64 0]).toArray) ⟨1, pod, 0⟩ := fun S => V_step.2 ⟨by simp [flatCells, Value.cells], by unfold Rng; dsimp only; omega, h, by unfold Rng; dsimp only; omega⟩
  refine JO.eff rfl rfl rfl (JEff.storeW rfl rfl (hV _) nna (List.Perm.refl _) rfl (by intro l hl; cases hl) ?_)
  refine JO.freezeV (hV _) nna hcb (by intro l hl; cases hl) ?_; intro S2 hl2 hpo
  repeat (first | (refine Walk ?_; intros) | refine JC.block ?_)
  exact JX.retCell Tryz.results83 rfl hpo (List.nil_sublist _) (fun w hw => ⟨rfl, by obtain ⟨rfl, _⟩ := V_step.1 hw; rfl⟩)
theorem q10_on {S : SHeap} (pod node : Int) (h : Rng pod) (h2 : Rng node) : FnV Tryz.prog 82 #[.int .i64 pod, .int .i64 node] S (stV ⟨2, pod, node⟩) := by
  (refine Fn.enter (args := [.int .i64 pod, .int .i64 node]) Tryz.func82 rfl Tryz.ntmps82 rfl ?_; intro w0)
  repeat (first | (refine Walk ?_; intros) | refine JC.block ?_)
  (refine JO.eff rfl rfl rfl (JEff.alloc rfl ?_); intro cb hcb)
  repeat (first | (refine Walk ?_; intros) | refine JC.block ?_)
  have hV : ∀ S, rStep.V S (.agg (flatCells [.int .i64 2, .int .i64 pod, .int .i64 node]).toArray) ⟨2, pod, node⟩ := fun S => V_step.2 ⟨by simp [flatCells, Value.cells], by unfold Rng; dsimp only; omega, h, h2⟩
  refine JO.eff rfl rfl rfl (JEff.storeW rfl rfl (hV _) nna (List.Perm.refl _) rfl (by intro l hl; cases hl) ?_)
  refine JO.freezeV (hV _) nna hcb (by intro l hl; cases hl) ?_; intro S2 hl2 hpo
  repeat (first | (refine Walk ?_; intros) | refine JC.block ?_)
  exact JX.retCell Tryz.results82 rfl hpo (List.nil_sublist _) (fun w hw => ⟨rfl, by obtain ⟨rfl, _⟩ := V_step.1 hw; rfl⟩)
end Go.Dr
namespace Go.Dr
open Go.Proofs
set_option maxRecDepth 20000
set_option maxHeartbeats 2000000
set_option linter.unusedSimpArgs false
set_option linter.unusedVariables false
theorem s54_L10h {P K : Prop} (k : K) (h : Goal K → P := by
  intro zk
  (first | refine Walk ?_ | refine JC.block ?_ | refine JC.drawN 7 rfl [0, 1, 2, 3, 4, 5, 6, 7, 8, 9, 10] [0, 1, 2, 3, 4, 5, 6, 7, 9, 10] Tryz_mixed (by decide +kernel) ?_ | (refine JO.eff rfl rfl rfl (JEff.callV rfl (r0_Bring _ _ (by omega) (by omega) (by assumption)) rfl ?_); intro zqa zqb) | (refine WBox ?_))
  (repeat (first | revert zqg | revert zqf | revert zqe | revert zqd | revert zqc | revert zqb | revert zqa))
  exact zk.k) : P := h ⟨k⟩
theorem q10_fitted {S : SHeap} {u v : Value} {s : Snap} {l : List Int} (hu : rSnap.V S u s) (hv : (rSlice 8 rI64).V S v l) (hn : s.nodes.length ≤ 1000) (hpd : s.pods.length ≤ 1000) : FnL Tryz.prog 54 #[u, v] S 8 rI64 (fitV s l) := by
  obtain ⟨a0, c0, rfl, _, _, hlb, _⟩ := V_slice.1 hv
  unfold big at hlb
  have hlr : ∀ z ∈ l, Rng z := fun z hz => by
    obtain ⟨q, cs, h, _⟩ := slice_at hv z hz
    exact h.2
  (refine Fn.enter (args := [u, .slice a0 l.length c0]) Tryz.func54 rfl Tryz.ntmps54 rfl ?_; intro w0)
  repeat (refine s54_L10h ?_; intros)
  (first | refine JC.newRow 3 1 ?_ | refine JO.newRow 3 1 ?_ | refine JX.newRow 3 1 ?_)
  refine JC.loopF (σ := Nat × Option Addr × Nat × List Value) [(1, _), (2, _)] (fun q => [(5, .slice q.2.1 ((fun k => fitK s l k) q.1).length q.2.2.1), (6, ((fun k => .int .i64 k) q.1))]) (fun q => [.row w0.heap.size 3 (Rp.sz rI64) (.slice q.2.1 ((fun k => fitK s l k) q.1).length q.2.2.1) ((fun k => fitK s l k) q.1).length (flatCells q.2.2.2)]) (fun Sk q => q.1 ≤ s.pods.length ∧ allV rI64 Sk q.2.2.2 ((fun k => fitK s l k) q.1) ∧ ((fun k => True) q.1)) (fun q => s.pods.length - q.1) (0, none, 0, []) (by exact sba) (by exact sba) (by first | rfl | simp) (⟨Nat.zero_le _, trivial, trivial⟩) ?_; rintro Sk ⟨k, rak, rck, vsk⟩ hlk ⟨hk, hvk, hik⟩; (try dsimp only at hk hvk hik); dsimp only [List.cons_append, List.nil_append]
  have hfl := fitK_len s l k
  have hnr := fitN_rng s l k
  have hst := fitK_step s l k
  repeat (refine s54_L10h ?_; intros)
  refine JC.cond rfl (fun hc => ?_) (fun hc => ?_)
  · have hk' := dlt hc
    repeat (refine s54_L10h ?_; intros)
    refine JC.cond rfl (fun hc2 => ?_) (fun hc2 => ?_)
    · have hk2 := dlt hc2
      obtain ⟨x, hx, _⟩ := drop_at hk2
      have hxr := hlr x (List.mem_of_getElem? hx)
      have hfn : fitN s l k = bring x ((s.nodes.length : Int) + 1) - 1 := by simp [fitN, hx]
      repeat (refine s54_L10h ?_; intros)
      rw [← hfn]
      repeat (refine s54_L10h ?_; intros)
      refine JO.guard rfl rfl rfl rfl (fun g1 => ?_) (fun g1 => ?_)
      · have g1' := of_decide_eq_true g1
        obtain ⟨nd, hnd, _⟩ := drop_at (l := s.nodes) (show (fitN s l k).toNat < s.nodes.length by omega)
        have hlo : lostAt s (fitN s l k) = nd.lost := by simp [lostAt, hnd]
        repeat (refine s54_L10h ?_; intros)
        refine JC.cond rfl (fun g2 => ?_) (fun g2 => ?_)
        · have hfa : fitAt s l k = -1 := by rw [fitAt, if_pos ⟨by omega, by rw [hlo]; exact g2⟩]
          rw [hfa] at hst
          repeat (refine s54_L10h ?_; intros)
          (refine JO.eff rfl rfl rfl (JEff.build (rep := rI64) (ys := [(-1 : Int)]) rfl rfl ⟨⟨(V_i64.2 ⟨rfl, by unfold Rng; omega⟩), nna⟩, trivial⟩ rfl rfl rfl rfl ?_); intro bb hbb hvv); (repeat (first | (refine Walk ?_; intros) | refine JC.block ?_)); (refine JO.eff rfl rfl rfl (JEff.appendL (rep := rI64) rfl rfl rfl rfl (List.Perm.swap _ _ _) (by exact hvv.flat) (by intro c hc; exact flat_one (fun v hv => (hvv.size v hv).2) c hc) (by first | omega | (unfold big; omega)) (by unfold big; omega) (by first | exact rowT_ok | (intro l hl; cases hl)) rfl ?_); intro a2 c2; clear hvv hbb)
          repeat (refine s54_L10h ?_; intros)
          exact JX.roundF (k + 1, a2, c2, vsk ++ [(.int .i64 ((-1 : Int)))]) (by exact lea) ⟨by omega, by (try dsimp only); rw [hst]; exact allV_add (by exact lea) hvk (V_i64.2 ⟨rfl, by unfold Rng; omega⟩) nna, (trivial)⟩ (by (try dsimp only); omega) (by (try dsimp only); rw [hst]; (simp [flat_append] <;> omega)) (by (try dsimp only); rw [hst]; simp only [List.length_append, List.length_cons, List.length_nil]; exact sba) (by exact sba)
        · have hfa : fitAt s l k = fitN s l k := by rw [fitAt, if_neg (fun h => by rw [hlo, g2] at h; exact absurd h.2 (by simp))]
          rw [hfa] at hst
          repeat (refine s54_L10h ?_; intros)
          (refine JO.eff rfl rfl rfl (JEff.build (rep := rI64) (ys := [fitN s l k]) rfl rfl ⟨⟨(V_i64.2 ⟨rfl, by unfold Rng; omega⟩), nna⟩, trivial⟩ rfl rfl rfl rfl ?_); intro bb hbb hvv); (repeat (first | (refine Walk ?_; intros) | refine JC.block ?_)); (refine JO.eff rfl rfl rfl (JEff.appendL (rep := rI64) rfl rfl rfl rfl (List.Perm.swap _ _ _) (by exact hvv.flat) (by intro c hc; exact flat_one (fun v hv => (hvv.size v hv).2) c hc) (by first | omega | (unfold big; omega)) (by unfold big; omega) (by first | exact rowT_ok | (intro l hl; cases hl)) rfl ?_); intro a2 c2; clear hvv hbb)
          repeat (refine s54_L10h ?_; intros)
          exact JX.roundF (k + 1, a2, c2, vsk ++ [(.int .i64 (fitN s l k))]) (by exact lea) ⟨by omega, by (try dsimp only); rw [hst]; exact allV_add (by exact lea) hvk (V_i64.2 ⟨rfl, by unfold Rng; omega⟩) nna, (trivial)⟩ (by (try dsimp only); omega) (by (try dsimp only); rw [hst]; (simp [flat_append] <;> omega)) (by (try dsimp only); rw [hst]; simp only [List.length_append, List.length_cons, List.length_nil]; exact sba) (by exact sba)
      · have g1' := of_decide_eq_false g1
        have hfa : fitAt s l k = fitN s l k := by rw [fitAt, if_neg (fun h => absurd h.1 (by omega))]
        rw [hfa] at hst
        repeat (refine s54_L10h ?_; intros)
        (refine JO.eff rfl rfl rfl (JEff.build (rep := rI64) (ys := [fitN s l k]) rfl rfl ⟨⟨(V_i64.2 ⟨rfl, by unfold Rng; omega⟩), nna⟩, trivial⟩ rfl rfl rfl rfl ?_); intro bb hbb hvv); (repeat (first | (refine Walk ?_; intros) | refine JC.block ?_)); (refine JO.eff rfl rfl rfl (JEff.appendL (rep := rI64) rfl rfl rfl rfl (List.Perm.swap _ _ _) (by exact hvv.flat) (by intro c hc; exact flat_one (fun v hv => (hvv.size v hv).2) c hc) (by first | omega | (unfold big; omega)) (by unfold big; omega) (by first | exact rowT_ok | (intro l hl; cases hl)) rfl ?_); intro a2 c2; clear hvv hbb)
        repeat (refine s54_L10h ?_; intros)
        exact JX.roundF (k + 1, a2, c2, vsk ++ [(.int .i64 (fitN s l k))]) (by exact lea) ⟨by omega, by (try dsimp only); rw [hst]; exact allV_add (by exact lea) hvk (V_i64.2 ⟨rfl, by unfold Rng; omega⟩) nna, (trivial)⟩ (by (try dsimp only); omega) (by (try dsimp only); rw [hst]; (simp [flat_append] <;> omega)) (by (try dsimp only); rw [hst]; simp only [List.length_append, List.length_cons, List.length_nil]; exact sba) (by exact sba)
    · have hk2 := dnlt hc2
      have hfn : fitN s l k = -1 := by unfold fitN; rw [List.getElem?_eq_none (by omega)]
      have hfa : fitAt s l k = -1 := by rw [fitAt, hfn, if_neg (fun h => absurd h.1 (by omega))]
      rw [hfa] at hst
      repeat (refine s54_L10h ?_; intros)
      (refine JO.eff rfl rfl rfl (JEff.build (rep := rI64) (ys := [(-1 : Int)]) rfl rfl ⟨⟨(V_i64.2 ⟨rfl, by unfold Rng; omega⟩), nna⟩, trivial⟩ rfl rfl rfl rfl ?_); intro bb hbb hvv); (repeat (first | (refine Walk ?_; intros) | refine JC.block ?_)); (refine JO.eff rfl rfl rfl (JEff.appendL (rep := rI64) rfl rfl rfl rfl (List.Perm.swap _ _ _) (by exact hvv.flat) (by intro c hc; exact flat_one (fun v hv => (hvv.size v hv).2) c hc) (by first | omega | (unfold big; omega)) (by unfold big; omega) (by first | exact rowT_ok | (intro l hl; cases hl)) rfl ?_); intro a2 c2; clear hvv hbb)
      repeat (refine s54_L10h ?_; intros)
      exact JX.roundF (k + 1, a2, c2, vsk ++ [(.int .i64 ((-1 : Int)))]) (by exact lea) ⟨by omega, by (try dsimp only); rw [hst]; exact allV_add (by exact lea) hvk (V_i64.2 ⟨rfl, by unfold Rng; omega⟩) nna, (trivial)⟩ (by (try dsimp only); omega) (by (try dsimp only); rw [hst]; (simp [flat_append] <;> omega)) (by (try dsimp only); rw [hst]; simp only [List.length_append, List.length_cons, List.length_nil]; exact sba) (by exact sba)
  · have hk' := dnlt hc
    obtain rfl : k = s.pods.length := by omega
    repeat (refine s54_L10h ?_; intros)
    refine JX.freezeRow (rep := rI64) (bt := 8) hvk rfl (by unfold big; omega) (by unfold big; omega) (fun S9 hl9 hV9 => ?_)
    (refine JX.ret1 Tryz.results54 (ResV.tmp rfl) (List.nil_sublist _) ?_)
    exact ⟨rfl, hV9⟩
def nextV (s : Snap) (p : List Int) (x : Step) : Step :=
  if 0 ≤ at0 p (bring x.pod p.length).toNat then ⟨1, bring x.pod p.length, 0⟩ else ⟨2, bring x.pod p.length, bring x.node s.nodes.length⟩
theorem s55_L10h {P K : Prop} (k : K) (h : Goal K → P := by
  intro zk
  (first | refine Walk ?_ | refine JC.block ?_ | (refine JO.eff rfl rfl rfl (JEff.callV rfl (r0_Bring _ _ (by omega) (by omega) (by assumption)) rfl ?_); intro zqa zqb) | (refine JO.eff rfl rfl rfl (JEff.callV rfl (q10_on _ _ (by unfold Rng; omega) (by unfold Rng; omega)) rfl ?_); intro zqa zqb) | (refine JO.eff rfl rfl rfl (JEff.callV rfl (q10_off _ (by unfold Rng; omega)) rfl ?_); intro zqa zqb) | (refine WBox ?_))
  (repeat (first | revert zqg | revert zqf | revert zqe | revert zqd | revert zqc | revert zqb | revert zqa))
  exact zk.k) : P := h ⟨k⟩
theorem q10_next {S : SHeap} {u v xv : Value} {s : Snap} {p : List Int} {x : Step} (hu : rSnap.V S u s) (hv : (rSlice 8 rI64).V S v p) (hx : rStep.V S xv x) (hp0 : 0 < p.length) (hp1 : p.length ≤ 1000) (hn0 : 0 < s.nodes.length) (hn1 : s.nodes.length ≤ 1000) : FnV Tryz.prog 55 #[u, v, xv] S (stV (nextV s p x)) := by
  obtain ⟨a, c, rfl, _, _, hb, hpr⟩ := V_slice.1 hv
  obtain ⟨hxr1, hxr2, hxr3⟩ := step_rng hx
  have hbp := bring_rng x.pod (show (0 : Int) < (p.length : Int) by omega)
  have hbn := bring_rng x.node (show (0 : Int) < (s.nodes.length : Int) by omega)
  obtain ⟨z, hz, _⟩ := drop_at (l := p) (show (bring x.pod p.length).toNat < p.length by omega)
  have hz0 := at0_some hz
  (refine Fn.enter (args := [u, .slice a p.length c, xv]) Tryz.func55 rfl Tryz.ntmps55 rfl ?_; intro w0)
  repeat (refine s55_L10h ?_; intros)
  (refine JO.eff rfl rfl rfl (JEff.alloc rfl ?_); intro cb hcb)
  repeat (refine s55_L10h ?_; intros)
  refine JC.cond rfl (fun h1 => ?_) (fun h1 => ?_)
  · have hnx : nextV s p x = ⟨1, bring x.pod p.length, 0⟩ := by unfold nextV; rw [hz0, if_pos (of_decide_eq_true h1)]
    rw [hnx]
    repeat (refine s55_L10h ?_; intros)
    have hV : ∀ S, rStep.V S (stV ((⟨1, bring x.pod p.length, 0⟩ : Step))) ((⟨1, bring x.pod p.length, 0⟩ : Step)) := fun S => V_stV ⟨by unfold Rng; dsimp only; omega, by unfold Rng; dsimp only; omega, by unfold Rng; dsimp only; omega⟩
    refine JO.eff rfl rfl rfl (JEff.storeW rfl rfl (hV _) nna (List.Perm.refl _) rfl (by intro l hl; cases hl) ?_)
    refine JO.freezeV (hV _) nna hcb (by intro l hl; cases hl) ?_; intro S2 hl2 hpo
    repeat (refine s55_L10h ?_; intros)
    exact JX.retCell Tryz.results55 rfl hpo (List.nil_sublist _) (fun w hw => ⟨rfl, by obtain ⟨rfl, _⟩ := V_step.1 hw; rfl⟩)
  · have hnx : nextV s p x = ⟨2, bring x.pod p.length, bring x.node s.nodes.length⟩ := by unfold nextV; rw [hz0, if_neg (of_decide_eq_false h1)]
    rw [hnx]
    repeat (refine s55_L10h ?_; intros)
    have hV : ∀ S, rStep.V S (stV ((⟨2, bring x.pod p.length, bring x.node s.nodes.length⟩ : Step))) ((⟨2, bring x.pod p.length, bring x.node s.nodes.length⟩ : Step)) := fun S => V_stV ⟨by unfold Rng; dsimp only; omega, by unfold Rng; dsimp only; omega, by unfold Rng; dsimp only; omega⟩
    refine JO.eff rfl rfl rfl (JEff.storeW rfl rfl (hV _) nna (List.Perm.refl _) rfl (by intro l hl; cases hl) ?_)
    refine JO.freezeV (hV _) nna hcb (by intro l hl; cases hl) ?_; intro S2 hl2 hpo
    repeat (refine s55_L10h ?_; intros)
    exact JX.retCell Tryz.results55 rfl hpo (List.nil_sublist _) (fun w hw => ⟨rfl, by obtain ⟨rfl, _⟩ := V_step.1 hw; rfl⟩)
def ownIdx (s : Snap) (x : Pod) : Int := idxF (fun o => decide (o.name = x.owner)) s.owners
theorem s56_L10h {P K : Prop} (k : K) (h : Goal K → P := by
  intro zk
  (first | refine Walk ?_ | refine JC.block ?_ | refine JC.drawN 4 rfl [0, 1, 2, 3, 4, 5, 6, 7, 8, 9, 10, 11, 12] [0, 1, 2, 3, 4, 5, 6, 7, 8, 9, 10, 11, 12] Tryz_mixed (by decide +kernel) ?_ | (refine WBox ?_))
  (repeat (first | revert zqg | revert zqf | revert zqe | revert zqd | revert zqc | revert zqb | revert zqa))
  exact zk.k) : P := h ⟨k⟩
theorem q10_name {S : SHeap} {u : Value} {s : Snap} {i : Nat} {x : Pod} (hu : rSnap.V S u s) (hx : s.pods[i]? = some x) (hi : i ≤ 1000) (ho : s.owners.length ≤ 1000) : FnV Tryz.prog 56 #[u, .int .i64 i] S (.int .i64 (ownIdx s x)) := by
  have hx' : s.pods[((i : Int)).toNat]? = some x := by rw [Int.toNat_natCast]; exact hx
  (refine Fn.enter (args := [u, .int .i64 i]) Tryz.func56 rfl Tryz.ntmps56 rfl ?_; intro w0)
  repeat (refine s56_L10h ?_; intros)
  unfold ownIdx
  refine JC.loopF0 (σ := Nat) [(1, _), (2, _)] (fun q => [(5, .int .i64 q)]) (fun Sj q => q ≤ s.owners.length ∧ ∀ j o, j < q → s.owners[j]? = some o → ¬ o.name = x.owner) (fun q => s.owners.length - q) (0) (by exact sba) (by exact sba) (⟨Nat.zero_le _, fun j o h => by omega⟩) ?_; rintro Sj k hlj hij; (try dsimp only at hij); dsimp only [List.cons_append, List.nil_append]
  obtain ⟨hk, hno⟩ := hij
  repeat (refine s56_L10h ?_; intros)
  refine JC.cond rfl (fun hc => ?_) (fun hc => ?_)
  · have hk' := dlt hc
    obtain ⟨o, ho2, _⟩ := drop_at hk'
    repeat (refine s56_L10h ?_; intros)
    refine JC.cond rfl (fun he => ?_) (fun he => ?_)
    · have he' : o.name = x.owner := by simpa using he
      have hix : idxF (fun o => decide (o.name = x.owner)) s.owners = k := by
        unfold idxF
        have : s.owners.findIdx? (fun o => decide (o.name = x.owner)) = some k := by
          rw [List.findIdx?_eq_some_iff_getElem]
          obtain ⟨h1, h2⟩ := List.getElem?_eq_some_iff.1 ho2
          refine ⟨h1, by rw [h2]; simpa using he', fun j hj => ?_⟩
          have := hno j _ hj (List.getElem?_eq_getElem (by omega))
          simpa using this
        rw [this]
      rw [hix]
      repeat (refine s56_L10h ?_; intros)
      (refine JX.ret1 Tryz.results56 (ResV.tmp rfl) (List.nil_sublist _) ?_)
      exact ⟨rfl, rfl⟩
    · have he' : ¬ o.name = x.owner := by simpa using he
      repeat (refine s56_L10h ?_; intros)
      exact JX.roundF (k + 1) (by exact lea) ⟨by omega, fun j o' hj ho' => by
        by_cases e : j = k
        · subst e; rw [ho2] at ho'; cases ho'; exact he'
        · exact hno j o' (by omega) ho'⟩ (by (try dsimp only); omega) rfl (by exact sba) (by exact sba)
  · have hk' := dnlt hc
    have hix : idxF (fun o => decide (o.name = x.owner)) s.owners = -1 := by
      unfold idxF
      have : s.owners.findIdx? (fun o => decide (o.name = x.owner)) = none := by
        rw [List.findIdx?_eq_none_iff]
        intro o ho3
        obtain ⟨j, hj⟩ := List.mem_iff_getElem?.1 ho3
        have := hno j o (by have := (List.getElem?_eq_some_iff.1 hj).1; omega) hj
        simpa using this
      rw [this]
    rw [hix]
    repeat (refine s56_L10h ?_; intros)
    (refine JX.ret1 Tryz.results56 (ResV.tmp rfl) (List.nil_sublist _) ?_)
    exact ⟨rfl, rfl⟩
end Go.Dr
namespace Go.Dr
open Go.Proofs
set_option maxRecDepth 20000
set_option maxHeartbeats 2000000
set_option linter.unusedSimpArgs false
set_option linter.unusedVariables false
theorem p10_StepS {S : SHeap} {u v xv : Value} {s : Snap} {p : List Int} {x : Step} (hu : rSnap.V S u s) (hv : (rSlice 8 rI64).V S v p) (hx : rStep.V S xv x) : FnSt Tryz.prog 45 #[u, v, xv] S (stepV s p x).1 (stepV s p x).2.1 (.int .i64 (stepV s p x).2.2) := by
  obtain ⟨_, _, _, _, hQ8, _⟩ := V_slice.1 hv
  refine Fn.frozen (p10_Step hu hv hx) fun w S' M' hw => ?_
  rcases hw with ⟨c, e, he, hcr, hst, rfl, rfl⟩ | ⟨q, b, tl, cap, hst, hqr, hql, rfl, hqc, rfl⟩
  · rw [hst]
    exact .inl ⟨rfl, _, rfl, V_nil, V_clV hcr⟩
  · rw [hst]
    exact .inr ⟨b, _, rfl, fun S'' hl hS => ⟨_, rfl, blk_slice hl hS rfl hqc (by rw [hql]; exact hQ8) hqr, V_clV noC_rng⟩⟩
theorem w10_Step {S : SHeap} {u v xv : Value} {s : Snap} {p q : List Int} {c : Clause} {e : Int} {x : Step} (h : stepV s p x = (q, c, e)) (hu : rSnap.V S u s) (hv : (rSlice 8 rI64).V S v p) (hx : rStep.V S xv x) : FnSt Tryz.prog 45 #[u, v, xv] S q c (.int .i64 e) := by
  have hh := p10_StepS hu hv hx
  rw [h] at hh; exact hh
theorem p10_RunS {S : SHeap} {u v lv : Value} {s : Snap} {p : List Int} {l : List Step} (hu : rSnap.V S u s) (hv : (rSlice 8 rI64).V S v p) (hl : (rSlice 24 rStep).V S lv l) :
    FnLs Tryz.prog 50 #[u, v, lv] S 8 rI64 (runV s p l).1 [.int .i64 (runV s p l).2.1, .int .i64 (runV s p l).2.2] := by
  refine Fn.frozen (p10_Run hu hv hl) fun w S' M' hw => ?_
  obtain ⟨a, c, rfl, ⟨h1, h2, h3⟩, ⟨he, rfl⟩ | ⟨b, tl, rfl, rfl⟩⟩ := hw
  · rw [he]
    exact .inl ⟨rfl, _, rfl, V_slice.2 ⟨_, _, rfl, by simp, by simp, by simp, by simp⟩⟩
  · exact .inr ⟨b, _, rfl, fun S'' hl hS => ⟨_, rfl, blk_slice hl hS rfl h1 h2 h3⟩⟩
theorem w10_Run {S : SHeap} {u v lv : Value} {s : Snap} {p q : List Int} {l : List Step} {n e : Int} (h : runV s p l = (q, n, e)) (hu : rSnap.V S u s) (hv : (rSlice 8 rI64).V S v p) (hl : (rSlice 24 rStep).V S lv l) : FnLs Tryz.prog 50 #[u, v, lv] S 8 rI64 q [.int .i64 n, .int .i64 e] := by
  have hh := p10_RunS hu hv hl
  rw [h] at hh; exact hh
theorem w10_Ways {S : SHeap} {u v : Value} {s : Snap} {p q : List Int} {pod : Int} (h : waysV s p pod = q) (hn : s.nodes.length ≤ 1000) (hpr : Rng pod) (hu : rSnap.V S u s) (hv : (rSlice 8 rI64).V S v p) : FnL Tryz.prog 52 #[u, v, .int .i64 pod] S 8 rI64 q := by
  have hh := p10_Ways pod hu hv hn hpr
  rw [h] at hh; exact hh
theorem w10_May {S : SHeap} {u v xv : Value} {s : Snap} {p : List Int} {x : Step} {b : Bool} (h : mayV s p x = b) (hu : rSnap.V S u s) (hv : (rSlice 8 rI64).V S v p) (hx : rStep.V S xv x) : FnV Tryz.prog 47 #[u, v, xv] S (.bool b) := by
  have hh := p10_May hu hv hx
  rw [h] at hh; exact hh
theorem f10_1 : stepV chap10 [0, 1, -1] ⟨2, 2, 0⟩ = ([], ⟨1, 0, 0, 5⟩, 100) := by decide +kernel
theorem f10_2 : stepV chap10 [0, 1, -1] ⟨2, 2, 2⟩ = ([0, 1, 2], noC, 0) := by decide +kernel
theorem f10_3 : runV chap10 [0, 1, -1] [⟨1, 0, 0⟩, ⟨2, 2, 0⟩, ⟨1, 1, 0⟩, ⟨1, 2, 0⟩] = ([], 3, 100) := by decide +kernel
theorem f10_4 : waysV chap10 [0, 1, -1] 2 = [2] := by decide +kernel
theorem f10_5 : waysV chap10 [0, 1, -1] 0 = [] := by decide +kernel
theorem f10_6 : mayV chap10 [0, 1, -1] ⟨1, 0, 0⟩ = true := by decide +kernel
theorem s49_L10e {P K : Prop} (k : K) (h : Goal K → P := by
  intro zk
  (first | refine Walk ?_ | refine JC.block ?_ | refine JC.drawN 5 rfl [0, 1, 2, 3, 4, 5, 6, 7, 8, 9, 10, 11, 12, 13, 14] [8, 9, 10, 11, 12, 13, 14] Tryz_mixed (by decide +kernel) ?_ | (refine JO.eff rfl rfl rfl (JEff.callV rfl (r0_EqInts (by exact vta) (by exact vta)) rfl ?_); intro zqa zqb) | (refine JO.eff rfl rfl rfl (JEff.callV rfl (p10_May (by exact vta) (by exact vta) (by exact vta)) rfl ?_); intro zqa zqb) | (refine JO.eff rfl rfl rfl (JEff.callL rfl (p10_Ways _ (by exact vta) (by exact vta) (by first | assumption | omega) (by first | assumption | (unfold Rng; omega))) rfl ?_); intro zqa zqb zqc zqd zqe zqf) | (refine JO.eff rfl rfl rfl (JEff.callR rfl (q10_chapter) rfl ?_); intro zqa zqb zqc zqd) | (refine JO.eff rfl rfl rfl (JEff.callV rfl (q10_on _ _ (by unfold Rng; omega) (by unfold Rng; omega)) rfl ?_); intro zqa zqb) | (refine JO.eff rfl rfl rfl (JEff.callV rfl (q10_off _ (by unfold Rng; omega)) rfl ?_); intro zqa zqb) | (refine WNew ?_) | (refine WPut ?_))
  (repeat (first | revert zqg | revert zqf | revert zqe | revert zqd | revert zqc | revert zqb | revert zqa))
  exact zk.k) : P := h ⟨k⟩
theorem q10_works {S : SHeap} : FnV Tryz.prog 49 #[] S (.bool true) := by
  (refine Fn.enter (args := []) Tryz.func49 rfl Tryz.ntmps49 rfl ?_; intro w0)
  repeat (refine s49_L10e ?_; intros)
  (refine JO.eff rfl rfl rfl (JEff.buildS (bt := 8) (rep := rI64) (ys := [(0 : Int), 1, -1]) rfl rfl (⟨⟨V_num, nna⟩, ⟨V_num, nna⟩, ⟨V_num, nna⟩, trivial⟩) rfl rfl rfl (by decide) rfl ?_); intro S2 a2 hl2 hV2)
  have hcl5 : ∀ S, rClause.V S (clV ⟨1, 0, 0, 5⟩) ⟨1, 0, 0, 5⟩ := fun S => V_clV (by simp [Rng])
  have hcl0 : ∀ S, rClause.V S (clV noC) noC := fun S => V_clV noC_rng
  repeat (refine s49_L10e ?_; intros)
  refine JC.partF0 (σ := Addr) [(1, _), (2, _)] (fun q => [(4, .pointer (some q)), (5, .int .i64 100)]) (fun SA q => PtrTo SA q rClause ⟨1, 0, 0, 5⟩) ?_ (by exact sba) ?_; rotate_left; rintro SA kp hlA hiA; (try dsimp only at hiA); dsimp only [List.cons_append, List.nil_append]; rotate_left
  · refine JC.drawTree 3 rfl [9, 11] [0, 1] (.alt (ofL [2] (.alt (ofL [3, 4, 5, 6, 7, 8, 9, 10, 11] .nil) (ofL [8, 3, 4, 5, 6, 7, 9, 10, 11] .nil))) (ofL [8, 2, 3, 4, 5, 6, 7, 9, 10, 11] .nil)) Tryz_mixed (by decide +kernel) ?_
    repeat (refine s49_L10e ?_; intros)
    refine JO.alt ?_ ?_
    · repeat (refine s49_L10e ?_; intros)
      refine JO.alt ?_ ?_
      all_goals
        repeat (first | (refine Walk ?_; intros) | refine JC.block ?_ | refine JC.drawN 5 rfl [0, 1, 2, 3, 4, 5, 6, 7, 8, 9, 10, 11, 12, 13, 14] [8, 9, 10, 11, 12, 13, 14] Tryz_mixed (by decide +kernel) ?_ | (refine JO.eff rfl rfl rfl (JEff.callSt rfl (w10_Step f10_1 (by exact vta) (by exact vta) (V_stV (by simp [Rng]))) rfl ?_); intro _ _ _ _ _ _ _) | (refine JO.eff rfl rfl rfl (JEff.callV rfl (r0_EqInts (by exact vta) (by exact vta)) rfl ?_); intro _ _) | (refine JO.eff rfl rfl rfl (JEff.callV rfl (p10_May (by exact vta) (by exact vta) (by exact vta)) rfl ?_); intro _ _) | (refine JO.eff rfl rfl rfl (JEff.callL rfl (p10_Ways _ (by exact vta) (by exact vta) (by first | assumption | omega) (by first | assumption | (unfold Rng; omega))) rfl ?_); intro _ _ _ _ _ _) | (refine JO.eff rfl rfl rfl (JEff.callR rfl (q10_chapter) rfl ?_); intro _ _ _ _) | (refine JO.eff rfl rfl rfl (JEff.callV rfl (q10_on _ _ (by unfold Rng; omega) (by unfold Rng; omega)) rfl ?_); intro _ _) | (refine JO.eff rfl rfl rfl (JEff.callV rfl (q10_off _ (by unfold Rng; omega)) rfl ?_); intro _ _) | (refine WNew ?_; intros) | (refine WPut ?_; intros))
        exact JX.partF ((_)) (by exact lea) (by exact pta) rfl (by exact sba) (by exact sba)
    · repeat (first | (refine Walk ?_; intros) | refine JC.block ?_ | refine JC.drawN 5 rfl [0, 1, 2, 3, 4, 5, 6, 7, 8, 9, 10, 11, 12, 13, 14] [8, 9, 10, 11, 12, 13, 14] Tryz_mixed (by decide +kernel) ?_ | (refine JO.eff rfl rfl rfl (JEff.callSt rfl (w10_Step f10_1 (by exact vta) (by exact vta) (V_stV (by simp [Rng]))) rfl ?_); intro _ _ _ _ _ _ _) | (refine JO.eff rfl rfl rfl (JEff.callV rfl (r0_EqInts (by exact vta) (by exact vta)) rfl ?_); intro _ _) | (refine JO.eff rfl rfl rfl (JEff.callV rfl (p10_May (by exact vta) (by exact vta) (by exact vta)) rfl ?_); intro _ _) | (refine JO.eff rfl rfl rfl (JEff.callL rfl (p10_Ways _ (by exact vta) (by exact vta) (by first | assumption | omega) (by first | assumption | (unfold Rng; omega))) rfl ?_); intro _ _ _ _ _ _) | (refine JO.eff rfl rfl rfl (JEff.callR rfl (q10_chapter) rfl ?_); intro _ _ _ _) | (refine JO.eff rfl rfl rfl (JEff.callV rfl (q10_on _ _ (by unfold Rng; omega) (by unfold Rng; omega)) rfl ?_); intro _ _) | (refine JO.eff rfl rfl rfl (JEff.callV rfl (q10_off _ (by unfold Rng; omega)) rfl ?_); intro _ _) | (refine WNew ?_; intros) | (refine WPut ?_; intros))
      exact JX.partF ((_)) (by exact lea) (by exact pta) rfl (by exact sba) (by exact sba)
  repeat (refine s49_L10e ?_; intros)
  refine JC.partF0 (σ := Option Addr × Nat) [(1, _), (2, _), (4, _), (5, _)] (fun q => [(6, .slice q.1 3 q.2), (8, .int .i64 0)]) (fun SB q => (rSlice 8 rI64).V SB (.slice q.1 3 q.2) [0, 1, 2]) ?_ (by exact sba) ?_; rotate_left; rintro SB ⟨ra, rc⟩ hlB hiB; (try dsimp only at hiB); dsimp only [List.cons_append, List.nil_append]; rotate_left
  · refine JC.drawTree 4 rfl [9, 11] [0, 1] (.alt (ofL [2] (.alt (ofL [3, 4, 5, 6, 7, 8, 9, 10, 11] .nil) (ofL [8, 3, 4, 5, 6, 7, 9, 10, 11] .nil))) (ofL [8, 2, 3, 4, 5, 6, 7, 9, 10, 11] .nil)) Tryz_mixed (by decide +kernel) ?_
    repeat (refine s49_L10e ?_; intros)
    refine JO.alt ?_ ?_
    · repeat (refine s49_L10e ?_; intros)
      refine JO.alt ?_ ?_
      all_goals
        repeat (first | (refine Walk ?_; intros) | refine JC.block ?_ | refine JC.drawN 5 rfl [0, 1, 2, 3, 4, 5, 6, 7, 8, 9, 10, 11, 12, 13, 14] [8, 9, 10, 11, 12, 13, 14] Tryz_mixed (by decide +kernel) ?_ | (refine JO.eff rfl rfl rfl (JEff.callSt rfl (w10_Step f10_2 (by exact vta) (by exact vta) (V_stV (by simp [Rng]))) rfl ?_); intro _ _ _ _ _ _ _) | (refine JO.eff rfl rfl rfl (JEff.callV rfl (r0_EqInts (by exact vta) (by exact vta)) rfl ?_); intro _ _) | (refine JO.eff rfl rfl rfl (JEff.callV rfl (p10_May (by exact vta) (by exact vta) (by exact vta)) rfl ?_); intro _ _) | (refine JO.eff rfl rfl rfl (JEff.callL rfl (p10_Ways _ (by exact vta) (by exact vta) (by first | assumption | omega) (by first | assumption | (unfold Rng; omega))) rfl ?_); intro _ _ _ _ _ _) | (refine JO.eff rfl rfl rfl (JEff.callR rfl (q10_chapter) rfl ?_); intro _ _ _ _) | (refine JO.eff rfl rfl rfl (JEff.callV rfl (q10_on _ _ (by unfold Rng; omega) (by unfold Rng; omega)) rfl ?_); intro _ _) | (refine JO.eff rfl rfl rfl (JEff.callV rfl (q10_off _ (by unfold Rng; omega)) rfl ?_); intro _ _) | (refine WNew ?_; intros) | (refine WPut ?_; intros))
        exact JX.partF ((_, _)) (by exact lea) (by exact vta) rfl (by exact sba) (by exact sba)
    · repeat (first | (refine Walk ?_; intros) | refine JC.block ?_ | refine JC.drawN 5 rfl [0, 1, 2, 3, 4, 5, 6, 7, 8, 9, 10, 11, 12, 13, 14] [8, 9, 10, 11, 12, 13, 14] Tryz_mixed (by decide +kernel) ?_ | (refine JO.eff rfl rfl rfl (JEff.callSt rfl (w10_Step f10_2 (by exact vta) (by exact vta) (V_stV (by simp [Rng]))) rfl ?_); intro _ _ _ _ _ _ _) | (refine JO.eff rfl rfl rfl (JEff.callV rfl (r0_EqInts (by exact vta) (by exact vta)) rfl ?_); intro _ _) | (refine JO.eff rfl rfl rfl (JEff.callV rfl (p10_May (by exact vta) (by exact vta) (by exact vta)) rfl ?_); intro _ _) | (refine JO.eff rfl rfl rfl (JEff.callL rfl (p10_Ways _ (by exact vta) (by exact vta) (by first | assumption | omega) (by first | assumption | (unfold Rng; omega))) rfl ?_); intro _ _ _ _ _ _) | (refine JO.eff rfl rfl rfl (JEff.callR rfl (q10_chapter) rfl ?_); intro _ _ _ _) | (refine JO.eff rfl rfl rfl (JEff.callV rfl (q10_on _ _ (by unfold Rng; omega) (by unfold Rng; omega)) rfl ?_); intro _ _) | (refine JO.eff rfl rfl rfl (JEff.callV rfl (q10_off _ (by unfold Rng; omega)) rfl ?_); intro _ _) | (refine WNew ?_; intros) | (refine WPut ?_; intros))
      exact JX.partF ((_, _)) (by exact lea) (by exact vta) rfl (by exact sba) (by exact sba)
  repeat (refine s49_L10e ?_; intros)
  (refine JO.eff rfl rfl rfl (JEff.buildS (bt := 24) (rep := rStep) (ys := [(⟨1, 0, 0⟩ : Step), ⟨2, 2, 0⟩, ⟨1, 1, 0⟩, ⟨1, 2, 0⟩]) rfl rfl (⟨⟨V_stV (by simp [Rng]), nna⟩, ⟨V_stV (by simp [Rng]), nna⟩, ⟨V_stV (by simp [Rng]), nna⟩, ⟨V_stV (by simp [Rng]), nna⟩, trivial⟩) rfl rfl rfl (by decide) rfl ?_); intro S7 a7 hl7 hV7)
  repeat (first | (refine Walk ?_; intros) | refine JC.block ?_ | refine JC.drawN 5 rfl [0, 1, 2, 3, 4, 5, 6, 7, 8, 9, 10, 11, 12, 13, 14] [8, 9, 10, 11, 12, 13, 14] Tryz_mixed (by decide +kernel) ?_ | (refine JO.eff rfl rfl rfl (JEff.callLs rfl (w10_Run f10_3 (by exact vta) (by exact vta) hV7) rfl ?_); intro _ _ _ _ _ _) | (refine JO.eff rfl rfl rfl (JEff.callV rfl (r0_EqInts (by exact vta) (by exact vta)) rfl ?_); intro _ _) | (refine JO.eff rfl rfl rfl (JEff.callV rfl (p10_May (by exact vta) (by exact vta) (by exact vta)) rfl ?_); intro _ _) | (refine JO.eff rfl rfl rfl (JEff.callL rfl (p10_Ways _ (by exact vta) (by exact vta) (by first | assumption | omega) (by first | assumption | (unfold Rng; omega))) rfl ?_); intro _ _ _ _ _ _) | (refine JO.eff rfl rfl rfl (JEff.callR rfl (q10_chapter) rfl ?_); intro _ _ _ _) | (refine JO.eff rfl rfl rfl (JEff.callV rfl (q10_on _ _ (by unfold Rng; omega) (by unfold Rng; omega)) rfl ?_); intro _ _) | (refine JO.eff rfl rfl rfl (JEff.callV rfl (q10_off _ (by unfold Rng; omega)) rfl ?_); intro _ _) | (refine WNew ?_; intros) | (refine WPut ?_; intros))
  refine JC.drawTree 6 rfl [0, 1, 2, 3, 4, 5, 6, 7, 11, 12, 13, 14, 15, 16, 22, 23, 24, 25, 27, 28, 29, 30, 35, 36, 37, 38, 39, 40, 41, 42, 43, 44, 45, 46, 47, 48, 49] [0, 1, 2, 3, 4, 5, 6, 7, 8, 9, 10, 11, 12, 13, 14, 15, 16, 17, 18] (.alt (ofL [19, 20, 21, 22, 23, 24, 25, 26, 27, 28, 29, 30, 31, 32, 33, 34, 35, 36, 37, 38, 39, 40, 41, 42, 43, 44, 45, 46, 47, 48, 49] .nil) (ofL [20, 19, 21, 22, 23, 24, 25, 26, 27, 28, 29, 30, 31, 32, 33, 34, 35, 36, 37, 38, 39, 40, 41, 42, 43, 44, 45, 46, 47, 48, 49] .nil)) Tryz_mixed (by decide +kernel) ?_
  repeat (first | (refine Walk ?_; intros) | refine JC.block ?_ | refine JC.drawN 5 rfl [0, 1, 2, 3, 4, 5, 6, 7, 8, 9, 10, 11, 12, 13, 14] [8, 9, 10, 11, 12, 13, 14] Tryz_mixed (by decide +kernel) ?_ | refine JO.pure rfl rfl rfl (JPure.eqR rfl vta rfl V_cl rfl rfl ?_) | (refine JO.eff rfl rfl rfl (JEff.callV rfl (r0_EqInts (by exact vta) (by exact vta)) rfl ?_); intro _ _) | (refine JO.eff rfl rfl rfl (JEff.callV rfl (p10_May (by exact vta) (by exact vta) (by exact vta)) rfl ?_); intro _ _) | (refine JO.eff rfl rfl rfl (JEff.callL rfl (p10_Ways _ (by exact vta) (by exact vta) (by first | assumption | omega) (by first | assumption | (unfold Rng; omega))) rfl ?_); intro _ _ _ _ _ _) | (refine JO.eff rfl rfl rfl (JEff.callR rfl (q10_chapter) rfl ?_); intro _ _ _ _) | (refine JO.eff rfl rfl rfl (JEff.callV rfl (q10_on _ _ (by unfold Rng; omega) (by unfold Rng; omega)) rfl ?_); intro _ _) | (refine JO.eff rfl rfl rfl (JEff.callV rfl (q10_off _ (by unfold Rng; omega)) rfl ?_); intro _ _) | (refine WNew ?_; intros) | (refine WPut ?_; intros))
  (refine JO.eff rfl rfl rfl (JEff.buildS (bt := 8) (rep := rI64) (ys := [(0 : Int), 1, 2]) rfl rfl (⟨⟨V_num, nna⟩, ⟨V_num, nna⟩, ⟨V_num, nna⟩, trivial⟩) rfl rfl rfl (by decide) rfl ?_); intro S8 a8 hl8 hV8)
  repeat (first | (refine Walk ?_; intros) | refine JC.block ?_ | refine JC.drawN 5 rfl [0, 1, 2, 3, 4, 5, 6, 7, 8, 9, 10, 11, 12, 13, 14] [8, 9, 10, 11, 12, 13, 14] Tryz_mixed (by decide +kernel) ?_ | (refine JO.eff rfl rfl rfl (JEff.callV rfl (w_EqInts (by exact vta) (by exact vta)) rfl ?_); intro _ _) | (refine JO.eff rfl rfl rfl (JEff.callV rfl (r0_EqInts (by exact vta) (by exact vta)) rfl ?_); intro _ _) | (refine JO.eff rfl rfl rfl (JEff.callV rfl (p10_May (by exact vta) (by exact vta) (by exact vta)) rfl ?_); intro _ _) | (refine JO.eff rfl rfl rfl (JEff.callL rfl (p10_Ways _ (by exact vta) (by exact vta) (by first | assumption | omega) (by first | assumption | (unfold Rng; omega))) rfl ?_); intro _ _ _ _ _ _) | (refine JO.eff rfl rfl rfl (JEff.callR rfl (q10_chapter) rfl ?_); intro _ _ _ _) | (refine JO.eff rfl rfl rfl (JEff.callV rfl (q10_on _ _ (by unfold Rng; omega) (by unfold Rng; omega)) rfl ?_); intro _ _) | (refine JO.eff rfl rfl rfl (JEff.callV rfl (q10_off _ (by unfold Rng; omega)) rfl ?_); intro _ _) | (refine WNew ?_; intros) | (refine WPut ?_; intros))
  refine JO.alt ?_ ?_
  · repeat (first | (refine Walk ?_; intros) | refine JC.block ?_ | refine JC.drawN 5 rfl [0, 1, 2, 3, 4, 5, 6, 7, 8, 9, 10, 11, 12, 13, 14] [8, 9, 10, 11, 12, 13, 14] Tryz_mixed (by decide +kernel) ?_ | (refine JO.eff rfl rfl rfl (JEff.callL rfl (w10_Ways f10_4 (by decide) (by simp [Rng]) (by exact vta) (by exact vta)) rfl ?_); intro _ _ _ _ _ _) | (refine JO.eff rfl rfl rfl (JEff.callV rfl (r0_EqInts (by exact vta) (by exact vta)) rfl ?_); intro _ _) | (refine JO.eff rfl rfl rfl (JEff.callV rfl (p10_May (by exact vta) (by exact vta) (by exact vta)) rfl ?_); intro _ _) | (refine JO.eff rfl rfl rfl (JEff.callL rfl (p10_Ways _ (by exact vta) (by exact vta) (by first | assumption | omega) (by first | assumption | (unfold Rng; omega))) rfl ?_); intro _ _ _ _ _ _) | (refine JO.eff rfl rfl rfl (JEff.callR rfl (q10_chapter) rfl ?_); intro _ _ _ _) | (refine JO.eff rfl rfl rfl (JEff.callV rfl (q10_on _ _ (by unfold Rng; omega) (by unfold Rng; omega)) rfl ?_); intro _ _) | (refine JO.eff rfl rfl rfl (JEff.callV rfl (q10_off _ (by unfold Rng; omega)) rfl ?_); intro _ _) | (refine WNew ?_; intros) | (refine WPut ?_; intros))
    (refine JO.eff rfl rfl rfl (JEff.buildS (bt := 8) (rep := rI64) (ys := [(2 : Int)]) rfl rfl (⟨⟨V_num, nna⟩, trivial⟩) rfl rfl rfl (by decide) rfl ?_); intro S9 a9 hl9 hV9)
    repeat (first | (refine Walk ?_; intros) | refine JC.block ?_ | refine JC.drawN 5 rfl [0, 1, 2, 3, 4, 5, 6, 7, 8, 9, 10, 11, 12, 13, 14] [8, 9, 10, 11, 12, 13, 14] Tryz_mixed (by decide +kernel) ?_ | (refine JO.eff rfl rfl rfl (JEff.callV rfl (w_EqInts (by exact vta) (by exact vta)) rfl ?_); intro _ _) | (refine JO.eff rfl rfl rfl (JEff.callL rfl (w10_Ways f10_5 (by decide) (by simp [Rng]) (by exact vta) (by exact vta)) rfl ?_); intro _ _ _ _ _ _) | (refine JO.eff rfl rfl rfl (JEff.callV rfl (w10_May f10_6 (by exact vta) (by exact vta) (V_stV (by simp [Rng]))) rfl ?_); intro _ _) | (refine JO.eff rfl rfl rfl (JEff.callV rfl (r0_EqInts (by exact vta) (by exact vta)) rfl ?_); intro _ _) | (refine JO.eff rfl rfl rfl (JEff.callV rfl (p10_May (by exact vta) (by exact vta) (by exact vta)) rfl ?_); intro _ _) | (refine JO.eff rfl rfl rfl (JEff.callL rfl (p10_Ways _ (by exact vta) (by exact vta) (by first | assumption | omega) (by first | assumption | (unfold Rng; omega))) rfl ?_); intro _ _ _ _ _ _) | (refine JO.eff rfl rfl rfl (JEff.callR rfl (q10_chapter) rfl ?_); intro _ _ _ _) | (refine JO.eff rfl rfl rfl (JEff.callV rfl (q10_on _ _ (by unfold Rng; omega) (by unfold Rng; omega)) rfl ?_); intro _ _) | (refine JO.eff rfl rfl rfl (JEff.callV rfl (q10_off _ (by unfold Rng; omega)) rfl ?_); intro _ _) | (refine WNew ?_; intros) | (refine WPut ?_; intros))
    (refine JX.ret1 Tryz.results49 (ResV.tmp rfl) (List.nil_sublist _) ?_)
    exact ⟨rfl, rfl⟩
  · (refine JO.eff rfl rfl rfl (JEff.buildS (bt := 8) (rep := rI64) (ys := [(2 : Int)]) rfl rfl (⟨⟨V_num, nna⟩, trivial⟩) rfl rfl rfl (by decide) rfl ?_); intro S9 a9 hl9 hV9)
    repeat (first | (refine Walk ?_; intros) | refine JC.block ?_ | refine JC.drawN 5 rfl [0, 1, 2, 3, 4, 5, 6, 7, 8, 9, 10, 11, 12, 13, 14] [8, 9, 10, 11, 12, 13, 14] Tryz_mixed (by decide +kernel) ?_ | (refine JO.eff rfl rfl rfl (JEff.callL rfl (w10_Ways f10_4 (by decide) (by simp [Rng]) (by exact vta) (by exact vta)) rfl ?_); intro _ _ _ _ _ _) | (refine JO.eff rfl rfl rfl (JEff.callV rfl (r0_EqInts (by exact vta) (by exact vta)) rfl ?_); intro _ _) | (refine JO.eff rfl rfl rfl (JEff.callV rfl (p10_May (by exact vta) (by exact vta) (by exact vta)) rfl ?_); intro _ _) | (refine JO.eff rfl rfl rfl (JEff.callL rfl (p10_Ways _ (by exact vta) (by exact vta) (by first | assumption | omega) (by first | assumption | (unfold Rng; omega))) rfl ?_); intro _ _ _ _ _ _) | (refine JO.eff rfl rfl rfl (JEff.callR rfl (q10_chapter) rfl ?_); intro _ _ _ _) | (refine JO.eff rfl rfl rfl (JEff.callV rfl (q10_on _ _ (by unfold Rng; omega) (by unfold Rng; omega)) rfl ?_); intro _ _) | (refine JO.eff rfl rfl rfl (JEff.callV rfl (q10_off _ (by unfold Rng; omega)) rfl ?_); intro _ _) | (refine WNew ?_; intros) | (refine WPut ?_; intros))
    repeat (first | (refine Walk ?_; intros) | refine JC.block ?_ | refine JC.drawN 5 rfl [0, 1, 2, 3, 4, 5, 6, 7, 8, 9, 10, 11, 12, 13, 14] [8, 9, 10, 11, 12, 13, 14] Tryz_mixed (by decide +kernel) ?_ | (refine JO.eff rfl rfl rfl (JEff.callV rfl (w_EqInts (by exact vta) (by exact vta)) rfl ?_); intro _ _) | (refine JO.eff rfl rfl rfl (JEff.callL rfl (w10_Ways f10_5 (by decide) (by simp [Rng]) (by exact vta) (by exact vta)) rfl ?_); intro _ _ _ _ _ _) | (refine JO.eff rfl rfl rfl (JEff.callV rfl (w10_May f10_6 (by exact vta) (by exact vta) (V_stV (by simp [Rng]))) rfl ?_); intro _ _) | (refine JO.eff rfl rfl rfl (JEff.callV rfl (r0_EqInts (by exact vta) (by exact vta)) rfl ?_); intro _ _) | (refine JO.eff rfl rfl rfl (JEff.callV rfl (p10_May (by exact vta) (by exact vta) (by exact vta)) rfl ?_); intro _ _) | (refine JO.eff rfl rfl rfl (JEff.callL rfl (p10_Ways _ (by exact vta) (by exact vta) (by first | assumption | omega) (by first | assumption | (unfold Rng; omega))) rfl ?_); intro _ _ _ _ _ _) | (refine JO.eff rfl rfl rfl (JEff.callR rfl (q10_chapter) rfl ?_); intro _ _ _ _) | (refine JO.eff rfl rfl rfl (JEff.callV rfl (q10_on _ _ (by unfold Rng; omega) (by unfold Rng; omega)) rfl ?_); intro _ _) | (refine JO.eff rfl rfl rfl (JEff.callV rfl (q10_off _ (by unfold Rng; omega)) rfl ?_); intro _ _) | (refine WNew ?_; intros) | (refine WPut ?_; intros))
    (refine JX.ret1 Tryz.results49 (ResV.tmp rfl) (List.nil_sublist _) ?_)
    exact ⟨rfl, rfl⟩
end Go.Dr
namespace Go.Dr
theorem zip_set_same {f : Int × Pod → Bool} : ∀ (p : List Int) (pods : List Pod) (i : Nat) (v : Int), (∀ x y, p[i]? = some x → pods[i]? = some y → f (x, y) = false ∧ f (v, y) = false) →
    ((p.set i v).zip pods).filter f = (p.zip pods).filter f
  | [], pods, i, v, _ => by simp
  | x :: p, [], i, v, _ => by cases i <;> simp
  | x :: p, y :: pods, 0, v, h => by
    obtain ⟨h1, h2⟩ := h x y rfl rfl
    simp only [List.set_cons_zero, List.zip_cons_cons, List.filter_cons, h1, h2]
    simp
  | x :: p, y :: pods, i + 1, v, h => by
    have ih := zip_set_same p pods i v (fun a b ha hb => h a b (by simpa using ha) (by simpa using hb))
    simp only [List.set_cons_succ, List.zip_cons_cons, List.filter_cons, ih]
theorem onN_same {s : Snap} {p : List Int} {i : Nat} {v n : Int} (h1 : ∀ x, p[i]? = some x → x ≠ n) (h2 : v ≠ n) : onN s (p.set i v) n = onN s p n := by
  unfold onN
  rw [zip_set_same]
  intro x y hx _
  exact ⟨by simpa using h1 x hx, by simpa using h2⟩
theorem owned_same {s : Snap} {p : List Int} {i o : Nat} {v : Int} (h : ∀ y, s.pods[i]? = some y → y.owner ≠ ownName s o) : ownedL s (p.set i v) o = ownedL s p o := by
  unfold ownedL
  rw [zip_set_same]
  intro x y _ hy
  have := h y hy
  exact ⟨by simp [this], by simp [this]⟩
theorem used_same {s : Snap} {p : List Int} {i : Nat} {v n : Int} (h1 : ∀ x, p[i]? = some x → x ≠ n) (h2 : v ≠ n) : usedV s (p.set i v) n = usedV s p n := by
  unfold usedV; rw [onN_same h1 h2]
theorem placed_same {s : Snap} {p : List Int} {i o : Nat} {v : Int} (h : ∀ y, s.pods[i]? = some y → y.owner ≠ ownName s o) : placedN s (p.set i v) o = placedN s p o := by
  unfold placedN; rw [owned_same h]
theorem counts_same {s : Snap} {p : List Int} {i o : Nat} {v : Int} (h : ∀ y, s.pods[i]? = some y → y.owner ≠ ownName s o) : countsL s (p.set i v) o = countsL s p o := by
  unfold countsL; rw [owned_same h]
theorem skew_same {s : Snap} {p : List Int} {i o : Nat} {v : Int} (h : ∀ y, s.pods[i]? = some y → y.owner ≠ ownName s o) : skewV s (p.set i v) o = skewV s p o := by
  have e : spreadL s (p.set i v) o = spreadL s p o := by
    unfold spreadL domCount
    rw [counts_same h]
  unfold skewV; rw [e]
theorem of8_same {s : Snap} {p : List Int} {i a : Nat} {v : Int} {kind : Int} (ha : a ≠ i) (hk : kind = 2 ∨ kind = 3) : of8 s (p.set i v) kind a = of8 s p kind a := by
  have e : (p.set i v)[a]? = p[a]? := by rw [List.getElem?_set_ne (fun h => ha h.symm)]
  unfold of8
  rw [e]
  rcases hk with rfl | rfl <;> rfl
theorem double_same {s : Snap} {p : List Int} {i a : Nat} {v : Int} (ha : a ≠ i) (h : ∀ x y, s.pods[i]? = some x → s.pods[a]? = some y → x.owner ≠ y.owner) : double8 s (p.set i v) a = double8 s p a := by
  have e : (p.set i v)[a]? = p[a]? := by rw [List.getElem?_set_ne (fun h => ha h.symm)]
  unfold double8
  rw [List.length_set]
  refine cntI_congr fun j hj => ?_
  unfold doubleF
  rw [e]
  by_cases hji : j = i
  · subst hji
    rw [List.getElem?_set_self (by simpa using hj), List.getElem?_eq_getElem hj]
    cases hx : s.pods[j]? with
    | none => cases p[a]? <;> rfl
    | some x =>
      cases hm : p[a]? with
      | none => rfl
      | some m =>
        cases hy : s.pods[a]? with
        | none => rfl
        | some y =>
          have := h x y hx hy
          simp [this]
  · rw [List.getElem?_set_ne (fun h => hji h.symm)]
end Go.Dr
namespace Go.Dr
theorem rise_pw : ∀ (l : List ByteArray) (p : Option ByteArray), riseN p l = true → (∀ a, p = some a → ∀ x ∈ l, ltS a x = true) ∧ l.Pairwise (fun a b => ltS a b = true)
  | [], p, _ => ⟨by simp, List.Pairwise.nil⟩
  | x :: l, p, h => by
    simp only [riseN, Bool.and_eq_true] at h
    obtain ⟨h1, h2⟩ := rise_pw l (some x) h.2
    refine ⟨?_, List.pairwise_cons.2 ⟨h1 x rfl, h2⟩⟩
    rintro a rfl y hy
    have h3 : ltS a x = true := h.1.2
    rcases List.mem_cons.1 hy with rfl | hy
    · exact h3
    · exact ltS_trans h3 (h1 x rfl y hy)
theorem own_idx {s : Snap} (hs : checkS s = 0) {o : Nat} {x : Owner} (hx : s.owners[o]? = some x) : idxF (fun y => decide (y.name = x.name)) s.owners = o := by
  have hsh := (checkS_ok hs).1
  have hr : riseN none (oNames s) = true := by
    unfold shapedB at hsh; simp only [Bool.and_eq_true] at hsh; exact hsh.1.2.2
  have hpw := (rise_pw _ _ hr).2
  have hfi : s.owners.findIdx? (fun y => decide (y.name = x.name)) = some o := by
    rw [List.findIdx?_eq_some_iff_getElem]
    obtain ⟨h1, h2⟩ := List.getElem?_eq_some_iff.1 hx
    refine ⟨h1, by rw [h2]; simp, fun j hj hh => ?_⟩
    have := List.pairwise_iff_getElem.1 hpw j o (by simp [oNames]; omega) (by simp [oNames]; omega) hj
    simp only [oNames, List.getElem_map, h2] at this
    have hh : (s.owners[j]).name = x.name := by simpa using hh
    rw [hh] at this
    unfold ltS at this; rw [bytesLess_irr] at this; cases this
  unfold idxF; rw [hfi]
theorem in_caps {s : Snap} {p : List Int} {n k : Nat} (hok : checkP s p = 0) (hn : n < s.nodes.length) (hk : k < 5) : capN s p n k ∈ allL s p := by
  unfold allL; rw [if_pos hok]
  unfold allC capsC capTo
  simp only [List.mem_append, List.range_zero, List.map_nil, List.append_nil]
  exact .inl (.inl (.inl (List.mem_flatMap.2 ⟨n, by simpa using hn, List.mem_map.2 ⟨k, by simpa using hk, rfl⟩⟩)))
theorem in_kinds {s : Snap} {p : List Int} {t a : Nat} (hok : checkP s p = 0) (ht : t < 5) (ha : a < p.length) (h : (of8 s p ((t : Int) + 2) a).2 = true) : (⟨(t : Int) + 2, a, 0, (of8 s p ((t : Int) + 2) a).1⟩ : Clause) ∈ allL s p := by
  unfold allL; rw [if_pos hok]
  unfold allC
  simp only [List.mem_append]
  refine .inl (.inl (.inr ?_))
  unfold kindsTo podsTo
  refine List.mem_flatMap.2 ⟨t, by simpa using ht, List.mem_flatMap.2 ⟨a, by simpa using ha, ?_⟩⟩
  unfold podC1
  rw [if_pos h]; simp
theorem in_spread {s : Snap} {p : List Int} {o : Nat} (hok : checkP s p = 0) (ho : o < s.owners.length) (h : topoOf s o ≠ noS) : (⟨7, o, 0, skewV s p o⟩ : Clause) ∈ allL s p := by
  unfold allL; rw [if_pos hok]
  unfold allC
  simp only [List.mem_append]
  refine .inl (.inr ?_)
  unfold spreadTo
  refine List.mem_flatMap.2 ⟨o, by simpa using ho, ?_⟩
  unfold spreadC1
  rw [if_neg h]; simp
theorem in_min {s : Snap} {p : List Int} {o : Nat} (hok : checkP s p = 0) (ho : o < s.owners.length) : minC1 s p o ∈ allL s p := by
  unfold allL; rw [if_pos hok]
  unfold allC
  simp only [List.mem_append]
  refine .inr ?_
  unfold minTo
  exact List.mem_map.2 ⟨o, by simpa using ho, rfl⟩
theorem of8_asks {s : Snap} {p : List Int} {a : Nat} {kind : Int} (h : (of8 s p kind a).2 = true) : ∃ y, s.pods[a]? = some y ∧ (kind = 4 → y.with_.topo ≠ noS) ∧ (kind = 5 → y.apart.topo ≠ noS) := by
  unfold of8 at h
  split at h
  · rename_i m y _ hy
    refine ⟨y, hy, ?_, ?_⟩
    · rintro rfl hn
      split at h
      · cases h
      · split at h
        · simp [hn] at h
        · cases h
    · rintro rfl hn
      split at h
      · cases h
      · split at h
        · simp [hn] at h
        · cases h
  · cases h
theorem of8_double {s : Snap} {p : List Int} {i a : Nat} {v : Int} (ha : a ≠ i) (h : ∀ x y, s.pods[i]? = some x → s.pods[a]? = some y → x.owner ≠ y.owner) : of8 s (p.set i v) 6 a = of8 s p 6 a := by
  have e : (p.set i v)[a]? = p[a]? := by rw [List.getElem?_set_ne (fun h => ha h.symm)]
  unfold of8
  rw [e, double_same ha h]
  rfl
def nearC (s : Snap) (p : List Int) (x : Step) (c : Clause) : Prop :=
  (c.kind = 1 ∧ x.kind = 2 ∧ c.a = x.node) ∨ ((c.kind = 2 ∨ c.kind = 3) ∧ x.kind = 2 ∧ c.a = x.pod) ∨
  ((c.kind = 4 ∨ c.kind = 5) ∧ ∃ (a : Nat) (y : Pod), c.a = a ∧ a < p.length ∧ s.pods[a]? = some y ∧ ¬ (y.with_.topo = noS ∧ y.apart.topo = noS)) ∨
  (c.kind = 6 ∧ x.kind = 2 ∧ ∃ (a : Nat) (y z : Pod), c.a = a ∧ a < p.length ∧ s.pods[a]? = some y ∧ s.pods[x.pod.toNat]? = some z ∧ y.owner = z.owner) ∨
  ((c.kind = 7 ∨ c.kind = 8) ∧ ∃ z : Pod, s.pods[x.pod.toNat]? = some z ∧ c.a = idxF (fun o => decide (o.name = z.owner)) s.owners)
theorem own_at {s : Snap} (hs : checkS s = 0) {o : Nat} (ho : o < s.owners.length) {z : Pod} (h : z.owner = ownName s o) : (o : Int) = idxF (fun y => decide (y.name = z.owner)) s.owners := by
  have hw : s.owners[o]? = some s.owners[o] := List.getElem?_eq_getElem ho
  have : z.owner = s.owners[o].name := by rw [h]; unfold ownName; rw [hw]
  rw [this]
  exact (own_idx hs hw).symm
theorem near_worse {s : Snap} {p : List Int} {x : Step} {c : Clause} (h : (applyP s p x).2 = 0) (hc : c ∈ allL s (applyP s p x).1) (hw : findC (allL s p) c < c.by_) : nearC s p x c := by
  obtain ⟨v, e1, hi, hi0, hv, hok, hst⟩ := apply_set h
  rw [e1] at hc
  unfold nearC
  have hxp : ((x.pod.toNat : Nat) : Int) = x.pod := by omega
  generalize x.pod.toNat = i at *
  have hq := checkP_set (i := i) hok hv
  have hnm := allL_names s p
  obtain ⟨hs, hlen, _⟩ := checkP_ok hok
  obtain ⟨z, hz⟩ : ∃ z, s.pods[i]? = some z := ⟨_, List.getElem?_eq_getElem (by omega)⟩
  have hev : x.kind = 1 → c.kind = 4 ∨ c.kind = 7 ∨ c.kind = 8 := by
    intro hk
    rcases hst with ⟨_, rfl, _⟩ | ⟨hk2, _⟩
    · by_cases h4 : c.kind = 4
      · exact .inl h4
      by_cases h7 : c.kind = 7
      · exact .inr (.inl h7)
      by_cases h8 : c.kind = 8
      · exact .inr (.inr h8)
      have := off_by hok hc h4 h7 h8; omega
    · omega
  have hk12 : x.kind = 1 ∨ x.kind = 2 := by
    rcases hst with ⟨h, _⟩ | ⟨h, _⟩
    · exact .inl h
    · exact .inr h
  have hsame : c ∈ allL s p → False := fun hm => by have := find_named hnm hm rfl; omega
  unfold allL at hc
  rw [if_pos hq] at hc
  unfold allC at hc
  simp only [List.mem_append] at hc
  rcases hc with ((hc | hc) | hc) | hc
  · obtain ⟨n, k, hn, hk, rfl⟩ := mem_caps hc
    have hk2 : x.kind = 2 := by
      rcases hk12 with h | h
      · have := hev h; simp [capN] at this
      · exact h
    refine .inl ⟨rfl, hk2, ?_⟩
    by_cases hne : (n : Int) = x.node
    · exact hne
    · exfalso
      rcases hst with ⟨hk1, _⟩ | ⟨_, hvn, hn0, _, _, hat⟩
      · omega
      apply hsame
      have hu : usedV s (p.set i v) n = usedV s p n := used_same (fun w hw => by have := at0_some hw; omega) (by omega)
      have : capN s (p.set i v) n k = capN s p n k := by unfold capN; rw [hu]
      rw [this]
      exact in_caps hok hn hk
  · obtain ⟨t, a, ht, ha, rfl, h8⟩ := mem_kinds hc
    rw [List.length_set] at ha
    have hkeep : of8 s (p.set i v) ((t : Int) + 2) a = of8 s p ((t : Int) + 2) a → False := by
      intro e
      apply hsame
      rw [e] at h8 ⊢
      exact in_kinds hok ht ha h8
    have h2of : t ≠ 2 → x.kind = 2 := by
      intro h2
      rcases hk12 with h | h
      · have := hev h; dsimp only at this; omega
      · exact h
    obtain ⟨y, hy, hy4, hy5⟩ := of8_asks h8
    have ht5 : t = 0 ∨ t = 1 ∨ t = 2 ∨ t = 3 ∨ t = 4 := by omega
    rcases ht5 with rfl | rfl | rfl | rfl | rfl
    · refine .inr (.inl ⟨.inl rfl, h2of (by omega), ?_⟩)
      by_cases hai : a = i
      · subst hai; exact hxp
      · exact absurd (of8_same hai (.inl rfl)) hkeep
    · refine .inr (.inl ⟨.inr rfl, h2of (by omega), ?_⟩)
      by_cases hai : a = i
      · subst hai; exact hxp
      · exact absurd (of8_same hai (.inr rfl)) hkeep
    · exact .inr (.inr (.inl ⟨.inl rfl, a, y, rfl, ha, hy, fun hh => hy4 rfl hh.1⟩))
    · exact .inr (.inr (.inl ⟨.inr rfl, a, y, rfl, ha, hy, fun hh => hy5 rfl hh.2⟩))
    · refine .inr (.inr (.inr (.inl ⟨rfl, h2of (by omega), a, y, z, rfl, ha, hy, hz, ?_⟩)))
      by_cases hai : a = i
      · subst hai; rw [hz] at hy; cases hy; rfl
      by_cases ho : y.owner = z.owner
      · exact ho
      · refine absurd (of8_double hai fun x' y' hx' hy' => ?_) hkeep
        rw [hz] at hx'; cases hx'; rw [hy] at hy'; cases hy'
        exact fun e => ho e.symm
  · obtain ⟨o, ho, rfl, ht⟩ := mem_spread hc
    refine .inr (.inr (.inr (.inr ⟨.inl rfl, z, hz, ?_⟩)))
    by_cases hown : z.owner = ownName s o
    · exact own_at hs ho hown
    · exfalso
      apply hsame
      rw [skew_same (fun y hy => by rw [hz] at hy; cases hy; exact hown)]
      exact in_spread hok ho ht
  · obtain ⟨o, ho, rfl⟩ := mem_min hc
    refine .inr (.inr (.inr (.inr ⟨.inr rfl, z, hz, ?_⟩)))
    by_cases hown : z.owner = ownName s o
    · exact own_at hs ho hown
    · exfalso
      apply hsame
      have : minC1 s (p.set i v) o = minC1 s p o := by
        unfold minC1
        rw [placed_same (fun y hy => by rw [hz] at hy; cases hy; exact hown)]
      rw [this]
      exact in_min hok ho
theorem find_nn (s : Snap) (p : List Int) (c : Clause) : 0 ≤ findC (allL s p) c := by
  unfold findC
  split
  · rename_i d hd
    exact ((allL_rng s p).2 d (List.mem_of_find?_eq_some hd)).1
  · exact Int.le_refl 0
theorem near_step {s : Snap} {p q : List Int} {x : Step} {c : Clause} {e : Int} (hok : checkP s p = 0) (h : stepV s p x = (q, c, e)) :
    (c.kind = 0 ∧ (e ≠ 100 ∨ (x.kind = 2 ∧ cordonAt s x.node = true))) ∨ (nearC s p x c ∧ e = 100 ∧ 0 < c.by_) := by
  unfold stepV at h
  split at h
  · rename_i h1
    cases h
    refine .inl ⟨rfl, .inl ?_⟩
    unfold applyP
    have e1 : z0 (checkP s p) = true := by simp [z0, hok]
    simp only [e1, Bool.not_true, Bool.false_eq_true, if_false]
    split
    · decide
    · split
      · decide
      · split <;> simp
  · rename_i h1
    have h1 : (applyP s p x).2 = 0 := Classical.not_not.1 h1
    split at h
    · rename_i h2
      cases h
      exact .inl ⟨rfl, .inr h2⟩
    · obtain ⟨hq, _, _⟩ := apply_check h1
      rw [worse_ok hok hq] at h
      split at h
      · rename_i c' r hcr
        cases h
        have hm : c ∈ (allL s (applyP s p x).1).filter (worseF (allL s p)) := by
          have : c ∈ c :: r := by simp
          rw [← hcr] at this; exact this
        obtain ⟨hm1, hm2⟩ := List.mem_filter.1 hm
        have hm2 : findC (allL s p) c < c.by_ := by simpa [worseF] using hm2
        have := find_nn s p c
        exact .inr ⟨near_worse h1 hm1 hm2, rfl, by omega⟩
      · cases h
        exact .inl ⟨rfl, .inl (by simp)⟩
end Go.Dr
namespace Go.Dr
section
variable {C : Cx} {R : Rg} {Q : Post} {S S' : SHeap} {M M' : List MEnt} {e : Env} {rest : List Nat}
variable {d : Nat} {ty : TypeId} {pos : String} {aft : Array Edge} {g : Option (Nat × Bool)} {an : Bool}
theorem JPure.cat {t t' : TypeId} {x y : Operand} {a b : ByteArray} (hx : ev e x = some (.string a)) (hy : ev e y = some (.string b)) (ha : a.size ≤ big) (hb : b.size ≤ big) (hdN : Nat.blt d C.N = true)
    (k : JO C R rest Q S M ((d, .string (a ++ b)) :: e)) : JPure C R an ⟨some d, .binOp .add t x y t', ty, pos, aft, g⟩ rest Q S M e :=
  JPure.of rfl hdN (fun act w' h => by
    have e1 : binOp .add t (.string a) (.string b) = Op.stringOp .add a b := by simp [binOp]
    have h2 : ¬ ((a.size + b.size : Nat) : Int) > IntKind.i64.max := by
      unfold big at ha hb
      have : IntKind.i64.max = 9223372036854775807 := by decide
      rw [this]; omega
    have e2 : (binOp .add t (.string a) (.string b)).run C.P w' = .ok (.string (a ++ b)) w' := by rw [e1]; simp only [Op.stringOp, if_neg h2, Sem.run_pure]
    rw [e1] at e2
    simp only [execOp, h.eval hx, h.eval hy]
    simp [go_sem, eqGuard, e2]) k
end
theorem cat_none {a b c : ByteArray} (hc : c = ⟨#[]⟩) : decide (a ++ b = c) = (decide (a = c) && decide (b = c)) := by
  subst hc
  have key : a ++ b = ⟨#[]⟩ ↔ a = ⟨#[]⟩ ∧ b = ⟨#[]⟩ := by
    constructor
    · intro h
      have h1 := congrArg ByteArray.size h
      rw [ByteArray.size_append] at h1
      have h0 : ByteArray.size ⟨#[]⟩ = 0 := rfl
      rw [h0] at h1
      have e0 : ∀ z : ByteArray, z.size = 0 → z = ⟨#[]⟩ := fun z hz => by
        cases z with | mk d => cases d with | mk l => cases l with
          | nil => rfl
          | cons _ _ => simp [ByteArray.size] at hz
      exact ⟨e0 a (by omega), e0 b (by omega)⟩
    · rintro ⟨rfl, rfl⟩; rfl
  rw [Bool.eq_iff_iff]
  simp [key]
end Go.Dr
namespace Go.Dr
open Go.Proofs
set_option maxRecDepth 20000
set_option maxHeartbeats 2000000
set_option linter.unusedSimpArgs false
set_option linter.unusedVariables false
theorem next_facts {s : Snap} {p : List Int} {x : Step} (hp : 0 < p.length) (hn : 0 < s.nodes.length) : 0 ≤ (nextV s p x).pod ∧ (nextV s p x).pod < p.length ∧ 0 ≤ (nextV s p x).node ∧ (nextV s p x).node < s.nodes.length ∧
    (((nextV s p x).kind = 1 ∧ (nextV s p x).node = 0 ∧ 0 ≤ at0 p (nextV s p x).pod.toNat) ∨ ((nextV s p x).kind = 2 ∧ at0 p (nextV s p x).pod.toNat < 0)) := by
  have hbp := bring_rng x.pod (show (0 : Int) < (p.length : Int) by omega)
  have hbn := bring_rng x.node (show (0 : Int) < (s.nodes.length : Int) by omega)
  unfold nextV
  split
  · rename_i h; exact ⟨hbp.1, hbp.2, Int.le_refl _, by dsimp only; omega, .inl ⟨rfl, rfl, h⟩⟩
  · rename_i h; exact ⟨hbp.1, hbp.2, hbn.1, hbn.2, .inr ⟨rfl, by dsimp only at h ⊢; omega⟩⟩
theorem w10_name {S : SHeap} {u : Value} {s : Snap} {pod : Int} {x : Pod} (h0 : 0 ≤ pod) (hx : s.pods[pod.toNat]? = some x) (hi : pod ≤ 1000) (ho : s.owners.length ≤ 1000) (hu : rSnap.V S u s) : FnV Tryz.prog 56 #[u, .int .i64 pod] S (.int .i64 (idxF (fun o => decide (o.name = x.owner)) s.owners)) := by
  obtain ⟨i, rfl⟩ : ∃ i : Nat, pod = i := ⟨pod.toNat, by omega⟩
  exact q10_name hu (by simpa using hx) (by omega) ho
theorem s14_L10i {P K : Prop} (k : K) (h : Goal K → P := by
  intro zk
  (first | refine Walk ?_ | refine JC.block ?_ | refine JC.drawN 19 rfl [0, 1, 2, 3, 4, 5, 6, 7, 8, 9, 10, 11, 12, 13, 14, 15, 16, 17, 18, 19, 20, 21, 22, 23, 24, 25, 26, 27, 28, 29, 30] [0, 1, 2, 3, 4, 5, 6, 7, 8, 9, 10, 11, 12, 13, 14, 15, 16, 17, 18, 19, 20, 21, 22, 23, 24, 25, 26, 27, 28, 29, 30] Tryz_mixed (by decide +kernel) ?_ | refine JC.drawN 21 rfl [0, 1, 2, 3, 4, 5, 6, 7, 8, 9, 10, 11, 12, 13, 14, 15, 16, 17, 18, 19, 20, 21, 22, 23, 24, 25, 26, 27, 28, 29, 30, 31, 32] [0, 1, 2, 3, 4, 5, 6, 7, 8, 9, 10, 11, 12, 13, 14, 15, 16, 17, 18, 19, 20, 21, 22, 23, 24, 25, 26, 27, 28, 29, 30, 31, 32] Tryz_mixed (by decide +kernel) ?_ | refine JC.drawN 9 rfl [0, 1, 2, 3, 4, 5, 6, 7] [2, 3, 4, 6, 7] Tryz_mixed (by decide +kernel) ?_ | (refine JO.eff rfl rfl rfl (JEff.callV rfl (p7_Check (by exact vta) (by exact vta)) rfl ?_); intro zqa zqb) | (refine JO.eff rfl rfl rfl (JEff.callR rfl (q10_cut (by exact vta)) rfl ?_); intro zqa zqb zqc zqd) | (refine JO.eff rfl rfl rfl (JEff.callV rfl (q10_works) rfl ?_); intro zqa zqb) | (refine JO.eff rfl rfl rfl (JEff.callL rfl (q10_fitted (by exact vta) (by exact vta) (by first | assumption | omega) (by first | assumption | omega)) rfl ?_); intro zqa zqb zqc zqd zqe zqf) | (refine JO.eff rfl rfl rfl (JEff.callV rfl (q10_next (by exact vta) (by exact vta) (by exact vta) (by assumption) (by assumption) (by assumption) (by assumption)) rfl ?_); intro zqa zqb) | (refine WNew ?_) | (refine WPut ?_))
  (repeat (first | revert zqg | revert zqf | revert zqe | revert zqd | revert zqc | revert zqb | revert zqa))
  exact zk.k) : P := h ⟨k⟩
theorem a10_AdmitNear {S : SHeap} {u v xv : Value} {s : Snap} {l : List Int} {x : Step} (hu : rSnap.V S u s) (hv : (rSlice 8 rI64).V S v l) (hx : rStep.V S xv x) : FnV Tryz.prog 14 #[u, v, xv] S (.bool true) := by
  obtain ⟨cs, rfl, hcs⟩ := V_agg rfl hu
  obtain ⟨xs, rfl, hxs⟩ := V_agg rfl hx
  (refine Fn.enter (args := [.agg cs.toArray, v, .agg xs.toArray]) Tryz.func14 rfl Tryz.ntmps14 rfl ?_; intro w0)
  repeat (refine s14_L10i ?_; intros)
  refine JO.eff rfl rfl rfl (JEff.box rfl rfl ?_); intro bb hbb
  refine JO.eff rfl rfl rfl (JEff.box rfl rfl ?_); intro bx hbx
  repeat (refine s14_L10i ?_; intros)
  refine JO.pure rfl rfl rfl (JPure.loadM (rep := rSnap) (x0 := s) (mid := cs) rfl (by (first | exact List.mem_cons_self | exact List.mem_cons_of_mem _ List.mem_cons_self | exact List.mem_cons_of_mem _ (List.mem_cons_of_mem _ List.mem_cons_self))) (by show cs.take 3 = cs; exact List.take_of_length_le (by rw [rSnap.len hcs]; exact Nat.le_refl _)) (rSnap.mono (by exact lea) hcs) (.inl rfl) rfl ?_)
  refine JO.eff rfl rfl rfl (JEff.callR rfl (q10_cut (Rp.val_V (rSnap.mono (by exact lea) hcs))) rfl ?_); intro cw S1 hl1 hcw
  repeat (refine s14_L10i ?_; intros)
  refine JO.eff rfl rfl rfl (JEff.storeW rfl rfl hcw nna pma (by show 3 = cs.length; exact (rSnap.len hcs).symm) (by intro l hl; cases hl) ?_)
  refine JO.freezeV hcw nna hbb (by intro l hl; cases hl) ?_; intro S2 hl2 hpb
  have hn : (cutS s).nodes.length ≤ 1000 := by simp only [cutS, List.length_take]; omega
  have hpd : (cutS s).pods.length ≤ 1000 := by simp only [cutS, List.length_take]; omega
  have hod : (cutS s).owners.length ≤ 1000 := by simp only [cutS, List.length_take]; omega
  generalize cutS s = s' at *
  have hP := fit_check s' l
  have hfl := fit_len s' l
  repeat (refine s14_L10i ?_; intros)
  by_cases hc : checkP s' (fitV s' l) = 0
  · rw [decide_eq_true hc]
    obtain ⟨_, _, hp24, _, _, _, hpr⟩ := placed_hyps hc
    have hcs0 : checkS s' = 0 := hP.symm.trans hc
    repeat (refine s14_L10i ?_; intros)
    by_cases hp0 : (fitV s' l).length = 0
    · rw [decide_eq_true (show ((fitV s' l).length : Int) = 0 by omega)]
      repeat (refine s14_L10i ?_; intros)
      (refine JX.ret1 Tryz.results14 (ResV.tmp rfl) (List.nil_sublist _) ?_)
      exact ⟨rfl, rfl⟩
    rw [decide_eq_false (show ¬ ((fitV s' l).length : Int) = 0 by omega)]
    repeat (refine s14_L10i ?_; intros)
    by_cases hn0 : s'.nodes.length = 0
    · rw [decide_eq_true (show (s'.nodes.length : Int) = 0 by omega)]
      repeat (refine s14_L10i ?_; intros)
      (refine JX.ret1 Tryz.results14 (ResV.tmp rfl) (List.nil_sublist _) ?_)
      exact ⟨rfl, rfl⟩
    rw [decide_eq_false (show ¬ (s'.nodes.length : Int) = 0 by omega)]
    have hp0' : 0 < (fitV s' l).length := by omega
    have hn0' : 0 < s'.nodes.length := by omega
    have hp1 : (fitV s' l).length ≤ 1000 := by omega
    repeat (refine s14_L10i ?_; intros)
    obtain ⟨f1, f2, f3, f4, f5⟩ := next_facts (x := x) hp0' hn0'
    have hxrng : Rng (nextV s' (fitV s' l) x).kind ∧ Rng (nextV s' (fitV s' l) x).pod ∧ Rng (nextV s' (fitV s' l) x).node := by
      refine ⟨?_, by unfold Rng; omega, by unfold Rng; omega⟩
      rcases f5 with ⟨h, _⟩ | ⟨h, _⟩ <;> rw [h] <;> simp [Rng]
    refine JO.pure rfl rfl rfl (JPure.loadM (rep := rStep) (x0 := x) (mid := xs) rfl (by (first | exact List.mem_cons_self | exact List.mem_cons_of_mem _ List.mem_cons_self | exact List.mem_cons_of_mem _ (List.mem_cons_of_mem _ List.mem_cons_self))) (by show xs.take 3 = xs; exact List.take_of_length_le (by rw [rStep.len hxs]; exact Nat.le_refl _)) (rStep.mono (by exact lea) hxs) (.inl rfl) rfl ?_)
    refine JO.eff rfl rfl rfl (JEff.callV rfl (q10_next (s := s') (p := fitV s' l) (x := x) (by exact vta) (by exact vta) (Rp.val_V (rStep.mono (by exact lea) hxs)) hp0' hp1 hn0' hn) rfl ?_); intro S3 hl3
    generalize nextV s' (fitV s' l) x = y at *
    repeat (refine s14_L10i ?_; intros)
    have hyV := fun S => V_stV (S := S) hxrng
    refine JO.eff rfl rfl rfl (JEff.storeW rfl rfl (hyV _) nna pma (by show 3 = xs.length; exact (rStep.len hxs).symm) (by intro l hl; cases hl) ?_)
    refine JO.freezeV (hyV _) nna hbx (by intro l hl; cases hl) ?_; intro S4 hl4 hpx
    generalize fitV s' l = p at *
    obtain ⟨q, c, e, hst⟩ : ∃ q c e, stepV s' p y = (q, c, e) := ⟨_, _, _, rfl⟩
    have hnear := near_step hc hst
    unfold nearC at hnear
    obtain ⟨ck, ca, cb, cby⟩ := c
    dsimp only at hnear
    obtain ⟨nd, hnd⟩ : ∃ nd, s'.nodes[y.node.toNat]? = some nd := ⟨_, List.getElem?_eq_getElem (by omega)⟩
    obtain ⟨z, hz⟩ : ∃ z, s'.pods[y.pod.toNat]? = some z := ⟨_, List.getElem?_eq_getElem (by omega)⟩
    rcases hnear with ⟨rfl, h0⟩ | ⟨h0, rfl, hby⟩
    · repeat (first | (refine Walk ?_; intros) | refine JC.block ?_ | refine JC.drawN 19 rfl [0, 1, 2, 3, 4, 5, 6, 7, 8, 9, 10, 11, 12, 13, 14, 15, 16, 17, 18, 19, 20, 21, 22, 23, 24, 25, 26, 27, 28, 29, 30] [0, 1, 2, 3, 4, 5, 6, 7, 8, 9, 10, 11, 12, 13, 14, 15, 16, 17, 18, 19, 20, 21, 22, 23, 24, 25, 26, 27, 28, 29, 30] Tryz_mixed (by decide +kernel) ?_ | refine JC.drawN 21 rfl [0, 1, 2, 3, 4, 5, 6, 7, 8, 9, 10, 11, 12, 13, 14, 15, 16, 17, 18, 19, 20, 21, 22, 23, 24, 25, 26, 27, 28, 29, 30, 31, 32] [0, 1, 2, 3, 4, 5, 6, 7, 8, 9, 10, 11, 12, 13, 14, 15, 16, 17, 18, 19, 20, 21, 22, 23, 24, 25, 26, 27, 28, 29, 30, 31, 32] Tryz_mixed (by decide +kernel) ?_ | refine JC.drawN 9 rfl [0, 1, 2, 3, 4, 5, 6, 7] [2, 3, 4, 6, 7] Tryz_mixed (by decide +kernel) ?_ | (refine JO.eff rfl rfl rfl (JEff.callSt rfl (w10_Step hst (by exact vta) (by exact vta) (by exact vta)) rfl ?_); intro _ _ _ _ _ _ _) | (refine JO.eff rfl rfl rfl (JEff.callV rfl (p7_Check (by exact vta) (by exact vta)) rfl ?_); intro _ _) | (refine JO.eff rfl rfl rfl (JEff.callR rfl (q10_cut (by exact vta)) rfl ?_); intro _ _ _ _) | (refine JO.eff rfl rfl rfl (JEff.callV rfl (q10_works) rfl ?_); intro _ _) | (refine JO.eff rfl rfl rfl (JEff.callL rfl (q10_fitted (by exact vta) (by exact vta) (by first | assumption | omega) (by first | assumption | omega)) rfl ?_); intro _ _ _ _ _ _) | (refine JO.eff rfl rfl rfl (JEff.callV rfl (q10_next (by exact vta) (by exact vta) (by exact vta) (by assumption) (by assumption) (by assumption) (by assumption)) rfl ?_); intro _ _) | (refine WNew ?_; intros) | (refine WPut ?_; intros))
      by_cases he : e = 100
      · subst he
        obtain ⟨hk2, hcd⟩ := h0.resolve_left (by simp)
        repeat (refine s14_L10i ?_; intros)
        rw [decide_eq_true hk2]
        repeat (refine s14_L10i ?_; intros)
        have hnc : nd.cordon = true := by unfold cordonAt at hcd; rw [hnd] at hcd; exact hcd
        rw [hnc]
        repeat (refine s14_L10i ?_; intros)
        (refine JX.ret1 Tryz.results14 (ResV.tmp rfl) (List.nil_sublist _) ?_)
        exact ⟨rfl, rfl⟩
      · rw [decide_eq_false he]
        repeat (refine s14_L10i ?_; intros)
        (refine JX.ret1 Tryz.results14 (ResV.tmp rfl) (List.nil_sublist _) ?_)
        exact ⟨rfl, rfl⟩
    · rcases h0 with ⟨rfl, hk2, rfl⟩ | ⟨rfl | rfl, hk2, rfl⟩ | ⟨rfl | rfl, a, w, rfl, ha, hw, hnt⟩ | ⟨rfl, hk2, a, w, z', rfl, ha, hw, hz', how⟩ | ⟨rfl | rfl, z', hz', rfl⟩
      · repeat (first | (refine Walk ?_; intros) | refine JC.block ?_ | refine JC.drawN 19 rfl [0, 1, 2, 3, 4, 5, 6, 7, 8, 9, 10, 11, 12, 13, 14, 15, 16, 17, 18, 19, 20, 21, 22, 23, 24, 25, 26, 27, 28, 29, 30] [0, 1, 2, 3, 4, 5, 6, 7, 8, 9, 10, 11, 12, 13, 14, 15, 16, 17, 18, 19, 20, 21, 22, 23, 24, 25, 26, 27, 28, 29, 30] Tryz_mixed (by decide +kernel) ?_ | refine JC.drawN 21 rfl [0, 1, 2, 3, 4, 5, 6, 7, 8, 9, 10, 11, 12, 13, 14, 15, 16, 17, 18, 19, 20, 21, 22, 23, 24, 25, 26, 27, 28, 29, 30, 31, 32] [0, 1, 2, 3, 4, 5, 6, 7, 8, 9, 10, 11, 12, 13, 14, 15, 16, 17, 18, 19, 20, 21, 22, 23, 24, 25, 26, 27, 28, 29, 30, 31, 32] Tryz_mixed (by decide +kernel) ?_ | refine JC.drawN 9 rfl [0, 1, 2, 3, 4, 5, 6, 7] [2, 3, 4, 6, 7] Tryz_mixed (by decide +kernel) ?_ | (refine JO.eff rfl rfl rfl (JEff.callSt rfl (w10_Step hst (by exact vta) (by exact vta) (by exact vta)) rfl ?_); intro _ _ _ _ _ _ _) | (refine JO.eff rfl rfl rfl (JEff.callV rfl (p7_Check (by exact vta) (by exact vta)) rfl ?_); intro _ _) | (refine JO.eff rfl rfl rfl (JEff.callR rfl (q10_cut (by exact vta)) rfl ?_); intro _ _ _ _) | (refine JO.eff rfl rfl rfl (JEff.callV rfl (q10_works) rfl ?_); intro _ _) | (refine JO.eff rfl rfl rfl (JEff.callL rfl (q10_fitted (by exact vta) (by exact vta) (by first | assumption | omega) (by first | assumption | omega)) rfl ?_); intro _ _ _ _ _ _) | (refine JO.eff rfl rfl rfl (JEff.callV rfl (q10_next (by exact vta) (by exact vta) (by exact vta) (by assumption) (by assumption) (by assumption) (by assumption)) rfl ?_); intro _ _) | (refine WNew ?_; intros) | (refine WPut ?_; intros))
        rw [decide_eq_true hk2]
        repeat (refine s14_L10i ?_; intros)
        rw [decide_eq_true (rfl : y.node = y.node)]
        repeat (refine s14_L10i ?_; intros)
        rw [decide_eq_true hby]
        repeat (refine s14_L10i ?_; intros)
        (refine JX.ret1 Tryz.results14 (ResV.tmp rfl) (List.nil_sublist _) ?_)
        exact ⟨rfl, rfl⟩
      · repeat (first | (refine Walk ?_; intros) | refine JC.block ?_ | refine JC.drawN 19 rfl [0, 1, 2, 3, 4, 5, 6, 7, 8, 9, 10, 11, 12, 13, 14, 15, 16, 17, 18, 19, 20, 21, 22, 23, 24, 25, 26, 27, 28, 29, 30] [0, 1, 2, 3, 4, 5, 6, 7, 8, 9, 10, 11, 12, 13, 14, 15, 16, 17, 18, 19, 20, 21, 22, 23, 24, 25, 26, 27, 28, 29, 30] Tryz_mixed (by decide +kernel) ?_ | refine JC.drawN 21 rfl [0, 1, 2, 3, 4, 5, 6, 7, 8, 9, 10, 11, 12, 13, 14, 15, 16, 17, 18, 19, 20, 21, 22, 23, 24, 25, 26, 27, 28, 29, 30, 31, 32] [0, 1, 2, 3, 4, 5, 6, 7, 8, 9, 10, 11, 12, 13, 14, 15, 16, 17, 18, 19, 20, 21, 22, 23, 24, 25, 26, 27, 28, 29, 30, 31, 32] Tryz_mixed (by decide +kernel) ?_ | refine JC.drawN 9 rfl [0, 1, 2, 3, 4, 5, 6, 7] [2, 3, 4, 6, 7] Tryz_mixed (by decide +kernel) ?_ | (refine JO.eff rfl rfl rfl (JEff.callSt rfl (w10_Step hst (by exact vta) (by exact vta) (by exact vta)) rfl ?_); intro _ _ _ _ _ _ _) | (refine JO.eff rfl rfl rfl (JEff.callV rfl (p7_Check (by exact vta) (by exact vta)) rfl ?_); intro _ _) | (refine JO.eff rfl rfl rfl (JEff.callR rfl (q10_cut (by exact vta)) rfl ?_); intro _ _ _ _) | (refine JO.eff rfl rfl rfl (JEff.callV rfl (q10_works) rfl ?_); intro _ _) | (refine JO.eff rfl rfl rfl (JEff.callL rfl (q10_fitted (by exact vta) (by exact vta) (by first | assumption | omega) (by first | assumption | omega)) rfl ?_); intro _ _ _ _ _ _) | (refine JO.eff rfl rfl rfl (JEff.callV rfl (q10_next (by exact vta) (by exact vta) (by exact vta) (by assumption) (by assumption) (by assumption) (by assumption)) rfl ?_); intro _ _) | (refine WNew ?_; intros) | (refine WPut ?_; intros))
        rw [decide_eq_true hk2]
        repeat (refine s14_L10i ?_; intros)
        rw [decide_eq_true (rfl : y.pod = y.pod)]
        repeat (refine s14_L10i ?_; intros)
        rw [decide_eq_true hby]
        repeat (refine s14_L10i ?_; intros)
        (refine JX.ret1 Tryz.results14 (ResV.tmp rfl) (List.nil_sublist _) ?_)
        exact ⟨rfl, rfl⟩
      · repeat (first | (refine Walk ?_; intros) | refine JC.block ?_ | refine JC.drawN 19 rfl [0, 1, 2, 3, 4, 5, 6, 7, 8, 9, 10, 11, 12, 13, 14, 15, 16, 17, 18, 19, 20, 21, 22, 23, 24, 25, 26, 27, 28, 29, 30] [0, 1, 2, 3, 4, 5, 6, 7, 8, 9, 10, 11, 12, 13, 14, 15, 16, 17, 18, 19, 20, 21, 22, 23, 24, 25, 26, 27, 28, 29, 30] Tryz_mixed (by decide +kernel) ?_ | refine JC.drawN 21 rfl [0, 1, 2, 3, 4, 5, 6, 7, 8, 9, 10, 11, 12, 13, 14, 15, 16, 17, 18, 19, 20, 21, 22, 23, 24, 25, 26, 27, 28, 29, 30, 31, 32] [0, 1, 2, 3, 4, 5, 6, 7, 8, 9, 10, 11, 12, 13, 14, 15, 16, 17, 18, 19, 20, 21, 22, 23, 24, 25, 26, 27, 28, 29, 30, 31, 32] Tryz_mixed (by decide +kernel) ?_ | refine JC.drawN 9 rfl [0, 1, 2, 3, 4, 5, 6, 7] [2, 3, 4, 6, 7] Tryz_mixed (by decide +kernel) ?_ | (refine JO.eff rfl rfl rfl (JEff.callSt rfl (w10_Step hst (by exact vta) (by exact vta) (by exact vta)) rfl ?_); intro _ _ _ _ _ _ _) | (refine JO.eff rfl rfl rfl (JEff.callV rfl (p7_Check (by exact vta) (by exact vta)) rfl ?_); intro _ _) | (refine JO.eff rfl rfl rfl (JEff.callR rfl (q10_cut (by exact vta)) rfl ?_); intro _ _ _ _) | (refine JO.eff rfl rfl rfl (JEff.callV rfl (q10_works) rfl ?_); intro _ _) | (refine JO.eff rfl rfl rfl (JEff.callL rfl (q10_fitted (by exact vta) (by exact vta) (by first | assumption | omega) (by first | assumption | omega)) rfl ?_); intro _ _ _ _ _ _) | (refine JO.eff rfl rfl rfl (JEff.callV rfl (q10_next (by exact vta) (by exact vta) (by exact vta) (by assumption) (by assumption) (by assumption) (by assumption)) rfl ?_); intro _ _) | (refine WNew ?_; intros) | (refine WPut ?_; intros))
        rw [decide_eq_true hk2]
        repeat (refine s14_L10i ?_; intros)
        rw [decide_eq_true (rfl : y.pod = y.pod)]
        repeat (refine s14_L10i ?_; intros)
        rw [decide_eq_true hby]
        repeat (refine s14_L10i ?_; intros)
        (refine JX.ret1 Tryz.results14 (ResV.tmp rfl) (List.nil_sublist _) ?_)
        exact ⟨rfl, rfl⟩
      · repeat (first | (refine Walk ?_; intros) | refine JC.block ?_ | refine JC.drawN 19 rfl [0, 1, 2, 3, 4, 5, 6, 7, 8, 9, 10, 11, 12, 13, 14, 15, 16, 17, 18, 19, 20, 21, 22, 23, 24, 25, 26, 27, 28, 29, 30] [0, 1, 2, 3, 4, 5, 6, 7, 8, 9, 10, 11, 12, 13, 14, 15, 16, 17, 18, 19, 20, 21, 22, 23, 24, 25, 26, 27, 28, 29, 30] Tryz_mixed (by decide +kernel) ?_ | refine JC.drawN 21 rfl [0, 1, 2, 3, 4, 5, 6, 7, 8, 9, 10, 11, 12, 13, 14, 15, 16, 17, 18, 19, 20, 21, 22, 23, 24, 25, 26, 27, 28, 29, 30, 31, 32] [0, 1, 2, 3, 4, 5, 6, 7, 8, 9, 10, 11, 12, 13, 14, 15, 16, 17, 18, 19, 20, 21, 22, 23, 24, 25, 26, 27, 28, 29, 30, 31, 32] Tryz_mixed (by decide +kernel) ?_ | refine JC.drawN 9 rfl [0, 1, 2, 3, 4, 5, 6, 7] [2, 3, 4, 6, 7] Tryz_mixed (by decide +kernel) ?_ | (refine JO.eff rfl rfl rfl (JEff.callSt rfl (w10_Step hst (by exact vta) (by exact vta) (by exact vta)) rfl ?_); intro _ _ _ _ _ _ _) | (refine JO.eff rfl rfl rfl (JEff.callV rfl (p7_Check (by exact vta) (by exact vta)) rfl ?_); intro _ _) | (refine JO.eff rfl rfl rfl (JEff.callR rfl (q10_cut (by exact vta)) rfl ?_); intro _ _ _ _) | (refine JO.eff rfl rfl rfl (JEff.callV rfl (q10_works) rfl ?_); intro _ _) | (refine JO.eff rfl rfl rfl (JEff.callL rfl (q10_fitted (by exact vta) (by exact vta) (by first | assumption | omega) (by first | assumption | omega)) rfl ?_); intro _ _ _ _ _ _) | (refine JO.eff rfl rfl rfl (JEff.callV rfl (q10_next (by exact vta) (by exact vta) (by exact vta) (by assumption) (by assumption) (by assumption) (by assumption)) rfl ?_); intro _ _) | (refine WNew ?_; intros) | (refine WPut ?_; intros))
        rw [decide_eq_true (show (0 : Int) ≤ (a : Int) by omega)]
        repeat (refine s14_L10i ?_; intros)
        rw [decide_eq_true (show (a : Int) < (p.length : Int) by omega)]
        have hw' : s'.pods[((a : Int)).toNat]? = some w := by rw [Int.toNat_natCast]; exact hw
        have hpl : (a : Int) < (s'.pods.length : Int) := by omega
        repeat (refine s14_L10i ?_; intros)
        refine JO.pure rfl rfl rfl (JPure.cat rfl rfl (by assumption) (by assumption) rfl ?_)
        have hcat : decide (w.with_.topo ++ w.apart.topo = ⟨#[]⟩) = false := by
          rw [cat_none rfl]
          by_cases h1 : w.with_.topo = ⟨#[]⟩
          · rw [decide_eq_false (show ¬ w.apart.topo = ⟨#[]⟩ from fun h2 => hnt ⟨h1, h2⟩)]; simp
          · rw [decide_eq_false h1]; rfl
        repeat (refine s14_L10i ?_; intros)
        rw [hcat]
        repeat (refine s14_L10i ?_; intros)
        rw [decide_eq_true hby]
        repeat (refine s14_L10i ?_; intros)
        (refine JX.ret1 Tryz.results14 (ResV.tmp rfl) (List.nil_sublist _) ?_)
        exact ⟨rfl, rfl⟩
      · repeat (first | (refine Walk ?_; intros) | refine JC.block ?_ | refine JC.drawN 19 rfl [0, 1, 2, 3, 4, 5, 6, 7, 8, 9, 10, 11, 12, 13, 14, 15, 16, 17, 18, 19, 20, 21, 22, 23, 24, 25, 26, 27, 28, 29, 30] [0, 1, 2, 3, 4, 5, 6, 7, 8, 9, 10, 11, 12, 13, 14, 15, 16, 17, 18, 19, 20, 21, 22, 23, 24, 25, 26, 27, 28, 29, 30] Tryz_mixed (by decide +kernel) ?_ | refine JC.drawN 21 rfl [0, 1, 2, 3, 4, 5, 6, 7, 8, 9, 10, 11, 12, 13, 14, 15, 16, 17, 18, 19, 20, 21, 22, 23, 24, 25, 26, 27, 28, 29, 30, 31, 32] [0, 1, 2, 3, 4, 5, 6, 7, 8, 9, 10, 11, 12, 13, 14, 15, 16, 17, 18, 19, 20, 21, 22, 23, 24, 25, 26, 27, 28, 29, 30, 31, 32] Tryz_mixed (by decide +kernel) ?_ | refine JC.drawN 9 rfl [0, 1, 2, 3, 4, 5, 6, 7] [2, 3, 4, 6, 7] Tryz_mixed (by decide +kernel) ?_ | (refine JO.eff rfl rfl rfl (JEff.callSt rfl (w10_Step hst (by exact vta) (by exact vta) (by exact vta)) rfl ?_); intro _ _ _ _ _ _ _) | (refine JO.eff rfl rfl rfl (JEff.callV rfl (p7_Check (by exact vta) (by exact vta)) rfl ?_); intro _ _) | (refine JO.eff rfl rfl rfl (JEff.callR rfl (q10_cut (by exact vta)) rfl ?_); intro _ _ _ _) | (refine JO.eff rfl rfl rfl (JEff.callV rfl (q10_works) rfl ?_); intro _ _) | (refine JO.eff rfl rfl rfl (JEff.callL rfl (q10_fitted (by exact vta) (by exact vta) (by first | assumption | omega) (by first | assumption | omega)) rfl ?_); intro _ _ _ _ _ _) | (refine JO.eff rfl rfl rfl (JEff.callV rfl (q10_next (by exact vta) (by exact vta) (by exact vta) (by assumption) (by assumption) (by assumption) (by assumption)) rfl ?_); intro _ _) | (refine WNew ?_; intros) | (refine WPut ?_; intros))
        rw [decide_eq_true (show (0 : Int) ≤ (a : Int) by omega)]
        repeat (refine s14_L10i ?_; intros)
        rw [decide_eq_true (show (a : Int) < (p.length : Int) by omega)]
        have hw' : s'.pods[((a : Int)).toNat]? = some w := by rw [Int.toNat_natCast]; exact hw
        have hpl : (a : Int) < (s'.pods.length : Int) := by omega
        repeat (refine s14_L10i ?_; intros)
        refine JO.pure rfl rfl rfl (JPure.cat rfl rfl (by assumption) (by assumption) rfl ?_)
        have hcat : decide (w.with_.topo ++ w.apart.topo = ⟨#[]⟩) = false := by
          rw [cat_none rfl]
          by_cases h1 : w.with_.topo = ⟨#[]⟩
          · rw [decide_eq_false (show ¬ w.apart.topo = ⟨#[]⟩ from fun h2 => hnt ⟨h1, h2⟩)]; simp
          · rw [decide_eq_false h1]; rfl
        repeat (refine s14_L10i ?_; intros)
        rw [hcat]
        repeat (refine s14_L10i ?_; intros)
        rw [decide_eq_true hby]
        repeat (refine s14_L10i ?_; intros)
        (refine JX.ret1 Tryz.results14 (ResV.tmp rfl) (List.nil_sublist _) ?_)
        exact ⟨rfl, rfl⟩
      · repeat (first | (refine Walk ?_; intros) | refine JC.block ?_ | refine JC.drawN 19 rfl [0, 1, 2, 3, 4, 5, 6, 7, 8, 9, 10, 11, 12, 13, 14, 15, 16, 17, 18, 19, 20, 21, 22, 23, 24, 25, 26, 27, 28, 29, 30] [0, 1, 2, 3, 4, 5, 6, 7, 8, 9, 10, 11, 12, 13, 14, 15, 16, 17, 18, 19, 20, 21, 22, 23, 24, 25, 26, 27, 28, 29, 30] Tryz_mixed (by decide +kernel) ?_ | refine JC.drawN 21 rfl [0, 1, 2, 3, 4, 5, 6, 7, 8, 9, 10, 11, 12, 13, 14, 15, 16, 17, 18, 19, 20, 21, 22, 23, 24, 25, 26, 27, 28, 29, 30, 31, 32] [0, 1, 2, 3, 4, 5, 6, 7, 8, 9, 10, 11, 12, 13, 14, 15, 16, 17, 18, 19, 20, 21, 22, 23, 24, 25, 26, 27, 28, 29, 30, 31, 32] Tryz_mixed (by decide +kernel) ?_ | refine JC.drawN 9 rfl [0, 1, 2, 3, 4, 5, 6, 7] [2, 3, 4, 6, 7] Tryz_mixed (by decide +kernel) ?_ | (refine JO.eff rfl rfl rfl (JEff.callSt rfl (w10_Step hst (by exact vta) (by exact vta) (by exact vta)) rfl ?_); intro _ _ _ _ _ _ _) | (refine JO.eff rfl rfl rfl (JEff.callV rfl (p7_Check (by exact vta) (by exact vta)) rfl ?_); intro _ _) | (refine JO.eff rfl rfl rfl (JEff.callR rfl (q10_cut (by exact vta)) rfl ?_); intro _ _ _ _) | (refine JO.eff rfl rfl rfl (JEff.callV rfl (q10_works) rfl ?_); intro _ _) | (refine JO.eff rfl rfl rfl (JEff.callL rfl (q10_fitted (by exact vta) (by exact vta) (by first | assumption | omega) (by first | assumption | omega)) rfl ?_); intro _ _ _ _ _ _) | (refine JO.eff rfl rfl rfl (JEff.callV rfl (q10_next (by exact vta) (by exact vta) (by exact vta) (by assumption) (by assumption) (by assumption) (by assumption)) rfl ?_); intro _ _) | (refine WNew ?_; intros) | (refine WPut ?_; intros))
        rw [decide_eq_true (show (0 : Int) ≤ (a : Int) by omega)]
        repeat (refine s14_L10i ?_; intros)
        rw [decide_eq_true (show (a : Int) < (p.length : Int) by omega)]
        have hw' : s'.pods[((a : Int)).toNat]? = some w := by rw [Int.toNat_natCast]; exact hw
        have hpl : (a : Int) < (s'.pods.length : Int) := by omega
        repeat (refine s14_L10i ?_; intros)
        rw [decide_eq_true how]
        repeat (refine s14_L10i ?_; intros)
        rw [decide_eq_true hk2]
        repeat (refine s14_L10i ?_; intros)
        rw [decide_eq_true hby]
        repeat (refine s14_L10i ?_; intros)
        (refine JX.ret1 Tryz.results14 (ResV.tmp rfl) (List.nil_sublist _) ?_)
        exact ⟨rfl, rfl⟩
      · repeat (first | (refine Walk ?_; intros) | refine JC.block ?_ | refine JC.drawN 19 rfl [0, 1, 2, 3, 4, 5, 6, 7, 8, 9, 10, 11, 12, 13, 14, 15, 16, 17, 18, 19, 20, 21, 22, 23, 24, 25, 26, 27, 28, 29, 30] [0, 1, 2, 3, 4, 5, 6, 7, 8, 9, 10, 11, 12, 13, 14, 15, 16, 17, 18, 19, 20, 21, 22, 23, 24, 25, 26, 27, 28, 29, 30] Tryz_mixed (by decide +kernel) ?_ | refine JC.drawN 21 rfl [0, 1, 2, 3, 4, 5, 6, 7, 8, 9, 10, 11, 12, 13, 14, 15, 16, 17, 18, 19, 20, 21, 22, 23, 24, 25, 26, 27, 28, 29, 30, 31, 32] [0, 1, 2, 3, 4, 5, 6, 7, 8, 9, 10, 11, 12, 13, 14, 15, 16, 17, 18, 19, 20, 21, 22, 23, 24, 25, 26, 27, 28, 29, 30, 31, 32] Tryz_mixed (by decide +kernel) ?_ | refine JC.drawN 9 rfl [0, 1, 2, 3, 4, 5, 6, 7] [2, 3, 4, 6, 7] Tryz_mixed (by decide +kernel) ?_ | (refine JO.eff rfl rfl rfl (JEff.callSt rfl (w10_Step hst (by exact vta) (by exact vta) (by exact vta)) rfl ?_); intro _ _ _ _ _ _ _) | (refine JO.eff rfl rfl rfl (JEff.callV rfl (w10_name f1 hz' (by omega) hod (by exact vta)) rfl ?_); intro _ _) | (refine JO.eff rfl rfl rfl (JEff.callV rfl (p7_Check (by exact vta) (by exact vta)) rfl ?_); intro _ _) | (refine JO.eff rfl rfl rfl (JEff.callR rfl (q10_cut (by exact vta)) rfl ?_); intro _ _ _ _) | (refine JO.eff rfl rfl rfl (JEff.callV rfl (q10_works) rfl ?_); intro _ _) | (refine JO.eff rfl rfl rfl (JEff.callL rfl (q10_fitted (by exact vta) (by exact vta) (by first | assumption | omega) (by first | assumption | omega)) rfl ?_); intro _ _ _ _ _ _) | (refine JO.eff rfl rfl rfl (JEff.callV rfl (q10_next (by exact vta) (by exact vta) (by exact vta) (by assumption) (by assumption) (by assumption) (by assumption)) rfl ?_); intro _ _) | (refine WNew ?_; intros) | (refine WPut ?_; intros))
        rw [decide_eq_true (rfl : idxF (fun o => decide (o.name = z'.owner)) s'.owners = idxF (fun o => decide (o.name = z'.owner)) s'.owners)]
        repeat (refine s14_L10i ?_; intros)
        rw [decide_eq_true hby]
        repeat (refine s14_L10i ?_; intros)
        (refine JX.ret1 Tryz.results14 (ResV.tmp rfl) (List.nil_sublist _) ?_)
        exact ⟨rfl, rfl⟩
      · repeat (first | (refine Walk ?_; intros) | refine JC.block ?_ | refine JC.drawN 19 rfl [0, 1, 2, 3, 4, 5, 6, 7, 8, 9, 10, 11, 12, 13, 14, 15, 16, 17, 18, 19, 20, 21, 22, 23, 24, 25, 26, 27, 28, 29, 30] [0, 1, 2, 3, 4, 5, 6, 7, 8, 9, 10, 11, 12, 13, 14, 15, 16, 17, 18, 19, 20, 21, 22, 23, 24, 25, 26, 27, 28, 29, 30] Tryz_mixed (by decide +kernel) ?_ | refine JC.drawN 21 rfl [0, 1, 2, 3, 4, 5, 6, 7, 8, 9, 10, 11, 12, 13, 14, 15, 16, 17, 18, 19, 20, 21, 22, 23, 24, 25, 26, 27, 28, 29, 30, 31, 32] [0, 1, 2, 3, 4, 5, 6, 7, 8, 9, 10, 11, 12, 13, 14, 15, 16, 17, 18, 19, 20, 21, 22, 23, 24, 25, 26, 27, 28, 29, 30, 31, 32] Tryz_mixed (by decide +kernel) ?_ | refine JC.drawN 9 rfl [0, 1, 2, 3, 4, 5, 6, 7] [2, 3, 4, 6, 7] Tryz_mixed (by decide +kernel) ?_ | (refine JO.eff rfl rfl rfl (JEff.callSt rfl (w10_Step hst (by exact vta) (by exact vta) (by exact vta)) rfl ?_); intro _ _ _ _ _ _ _) | (refine JO.eff rfl rfl rfl (JEff.callV rfl (w10_name f1 hz' (by omega) hod (by exact vta)) rfl ?_); intro _ _) | (refine JO.eff rfl rfl rfl (JEff.callV rfl (p7_Check (by exact vta) (by exact vta)) rfl ?_); intro _ _) | (refine JO.eff rfl rfl rfl (JEff.callR rfl (q10_cut (by exact vta)) rfl ?_); intro _ _ _ _) | (refine JO.eff rfl rfl rfl (JEff.callV rfl (q10_works) rfl ?_); intro _ _) | (refine JO.eff rfl rfl rfl (JEff.callL rfl (q10_fitted (by exact vta) (by exact vta) (by first | assumption | omega) (by first | assumption | omega)) rfl ?_); intro _ _ _ _ _ _) | (refine JO.eff rfl rfl rfl (JEff.callV rfl (q10_next (by exact vta) (by exact vta) (by exact vta) (by assumption) (by assumption) (by assumption) (by assumption)) rfl ?_); intro _ _) | (refine WNew ?_; intros) | (refine WPut ?_; intros))
        rw [decide_eq_true (rfl : idxF (fun o => decide (o.name = z'.owner)) s'.owners = idxF (fun o => decide (o.name = z'.owner)) s'.owners)]
        repeat (refine s14_L10i ?_; intros)
        rw [decide_eq_true hby]
        repeat (refine s14_L10i ?_; intros)
        (refine JX.ret1 Tryz.results14 (ResV.tmp rfl) (List.nil_sublist _) ?_)
        exact ⟨rfl, rfl⟩
  · rw [decide_eq_false hc]
    repeat (refine s14_L10i ?_; intros)
    (refine JX.ret1 Tryz.results14 (ResV.tmp rfl) (List.nil_sublist _) ?_)
    exact ⟨rfl, rfl⟩
end Go.Dr
