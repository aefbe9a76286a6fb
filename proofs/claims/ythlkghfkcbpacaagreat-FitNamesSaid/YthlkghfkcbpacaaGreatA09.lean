/- Part 10 of the rules and of the walks that the proofs of this seat rest on; no condition. -/
import Derived.Test.YthlkghfkcbpacaaGreatA08
import Derived.ControlIn
import Derived.Scope
set_option linter.unusedVariables false
set_option linter.unusedSimpArgs false
namespace Go.Dr
open Go.Proofs
set_option maxRecDepth 20000
set_option maxHeartbeats 2000000
set_option linter.unusedSimpArgs false
set_option linter.unusedVariables false
theorem noC_rng : Rng noC.kind ∧ Rng noC.a ∧ Rng noC.b ∧ Rng noC.by_ := by simp [noC, Rng]
theorem V_noC {S : SHeap} : rClause.V S (.agg (flatCells [.int .i64 0, .int .i64 0, .int .i64 0, .int .i64 0]).toArray) noC := V_clause.2 ⟨by simp [flatCells, Value.cells, noC], noC_rng⟩
theorem apply_ok {s : Snap} {p : List Int} {x : Step} (h : (applyP s p x).2 = 0) : checkP s p = 0 ∧ (x.kind = 2 → 0 ≤ x.node ∧ x.node < s.nodes.length) := by
  unfold applyP at h
  split at h
  · rename_i h1; simp [z0] at h1; exact absurd h h1
  · rename_i h1
    have h1 : checkP s p = 0 := by simpa [z0] using h1
    refine ⟨h1, fun hk => ?_⟩
    split at h
    · cases h
    · split at h
      · cases h
      · rename_i h3
        simp [hk] at h3
        omega
theorem s60_L10r {P K : Prop} (k : K) (h : Goal K → P := by
  intro zk
  (first | refine Walk ?_ | refine JC.block ?_ | refine JC.drawN 8 rfl [0, 1, 2, 3, 4, 5] [0, 1, 2, 3, 5] Tryz_mixed (by decide +kernel) ?_ | (refine JO.eff rfl rfl rfl (JEff.callLE rfl (r7_Apply (by exact vta) (by exact vta) (by exact vta)) rfl ?_); intro zqa zqb zqc zqd zqe zqf) | (refine JO.eff rfl rfl rfl (JEff.callLE rfl (r9_Worse (by exact vta) (by exact vta) (by exact vta)) rfl ?_); intro zqa zqb zqc zqd zqe zqf) | (refine WBox ?_))
  (repeat (first | revert zqg | revert zqf | revert zqe | revert zqd | revert zqc | revert zqb | revert zqa))
  exact zk.k) : P := h ⟨k⟩
theorem r10_Step {S : SHeap} {u v xv : Value} {s : Snap} {p : List Int} {x : Step} (hu : rSnap.V S u s) (hv : (rSlice 8 rI64).V S v p) (hx : rStep.V S xv x) :
    FnSt Tryz.prog 60 #[u, v, xv] S (stepV s p x).1 (stepV s p x).2.1 (.int .i64 (stepV s p x).2.2) := by
  (refine Fn.enter (args := [u, v, xv]) Tryz.func60 rfl Tryz.ntmps60 rfl ?_; intro w0)
  repeat (refine s60_L10r ?_; intros)
  (refine JO.eff rfl rfl rfl (JEff.alloc rfl ?_); intro b7 hb7)
  repeat (refine s60_L10r ?_; intros)
  refine JC.cond rfl (fun he => ?_) (fun he => ?_)
  · have he : ¬ (applyP s p x).2 = 0 := by simpa using he
    have hN := V_noC (S := S)
    repeat (refine s60_L10r ?_; intros)
    (refine JO.eff rfl rfl rfl (JEff.storeW rfl rfl (by exact vta) nna pma rfl (by intro l hl; cases hl) ?_))
    repeat (refine s60_L10r ?_; intros)
    refine JX.ret3 Tryz.results60 (ResV.tmp rfl) (ResV.clause (S1 := S) rfl (by (first | exact List.mem_cons_self | exact List.mem_cons_of_mem _ List.mem_cons_self | exact List.mem_cons_of_mem _ (List.mem_cons_of_mem _ List.mem_cons_self))) V_noC) (ResV.tmp rfl) (List.nil_sublist _) ?_
    unfold stepV
    rw [if_pos he]
    exact ⟨rfl, _, rfl, V_nil, V_clV noC_rng⟩
  have he : (applyP s p x).2 = 0 := by simpa using he
  have he' : ¬ ¬ (applyP s p x).2 = 0 := by simpa using he
  obtain ⟨hok, hnode⟩ := apply_ok he
  by_cases hk : x.kind = 2
  · obtain ⟨h0, h1⟩ := hnode hk
    obtain ⟨nd, hnd, _⟩ := drop_at (l := s.nodes) (show x.node.toNat < s.nodes.length by omega)
    have hco : cordonAt s x.node = nd.cordon := by simp [cordonAt, hnd]
    repeat (refine s60_L10r ?_; intros)
    refine JO.guard rfl rfl rfl rfl (fun g1 => ?_) (fun g1 => ?_)
    · repeat (refine s60_L10r ?_; intros)
      refine JC.cond rfl (fun g2 => ?_) (fun g2 => ?_)
      · have hN := V_noC (S := S)
        repeat (refine s60_L10r ?_; intros)
        (refine JO.eff rfl rfl rfl (JEff.storeW rfl rfl (by exact vta) nna pma rfl (by intro l hl; cases hl) ?_))
        repeat (refine s60_L10r ?_; intros)
        refine JX.ret3 Tryz.results60 (ResV.tmp rfl) (ResV.clause (S1 := S) rfl (by (first | exact List.mem_cons_self | exact List.mem_cons_of_mem _ List.mem_cons_self | exact List.mem_cons_of_mem _ (List.mem_cons_of_mem _ List.mem_cons_self))) V_noC) (ResV.tmp rfl) (List.nil_sublist _) ?_
        unfold stepV
        rw [if_neg he', if_pos ⟨hk, by rw [hco]; exact g2⟩]
        exact ⟨rfl, _, rfl, V_nil, V_clV noC_rng⟩
      · have hnc : ¬ (x.kind = 2 ∧ cordonAt s x.node = true) := by rw [hco, g2]; simp
        repeat (refine s60_L10r ?_; intros)
        refine JC.cond rfl (fun g3 => ?_) (fun g3 => ?_)
        · obtain ⟨y, L', hL⟩ : ∃ y L', (worseV s p (applyP s p x).1).1 = y :: L' := by
            cases hh : (worseV s p (applyP s p x).1).1 with
            | nil => rw [hh] at g3; simp at g3
            | cons y L' => exact ⟨y, L', rfl⟩
          have hy0 : (worseV s p (applyP s p x).1).1[(0 : Int).toNat]? = some y := by rw [hL]; rfl
          repeat (refine s60_L10r ?_; intros)
          have hvy := (by assumption : rClause.V _ _ y)
          (refine JO.eff rfl rfl rfl (JEff.storeW rfl rfl (by exact vta) nna pma rfl (by intro l hl; cases hl) ?_))
          repeat (refine s60_L10r ?_; intros)
          refine JX.ret3 Tryz.results60 (ResV.tmp rfl) (ResV.clause rfl (by (first | exact List.mem_cons_self | exact List.mem_cons_of_mem _ List.mem_cons_self | exact List.mem_cons_of_mem _ (List.mem_cons_of_mem _ List.mem_cons_self))) hvy) (ResV.tmp rfl) (List.nil_sublist _) ?_
          unfold stepV
          rw [if_neg he', if_neg hnc, hL]
          exact ⟨rfl, _, rfl, V_nil, V_clV (V_clause.1 hvy).2⟩
        · have hL : (worseV s p (applyP s p x).1).1 = [] := by
            cases hh : (worseV s p (applyP s p x).1).1 with
            | nil => rfl
            | cons y L' => rw [hh] at g3; simp at g3
          have hN := V_noC (S := S)
          repeat (refine s60_L10r ?_; intros)
          (refine JO.eff rfl rfl rfl (JEff.storeW rfl rfl (by exact vta) nna pma rfl (by intro l hl; cases hl) ?_))
          repeat (refine s60_L10r ?_; intros)
          refine JX.ret3 Tryz.results60 (ResV.tmp rfl) (ResV.clause (S1 := S) rfl (by (first | exact List.mem_cons_self | exact List.mem_cons_of_mem _ List.mem_cons_self | exact List.mem_cons_of_mem _ (List.mem_cons_of_mem _ List.mem_cons_self))) V_noC) (ResV.tmp rfl) (List.nil_sublist _) ?_
          unfold stepV
          rw [if_neg he', if_neg hnc, hL]
          exact ⟨rfl, _, rfl, by exact vta, V_clV noC_rng⟩
    · (exfalso; first | (simp only [decide_eq_true_eq, decide_eq_false_iff_not, Bool.not_eq_true', Bool.not_eq_false', Bool.and_eq_true, Bool.or_eq_true, Bool.and_eq_false_iff, Bool.or_eq_false_iff] at *; omega) | (simp_all; done) | (simp_all; omega))
  · have hnc : ¬ (x.kind = 2 ∧ cordonAt s x.node = true) := fun h => hk h.1
    repeat (refine s60_L10r ?_; intros)
    refine JO.guard rfl rfl rfl rfl (fun g1 => ?_) (fun g1 => ?_)
    · (exfalso; first | (simp only [decide_eq_true_eq, decide_eq_false_iff_not, Bool.not_eq_true', Bool.not_eq_false', Bool.and_eq_true, Bool.or_eq_true, Bool.and_eq_false_iff, Bool.or_eq_false_iff] at *; omega) | (simp_all; done) | (simp_all; omega))
    · repeat (refine s60_L10r ?_; intros)
      refine JC.cond rfl (fun g3 => ?_) (fun g3 => ?_)
      · obtain ⟨y, L', hL⟩ : ∃ y L', (worseV s p (applyP s p x).1).1 = y :: L' := by
          cases hh : (worseV s p (applyP s p x).1).1 with
          | nil => rw [hh] at g3; simp at g3
          | cons y L' => exact ⟨y, L', rfl⟩
        have hy0 : (worseV s p (applyP s p x).1).1[(0 : Int).toNat]? = some y := by rw [hL]; rfl
        repeat (refine s60_L10r ?_; intros)
        have hvy := (by assumption : rClause.V _ _ y)
        (refine JO.eff rfl rfl rfl (JEff.storeW rfl rfl (by exact vta) nna pma rfl (by intro l hl; cases hl) ?_))
        repeat (refine s60_L10r ?_; intros)
        refine JX.ret3 Tryz.results60 (ResV.tmp rfl) (ResV.clause rfl (by (first | exact List.mem_cons_self | exact List.mem_cons_of_mem _ List.mem_cons_self | exact List.mem_cons_of_mem _ (List.mem_cons_of_mem _ List.mem_cons_self))) hvy) (ResV.tmp rfl) (List.nil_sublist _) ?_
        unfold stepV
        rw [if_neg he', if_neg hnc, hL]
        exact ⟨rfl, _, rfl, V_nil, V_clV (V_clause.1 hvy).2⟩
      · have hL : (worseV s p (applyP s p x).1).1 = [] := by
          cases hh : (worseV s p (applyP s p x).1).1 with
          | nil => rfl
          | cons y L' => rw [hh] at g3; simp at g3
        have hN := V_noC (S := S)
        repeat (refine s60_L10r ?_; intros)
        (refine JO.eff rfl rfl rfl (JEff.storeW rfl rfl (by exact vta) nna pma rfl (by intro l hl; cases hl) ?_))
        repeat (refine s60_L10r ?_; intros)
        refine JX.ret3 Tryz.results60 (ResV.tmp rfl) (ResV.clause (S1 := S) rfl (by (first | exact List.mem_cons_self | exact List.mem_cons_of_mem _ List.mem_cons_self | exact List.mem_cons_of_mem _ (List.mem_cons_of_mem _ List.mem_cons_self))) V_noC) (ResV.tmp rfl) (List.nil_sublist _) ?_
        unfold stepV
        rw [if_neg he', if_neg hnc, hL]
        exact ⟨rfl, _, rfl, by exact vta, V_clV noC_rng⟩
theorem r10_May {S : SHeap} {u v xv : Value} {s : Snap} {p : List Int} {x : Step} (hu : rSnap.V S u s) (hv : (rSlice 8 rI64).V S v p) (hx : rStep.V S xv x) : FnV Tryz.prog 100 #[u, v, xv] S (.bool (mayV s p x)) := by
  (refine Fn.enter (args := [u, v, xv]) Tryz.func100 rfl Tryz.ntmps100 rfl ?_; intro w0)
  repeat (first | (refine Walk ?_; intros) | refine JC.block ?_ | (refine JO.eff rfl rfl rfl (JEff.callSt rfl (r10_Step (by exact vta) (by exact vta) (by exact vta)) rfl ?_); intro _ _ _ _ _ _ _) | (refine WBox ?_; intros) | (refine WNew ?_; intros) | (refine WPut ?_; intros))
  (refine JX.ret1 Tryz.results100 (ResV.tmp rfl) (List.nil_sublist _) ?_)
  exact ⟨rfl, rfl⟩
def waysK (s : Snap) (p : List Int) (pod : Int) (k : Nat) : List Int := ((List.range k).filter (fun (n : Nat) => mayV s p ⟨2, pod, (n : Int)⟩)).map (fun (n : Nat) => (n : Int))
theorem waysK_step (s : Snap) (p : List Int) (pod : Int) (k : Nat) : waysK s p pod (k + 1) = waysK s p pod k ++ (if mayV s p ⟨2, pod, k⟩ = true then [(k : Int)] else []) := by
  unfold waysK
  rw [List.range_succ, List.filter_append, List.map_append]
  congr 1
  cases h : mayV s p ⟨2, pod, k⟩ <;> simp [List.filter_cons, h]
theorem waysK_len (s : Snap) (p : List Int) (pod : Int) (k : Nat) : (waysK s p pod k).length ≤ k := by
  unfold waysK
  rw [List.length_map]
  exact Nat.le_trans (List.length_filter_le _ _) (by simp)
theorem s59_L10r {P K : Prop} (k : K) (h : Goal K → P := by
  intro zk
  (first | refine Walk ?_ | refine JC.block ?_ | (refine JO.eff rfl rfl rfl (JEff.callV rfl (r10_May (by exact vta) (by exact vta) (by exact vta)) rfl ?_); intro zqa zqb) | (refine WBox ?_))
  (repeat (first | revert zqg | revert zqf | revert zqe | revert zqd | revert zqc | revert zqb | revert zqa))
  exact zk.k) : P := h ⟨k⟩
theorem r10_Ways {S : SHeap} {u v : Value} {s : Snap} {p : List Int} (pod : Int) (hu : rSnap.V S u s) (hv : (rSlice 8 rI64).V S v p) (hn : s.nodes.length ≤ 1000) (hpr : Rng pod) : FnL Tryz.prog 59 #[u, v, .int .i64 pod] S 8 rI64 (waysV s p pod) := by
  (refine Fn.enter (args := [u, v, .int .i64 pod]) Tryz.func59 rfl Tryz.ntmps59 rfl ?_; intro w0)
  repeat (refine s59_L10r ?_; intros)
  (first | refine JC.newRow 3 1 ?_ | refine JO.newRow 3 1 ?_ | refine JX.newRow 3 1 ?_)
  refine JC.loopF (σ := Nat × Option Addr × Nat × List Value) [(1, _), (2, _), (3, _)] (fun q => [(7, .slice q.2.1 ((fun k => waysK s p pod k) q.1).length q.2.2.1), (8, ((fun k => .int .i64 k) q.1))]) (fun q => [.row w0.heap.size 3 (Rp.sz rI64) (.slice q.2.1 ((fun k => waysK s p pod k) q.1).length q.2.2.1) ((fun k => waysK s p pod k) q.1).length (flatCells q.2.2.2)]) (fun Sk q => q.1 ≤ s.nodes.length ∧ allV rI64 Sk q.2.2.2 ((fun k => waysK s p pod k) q.1) ∧ ((fun k => True) q.1)) (fun q => s.nodes.length - q.1) (0, none, 0, []) (by exact sba) (by exact sba) (by first | rfl | simp) (⟨Nat.zero_le _, trivial, trivial⟩) ?_; rintro Sk ⟨k, rak, rck, vsk⟩ hlk ⟨hk, hvk, hik⟩; (try dsimp only at hk hvk hik); dsimp only [List.cons_append, List.nil_append]
  have hfl := waysK_len s p pod k
  repeat (refine s59_L10r ?_; intros)
  refine JC.cond rfl (fun hc => ?_) (fun hc => ?_)
  · have hk' := dlt hc
    have hst := waysK_step s p pod k
    have hxv : rStep.V Sk (.agg (flatCells [.int .i64 2, .int .i64 pod, .int .i64 k]).toArray) ⟨2, pod, k⟩ := V_step.2 ⟨by simp [flatCells, Value.cells], by simp [Rng], hpr, by unfold Rng; dsimp only; omega⟩
    repeat (refine s59_L10r ?_; intros)
    refine JC.cond rfl (fun hf => ?_) (fun hf => ?_)
    · rw [hf, if_pos rfl] at hst
      repeat (refine s59_L10r ?_; intros)
      (refine JO.eff rfl rfl rfl (JEff.build (rep := rI64) (ys := [(k : Int)]) rfl rfl ⟨⟨(V_i64.2 ⟨rfl, by unfold Rng; omega⟩), nna⟩, trivial⟩ rfl rfl rfl rfl ?_); intro bb hbb hvv); (repeat (first | (refine Walk ?_; intros) | refine JC.block ?_)); (refine JO.eff rfl rfl rfl (JEff.appendL (rep := rI64) rfl rfl rfl rfl (List.Perm.swap _ _ _) (by exact hvv.flat) (by intro c hc; exact flat_one (fun v hv => (hvv.size v hv).2) c hc) (by first | omega | (unfold big; omega)) (by unfold big; omega) (by first | exact rowT_ok | (intro l hl; cases hl)) rfl ?_); intro a2 c2; clear hvv hbb)
      repeat (refine s59_L10r ?_; intros)
      exact JX.roundF (k + 1, a2, c2, vsk ++ [(.int .i64 k)]) (by exact lea) ⟨by omega, by (try dsimp only); rw [hst]; exact allV_add (by exact lea) hvk (V_i64.2 ⟨rfl, by unfold Rng; omega⟩) nna, (trivial)⟩ (by (try dsimp only); omega) (by (try dsimp only); rw [hst]; (simp [flat_append] <;> omega)) (by (try dsimp only); rw [hst]; simp only [List.length_append, List.length_cons, List.length_nil]; exact sba) (by exact sba)
    · rw [hf, if_neg (by simp), List.append_nil] at hst
      repeat (refine s59_L10r ?_; intros)
      exact JX.roundF (k + 1, rak, rck, vsk) (by exact lea) ⟨by omega, by (try dsimp only); rw [hst]; exact hvk.mono (by exact lea), (trivial)⟩ (by (try dsimp only); omega) (by (try dsimp only); rw [hst]) (by (try dsimp only); rw [hst]; exact sba) (by exact sba)
  · have hk' := dnlt hc
    obtain rfl : k = s.nodes.length := by omega
    repeat (refine s59_L10r ?_; intros)
    refine JX.freezeRow (rep := rI64) (bt := 8) hvk rfl (by unfold big; omega) (by unfold big; omega) (fun S9 hl9 hV9 => ?_)
    (refine JX.ret1 Tryz.results59 (ResV.tmp rfl) (List.nil_sublist _) ?_)
    exact ⟨rfl, hV9⟩
end Go.Dr
namespace Go.Dr
open Go.Proofs
set_option maxRecDepth 20000
set_option maxHeartbeats 2000000
set_option linter.unusedSimpArgs false
set_option linter.unusedVariables false
theorem p_Clone_int {S : SHeap} {u : Value} {l : List Int} (hu : (rSlice 8 rI64).V S u l) : FnRow Tryz.prog 46 #[u] S 3 rI64 l := by
  have hu0 := hu
  obtain ⟨a, c, rfl, _, hb16, hb, _⟩ := V_slice.1 hu
  unfold big at hb16 hb
  (refine FnRow.enter (args := [.slice a l.length c]) Tryz.func46 rfl Tryz.ntmps46 rfl ?_; intro w0)
  repeat (first | (refine Walk ?_; intros) | refine JC.block ?_)
  refine JO.pure rfl rfl rfl (JPure.eqNil rfl rfl rfl ?_)
  repeat (first | (refine Walk ?_; intros) | refine JC.block ?_)
  refine JC.cond rfl (fun hn => ?_) (fun hn => ?_)
  · have ha : a = none := by simpa using hn
    subst ha
    have hl : l = [] := nil_slice hu0
    subst hl
    repeat (first | (refine Walk ?_; intros) | refine JC.block ?_)
    (first | refine JC.newRow 3 (Rp.sz rI64) ?_ | refine JO.newRow 3 (Rp.sz rI64) ?_ | refine JX.newRow 3 (Rp.sz rI64) ?_)
    exact JX.retRow (vs := []) Tryz.results46 (ResV.tmp rfl) rfl trivial
  · repeat (first | (refine Walk ?_; intros) | refine JC.block ?_)
    refine JO.eff rfl rfl rfl (JEff.build0 rI64 rfl ?_); intro b0
    repeat (first | (refine Walk ?_; intros) | refine JC.block ?_)
    (refine JO.eff rfl rfl rfl (JEff.appendS (rep := rI64) rfl rfl (hu0.mono (by exact lea)) rfl rfl (List.Perm.refl _) (by unfold big; omega) (by unfold big; omega) (by intro l hl; cases hl) rfl ?_); intro a2 c2 us1 hus1)
    repeat (first | (refine Walk ?_; intros) | refine JC.block ?_)
    exact JX.retRow Tryz.results46 (ResV.tmp rfl) (Nat.zero_add _) hus1
end Go.Dr
namespace Go.Dr
open Go.Proofs
set_option maxRecDepth 20000
set_option maxHeartbeats 2000000
set_option linter.unusedSimpArgs false
set_option linter.unusedVariables false
def OwnAns (E : TypeId) (xs : List Int) (z : Int) (w : Value) (S' : SHeap) (M' : List MEnt) : Prop :=
  ∃ a c, w = .tuple #[.slice a xs.length c, .int .i64 z] ∧ ((xs = [] ∧ a = none ∧ M' = []) ∨ (∃ b tl, a = some ⟨b, 0, none⟩ ∧ xs.length ≤ c ∧ M' = [.blk b (.cells (intsT xs tl) E (0, 0))]))
theorem s41_L7f {P K : Prop} (k : K) (h : Goal K → P := by
  intro zk
  (first | refine Walk ?_ | refine JC.block ?_ | refine JC.drawN 9 rfl [0, 1, 2, 3, 4, 5, 6] [0, 1, 2, 3, 4, 5, 6] Tryz_mixed (by decide +kernel) ?_ | (refine JO.eff rfl rfl rfl (JEff.callV rfl (p7_Check (by exact vta) (by exact vta)) rfl ?_); intro zqa zqb) | (refine JO.eff rfl rfl rfl (JEff.callRow rfl (p_Clone_int (by exact vta)) rfl ?_); intro zqa zqb zqc zqd zqe zqf) | (refine JO.eff rfl rfl rfl (JEff.callV rfl (p7_there _ _) rfl ?_); intro zqa zqb) | (refine WBox ?_))
  (repeat (first | revert zqg | revert zqf | revert zqe | revert zqd | revert zqc | revert zqb | revert zqa))
  exact zk.k) : P := h ⟨k⟩
theorem p7_Apply {S : SHeap} {u v xv : Value} {s : Snap} {p : List Int} {x : Step} (hu : rSnap.V S u s) (hv : (rSlice 8 rI64).V S v p) (hx : rStep.V S xv x) : Fn Tryz.prog 41 #[u, v, xv] S [] (OwnAns 3 (applyP s p x).1 (applyP s p x).2) := by
  have hv0 := hv
  obtain ⟨a, c, rfl, _, hb8, hb, hpr⟩ := V_slice.1 hv
  unfold big at hb8 hb
  have hprn : ∀ z ∈ p, Rng z := fun z hz => by
    obtain ⟨q, cs, h, _⟩ := slice_at hv z hz
    exact h.2
  obtain ⟨hxr1, hxr2, hxr3⟩ := step_rng hx
  (refine Fn.enter (args := [u, .slice a p.length c, xv]) Tryz.func41 rfl Tryz.ntmps41 rfl ?_; intro w0)
  repeat (refine s41_L7f ?_; intros)
  refine JC.cond rfl (fun he => ?_) (fun he => ?_)
  · have he : z0 (checkP s p) = false := by simpa [z0] using he
    repeat (refine s41_L7f ?_; intros)
    (refine JX.ret2 Tryz.results41 (ResV.tmp rfl) (ResV.tmp rfl) (List.nil_sublist _) ?_)
    exact ⟨none, 0, by rw [applyP, he]; rfl, .inl ⟨by rw [applyP, he]; rfl, rfl, rfl⟩⟩
  have he : z0 (checkP s p) = true := by simpa [z0] using he
  have hok : checkP s p = 0 := by simpa [z0] using he
  obtain ⟨hs, hlen, hodd⟩ := checkP_ok hok
  obtain ⟨hn8, hp24, ho8⟩ := shaped_small (checkS_ok hs).1
  obtain ⟨kd, pd, nd⟩ := x
  dsimp only at hxr1 hxr2 hxr3
  unfold Rng at hxr2 hxr3
  have hap0 : applyP s p ⟨kd, pd, nd⟩ = (if !decide (kd = 1) && !decide (kd = 2) then ([], 2)
    else if decide (pd < 0) || decide ((p.length : Int) ≤ pd) || decide (nd < 0) || (decide (kd = 2) && decide ((s.nodes.length : Int) ≤ nd)) || (decide (kd = 1) && !decide (nd = 0)) then ([], 9)
    else if (decide (at0 p pd.toNat = -1) == decide (kd = 1)) || (decide (kd = 2) && lostAt s nd) then ([], 110)
    else (p.set pd.toNat (if kd = 2 then nd else -1), 0)) := by rw [applyP, he]; rfl
  by_cases hk1 : kd = 1
  · subst hk1
    by_cases hbad : pd < 0 ∨ (p.length : Int) ≤ pd ∨ nd < 0 ∨ ¬ nd = 0
    · have hap : applyP s p ⟨1, pd, nd⟩ = ([], 9) := by rw [hap0]; simp; intro h1 h2 h3 h4; omega
      rw [hap]
      repeat' (first | (refine s41_L7f ?_; intros) | (refine JO.guard rfl rfl rfl rfl ?_ ?_ <;> intro _) | (refine JC.cond rfl ?_ ?_ <;> intro _))
      all_goals first
        | ((refine JX.ret2 Tryz.results41 (ResV.tmp rfl) (ResV.tmp rfl) (List.nil_sublist _) ?_); exact ⟨none, 0, rfl, .inl ⟨rfl, rfl, rfl⟩⟩)
        | (clear hap hap0; (exfalso; first | (simp only [decide_eq_true_eq, decide_eq_false_iff_not, Bool.not_eq_true', Bool.not_eq_false', Bool.and_eq_true, Bool.or_eq_true, Bool.and_eq_false_iff, Bool.or_eq_false_iff] at *; omega) | (simp_all; done) | (simp_all; omega)))
    · obtain ⟨i, rfl⟩ : ∃ i : Nat, pd = i := ⟨pd.toNat, by omega⟩
      obtain rfl : nd = 0 := by omega
      have hi : i < p.length := by omega
      obtain ⟨z, hz, _⟩ := drop_at hi
      have ecast : ((i : Int)).toNat = i := by omega
      have hz0 := at0_some hz
      have hz' : p[((i : Int)).toNat]? = some z := by rw [ecast]; exact hz
      have e1 : decide ((i : Int) < 0) = false := by simp
      have e2 : decide ((p.length : Int) ≤ (i : Int)) = false := by simp; omega
      have hap : applyP s p ⟨1, i, 0⟩ = (if z = -1 then ([], 110) else (p.set i (-1), 0)) := by rw [hap0]; simp only [e1, e2, ecast, hz0]; by_cases h : z = -1 <;> simp [h]
      have hzr := hprn z (List.mem_of_getElem? hz)
      by_cases hz1 : z = -1
      · rw [hap, if_pos hz1]
        repeat' (first | (refine s41_L7f ?_; intros) | (refine JO.guard rfl rfl rfl rfl ?_ ?_ <;> intro _) | (refine JC.cond rfl ?_ ?_ <;> intro _))
        all_goals first
          | ((refine JX.ret2 Tryz.results41 (ResV.tmp rfl) (ResV.tmp rfl) (List.nil_sublist _) ?_); exact ⟨none, 0, rfl, .inl ⟨rfl, rfl, rfl⟩⟩)
          | (clear hap hap0; (exfalso; first | (simp only [decide_eq_true_eq, decide_eq_false_iff_not, Bool.not_eq_true', Bool.not_eq_false', Bool.and_eq_true, Bool.or_eq_true, Bool.and_eq_false_iff, Bool.or_eq_false_iff] at *; omega) | (simp_all; done) | (simp_all; omega)))
      rw [hap, if_neg hz1]
      repeat' (first | (refine s41_L7f ?_; intros) | (refine JO.guard rfl rfl rfl rfl ?_ ?_ <;> intro _) | (refine JC.cond rfl ?_ ?_ <;> intro _))
      all_goals first
        | (clear hap hap0; (exfalso; first | (simp only [decide_eq_true_eq, decide_eq_false_iff_not, Bool.not_eq_true', Bool.not_eq_false', Bool.and_eq_true, Bool.or_eq_true, Bool.and_eq_false_iff, Bool.or_eq_false_iff] at *; omega) | (simp_all; done) | (simp_all; omega)))
        | skip
      repeat (refine s41_L7f ?_; intros)
      rw [flat_int (by assumption)]
      refine JO.rowBlk (by omega) (fun b tl hab hbb hnc => ?_)
      subst hab
      repeat (refine s41_L7f ?_; intros)
      refine JO.pure rfl rfl rfl (JPure.indexRI rfl rfl rfl (by dsimp only; omega) (by dsimp only; omega) ?_)
      refine JO.eff rfl rfl rfl (JEff.storeIT (i := i) rfl rfl (by unfold Rng; omega) (List.Perm.refl _) (by omega) (by intro l hl; cases hl) ?_)
      repeat (refine s41_L7f ?_; intros)
      refine JX.ret2 Tryz.results41 (ResV.tmp rfl) (ResV.tmp rfl) (List.Sublist.refl _) ?_
      exact ⟨some ⟨b, 0, none⟩, _, by rw [List.length_set], .inr ⟨b, tl, rfl, by rw [List.length_set]; exact hnc, rfl⟩⟩
  · by_cases hk2 : kd = 2
    · subst hk2
      by_cases hbad : pd < 0 ∨ (p.length : Int) ≤ pd ∨ nd < 0 ∨ (s.nodes.length : Int) ≤ nd
      · have hap : applyP s p ⟨2, pd, nd⟩ = ([], 9) := by rw [hap0]; simp; intro h1 h2 h3 h4; omega
        rw [hap]
        repeat' (first | (refine s41_L7f ?_; intros) | (refine JO.guard rfl rfl rfl rfl ?_ ?_ <;> intro _) | (refine JC.cond rfl ?_ ?_ <;> intro _))
        all_goals first
          | ((refine JX.ret2 Tryz.results41 (ResV.tmp rfl) (ResV.tmp rfl) (List.nil_sublist _) ?_); exact ⟨none, 0, rfl, .inl ⟨rfl, rfl, rfl⟩⟩)
          | (clear hap hap0; (exfalso; first | (simp only [decide_eq_true_eq, decide_eq_false_iff_not, Bool.not_eq_true', Bool.not_eq_false', Bool.and_eq_true, Bool.or_eq_true, Bool.and_eq_false_iff, Bool.or_eq_false_iff] at *; omega) | (simp_all; done) | (simp_all; omega)))
      · obtain ⟨i, rfl⟩ : ∃ i : Nat, pd = i := ⟨pd.toNat, by omega⟩
        obtain ⟨m, rfl⟩ : ∃ m : Nat, nd = m := ⟨nd.toNat, by omega⟩
        have hi : i < p.length := by omega
        obtain ⟨z, hz, _⟩ := drop_at hi
        obtain ⟨nn, hnn, _⟩ := drop_at (l := s.nodes) (show m < s.nodes.length by omega)
        have ecast : ((i : Int)).toNat = i := by omega
        have ecast2 : ((m : Int)).toNat = m := by omega
        have hz0 := at0_some hz
        have hz' : p[((i : Int)).toNat]? = some z := by rw [ecast]; exact hz
        have hnn' : s.nodes[((m : Int)).toNat]? = some nn := by rw [ecast2]; exact hnn
        have hlo : lostAt s m = nn.lost := by simp [lostAt, hnn]
        have e1 : decide ((i : Int) < 0) = false := by simp
        have e2 : decide ((p.length : Int) ≤ (i : Int)) = false := by simp; omega
        have e3 : decide ((m : Int) < 0) = false := by simp
        have e4 : decide ((s.nodes.length : Int) ≤ (m : Int)) = false := by simp; omega
        have hap : applyP s p ⟨2, i, m⟩ = (if ¬ z = -1 ∨ nn.lost = true then ([], 110) else (p.set i m, 0)) := by rw [hap0]; simp only [e1, e2, e3, e4, ecast, hz0, hlo]; by_cases h : z = -1 <;> simp [h]
        have hzr := hprn z (List.mem_of_getElem? hz)
        by_cases hst : ¬ z = -1 ∨ nn.lost = true
        · rw [hap, if_pos hst]
          repeat' (first | (refine s41_L7f ?_; intros) | (refine JO.guard rfl rfl rfl rfl ?_ ?_ <;> intro _) | (refine JC.cond rfl ?_ ?_ <;> intro _))
          all_goals first
            | ((refine JX.ret2 Tryz.results41 (ResV.tmp rfl) (ResV.tmp rfl) (List.nil_sublist _) ?_); exact ⟨none, 0, rfl, .inl ⟨rfl, rfl, rfl⟩⟩)
            | (clear hap hap0; (exfalso; first | (simp only [decide_eq_true_eq, decide_eq_false_iff_not, Bool.not_eq_true', Bool.not_eq_false', Bool.and_eq_true, Bool.or_eq_true, Bool.and_eq_false_iff, Bool.or_eq_false_iff] at *; omega) | (simp_all; done) | (simp_all; omega)))
        rw [hap, if_neg hst]
        repeat' (first | (refine s41_L7f ?_; intros) | (refine JO.guard rfl rfl rfl rfl ?_ ?_ <;> intro _) | (refine JC.cond rfl ?_ ?_ <;> intro _))
        all_goals first
          | (clear hap hap0; (exfalso; first | (simp only [decide_eq_true_eq, decide_eq_false_iff_not, Bool.not_eq_true', Bool.not_eq_false', Bool.and_eq_true, Bool.or_eq_true, Bool.and_eq_false_iff, Bool.or_eq_false_iff] at *; omega) | (simp_all; done) | (simp_all; omega)))
          | skip
        repeat (refine s41_L7f ?_; intros)
        rw [flat_int (by assumption)]
        refine JO.rowBlk (by omega) (fun b tl hab hbb hnc => ?_)
        subst hab
        repeat (refine s41_L7f ?_; intros)
        refine JO.pure rfl rfl rfl (JPure.indexRI rfl rfl rfl (by dsimp only; omega) (by dsimp only; omega) ?_)
        refine JO.eff rfl rfl rfl (JEff.storeIT (i := i) rfl rfl (by unfold Rng; omega) (List.Perm.refl _) (by omega) (by intro l hl; cases hl) ?_)
        repeat (refine s41_L7f ?_; intros)
        refine JX.ret2 Tryz.results41 (ResV.tmp rfl) (ResV.tmp rfl) (List.Sublist.refl _) ?_
        exact ⟨some ⟨b, 0, none⟩, _, by rw [List.length_set], .inr ⟨b, tl, rfl, by rw [List.length_set]; exact hnc, rfl⟩⟩
    · have hap : applyP s p ⟨kd, pd, nd⟩ = ([], 2) := by rw [hap0]; simp [hk1, hk2]
      rw [hap]
      repeat' (first | (refine s41_L7f ?_; intros) | (refine JO.guard rfl rfl rfl rfl ?_ ?_ <;> intro _) | (refine JC.cond rfl ?_ ?_ <;> intro _))
      all_goals first
        | ((refine JX.ret2 Tryz.results41 (ResV.tmp rfl) (ResV.tmp rfl) (List.nil_sublist _) ?_); exact ⟨none, 0, rfl, .inl ⟨rfl, rfl, rfl⟩⟩)
        | (clear hap hap0; (exfalso; first | (simp only [decide_eq_true_eq, decide_eq_false_iff_not, Bool.not_eq_true', Bool.not_eq_false', Bool.and_eq_true, Bool.or_eq_true, Bool.and_eq_false_iff, Bool.or_eq_false_iff] at *; omega) | (simp_all; done) | (simp_all; omega)))
end Go.Dr
namespace Go.Dr
open Go.Proofs
set_option maxRecDepth 20000
set_option maxHeartbeats 2000000
set_option linter.unusedSimpArgs false
set_option linter.unusedVariables false
def StepRaw (E Te Tc : TypeId) (s : Snap) (p : List Int) (x : Step) (w : Value) (S' : SHeap) (M' : List MEnt) : Prop :=
  (∃ e, ¬ e = 0 ∧ stepV s p x = ([], noC, e) ∧ w = .tuple #[.slice none 0 0, .iface Te (.int .i64 e)] ∧ M' = []) ∨
  (∃ c, (Rng c.kind ∧ Rng c.a ∧ Rng c.b ∧ Rng c.by_) ∧ stepV s p x = ([], c, 100) ∧ w = .tuple #[.slice none 0 0, .iface Tc (clV c)] ∧ M' = []) ∨
  (∃ q b tl cap, stepV s p x = (q, noC, 0) ∧ (∀ z ∈ q, Rng z) ∧ q.length = p.length ∧ w = .tuple #[.slice (some ⟨b, 0, none⟩) q.length cap, .nilIface] ∧ q.length ≤ cap ∧ M' = [.blk b (.cells (intsT q tl) E (0, 0))])
theorem s45_L10a {P K : Prop} (k : K) (h : Goal K → P := by
  intro zk
  (first | refine Walk ?_ | refine JC.block ?_ | refine JC.drawN 10 rfl [0, 1, 2, 3, 4, 5] [0, 1, 2, 3, 4, 5] Tryz_mixed (by decide +kernel) ?_ | (refine JO.eff rfl rfl rfl (JEff.callLE rfl (p9_Worse (by exact vta) (by exact vta) (by exact vta)) rfl ?_); intro zqa zqb zqc zqd zqe zqf) | (refine WBox ?_))
  (repeat (first | revert zqg | revert zqf | revert zqe | revert zqd | revert zqc | revert zqb | revert zqa))
  exact zk.k) : P := h ⟨k⟩
theorem p10_step {S : SHeap} {u v xv : Value} {s : Snap} {p : List Int} {x : Step} (hu : rSnap.V S u s) (hv : (rSlice 8 rI64).V S v p) (hx : rStep.V S xv x) : Fn Tryz.prog 45 #[u, v, xv] S [] (StepRaw 3 36 35 s p x) := by
  (refine Fn.enter (args := [u, v, xv]) Tryz.func45 rfl Tryz.ntmps45 rfl ?_; intro w0)
  repeat (refine s45_L10a ?_; intros)
  refine JO.eff rfl rfl rfl (JEff.callM (Mc := []) rfl (List.Perm.refl _) (mayAll rfl) (p7_Apply (s := s) (p := p) (x := x) (by exact vta) (by exact vta) (by exact vta)) rfl ?_); intro w S2 M2 hl2 hw
  obtain ⟨aa, ca, rfl, hw⟩ := hw
  by_cases he : (applyP s p x).2 = 0
  · obtain ⟨hcq, hql, hp0⟩ := apply_check he
    obtain ⟨hok, hnode⟩ := apply_ok he
    rcases hw with ⟨h1, _, _⟩ | ⟨b, tl, rfl, hqc, rfl⟩
    · rw [h1] at hql; simp at hql; omega
    have hW2 : (worseV s p (applyP s p x).1).2 = 0 := by rw [worse_ok hok hcq]
    have he' : ¬ ¬ (applyP s p x).2 = 0 := by simpa using he
    obtain ⟨_, _, hp24, _, _, _, hqr⟩ := placed_hyps hcq
    have hql2 : (applyP s p x).1.length ≤ 24 := hp24
    dsimp only [List.cons_append, List.nil_append]
    refine JO.blkNew rfl (fun hb0 hbb => ?_)
    refine JO.freeze hbb (by intro l hl; cases hl) (fun S3 hl3 hS3 => ?_)
    have hVq := blk_slice (SHeap.le.refl S3) hS3 rfl hqc (by unfold big; omega) hqr
    by_cases hk : x.kind = 2
    · obtain ⟨h0, h1⟩ := hnode hk
      obtain ⟨nd, hnd, _⟩ := drop_at (l := s.nodes) (show x.node.toNat < s.nodes.length by omega)
      have hco : cordonAt s x.node = nd.cordon := by simp [cordonAt, hnd]
      repeat (refine s45_L10a ?_; intros)
      refine JC.cond rfl (fun g0 => ?_) (fun g0 => ?_)
      · (exfalso; first | (simp only [decide_eq_true_eq, decide_eq_false_iff_not, Bool.not_eq_true', Bool.not_eq_false', Bool.and_eq_true, Bool.or_eq_true, Bool.and_eq_false_iff, Bool.or_eq_false_iff] at *; omega) | (simp_all; done) | (simp_all; omega))
      repeat (refine s45_L10a ?_; intros)
      refine JO.guard rfl rfl rfl rfl (fun g1 => ?_) (fun g1 => ?_)
      · repeat (refine s45_L10a ?_; intros)
        refine JC.cond rfl (fun g2 => ?_) (fun g2 => ?_)
        · repeat (refine s45_L10a ?_; intros)
          refine JO.pure rfl rfl rfl (JPure.mkIface rfl rfl ?_)
          repeat (refine s45_L10a ?_; intros)
          refine JX.ret2 Tryz.results45 (ResV.tmp rfl) (ResV.tmp rfl) (List.nil_sublist _) ?_
          exact .inl ⟨100, by decide, by rw [stepV, if_neg he', if_pos ⟨hk, by rw [hco]; exact g2⟩], rfl, rfl⟩
        · have hnc : ¬ (x.kind = 2 ∧ cordonAt s x.node = true) := by rw [hco, g2]; simp
          repeat (refine s45_L10a ?_; intros)
          refine JC.cond rfl (fun g3 => ?_) (fun g3 => ?_)
          · exfalso
            simp [hW2] at g3
          repeat (refine s45_L10a ?_; intros)
          refine JC.cond rfl (fun g4 => ?_) (fun g4 => ?_)
          · obtain ⟨y, L', hL⟩ : ∃ y L', (worseV s p (applyP s p x).1).1 = y :: L' := by
              cases hh : (worseV s p (applyP s p x).1).1 with
              | nil => rw [hh] at g4; simp at g4
              | cons y L' => exact ⟨y, L', rfl⟩
            have hy0 : (worseV s p (applyP s p x).1).1[(0 : Int).toNat]? = some y := by rw [hL]; rfl
            repeat (refine s45_L10a ?_; intros)
            have hvy := (by assumption : rClause.V _ _ y)
            obtain ⟨hy1, hyr⟩ := V_clause.1 hvy
            refine JO.pure rfl rfl rfl (JPure.mkIface rfl rfl ?_)
            repeat (refine s45_L10a ?_; intros)
            refine JX.ret2 Tryz.results45 (ResV.tmp rfl) (ResV.tmp rfl) (List.nil_sublist _) ?_
            exact .inr (.inl ⟨y, hyr, by rw [stepV, if_neg he', if_neg hnc, hL], by rw [hy1]; rfl, rfl⟩)
          · have hL : (worseV s p (applyP s p x).1).1 = [] := by
              cases hh : (worseV s p (applyP s p x).1).1 with
              | nil => rfl
              | cons y L' => rw [hh] at g4; simp at g4
            repeat (refine s45_L10a ?_; intros)
            refine JX.thaw hb0 hbb ((by exact lea : SHeap.le S3 _) _ _ hS3) ?_
            refine JX.ret2 Tryz.results45 (ResV.tmp rfl) (ResV.tmp rfl) (List.Sublist.refl _) ?_
            exact .inr (.inr ⟨(applyP s p x).1, b, tl, ca, by rw [stepV, if_neg he', if_neg hnc, hL], hqr, hql, rfl, hqc, rfl⟩)
      · (exfalso; first | (simp only [decide_eq_true_eq, decide_eq_false_iff_not, Bool.not_eq_true', Bool.not_eq_false', Bool.and_eq_true, Bool.or_eq_true, Bool.and_eq_false_iff, Bool.or_eq_false_iff] at *; omega) | (simp_all; done) | (simp_all; omega))
    · have hnc : ¬ (x.kind = 2 ∧ cordonAt s x.node = true) := fun h => hk h.1
      repeat (refine s45_L10a ?_; intros)
      refine JC.cond rfl (fun g0 => ?_) (fun g0 => ?_)
      · (exfalso; first | (simp only [decide_eq_true_eq, decide_eq_false_iff_not, Bool.not_eq_true', Bool.not_eq_false', Bool.and_eq_true, Bool.or_eq_true, Bool.and_eq_false_iff, Bool.or_eq_false_iff] at *; omega) | (simp_all; done) | (simp_all; omega))
      repeat (refine s45_L10a ?_; intros)
      refine JO.guard rfl rfl rfl rfl (fun g1 => ?_) (fun g1 => ?_)
      · (exfalso; first | (simp only [decide_eq_true_eq, decide_eq_false_iff_not, Bool.not_eq_true', Bool.not_eq_false', Bool.and_eq_true, Bool.or_eq_true, Bool.and_eq_false_iff, Bool.or_eq_false_iff] at *; omega) | (simp_all; done) | (simp_all; omega))
      · repeat (refine s45_L10a ?_; intros)
        refine JC.cond rfl (fun g3 => ?_) (fun g3 => ?_)
        · exfalso
          simp [hW2] at g3
        repeat (refine s45_L10a ?_; intros)
        refine JC.cond rfl (fun g4 => ?_) (fun g4 => ?_)
        · obtain ⟨y, L', hL⟩ : ∃ y L', (worseV s p (applyP s p x).1).1 = y :: L' := by
            cases hh : (worseV s p (applyP s p x).1).1 with
            | nil => rw [hh] at g4; simp at g4
            | cons y L' => exact ⟨y, L', rfl⟩
          have hy0 : (worseV s p (applyP s p x).1).1[(0 : Int).toNat]? = some y := by rw [hL]; rfl
          repeat (refine s45_L10a ?_; intros)
          have hvy := (by assumption : rClause.V _ _ y)
          obtain ⟨hy1, hyr⟩ := V_clause.1 hvy
          refine JO.pure rfl rfl rfl (JPure.mkIface rfl rfl ?_)
          repeat (refine s45_L10a ?_; intros)
          refine JX.ret2 Tryz.results45 (ResV.tmp rfl) (ResV.tmp rfl) (List.nil_sublist _) ?_
          exact .inr (.inl ⟨y, hyr, by rw [stepV, if_neg he', if_neg hnc, hL], by rw [hy1]; rfl, rfl⟩)
        · have hL : (worseV s p (applyP s p x).1).1 = [] := by
            cases hh : (worseV s p (applyP s p x).1).1 with
            | nil => rfl
            | cons y L' => rw [hh] at g4; simp at g4
          repeat (refine s45_L10a ?_; intros)
          refine JX.thaw hb0 hbb ((by exact lea : SHeap.le S3 _) _ _ hS3) ?_
          refine JX.ret2 Tryz.results45 (ResV.tmp rfl) (ResV.tmp rfl) (List.Sublist.refl _) ?_
          exact .inr (.inr ⟨(applyP s p x).1, b, tl, ca, by rw [stepV, if_neg he', if_neg hnc, hL], hqr, hql, rfl, hqc, rfl⟩)
  · have hst : stepV s p x = ([], noC, (applyP s p x).2) := by rw [stepV, if_pos he]
    repeat (refine s45_L10a ?_; intros)
    refine JC.cond rfl (fun g0 => ?_) (fun g0 => ?_)
    · repeat (refine s45_L10a ?_; intros)
      refine JO.pure rfl rfl rfl (JPure.mkIface rfl rfl ?_)
      repeat (refine s45_L10a ?_; intros)
      refine JX.ret2 Tryz.results45 (ResV.tmp rfl) (ResV.tmp rfl) (List.nil_sublist _) ?_
      exact .inl ⟨_, he, hst, rfl, rfl⟩
    · (exfalso; first | (simp only [decide_eq_true_eq, decide_eq_false_iff_not, Bool.not_eq_true', Bool.not_eq_false', Bool.and_eq_true, Bool.or_eq_true, Bool.and_eq_false_iff, Bool.or_eq_false_iff] at *; omega) | (simp_all; done) | (simp_all; omega))
end Go.Dr
namespace Go.Dr
open Go.Proofs
set_option maxRecDepth 20000
set_option maxHeartbeats 2000000
set_option linter.unusedSimpArgs false
set_option linter.unusedVariables false
instance : IfaceT Tryz.prog 83 := ⟨by kernel_rfl⟩
theorem p10_May {S : SHeap} {u v xv : Value} {s : Snap} {p : List Int} {x : Step} (hu : rSnap.V S u s) (hv : (rSlice 8 rI64).V S v p) (hx : rStep.V S xv x) : FnV Tryz.prog 18 #[u, v, xv] S (.bool (mayV s p x)) := by
  (refine Fn.enter (args := [u, v, xv]) Tryz.func18 rfl Tryz.ntmps18 rfl ?_; intro w0)
  repeat (first | (refine Walk ?_; intros) | refine JC.block ?_ | (refine WBox ?_; intros))
  refine JO.eff rfl rfl rfl (JEff.callM (Mc := []) rfl (List.Perm.refl _) (mayAll rfl) (p10_step (s := s) (p := p) (x := x) (by exact vta) (by exact vta) (by exact vta)) rfl ?_); intro w S2 M2 hl2 hw
  rcases hw with ⟨e, he, hst, rfl, rfl⟩ | ⟨c, hcr, hst, rfl, rfl⟩ | ⟨q, b, tl, cap, hst, hqr, hql, rfl, hqc, rfl⟩
  all_goals unfold mayV; rw [hst]
  · repeat (first | (refine Walk ?_; intros) | refine JC.block ?_ | refine JO.pure rfl rfl rfl (JPure.eqNilF rfl rfl ?_) | (refine WBox ?_; intros))
    (refine JX.ret1 Tryz.results18 (ResV.tmp rfl) (List.nil_sublist _) ?_)
    exact ⟨rfl, by simp [he]⟩
  · repeat (first | (refine Walk ?_; intros) | refine JC.block ?_ | refine JO.pure rfl rfl rfl (JPure.eqNilF rfl rfl ?_) | (refine WBox ?_; intros))
    (refine JX.ret1 Tryz.results18 (ResV.tmp rfl) (List.nil_sublist _) ?_)
    exact ⟨rfl, by simp⟩
  · repeat (first | (refine Walk ?_; intros) | refine JC.block ?_ | refine JO.pure rfl rfl rfl (JPure.eqNilT rfl rfl ?_) | (refine WBox ?_; intros))
    (refine JX.ret1 Tryz.results18 (ResV.tmp rfl) (List.nil_sublist _) ?_)
    exact ⟨rfl, by simp⟩
end Go.Dr
namespace Go.Dr
open Go.Proofs
set_option maxRecDepth 20000
set_option maxHeartbeats 2000000
set_option linter.unusedSimpArgs false
set_option linter.unusedVariables false
end Go.Dr
namespace Go.Dr
open Go.Proofs
set_option maxRecDepth 20000
set_option maxHeartbeats 2000000
set_option linter.unusedSimpArgs false
set_option linter.unusedVariables false
theorem s19_L10c {P K : Prop} (k : K) (h : Goal K → P := by
  intro zk
  (first | refine Walk ?_ | refine JC.block ?_ | (refine JO.eff rfl rfl rfl (JEff.callV rfl (p10_May (by exact vta) (by exact vta) (by exact vta)) rfl ?_); intro zqa zqb) | (refine WBox ?_))
  (repeat (first | revert zqg | revert zqf | revert zqe | revert zqd | revert zqc | revert zqb | revert zqa))
  exact zk.k) : P := h ⟨k⟩
theorem p10_Ways {S : SHeap} {u v : Value} {s : Snap} {p : List Int} (pod : Int) (hu : rSnap.V S u s) (hv : (rSlice 8 rI64).V S v p) (hn : s.nodes.length ≤ 1000) (hpr : Rng pod) : FnL Tryz.prog 19 #[u, v, .int .i64 pod] S 8 rI64 (waysV s p pod) := by
  (refine Fn.enter (args := [u, v, .int .i64 pod]) Tryz.func19 rfl Tryz.ntmps19 rfl ?_; intro w0)
  repeat (refine s19_L10c ?_; intros)
  (first | refine JC.newRow 3 1 ?_ | refine JO.newRow 3 1 ?_ | refine JX.newRow 3 1 ?_)
  refine JC.loopF (σ := Nat × Option Addr × Nat × List Value) [(1, _), (2, _), (3, _), (10, _)] (fun q => [(6, .slice q.2.1 ((fun k => waysK s p pod k) q.1).length q.2.2.1), (11, ((fun k => .int .i64 k) q.1))]) (fun q => [.row w0.heap.size 3 (Rp.sz rI64) (.slice q.2.1 ((fun k => waysK s p pod k) q.1).length q.2.2.1) ((fun k => waysK s p pod k) q.1).length (flatCells q.2.2.2)]) (fun Sk q => q.1 ≤ s.nodes.length ∧ allV rI64 Sk q.2.2.2 ((fun k => waysK s p pod k) q.1) ∧ ((fun k => True) q.1)) (fun q => s.nodes.length - q.1) (0, none, 0, []) (by exact sba) (by exact sba) (by first | rfl | simp) (⟨Nat.zero_le _, trivial, trivial⟩) ?_; rintro Sk ⟨k, rak, rck, vsk⟩ hlk ⟨hk, hvk, hik⟩; (try dsimp only at hk hvk hik); dsimp only [List.cons_append, List.nil_append]
  have hfl := waysK_len s p pod k
  repeat (refine s19_L10c ?_; intros)
  refine JC.cond rfl (fun hc => ?_) (fun hc => ?_)
  · have hk' := dlt hc
    have hst := waysK_step s p pod k
    have hxv : rStep.V Sk (.agg (flatCells [.int .i64 2, .int .i64 pod, .int .i64 k]).toArray) ⟨2, pod, k⟩ := V_step.2 ⟨by simp [flatCells, Value.cells], by simp [Rng], hpr, by unfold Rng; dsimp only; omega⟩
    repeat (refine s19_L10c ?_; intros)
    refine JC.cond rfl (fun hf => ?_) (fun hf => ?_)
    · rw [hf, if_pos rfl] at hst
      repeat (refine s19_L10c ?_; intros)
      (refine JO.eff rfl rfl rfl (JEff.build (rep := rI64) (ys := [(k : Int)]) rfl rfl ⟨⟨(V_i64.2 ⟨rfl, by unfold Rng; omega⟩), nna⟩, trivial⟩ rfl rfl rfl rfl ?_); intro bb hbb hvv); (repeat (first | (refine Walk ?_; intros) | refine JC.block ?_)); (refine JO.eff rfl rfl rfl (JEff.appendL (rep := rI64) rfl rfl rfl rfl (List.Perm.swap _ _ _) (by exact hvv.flat) (by intro c hc; exact flat_one (fun v hv => (hvv.size v hv).2) c hc) (by first | omega | (unfold big; omega)) (by unfold big; omega) (by first | exact rowT_ok | (intro l hl; cases hl)) rfl ?_); intro a2 c2; clear hvv hbb)
      repeat (refine s19_L10c ?_; intros)
      exact JX.roundF (k + 1, a2, c2, vsk ++ [(.int .i64 k)]) (by exact lea) ⟨by omega, by (try dsimp only); rw [hst]; exact allV_add (by exact lea) hvk (V_i64.2 ⟨rfl, by unfold Rng; omega⟩) nna, (trivial)⟩ (by (try dsimp only); omega) (by (try dsimp only); rw [hst]; (simp [flat_append] <;> omega)) (by (try dsimp only); rw [hst]; simp only [List.length_append, List.length_cons, List.length_nil]; exact sba) (by exact sba)
    · rw [hf, if_neg (by simp), List.append_nil] at hst
      repeat (refine s19_L10c ?_; intros)
      exact JX.roundF (k + 1, rak, rck, vsk) (by exact lea) ⟨by omega, by (try dsimp only); rw [hst]; exact hvk.mono (by exact lea), (trivial)⟩ (by (try dsimp only); omega) (by (try dsimp only); rw [hst]) (by (try dsimp only); rw [hst]; exact sba) (by exact sba)
  · have hk' := dnlt hc
    obtain rfl : k = s.nodes.length := by omega
    repeat (refine s19_L10c ?_; intros)
    refine JX.freezeRow (rep := rI64) (bt := 8) hvk rfl (by unfold big; omega) (by unfold big; omega) (fun S9 hl9 hV9 => ?_)
    (refine JX.ret1 Tryz.results19 (ResV.tmp rfl) (List.nil_sublist _) ?_)
    exact ⟨rfl, hV9⟩
end Go.Dr
namespace Go.Dr
open Go.Proofs
set_option maxRecDepth 20000
set_option maxHeartbeats 2000000
set_option linter.unusedSimpArgs false
set_option linter.unusedVariables false
structure OfferD where
  s : Snap
  p : List Int
  pod : Int
def rOffer : Rp OfferD := rMap (fun x : OfferD => (x.s, x.p, x.pod)) (rSeq rSnap (rSeq (rSlice 8 rI64) rI64))
instance : Fld rOffer 0 rSnap OfferD.s := ⟨(Part.map Part.first)⟩
instance : Fld rOffer 3 (rSlice 8 rI64) OfferD.p := ⟨(Part.map (Part.next Part.first rfl))⟩
instance : Fld rOffer 4 rI64 OfferD.pod := ⟨(Part.map (Part.next (Part.last rfl) rfl))⟩
instance : TyR Tryz.prog 101 rOffer := ⟨by kernel_rfl⟩
theorem s58_L14o {P K : Prop} (k : K) (h : Goal K → P := by
  intro zk
  (first | refine Walk ?_ | refine JC.block ?_ | (refine JO.eff rfl rfl rfl (JEff.callV rfl (p14_Left _ (by exact vta) (by exact vta)) rfl ?_); intro zqa zqb) | (refine JO.eff rfl rfl rfl (JEff.callRow rfl (p_Clone_int (by exact vta)) rfl ?_); intro zqa zqb zqc zqd zqe zqf) | (refine WBox ?_))
  (repeat (first | revert zqg | revert zqf | revert zqe | revert zqd | revert zqc | revert zqb | revert zqa))
  exact zk.k) : P := h ⟨k⟩
theorem p14_left {S : SHeap} {ov : Value} {s : Snap} {p : List Int} {pod : Int} (node : Int) (ho : rOffer.V S ov ⟨s, p, pod⟩) (h0 : 0 ≤ pod) (h1 : pod < p.length) (hr : Rng node) : FnV Tryz.prog 58 #[ov, .int .i64 node] S (.int .i64 (leftAt s p pod node)) := by
  obtain ⟨i, rfl⟩ : ∃ i : Nat, pod = i := ⟨pod.toNat, by omega⟩
  (refine Fn.enter (args := [ov, .int .i64 node]) Tryz.func58 rfl Tryz.ntmps58 rfl ?_; intro w0)
  repeat (refine s58_L14o ?_; intros)
  rw [flat_int (by assumption)]
  have hVp := (by assumption : (rSlice 8 rI64).V _ _ (OfferD.mk s p i).p)
  obtain ⟨_, _, _, _, hp8, hp9, _⟩ := V_slice.1 hVp
  have hpr : ∀ z ∈ p, Rng z := fun z hz => by
    obtain ⟨q, cs, h, _⟩ := slice_at hVp z hz
    exact h.2
  dsimp only at hp8 hp9
  refine JO.rowBlk (by dsimp only; omega) (fun b tl hab hbb hnc => ?_)
  subst hab
  dsimp only at hnc
  repeat (refine s58_L14o ?_; intros)
  refine JO.pure rfl rfl rfl (JPure.indexRI rfl rfl rfl (by dsimp only; omega) (by dsimp only; omega) ?_)
  refine JO.eff rfl rfl rfl (JEff.storeIT (i := i) rfl rfl hr (List.Perm.refl _) (by dsimp only; omega) (by intro l hl; cases hl) ?_)
  refine JO.freeze hbb (by intro l hl; cases hl) (fun S9 hl9 hS9 => ?_)
  have hq : (p.set i node).length = p.length := by simp
  have hVq : (rSlice 8 rI64).V S9 (.slice (some ⟨b, 0, none⟩) p.length _) (p.set i node) := blk_slice (SHeap.le.refl S9) hS9 hq.symm hnc hp8 (fun z hz => by
    rcases List.mem_or_eq_of_mem_set hz with h | rfl
    · exact hpr z h
    · exact hr)
  repeat (first | (refine Walk ?_; intros) | refine JC.block ?_ | (refine JO.eff rfl rfl rfl (JEff.callV rfl (p14_Left node (by exact vta) hVq) rfl ?_); intro _ _) | (refine JO.eff rfl rfl rfl (JEff.callV rfl (p14_Left _ (by exact vta) (by exact vta)) rfl ?_); intro _ _) | (refine JO.eff rfl rfl rfl (JEff.callRow rfl (p_Clone_int (by exact vta)) rfl ?_); intro _ _ _ _ _ _) | (refine WBox ?_; intros))
  (refine JX.ret1 Tryz.results58 (ResV.tmp rfl) (List.nil_sublist _) ?_)
  exact ⟨rfl, by unfold leftAt; rw [Int.toNat_natCast]⟩
theorem s19_L14o {P K : Prop} (k : K) (h : Goal K → P := by
  intro zk
  (first | refine Walk ?_ | refine JC.block ?_ | (refine JO.eff rfl rfl rfl (JEff.callV rfl (p10_May (by exact vta) (by exact vta) (by exact vta)) rfl ?_); intro zqa zqb) | (refine WBox ?_))
  (repeat (first | revert zqg | revert zqf | revert zqe | revert zqd | revert zqc | revert zqb | revert zqa))
  exact zk.k) : P := h ⟨k⟩
theorem p10_WaysR {S : SHeap} {u v : Value} {s : Snap} {p : List Int} (pod : Int) (hu : rSnap.V S u s) (hv : (rSlice 8 rI64).V S v p) (hn : s.nodes.length ≤ 1000) (hpr : Rng pod) : FnRow Tryz.prog 19 #[u, v, .int .i64 pod] S 3 rI64 (waysV s p pod) := by
  (refine FnRow.enter (args := [u, v, .int .i64 pod]) Tryz.func19 rfl Tryz.ntmps19 rfl ?_; intro w0)
  repeat (refine s19_L14o ?_; intros)
  (first | refine JC.newRow 3 1 ?_ | refine JO.newRow 3 1 ?_ | refine JX.newRow 3 1 ?_)
  refine JC.loopF (σ := Nat × Option Addr × Nat × List Value) [(1, _), (2, _), (3, _), (10, _)] (fun q => [(6, .slice q.2.1 ((fun k => waysK s p pod k) q.1).length q.2.2.1), (11, ((fun k => .int .i64 k) q.1))]) (fun q => [.row w0.heap.size 3 (Rp.sz rI64) (.slice q.2.1 ((fun k => waysK s p pod k) q.1).length q.2.2.1) ((fun k => waysK s p pod k) q.1).length (flatCells q.2.2.2)]) (fun Sk q => q.1 ≤ s.nodes.length ∧ allV rI64 Sk q.2.2.2 ((fun k => waysK s p pod k) q.1) ∧ ((fun k => True) q.1)) (fun q => s.nodes.length - q.1) (0, none, 0, []) (by exact sba) (by exact sba) (by first | rfl | simp) (⟨Nat.zero_le _, trivial, trivial⟩) ?_; rintro Sk ⟨k, rak, rck, vsk⟩ hlk ⟨hk, hvk, hik⟩; (try dsimp only at hk hvk hik); dsimp only [List.cons_append, List.nil_append]
  have hfl := waysK_len s p pod k
  repeat (refine s19_L14o ?_; intros)
  refine JC.cond rfl (fun hc => ?_) (fun hc => ?_)
  · have hk' := dlt hc
    have hst := waysK_step s p pod k
    have hxv : rStep.V Sk (.agg (flatCells [.int .i64 2, .int .i64 pod, .int .i64 k]).toArray) ⟨2, pod, k⟩ := V_step.2 ⟨by simp [flatCells, Value.cells], by simp [Rng], hpr, by unfold Rng; dsimp only; omega⟩
    repeat (refine s19_L14o ?_; intros)
    refine JC.cond rfl (fun hf => ?_) (fun hf => ?_)
    · rw [hf, if_pos rfl] at hst
      repeat (refine s19_L14o ?_; intros)
      (refine JO.eff rfl rfl rfl (JEff.build (rep := rI64) (ys := [(k : Int)]) rfl rfl ⟨⟨(V_i64.2 ⟨rfl, by unfold Rng; omega⟩), nna⟩, trivial⟩ rfl rfl rfl rfl ?_); intro bb hbb hvv); (repeat (first | (refine Walk ?_; intros) | refine JC.block ?_)); (refine JO.eff rfl rfl rfl (JEff.appendL (rep := rI64) rfl rfl rfl rfl (List.Perm.swap _ _ _) (by exact hvv.flat) (by intro c hc; exact flat_one (fun v hv => (hvv.size v hv).2) c hc) (by first | omega | (unfold big; omega)) (by unfold big; omega) (by first | exact rowT_ok | (intro l hl; cases hl)) rfl ?_); intro a2 c2; clear hvv hbb)
      repeat (refine s19_L14o ?_; intros)
      exact JX.roundF (k + 1, a2, c2, vsk ++ [(.int .i64 k)]) (by exact lea) ⟨by omega, by (try dsimp only); rw [hst]; exact allV_add (by exact lea) hvk (V_i64.2 ⟨rfl, by unfold Rng; omega⟩) nna, (trivial)⟩ (by (try dsimp only); omega) (by (try dsimp only); rw [hst]; (simp [flat_append] <;> omega)) (by (try dsimp only); rw [hst]; simp only [List.length_append, List.length_cons, List.length_nil]; exact sba) (by exact sba)
    · rw [hf, if_neg (by simp), List.append_nil] at hst
      repeat (refine s19_L14o ?_; intros)
      exact JX.roundF (k + 1, rak, rck, vsk) (by exact lea) ⟨by omega, by (try dsimp only); rw [hst]; exact hvk.mono (by exact lea), (trivial)⟩ (by (try dsimp only); omega) (by (try dsimp only); rw [hst]) (by (try dsimp only); rw [hst]; exact sba) (by exact sba)
  · have hk' := dnlt hc
    obtain rfl : k = s.nodes.length := by omega
    repeat (refine s19_L14o ?_; intros)
    exact JX.retRow Tryz.results19 (ResV.tmp rfl) rfl hvk
end Go.Dr
namespace Go.Dr
open Go.Proofs
set_option maxRecDepth 20000
set_option maxHeartbeats 2000000
set_option linter.unusedSimpArgs false
set_option linter.unusedVariables false
theorem snap_form {S : SHeap} {v : Value} {s : Snap} (h : rSnap.V S v s) : ∃ a1 n1 c1 a2 n2 c2 a3 n3 c3, v = .agg #[.slice a1 n1 c1, .slice a2 n2 c2, .slice a3 n3 c3] ∧ rSnap.R S [.slice a1 n1 c1, .slice a2 n2 c2, .slice a3 n3 c3] s := by
  obtain ⟨cs, rfl, hR⟩ := V_agg rfl h
  have hR0 := hR
  obtain ⟨_, _, rfl, ⟨a1, n1, c1, rfl, _⟩, _, _, rfl, ⟨a2, n2, c2, rfl, _⟩, ⟨a3, n3, c3, rfl, _⟩⟩ := hR
  exact ⟨a1, n1, c1, a2, n2, c2, a3, n3, c3, rfl, hR0⟩
def cX (a b c : Value) (ms : List Int) : Array Value := (a :: b :: c :: ms.map (fun x => Value.int .i64 x)).toArray
theorem cX_set (a b c : Value) {ms : List Int} {k : Nat} {z : Int} (h : k < ms.length) : ((cX a b c ms).toList.take (3 + k) ++ (Value.int .i64 z).cells.toList ++ (cX a b c ms).toList.drop (3 + k + 1)).toArray = cX a b c (ms.set k z) := by
  unfold cX
  congr 1
  have e1 : 3 + k = k + 3 := by omega
  have e2 : 3 + k + 1 = (k + 1) + 3 := by omega
  rw [List.toList_toArray, e2, e1]
  simp only [List.take_succ_cons, List.drop_succ_cons, List.cons_append, Value.cells, List.toList_toArray]
  congr 3
  rw [List.map_set, List.set_eq_take_append_cons_drop, if_pos (by simpa using h)]
  simp
theorem cX_at (a b c : Value) {ms : List Int} {k : Nat} {z : Int} (h : ms[k]? = some z) : ((cX a b c ms).toList.drop (3 + k)).take 1 = [.int .i64 z] := by
  unfold cX
  have hk := (List.getElem?_eq_some_iff.1 h).1
  rw [List.toList_toArray, show 3 + k = k + 3 by omega]
  simp only [List.drop_succ_cons]
  rw [List.drop_eq_getElem_cons (by simpa using hk)]
  have := (List.getElem?_eq_some_iff.1 h).2
  simp [this]
theorem cX_size (a b c : Value) (ms : List Int) : (cX a b c ms).size = ms.length + 3 := by simp [cX]
def mostRow (s : Snap) (i : Nat) : List Int := (List.range 5).map (fun k => mostTo s k i)
def mostRow2 (s : Snap) (i k : Nat) : List Int := (List.range 5).map (fun j => if j < k then mostTo s j (i + 1) else mostTo s j i)
theorem mostRow2_0 (s : Snap) (i : Nat) : mostRow2 s i 0 = mostRow s i := by unfold mostRow2 mostRow; simp
theorem mostRow2_5 (s : Snap) (i : Nat) : mostRow2 s i 5 = mostRow s (i + 1) := by
  unfold mostRow2 mostRow
  refine List.map_congr_left fun j hj => ?_
  rw [if_pos (List.mem_range.1 hj)]
theorem mostRow2_at (s : Snap) (i : Nat) {k : Nat} (h : k < 5) : (mostRow2 s i k)[k]? = some (mostTo s k i) := by
  unfold mostRow2
  rw [List.getElem?_map, List.getElem?_range h]
  simp
theorem mostRow2_step (s : Snap) (i : Nat) {k : Nat} (h : k < 5) : mostRow2 s i (k + 1) = (mostRow2 s i k).set k (mostTo s k (i + 1)) := by
  refine List.ext_getElem? fun j => ?_
  unfold mostRow2
  rw [List.getElem?_set]
  by_cases hj : j < 5
  · rw [List.getElem?_map, List.getElem?_map, List.getElem?_range hj]
    by_cases e : k = j
    · subst e; simp [h]
    · simp only [e, if_false, Option.map_some]
      by_cases h1 : j < k
      · rw [if_pos (by omega), if_pos h1]
      · rw [if_neg (by omega), if_neg h1]
  · rw [List.getElem?_eq_none (by simp; omega)]
    by_cases e : k = j
    · omega
    · rw [if_neg e, List.getElem?_eq_none (by simp; omega)]
theorem compact_len (xs : List Int) : (Lib.compact xs).length ≤ xs.length := by
  unfold Lib.compact Lib.compactUpTo
  rw [List.length_map]
  have := List.length_filter_le (Lib.keeps xs.toArray) (List.range xs.length)
  simpa using this
theorem s38_L14g {P K : Prop} (k : K) (h : Goal K → P := by
  intro zk
  (first | refine Walk ?_ | refine JC.block ?_ | refine JC.drawN 15 rfl [0, 2, 3, 1, 4, 5] [0, 5] Tryz_mixed (by decide +kernel) ?_ | (refine JO.eff rfl rfl rfl (JEff.callRow rfl (p_Clone_int (by exact vta)) rfl ?_); intro zqa zqb zqc zqd zqe zqf) | (refine JO.eff rfl rfl rfl (JEff.callV rfl (p5_Check (by exact vta)) rfl ?_); intro zqa zqb) | (refine WBox ?_))
  (repeat (first | revert zqg | revert zqf | revert zqe | revert zqd | revert zqc | revert zqb | revert zqa))
  exact zk.k) : P := h ⟨k⟩
theorem p14_Order {S : SHeap} {u v : Value} {s : Snap} {pods : List Int} (hu : rSnap.V S u s) (hv : (rSlice 8 rI64).V S v pods) (hpl : pods.length ≤ 1000) : FnL Tryz.prog 38 #[u, v] S 8 rI64 (orderV s pods) := by
  have hv0 := hv
  obtain ⟨pa, pc, rfl, _⟩ := V_slice.1 hv
  (refine Fn.enter (args := [u, .slice pa pods.length pc]) Tryz.func38 rfl Tryz.ntmps38 rfl ?_; intro w0)
  repeat (refine s38_L14g ?_; intros)
  by_cases hs : checkS s = 0
  · rw [decide_eq_true hs]
    repeat (refine s38_L14g ?_; intros)
    obtain ⟨a1, n1, c1, a2, n2, c2, a3, n3, c3, hzv, hR⟩ := snap_form (by assumption : rSnap.V _ _ s)
    subst hzv
    have hV0 : ∀ ms : List Int, ms.length = 5 → (∀ z ∈ ms, Rng z) → rSizes.R _ [.slice a1 n1 c1, .slice a2 n2 c2, .slice a3 n3 c3, .int .i64 0, .int .i64 0, .int .i64 0, .int .i64 0, .int .i64 0] (s, [0, 0, 0, 0, 0]) := fun _ _ _ => ⟨[_, _, _], [_, _, _, _, _], rfl, hR, rfl, rfl, by simp [Rng]⟩
    have hVx : rSizes.V _ (.agg #[.slice a1 n1 c1, .slice a2 n2 c2, .slice a3 n3 c3, .int .i64 0, .int .i64 0, .int .i64 0, .int .i64 0, .int .i64 0]) (s, [0, 0, 0, 0, 0]) := ⟨_, hV0 [0, 0, 0, 0, 0] rfl (by simp [Rng]), rfl⟩
    (refine JO.eff rfl rfl rfl (JEff.alloc rfl ?_); intro xb hxb)
    refine JO.eff rfl rfl rfl (JEff.storeTo (cX (.slice a1 n1 c1) (.slice a2 n2 c2) (.slice a3 n3 c3) (mostRow s 0)) (rep := rSizes) rfl rfl hVx nna pma (Nat.le_of_ble_eq_true rfl) (by intro l hl; cases hl) rfl ?_)
    repeat (refine s38_L14g ?_; intros)
    refine JC.loopF (σ := Nat) [(1, _), (2, _), (5, _), (17, _), (18, _)] (fun q => [(19, .int .i64 q)]) (fun q => [.blk xb (.cells (cX (.slice a1 n1 c1) (.slice a2 n2 c2) (.slice a3 n3 c3) (mostRow s q)) 104 (0, 0))]) (fun Si q => q ≤ s.nodes.length) (fun q => s.nodes.length - q) (0) (by exact sba) (by exact sba) rfl (Nat.zero_le _) ?_; rintro Si i hli hii; (try dsimp only at hii); dsimp only [List.cons_append, List.nil_append]
    repeat (refine s38_L14g ?_; intros)
    refine JC.cond rfl (fun hc => ?_) (fun hc => ?_)
    · have hi' := dlt hc
      obtain ⟨x, hx, _⟩ := drop_at hi'
      have hxm := List.mem_of_getElem? hx
      have hxr := shaped_cap (checkS_ok hs).1 x hxm
      have hcap : capOf s i = x.cap := by simp [capOf, hx]
      repeat (first | (refine Walk ?_; intros) | refine JC.block ?_ | refine JC.drawN 15 rfl [0, 2, 3, 1, 4, 5] [0, 5] Tryz_mixed (by decide +kernel) ?_ | (refine WNew ?_; intros) | (refine WPut ?_; intros) | (refine JO.eff rfl rfl rfl (JEff.callRow rfl (p_Clone_int (by exact vta)) rfl ?_); intro _ _ _ _ _ _) | (refine JO.eff rfl rfl rfl (JEff.callV rfl (p5_Check (by exact vta)) rfl ?_); intro _ _) | (refine WBox ?_; intros))
      obtain ⟨rfl, hcl, _⟩ := V_arr.1 (by assumption : (rArr 5).V _ _ x.cap)
      rw [← mostRow2_0 s i]
      refine JC.loopF (σ := Nat) [(1, _), (2, _), (5, _), (17, _), (18, _), (19, _), (24, _)] (fun q => [(25, .int .i64 q)]) (fun q => [.blk xb (.cells (cX (.slice a1 n1 c1) (.slice a2 n2 c2) (.slice a3 n3 c3) (mostRow2 s i q)) 104 (0, 0))]) (fun Sj q => q ≤ 5) (fun q => 5 - q) (0) (by exact sba) (by exact sba) rfl (by omega) ?_; rintro Sj k hlj hij; (try dsimp only at hij); dsimp only [List.cons_append, List.nil_append]
      repeat (refine s38_L14g ?_; intros)
      refine JC.cond rfl (fun hc2 => ?_) (fun hc2 => ?_)
      · have hk' := dlt5 hc2
        obtain ⟨y, hy⟩ : ∃ y, x.cap[k]? = some y := ⟨_, List.getElem?_eq_getElem (by omega)⟩
        have hyr := hxr y (List.mem_of_getElem? hy)
        have hy0 := at0_some hy
        have hm := mostRow2_at s i hk'
        have hmr := mostTo_rng hs k i
        have hst : mostTo s k (i + 1) = max (mostTo s k i) y := by simp only [mostTo, hcap, hy0]
        have hrl : (mostRow2 s i k).length = 5 := by simp [mostRow2]
        have e : 0 + 3 + ((k : Int)).toNat * 1 = 3 + k := by omega
        unfold Qty at hyr hmr
        repeat (refine s38_L14g ?_; intros)
        refine JO.pure rfl rfl rfl (JPure.indexV rfl rfl rfl (by omega) (by omega) (by simpa using hy) ?_)
        repeat (refine s38_L14g ?_; intros)
        refine JO.pure rfl rfl rfl (JPure.fieldP rfl rfl ?_)
        refine JO.pure rfl rfl rfl (JPure.indexB (off := 0 + 3) rI64 rfl rfl rfl (by omega) (by omega) ?_)
        refine JO.pure rfl rfl rfl (JPure.loadM (off := 0 + 3 + ((k : Int)).toNat * 1) (rep := rI64) (x0 := mostTo s k i) (mid := [.int .i64 (mostTo s k i)]) rfl (by (first | exact List.mem_cons_self | exact List.mem_cons_of_mem _ List.mem_cons_self | exact List.mem_cons_of_mem _ (List.mem_cons_of_mem _ List.mem_cons_self))) (by rw [e]; exact cX_at _ _ _ hm) ⟨rfl, by unfold Rng; omega⟩ (.inl rfl) rfl ?_)
        repeat (refine s38_L14g ?_; intros)
        refine JO.pure rfl rfl rfl (JPure.fieldP rfl rfl ?_)
        refine JO.pure rfl rfl rfl (JPure.indexB (off := 0 + 3) rI64 rfl rfl rfl (by omega) (by omega) ?_)
        refine JO.eff rfl rfl rfl (JEff.storeTo (off := 0 + 3 + ((k : Int)).toNat * 1) (cX (.slice a1 n1 c1) (.slice a2 n2 c2) (.slice a3 n3 c3) (mostRow2 s i (k + 1))) (rep := rI64) (x0 := max (mostTo s k i) y) rfl rfl (V_i64.2 ⟨rfl, by unfold Rng; omega⟩) nna pma (by rw [cX_size, e]; show 3 + k + 1 ≤ _; omega) (by intro l hl; cases hl) (by rw [e, mostRow2_step s i hk', hst]; exact cX_set _ _ _ (by omega)) ?_)
        repeat (refine s38_L14g ?_; intros)
        exact JX.roundF (k + 1) (by exact lea) (by omega) (by (try dsimp only); omega) rfl (by exact sba) (by exact sba)
      · have hk' := dnlt5 hc2
        obtain rfl : k = 5 := by omega
        rw [mostRow2_5]
        repeat (refine s38_L14g ?_; intros)
        exact JX.roundF (i + 1) (by exact lea) (by omega) (by (try dsimp only); omega) rfl (by exact sba) (by exact sba)
    · have hi' := dnlt hc
      obtain rfl : i = s.nodes.length := by omega
      refine JC.freeze hxb (fun S7 hl7 hS7 => ?_)
      have hPx : PtrTo S7 ⟨xb, 0, none⟩ rSizes (s, mostL s) := cells_ptr (v := .agg (cX (.slice a1 n1 c1) (.slice a2 n2 c2) (.slice a3 n3 c3) (mostL s))) hS7 ⟨[_, _, _], (mostL s).map (fun x => Value.int .i64 x), rfl, rSnap.mono (by exact lea) hR, R_arr (by simp [mostL]) (fun z hz => by
        obtain ⟨k, _, rfl⟩ := List.mem_map.1 hz
        have := mostTo_rng hs k s.nodes.length
        unfold Qty at this
        unfold mostV Rng; omega)⟩
      have hrl : ∀ x ∈ s.pods, x.req.length = 5 := fun x hx => (snap_reqs (by assumption : PtrTo _ _ rSnap s) x hx).1
      have hin := order_in s.pods.length pods
      have hord : orderV s pods = sortBy (fun i => -sizeV s i) (inPods s.pods.length pods) := if_pos hs
      have hq := (by assumption : PtrTo _ _ rSnap s)
      repeat (refine s38_L14g ?_; intros)
      rw [flat_int (by assumption)]
      by_cases hp0 : pods = []
      · have ho0 : orderV s pods = [] := by
          rw [hord, hp0]
          have : inPods s.pods.length [] = [] := by unfold inPods; simp
          rw [this]; simp [sortBy]
        rw [ho0, hp0]
        repeat (first | (refine Walk ?_; intros) | refine JC.block ?_ | refine JC.drawN 15 rfl [0, 2, 3, 1, 4, 5] [0, 5] Tryz_mixed (by decide +kernel) ?_ | (refine JO.eff rfl rfl rfl (JEff.callV rfl (p_DeleteFuncI0 _ _ _) rfl ?_); intro _ _) | (refine JO.eff rfl rfl rfl (JEff.callV rfl (p_SortInts0 _ _) rfl ?_); intro _ _) | (refine JO.eff rfl rfl rfl (JEff.callV rfl (p_CompactI0 _ _) rfl ?_); intro _ _) | (refine JO.eff rfl rfl rfl (JEff.callV rfl (p14_by0) rfl ?_); intro _ _) | (refine JO.eff rfl rfl rfl (JEff.callRow rfl (p_Clone_int (by exact vta)) rfl ?_); intro _ _ _ _ _ _) | (refine JO.eff rfl rfl rfl (JEff.callV rfl (p5_Check (by exact vta)) rfl ?_); intro _ _) | (refine WBox ?_; intros))
        (refine JX.ret1 Tryz.results38 (ResV.tmp rfl) (List.nil_sublist _) ?_)
        exact ⟨rfl, V_slice.2 ⟨_, _, rfl, by simp, by simp, by simp, by simp⟩⟩
      · have hpos := List.length_pos_iff.2 hp0
        refine JO.rowBlk (by omega) (fun pb tl hab hpb hnc => ?_)
        subst hab
        have hfl := List.length_filter_le (fun x => !(decide (x < 0) || decide ((s.pods.length : Int) ≤ x))) pods
        refine JO.eff rfl rfl rfl (JEff.callM (Mc := [.blk pb (.cells (intsT pods tl) 3 (0, 0))]) (Mr := []) rfl (List.Perm.refl _) (mayAll rfl) (p_DeleteFunc pods (fun x => decide (x < 0) || decide ((s.pods.length : Int) ≤ x)) 63 #[.pointer (some _)] (enters_of Tryz.func63 (by kernel_rfl) rfl) rfl (by omega) hnc (p14_in (hq.mono (by exact lea)))) rfl ?_)
        intro w1 S1 M1 hl1 hw1
        obtain ⟨rfl, rfl, tl1, rfl⟩ := hw1
        dsimp only [List.cons_append, List.nil_append]
        generalize hfx : pods.filter (fun x => !(decide (x < 0) || decide ((s.pods.length : Int) ≤ x))) = fx at *
        repeat (refine s38_L14g ?_; intros)
        refine JO.eff rfl rfl rfl (JEff.callM (Mc := [.blk pb (.cells (intsT fx tl1) 3 (0, 0))]) (Mr := []) rfl (List.Perm.refl _) (mayAll rfl) (p_SortInts fx rfl (by omega)) rfl ?_)
        intro w2 S2 M2 hl2 hw2
        obtain ⟨rfl, rfl, rfl⟩ := hw2
        dsimp only [List.cons_append, List.nil_append]
        have hsl : (fx.mergeSort fun x y => decide (x ≤ y)).length = fx.length := List.length_mergeSort _
        generalize fx.mergeSort (fun x y => decide (x ≤ y)) = sx at *
        repeat (refine s38_L14g ?_; intros)
        have hcl := compact_len sx
        refine JO.eff rfl rfl rfl (JEff.callM (Mc := [.blk pb (.cells (intsT sx tl1) 3 (0, 0))]) (Mr := []) rfl (List.Perm.refl _) (mayAll rfl) (p_CompactI sx hsl.symm (by omega) (by omega)) rfl ?_)
        intro w3 S3 M3 hl3 hw3
        obtain ⟨rfl, rfl, tl3, rfl⟩ := hw3
        dsimp only [List.cons_append, List.nil_append]
        rw [hin] at hcl ⊢
        have hxs := (by assumption : rSizes.V _ _ (s, mostL s))
        rw [hord]
        by_cases hi0 : inPods s.pods.length pods = []
        · rw [hi0]
          repeat (first | (refine Walk ?_; intros) | refine JC.block ?_ | refine JC.drawN 15 rfl [0, 2, 3, 1, 4, 5] [0, 5] Tryz_mixed (by decide +kernel) ?_ | (refine JO.eff rfl rfl rfl (JEff.callV rfl (p14_by0) rfl ?_); intro _ _) | (refine JO.eff rfl rfl rfl (JEff.callRow rfl (p_Clone_int (by exact vta)) rfl ?_); intro _ _ _ _ _ _) | (refine JO.eff rfl rfl rfl (JEff.callV rfl (p5_Check (by exact vta)) rfl ?_); intro _ _) | (refine WBox ?_; intros))
          (refine JX.ret1 Tryz.results38 (ResV.tmp rfl) (List.nil_sublist _) ?_)
          exact ⟨rfl, by rw [show sortBy (fun i => -sizeV s i) [] = [] by simp [sortBy]]; exact V_slice.2 ⟨_, _, rfl, by simp, by simp, by simp, by simp⟩⟩
        · have hD : ∀ x ∈ inPods s.pods.length pods, 0 ≤ x ∧ x < s.pods.length := fun x hx => ⟨(in_mem.1 hx).1, (in_mem.1 hx).2.1⟩
          refine JO.eff rfl rfl rfl (JEff.callM (Mc := [.blk pb (.cells (intsT (inPods s.pods.length pods) tl3) 3 (0, 0))]) (Mr := []) rfl (List.Perm.refl _) (mayAll rfl) (p14_by (D := fun x => 0 ≤ x ∧ x < s.pods.length) (key := fun i => -sizeV s i) inferInstance rfl (by omega) hi0 hD (fun x hx S' h => p14_small (hxs.mono (by exact lea)) hs hx.1 hx.2 hrl)) rfl ?_)
          intro w4 S4 M4 hl4 hw4
          obtain ⟨rfl, rfl⟩ := hw4
          dsimp only [List.cons_append, List.nil_append]
          refine JO.freeze hpb (by intro l hl; cases hl) (fun S9 hl9 hS9 => ?_)
          have hpm : (sortBy (fun i => -sizeV s i) (inPods s.pods.length pods)).Perm (inPods s.pods.length pods) := List.mergeSort_perm _ _
          have hsm := (checkS_ok hs).1
          obtain ⟨_, hp24, _⟩ := shaped_small hsm
          repeat (refine s38_L14g ?_; intros)
          (refine JX.ret1 Tryz.results38 (ResV.tmp rfl) (List.nil_sublist _) ?_)
          exact ⟨rfl, blk_slice (SHeap.le.refl S9) hS9 hpm.length_eq.symm (by omega) (by unfold big; omega) (fun z hz => by have := hD z (hpm.mem_iff.1 hz); unfold Rng; omega)⟩
  · rw [decide_eq_false hs, show orderV s pods = [] from if_neg hs]
    repeat (refine s38_L14g ?_; intros)
    (refine JX.ret1 Tryz.results38 (ResV.tmp rfl) (List.nil_sublist _) ?_)
    exact ⟨rfl, V_nil⟩
end Go.Dr
namespace Go.Dr
open Go.Proofs
set_option maxRecDepth 20000
set_option maxHeartbeats 2000000
set_option linter.unusedSimpArgs false
set_option linter.unusedVariables false
theorem p14_Rank {S : SHeap} {u v : Value} {s : Snap} {p : List Int} (pod : Int) (hu : rSnap.V S u s) (hv : (rSlice 8 rI64).V S v p) (hn : s.nodes.length ≤ 1000) (hpr : Rng pod) : FnL Tryz.prog 33 #[u, v, .int .i64 pod] S 8 rI64 (rankV s p pod) := by
  have hv0 := hv
  obtain ⟨va, vc, rfl, _, hb8, hb1, _⟩ := V_slice.1 hv0
  (refine Fn.enter (args := [u, .slice va p.length vc, .int .i64 pod]) Tryz.func33 rfl Tryz.ntmps33 rfl ?_; intro w0)
  repeat (first | (refine Walk ?_; intros) | refine JC.block ?_ | refine JC.drawN 1 rfl [0, 1, 2, 4, 5, 6, 7, 8, 3, 9, 10] [0, 1, 2, 10] Tryz_mixed (by decide +kernel) ?_ | (refine JO.eff rfl rfl rfl (JEff.callRow rfl (p10_WaysR pod (by exact vta) (by exact vta) hn hpr) rfl ?_); intro _ _ _ _ _ _) | (refine JO.eff rfl rfl rfl (JEff.callL rfl (p10_Ways _ (by exact vta) (by exact vta) (by first | assumption | omega) (by first | assumption | (unfold Rng; omega))) rfl ?_); intro _ _ _ _ _ _) | (refine WBox ?_; intros))
  have hwl := ways_len s p pod
  rw [flat_int (by assumption)]
  by_cases hw0 : waysV s p pod = []
  · have hr0 : rankV s p pod = [] := by unfold rankV; rw [hw0]; simp [sortBy]
    rw [hw0, hr0]
    repeat (first | (refine Walk ?_; intros) | refine JC.block ?_ | refine JC.drawN 1 rfl [0, 1, 2, 4, 5, 6, 7, 8, 3, 9, 10] [0, 1, 2, 10] Tryz_mixed (by decide +kernel) ?_ | (refine JO.eff rfl rfl rfl (JEff.callV rfl (p14_by0) rfl ?_); intro _ _) | (refine JO.eff rfl rfl rfl (JEff.callL rfl (p10_Ways _ (by exact vta) (by exact vta) (by first | assumption | omega) (by first | assumption | (unfold Rng; omega))) rfl ?_); intro _ _ _ _ _ _) | (refine WBox ?_; intros))
    (refine JX.ret1 Tryz.results33 (ResV.tmp rfl) (List.nil_sublist _) ?_)
    exact ⟨rfl, V_slice.2 ⟨_, _, rfl, by simp, by simp, by simp, by simp⟩⟩
  · have hpos := List.length_pos_iff.2 hw0
    refine JO.rowBlk (by omega) (fun b tl hab hbb hnc => ?_)
    subst hab
    obtain ⟨n0, hn0⟩ := List.exists_mem_of_ne_nil _ hw0
    obtain ⟨_, _, hp0, hp1, _⟩ := ways_mem hn0
    obtain ⟨zs, hzs⟩ : ∃ z, rSnap.V S z s := ⟨_, hu⟩
    have hof : ∀ (S' : SHeap) (zv : Value), rSnap.V S' zv s → (rSlice 8 rI64).V S' (.slice va p.length vc) p → rOffer.V S' (.agg (flatCells [zv, .slice va p.length vc, .int .i64 pod]).toArray) ⟨s, p, pod⟩ := fun S' zv h1 h2 => by
      obtain ⟨cs, rfl, hcs⟩ := V_agg rfl h1
      refine ⟨_, ⟨cs, [.slice va p.length vc, .int .i64 pod], ?_, hcs, [_], [_], rfl, h2.one rfl, rfl, hpr⟩, rfl⟩
      simp [flatCells, Value.cells]
    have hD : ∀ x ∈ waysV s p pod, 0 ≤ x ∧ x < s.nodes.length := fun x hx => ⟨(ways_mem hx).1, (ways_mem hx).2.1⟩
    refine JO.eff rfl rfl rfl (JEff.callM (Mc := [.blk b (.cells (intsT (waysV s p pod) tl) 3 (0, 0))]) (Mr := []) rfl (List.Perm.refl _) (mayAll rfl) (p14_by (D := fun x => 0 ≤ x ∧ x < s.nodes.length) (key := leftAt s p pod) inferInstance rfl (by omega) hw0 hD (fun x hx S' h => p14_left x (hof S' _ (by exact vta) (by exact vta)) hp0 hp1 (by unfold Rng; omega))) rfl ?_)
    intro w S3 M3 hl3 hw
    obtain ⟨rfl, rfl⟩ := hw
    dsimp only [List.cons_append, List.nil_append]
    refine JO.freeze hbb (by intro l hl; cases hl) (fun S9 hl9 hS9 => ?_)
    repeat (first | (refine Walk ?_; intros) | refine JC.block ?_ | refine JC.drawN 1 rfl [0, 1, 2, 4, 5, 6, 7, 8, 3, 9, 10] [0, 1, 2, 10] Tryz_mixed (by decide +kernel) ?_ | (refine JO.eff rfl rfl rfl (JEff.callL rfl (p10_Ways _ (by exact vta) (by exact vta) (by first | assumption | omega) (by first | assumption | (unfold Rng; omega))) rfl ?_); intro _ _ _ _ _ _) | (refine WBox ?_; intros))
    (refine JX.ret1 Tryz.results33 (ResV.tmp rfl) (List.nil_sublist _) ?_)
    exact ⟨rfl, blk_slice (SHeap.le.refl S9) hS9 (rank_len s p pod).symm hnc (by unfold big; omega) (fun z hz => by have := hD z ((rank_perm s p pod).mem_iff.1 hz); unfold Rng; omega)⟩
theorem p14_Rank_eq {S : SHeap} {u v : Value} {s : Snap} {p l : List Int} {pod : Int} (h : rankV s p pod = l) (hu : rSnap.V S u s) (hv : (rSlice 8 rI64).V S v p) (hn : s.nodes.length ≤ 1000) (hpr : Rng pod) : FnL Tryz.prog 33 #[u, v, .int .i64 pod] S 8 rI64 l := by
  have hh := p14_Rank pod hu hv hn hpr
  rw [h] at hh; exact hh
theorem p14_Best {S : SHeap} {u v : Value} {s : Snap} {p : List Int} (pod : Int) (hu : rSnap.V S u s) (hv : (rSlice 8 rI64).V S v p) (hn : s.nodes.length ≤ 1000) (hpr : Rng pod) : FnV Tryz.prog 29 #[u, v, .int .i64 pod] S (.tuple #[.int .i64 (bestV s p pod).1, .bool (bestV s p pod).2]) := by
  (refine Fn.enter (args := [u, v, .int .i64 pod]) Tryz.func29 rfl Tryz.ntmps29 rfl ?_; intro w0)
  cases hr : rankV s p pod with
  | nil =>
    have hb : bestV s p pod = (0, false) := by unfold bestV; rw [hr]
    rw [hb]
    repeat (first | (refine Walk ?_; intros) | refine JC.block ?_ | (refine JO.eff rfl rfl rfl (JEff.callL rfl (p14_Rank_eq hr (by exact vta) (by exact vta) hn hpr) rfl ?_); intro _ _ _ _ _ _) | (refine JO.eff rfl rfl rfl (JEff.callL rfl (p14_Rank _ (by exact vta) (by exact vta) (by first | assumption | omega) (by first | assumption | (unfold Rng; omega))) rfl ?_); intro _ _ _ _ _ _) | (refine WBox ?_; intros))
    (refine JX.ret2 Tryz.results29 (ResV.tmp rfl) (ResV.tmp rfl) (List.nil_sublist _) ?_)
    exact ⟨rfl, rfl⟩
  | cons n l =>
    have hb : bestV s p pod = (n, true) := by unfold bestV; rw [hr]
    have hz : (n :: l)[(0 : Int).toNat]? = some n := rfl
    have hl0 : (0 : Int) < ((n :: l).length : Int) := by first | (simp; done) | (simp; omega)
    rw [hb]
    repeat (first | (refine Walk ?_; intros) | refine JC.block ?_ | (refine JO.eff rfl rfl rfl (JEff.callL rfl (p14_Rank_eq hr (by exact vta) (by exact vta) hn hpr) rfl ?_); intro _ _ _ _ _ _) | (refine JO.eff rfl rfl rfl (JEff.callL rfl (p14_Rank _ (by exact vta) (by exact vta) (by first | assumption | omega) (by first | assumption | (unfold Rng; omega))) rfl ?_); intro _ _ _ _ _ _) | (refine WBox ?_; intros))
    rw [decide_eq_false (show ¬ ((n :: l).length : Int) = 0 by omega)]
    repeat (first | (refine Walk ?_; intros) | refine JC.block ?_ | (refine JO.eff rfl rfl rfl (JEff.callL rfl (p14_Rank _ (by exact vta) (by exact vta) (by first | assumption | omega) (by first | assumption | (unfold Rng; omega))) rfl ?_); intro _ _ _ _ _ _) | (refine WBox ?_; intros))
    (refine JX.ret2 Tryz.results29 (ResV.tmp rfl) (ResV.tmp rfl) (List.nil_sublist _) ?_)
    exact ⟨rfl, rfl⟩
end Go.Dr
namespace Go.Dr
theorem JC.label {C : Cx} {Q : Post} {S : SHeap} {M : List MEnt} {e : Env} {l : Nat} (h : JX C .normal Q S M e) : JC C (.label l) Q S M e := ⟨fun a w hw => wpIn_label (h.run a w hw)⟩
section
variable {P : Program} {b : Frame} {a : Act} {k : List Item} {cs : List Frame} {w : World}
theorem stepR_scope {c : Code} : step P (lone (b.atR a (.code (.scope c) :: k)) cs w) = .next (lone (b.atR a (.code c :: .inScope c :: k)) cs w) :=
  step_lone_go (by simp [stepG, stepG.exec, Frame.atR])
theorem stepR_inScope {c : Code} : step P (lone (b.atR a (.inScope c :: k)) cs w) = .next (lone (b.atR a k) cs w) :=
  step_lone_go (by simp [stepG, stepG.exec, Frame.atR])
end
theorem wpIn_scope {F : Fence} {n : Nat} {P : Program} {Q : Exit → Act → World → Prop} {a : Act} {w : World} {c : Code} (hg : ∀ l a w, ¬ Q (.goto l) a w) (h : c.wpIn F n P Q a w) : (Code.scope c).wpIn F n P Q a w := by
  intro b k cs hro hb hr
  have h0 : (lone (b.atR a (.code (.scope c) :: k)) cs w).fenced P F := fenced_calm hb hr rfl
  obtain ⟨e, a₁, w₁, hq, harr⟩ := h b (.inScope c :: k) cs hro hb hr
  cases e with
  | normal => exact ⟨.normal, a₁, w₁, hq, .head h0 stepR_scope (StepsIn.trans harr (.one (fenced_calm hb hr rfl) stepR_inScope))⟩
  | exit id =>
    have hx : exitTo id (.inScope c :: k) = exitTo id k := by simp [exitTo]
    exact ⟨.exit id, a₁, w₁, hq, fun k' hk => .head h0 stepR_scope (harr.1 k' (by rw [hx]; exact hk)),
        fun hr' hk => let ⟨k₁, h1, h2⟩ := harr.2 hr' (by rw [hx]; exact hk); ⟨k₁, h1, .head h0 stepR_scope h2⟩⟩
  | goto l => exact absurd hq (hg _ _ _)
  | ret => exact ⟨_, a₁, w₁, hq, .of_steps (.one h0 stepR_scope) harr⟩
  | panic ch => exact ⟨_, a₁, w₁, hq, .of_steps (.one h0 stepR_scope) harr⟩
  | outgrown => exact ⟨_, a₁, w₁, hq, .of_steps (.one h0 stepR_scope) harr⟩
theorem JC.scope {C : Cx} {Q : Post} {S : SHeap} {M : List MEnt} {e : Env} {c : Code} (hg : ∀ l a w, ¬ Q (.goto l) a w) (h : JC C c Q S M e) : JC C (.scope c) Q S M e := ⟨fun a w hw => wpIn_scope hg (h.run a w hw)⟩
end Go.Dr
namespace Go.Dr
abbrev FnLL {α β : Type} (P : Program) (f : FuncId) (args : Array Value) (S : SHeap) (bt : Nat) (rep : Rp α) (xs : List α) (bt2 : Nat) (rep2 : Rp β) (ys : List β) (zs : List Value) : Prop :=
  FnR P f args S fun w S' => ∃ u v, w = .tuple (u :: v :: zs).toArray ∧ (rSlice bt rep).V S' u xs ∧ (rSlice bt2 rep2).V S' v ys
section
variable {C : Cx} {R : Rg} {Q : Post} {S : SHeap} {M : List MEnt} {e : Env} {rest : List Nat}
variable {d : Nat} {ty : TypeId} {pos : String} {aft : Array Edge} {g : Option (Nat × Bool)}
theorem JEff.callLL {α β : Type} {f : FuncId} [Ent C.P f] {args : Array Operand} {ts : Array TypeId} {vs : List Value} {bt bt2 : Nat} {rep : Rp α} {rep2 : Rp β} {xs : List α} {ys : List β} {zs : List Value} (hargs : evs e args.toList = some vs) (hf : FnLL C.P f vs.toArray S bt rep xs bt2 rep2 ys zs) (hdN : Nat.blt d C.N = true)
    (k : ∀ a c a2 c2 S', S.le S' → (rSlice bt rep).V S' (.slice a xs.length c) xs → xs.length ≤ 140737488355328 → (rSlice bt2 rep2).V S' (.slice a2 ys.length c2) ys → ys.length ≤ 140737488355328 → JO C R rest Q S' M ((d, .tuple (.slice a xs.length c :: .slice a2 ys.length c2 :: zs).toArray) :: e)) : JEff C R ⟨some d, .call { callee := .value (.func f), args, argTypes := ts }, ty, pos, aft, g⟩ rest Q S M e :=
  JEff.callR hargs hf hdN fun v S' hl hp => by
    obtain ⟨u, v, rfl, hp, hq⟩ := hp
    obtain ⟨a, c, rfl, _, _, hb, _⟩ := V_slice.1 hp
    obtain ⟨a2, c2, rfl, _, _, hb2, _⟩ := V_slice.1 hq
    exact k a c a2 c2 S' hl hp hb hq hb2
end
end Go.Dr
namespace Go.Dr
open Go.Proofs
set_option maxRecDepth 20000
set_option maxHeartbeats 2000000
set_option linter.unusedSimpArgs false
set_option linter.unusedVariables false
def PackAns (S0 : SHeap) (q ws : List Int) (e : Int) (w : Value) (S' : SHeap) : Prop :=
  ∃ a c a2 c2, w = .tuple #[.slice a q.length c, .slice a2 ws.length c2, .int .i64 e] ∧ (rSlice 8 rI64).V S' (.slice a q.length c) q ∧ (rSlice 8 rI64).V S' (.slice a2 ws.length c2) ws ∧ (q = [] ∨ ∃ b tl E, a = some ⟨b, 0, none⟩ ∧ S0 b = none ∧ S' b = some (.cells (intsT q tl) E (0, 0)) ∧ q.length ≤ c)
theorem s36_L14i {P K : Prop} (k : K) (h : Goal K → P := by
  intro zk
  (first | refine Walk ?_ | refine JC.block ?_ | (refine JO.eff rfl rfl rfl (JEff.callV rfl (p7_Check (by exact vta) (by exact vta)) rfl ?_); intro zqa zqb) | (refine JO.eff rfl rfl rfl (JEff.callV rfl (p14_Best _ (by exact vta) (by exact vta) (by first | assumption | omega) (by first | assumption | (unfold Rng; omega))) rfl ?_); intro zqa zqb) | (refine JO.eff rfl rfl rfl (JEff.callL rfl (p14_Order (by exact vta) (by exact vta) (by first | assumption | omega)) rfl ?_); intro zqa zqb zqc zqd zqe zqf) | (refine JO.eff rfl rfl rfl (JEff.callRow rfl (p_Clone_int (by exact vta)) rfl ?_); intro zqa zqb zqc zqd zqe zqf) | (refine WBox ?_))
  (repeat (first | revert zqg | revert zqf | revert zqe | revert zqd | revert zqc | revert zqb | revert zqa))
  exact zk.k) : P := h ⟨k⟩
theorem p14_Pack {S : SHeap} {u v w : Value} {s : Snap} {p pods : List Int} (hu : rSnap.V S u s) (hv : (rSlice 8 rI64).V S v p) (hw : (rSlice 8 rI64).V S w pods) (hpl : pods.length ≤ 1000) : FnR Tryz.prog 36 #[u, v, w] S (PackAns S (packV s p pods).1 (packV s p pods).2.1 (packV s p pods).2.2) := by
  have hv0 := hv
  obtain ⟨va, vc, rfl, _, hb8, hb, hpr⟩ := V_slice.1 hv0
  obtain ⟨oa, oc, rfl, _⟩ := V_slice.1 hw
  (refine Fn.enter (args := [u, .slice va p.length vc, .slice oa pods.length oc]) Tryz.func36 rfl Tryz.ntmps36 rfl ?_; intro w0)
  repeat (refine s36_L14i ?_; intros)
  refine JC.scope (fun _ _ _ h => h) ?_
  repeat (refine s36_L14i ?_; intros)
  by_cases hc : checkP s p = 0
  · rw [decide_eq_true hc]
    obtain ⟨hs, hlen, hp24, _, _, _, hqr⟩ := placed_hyps hc
    have hpk : packV s p pods = ((packGo s p [] (orderV s pods)).1, (packGo s p [] (orderV s pods)).2.mergeSort (fun x y => decide (x ≤ y)), 0) := by unfold packV; rw [if_neg (by simpa using hc)]
    rw [hpk]
    repeat (first | (refine Walk ?_; intros) | refine JC.block ?_ | refine JC.label ?_ | (refine JO.eff rfl rfl rfl (JEff.callV rfl (p7_Check (by exact vta) (by exact vta)) rfl ?_); intro _ _) | (refine JO.eff rfl rfl rfl (JEff.callV rfl (p14_Best _ (by exact vta) (by exact vta) (by first | assumption | omega) (by first | assumption | (unfold Rng; omega))) rfl ?_); intro _ _) | (refine JO.eff rfl rfl rfl (JEff.callL rfl (p14_Order (by exact vta) (by exact vta) (by first | assumption | omega)) rfl ?_); intro _ _ _ _ _ _) | (refine JO.eff rfl rfl rfl (JEff.callRow rfl (p_Clone_int (by exact vta)) rfl ?_); intro _ _ _ _ _ _) | (refine WBox ?_; intros))
    rename_i a2 c2 S3 us hl3 hus _ _ _ _ _ _ _ _
    by_cases hp0 : p = []
    · have ho0 : orderV s pods = [] := by
        have := order_len s pods
        rw [hp0] at hlen
        exact List.eq_nil_of_length_eq_zero (by simp at hlen; omega)
      rw [ho0, hp0]
      refine JC.freezeRow (rep := rI64) (bt := 8) (xs := ([] : List Int)) (by rw [← hp0]; exact hus.mono (by exact lea)) rfl (by simp) (by simp) (fun S9 hl9 hV9 => ?_)
      refine JC.loopF0 (σ := Nat) [(3, _), (6, _), (24, _), (25, _)] (fun q => [(7, .slice none 0 0), (26, .int .i64 q)]) (fun Si q => q = 0) (fun q => 0) (0) (by exact sba) (by exact sba) (rfl) ?_; rintro Si i hli hii; (try dsimp only at hii); dsimp only [List.cons_append, List.nil_append]
      subst hii
      repeat (first | (refine Walk ?_; intros) | refine JC.block ?_ | (refine JO.eff rfl rfl rfl (JEff.callV rfl (p_SortInts0 _ _) rfl ?_); intro _ _) | (refine JO.eff rfl rfl rfl (JEff.callV rfl (p7_Check (by exact vta) (by exact vta)) rfl ?_); intro _ _) | (refine JO.eff rfl rfl rfl (JEff.callV rfl (p14_Best _ (by exact vta) (by exact vta) (by first | assumption | omega) (by first | assumption | (unfold Rng; omega))) rfl ?_); intro _ _) | (refine JO.eff rfl rfl rfl (JEff.callL rfl (p14_Order (by exact vta) (by exact vta) (by first | assumption | omega)) rfl ?_); intro _ _ _ _ _ _) | (refine JO.eff rfl rfl rfl (JEff.callRow rfl (p_Clone_int (by exact vta)) rfl ?_); intro _ _ _ _ _ _) | (refine WBox ?_; intros))
      (refine JX.ret3 Tryz.results36 (ResV.tmp rfl) (ResV.tmp rfl) (ResV.tmp rfl) (List.nil_sublist _) ?_)
      have e1 : packGo s [] [] [] = ([], []) := by rw [packGo]
      rw [e1]
      exact ⟨rfl, a2, c2, none, 0, by simp, hV9.mono (by exact lea), by simpa using V_nil, .inl rfl⟩
    · have hp1 : 0 < p.length := List.length_pos_iff.2 hp0
      rw [flat_int hus]
      refine JC.rowBlk hp1 (fun b tl hab hbb hnc => ?_)
      subst hab
      have hol := order_len s pods
      have hom := fun x => @order_mem s pods x
      generalize orderV s pods = o at *
      (first | refine JC.newRow 3 1 ?_ | refine JO.newRow 3 1 ?_ | refine JX.newRow 3 1 ?_)
      refine JC.perm (List.Perm.swap _ _ _) ?_
      refine JC.loopF (σ := Nat × Option Addr × Nat × List Int × List Int × List Value) [(3, _), (6, _), (24, _), (25, _)] (fun z => [(7, .slice z.2.1 z.2.2.2.2.1.length z.2.2.1), (26, .int .i64 z.1)]) (fun z => [.blk b (.cells (intsT z.2.2.2.1 tl) 3 (0, 0)), .row w0.heap.size 3 1 (.slice z.2.1 z.2.2.2.2.1.length z.2.2.1) z.2.2.2.2.1.length (flatCells z.2.2.2.2.2)]) (fun Si z => z.1 ≤ o.length ∧ z.2.2.2.1.length = p.length ∧ z.2.2.2.2.1.length ≤ z.1 ∧ allV rI64 Si z.2.2.2.2.2 z.2.2.2.2.1 ∧ (∀ x ∈ z.2.2.2.1, Rng x) ∧ packGo s z.2.2.2.1 z.2.2.2.2.1 (o.drop z.1) = packGo s p [] o) (fun z => o.length - z.1) ((0, none, 0, p, [], [])) (by exact sba) (by exact sba) rfl (⟨Nat.zero_le _, rfl, Nat.le_refl _, trivial, hqr, rfl⟩) ?_; rintro Si ⟨i, ra, rc, q, ws, vs⟩ hli hii; (try dsimp only at hii); dsimp only [List.cons_append, List.nil_append]
      obtain ⟨hi, hql, hwl, hvs, hqr2, hgo⟩ := hii
      try dsimp only at hi hql hwl hvs hqr2 hgo
      repeat (refine s36_L14i ?_; intros)
      refine JC.cond rfl (fun hc2 => ?_) (fun hc2 => ?_)
      · have hi' := dlt hc2
        obtain ⟨x, hx, hd⟩ := drop_at hi'
        rw [hd, packGo] at hgo
        obtain ⟨hx0, hx1, _⟩ := hom x (List.mem_of_getElem? hx)
        obtain ⟨y, hy⟩ : ∃ y, q[x.toNat]? = some y := ⟨_, List.getElem?_eq_getElem (by omega)⟩
        have hy0 := at0_some hy
        have hyr := hqr2 y (List.mem_of_getElem? hy)
        have hxr : Rng x := by unfold Rng; omega
        rw [hy0] at hgo
        repeat (refine s36_L14i ?_; intros)
        refine JO.pure rfl rfl rfl (JPure.indexRI rfl rfl rfl (by omega) (by omega) ?_)
        refine JO.pure rfl rfl rfl (JPure.loadMIT rfl (by (first | exact List.mem_cons_self | exact List.mem_cons_of_mem _ List.mem_cons_self | exact List.mem_cons_of_mem _ (List.mem_cons_of_mem _ List.mem_cons_self))) hy hyr (.inl rfl) rfl ?_)
        repeat (refine s36_L14i ?_; intros)
        refine JC.cond rfl (fun hf => ?_) (fun hf => ?_)
        · have hf : ¬ y = -1 := by simpa using hf
          rw [if_pos hf] at hgo
          repeat (refine s36_L14i ?_; intros)
          exact JX.roundF (i + 1, ra, rc, q, ws, vs) (by exact lea) ⟨by omega, hql, by dsimp only; omega, hvs.mono (by exact lea), hqr2, hgo⟩ (by (try dsimp only); omega) rfl (by exact sba) (by exact sba)
        · have hf : ¬ ¬ y = -1 := by simpa using hf
          rw [if_neg hf] at hgo
          repeat (refine s36_L14i ?_; intros)
          refine JO.out (fun hout => ?_)
          have hsv := (by assumption : rSnap.V _ _ s)
          refine JO.eff rfl rfl rfl (JEff.lendV rfl (List.Perm.refl _) (by intro l hl; cases hl) hout (fun S1 hl1 hS1 => p14_Best x (hsv.mono (by exact lea)) (blk_slice (SHeap.le.refl S1) hS1 hql.symm hnc (by omega) hqr2) (by omega) hxr) rfl ?_); intro S5 hl5
          rcases hbv : bestV s q x with ⟨n, ok⟩
          rw [hbv] at hgo
          dsimp only at hgo ⊢
          repeat (refine s36_L14i ?_; intros)
          cases ok
          · rw [if_neg (by simp)] at hgo
            repeat (refine s36_L14i ?_; intros)
            refine JO.perm (List.Perm.swap _ _ _) ?_
            (refine JO.eff rfl rfl rfl (JEff.build (rep := rI64) (ys := [x]) rfl rfl ⟨⟨(V_i64.2 ⟨rfl, hxr⟩), nna⟩, trivial⟩ rfl rfl rfl rfl ?_); intro bb hbb hvv); (repeat (first | (refine Walk ?_; intros) | refine JC.block ?_)); (refine JO.eff rfl rfl rfl (JEff.appendL (rep := rI64) rfl rfl rfl rfl (List.Perm.swap _ _ _) (by exact hvv.flat) (by intro c hc; exact flat_one (fun v hv => (hvv.size v hv).2) c hc) (by first | omega | (unfold big; omega)) (by unfold big; omega) (by first | exact rowT_ok | (intro l hl; cases hl)) rfl ?_); intro a4 c4; clear hvv hbb)
            repeat (refine s36_L14i ?_; intros)
            refine JX.perm (List.Perm.swap _ _ _) ?_
            exact JX.roundF (i + 1, a4, c4, q, ws ++ [x], vs ++ [.int .i64 x]) (by exact lea) ⟨by omega, hql, by simp; omega, allV_add (by exact lea) hvs (V_i64.2 ⟨rfl, hxr⟩) nna, hqr2, hgo⟩ (by (try dsimp only); omega) (by simp [flat_append] <;> rfl) (by (try dsimp only); simp only [List.length_append, List.length_cons, List.length_nil]; exact sba) (by exact sba)
          · rw [if_pos rfl] at hgo
            obtain ⟨hn0, hn1⟩ := best_rng hbv
            have hnr : Rng n := by unfold Rng; omega
            repeat (refine s36_L14i ?_; intros)
            refine JO.pure rfl rfl rfl (JPure.indexRI rfl rfl rfl (by omega) (by omega) ?_)
            refine JO.eff rfl rfl rfl (JEff.storeIT (i := x.toNat) rfl rfl hnr (List.Perm.refl _) (by omega) (by intro l hl; cases hl) ?_)
            repeat (refine s36_L14i ?_; intros)
            exact JX.roundF (i + 1, ra, rc, q.set x.toNat n, ws, vs) (by exact lea) ⟨by omega, by simp [hql], by dsimp only; omega, hvs.mono (by exact lea), fun z hz => by
              rcases List.mem_or_eq_of_mem_set hz with h | h
              · exact hqr2 z h
              · exact h ▸ hnr, hgo⟩ (by (try dsimp only); omega) rfl (by exact sba) (by exact sba)
      · have hi' := dnlt hc2
        rw [List.drop_eq_nil_of_le hi', packGo] at hgo
        obtain rfl : i = o.length := by omega
        rw [← hgo]
        refine JC.blkNew rfl (fun hb0 _ => ?_)
        refine JC.freeze hbb (fun S9 hl9 hS9 => ?_)
        have hVq := blk_slice (SHeap.le.refl S9) hS9 hql.symm hnc (by omega) hqr2
        have hwr : ∀ z ∈ ws, Rng z := fun z hz => (allV_int hvs).2 z hz
        rw [flat_int hvs]
        by_cases hw0 : ws = []
        · subst hw0
          refine JC.freezeRowI (by simp) rfl (by simp) (fun S8 hl8 hV8 => ?_)
          repeat (first | (refine Walk ?_; intros) | refine JC.block ?_ | (refine JO.eff rfl rfl rfl (JEff.callV rfl (p_SortInts0 _ _) rfl ?_); intro _ _) | (refine JO.eff rfl rfl rfl (JEff.callV rfl (p7_Check (by exact vta) (by exact vta)) rfl ?_); intro _ _) | (refine JO.eff rfl rfl rfl (JEff.callV rfl (p14_Best _ (by exact vta) (by exact vta) (by first | assumption | omega) (by first | assumption | (unfold Rng; omega))) rfl ?_); intro _ _) | (refine JO.eff rfl rfl rfl (JEff.callL rfl (p14_Order (by exact vta) (by exact vta) (by first | assumption | omega)) rfl ?_); intro _ _ _ _ _ _) | (refine JO.eff rfl rfl rfl (JEff.callRow rfl (p_Clone_int (by exact vta)) rfl ?_); intro _ _ _ _ _ _) | (refine WBox ?_; intros))
          (refine JX.ret3 Tryz.results36 (ResV.tmp rfl) (ResV.tmp rfl) (ResV.tmp rfl) (List.nil_sublist _) ?_)
          exact ⟨rfl, some ⟨b, 0, none⟩, c2, ra, rc, by simp [hql], by dsimp only; rw [hql]; exact hVq.mono (by exact lea), by simpa using hV8.mono (by exact lea), .inr ⟨b, tl, _, rfl, hb0, (by exact lea : SHeap.le _ _) _ _ hS9, by (try dsimp only); omega⟩⟩
        · have hw1 : 0 < ws.length := List.length_pos_iff.2 hw0
          refine JC.rowBlk hw1 (fun wb tw hwb hwbb hwc => ?_)
          subst hwb
          repeat (refine s36_L14i ?_; intros)
          refine JO.eff rfl rfl rfl (JEff.callM (Mc := [.blk wb (.cells (intsT ws tw) 3 (0, 0))]) (Mr := []) rfl (List.Perm.refl _) (mayAll rfl) (p_SortInts ws rfl (by omega)) rfl ?_)
          intro w2 S2 M2 hl2 hw2
          obtain ⟨rfl, rfl, rfl⟩ := hw2
          dsimp only [List.cons_append, List.nil_append]
          have hsl : (ws.mergeSort fun x y => decide (x ≤ y)).length = ws.length := List.length_mergeSort _
          refine JO.freeze hwbb (by intro l hl; cases hl) (fun S7 hl7 hS7 => ?_)
          have hVw := blk_slice (SHeap.le.refl S7) hS7 hsl.symm hwc (by unfold big; omega) (fun z hz => hwr z ((List.mergeSort_perm _ _).mem_iff.1 hz))
          repeat (refine s36_L14i ?_; intros)
          (refine JX.ret3 Tryz.results36 (ResV.tmp rfl) (ResV.tmp rfl) (ResV.tmp rfl) (List.nil_sublist _) ?_)
          exact ⟨rfl, some ⟨b, 0, none⟩, c2, some ⟨wb, 0, none⟩, rc, by simp [hql], by (try dsimp only); rw [hql]; exact hVq.mono (by exact lea), by (try dsimp only); rw [hsl]; exact hVw.mono (by exact lea), .inr ⟨b, tl, _, rfl, hb0, (by exact lea : SHeap.le _ _) _ _ hS9, by (try dsimp only); omega⟩⟩
  · rw [decide_eq_false hc]
    have hpk : packV s p pods = ([], [], checkP s p) := if_pos hc
    rw [hpk]
    repeat (refine s36_L14i ?_; intros)
    (refine JX.ret3 Tryz.results36 (ResV.tmp rfl) (ResV.tmp rfl) (ResV.tmp rfl) (List.nil_sublist _) ?_)
    exact ⟨rfl, _, _, _, _, rfl, V_nil, V_nil, .inl rfl⟩
theorem p14_PackL {S : SHeap} {u v w : Value} {s : Snap} {p pods : List Int} (hu : rSnap.V S u s) (hv : (rSlice 8 rI64).V S v p) (hw : (rSlice 8 rI64).V S w pods) (hpl : pods.length ≤ 1000) : FnLL Tryz.prog 36 #[u, v, w] S 8 rI64 (packV s p pods).1 8 rI64 (packV s p pods).2.1 [.int .i64 (packV s p pods).2.2] :=
  Fn.mono (p14_Pack hu hv hw hpl) fun z S' M' _ hz => ⟨hz.1, by
    obtain ⟨a, c, a2, c2, rfl, h1, h2, _⟩ := hz.2
    exact ⟨_, _, rfl, h1, h2⟩⟩
theorem w14_Pack {S : SHeap} {u v w : Value} {s : Snap} {p pods q ws : List Int} {e : Int} (h : packV s p pods = (q, ws, e)) (hu : rSnap.V S u s) (hv : (rSlice 8 rI64).V S v p) (hw : (rSlice 8 rI64).V S w pods) (hpl : pods.length ≤ 1000) : FnLL Tryz.prog 36 #[u, v, w] S 8 rI64 q 8 rI64 ws [.int .i64 e] := by
  have hh := p14_PackL hu hv hw hpl
  rw [h] at hh; exact hh
end Go.Dr
namespace Go.Dr
open Go.Proofs
set_option maxRecDepth 20000
set_option maxHeartbeats 2000000
set_option linter.unusedSimpArgs false
set_option linter.unusedVariables false
theorem s56_L14r {P K : Prop} (k : K) (h : Goal K → P := by
  intro zk
  (first | refine Walk ?_ | refine JC.block ?_ | (refine JO.eff rfl rfl rfl (JEff.callV rfl (r7_Check (by exact vta) (by exact vta)) rfl ?_); intro zqa zqb) | (refine JO.eff rfl rfl rfl (JEff.callV rfl (r7_UsedOf _ (by assumption) (by assumption) (by exact vta) (by exact vta)) rfl ?_); intro zqa zqb) | (refine WBox ?_))
  (repeat (first | revert zqg | revert zqf | revert zqe | revert zqd | revert zqc | revert zqb | revert zqa))
  exact zk.k) : P := h ⟨k⟩
theorem r7_Used {S : SHeap} {u v : Value} {s : Snap} {p : List Int} (node : Int) (hu : rSnap.V S u s) (hv : (rSlice 8 rI64).V S v p) : FnV Tryz.prog 56 #[u, v, .int .i64 node] S (.agg (ints (usedP s p node))) := by
  have hZ : ∀ S, (rArr 5).V S (.agg (ints [0, 0, 0, 0, 0])) [0, 0, 0, 0, 0] := fun S => V_arr.2 ⟨rfl, rfl, by simp [Rng]⟩
  (refine Fn.enter (args := [u, v, .int .i64 node]) Tryz.func56 rfl Tryz.ntmps56 rfl ?_; intro w0)
  repeat (refine s56_L14r ?_; intros)
  (refine JO.eff rfl rfl rfl (JEff.alloc rfl ?_); intro rb hrb)
  repeat (refine s56_L14r ?_; intros)
  by_cases hc : checkP s p = 0
  · rw [decide_eq_true hc]
    repeat (refine s56_L14r ?_; intros)
    by_cases h0 : node < 0
    · rw [decide_eq_true h0, show usedP s p node = [0, 0, 0, 0, 0] by unfold usedP; rw [if_neg (by simp; omega)]]
      repeat (refine s56_L14r ?_; intros)
      refine JO.eff rfl rfl rfl (JEff.storeW rfl rfl (hZ _) nna pma rfl (by intro l hl; cases hl) ?_)
      refine JO.freezeV (hZ _) nna hrb (by intro l hl; cases hl) ?_; intro S2 hl2 hpo
      repeat (refine s56_L14r ?_; intros)
      exact JX.retCell Tryz.results56 rfl hpo (List.nil_sublist _) (fun w hw => ⟨rfl, by obtain ⟨rfl, _⟩ := V_arr.1 hw; rfl⟩)
    rw [decide_eq_false h0]
    repeat (refine s56_L14r ?_; intros)
    by_cases h1 : (s.nodes.length : Int) ≤ node
    · rw [decide_eq_true h1, show usedP s p node = [0, 0, 0, 0, 0] by unfold usedP; rw [if_neg (by simp; omega)]]
      repeat (refine s56_L14r ?_; intros)
      refine JO.eff rfl rfl rfl (JEff.storeW rfl rfl (hZ _) nna pma rfl (by intro l hl; cases hl) ?_)
      refine JO.freezeV (hZ _) nna hrb (by intro l hl; cases hl) ?_; intro S2 hl2 hpo
      repeat (refine s56_L14r ?_; intros)
      exact JX.retCell Tryz.results56 rfl hpo (List.nil_sublist _) (fun w hw => ⟨rfl, by obtain ⟨rfl, _⟩ := V_arr.1 hw; rfl⟩)
    rw [decide_eq_false h1, show usedP s p node = usedV s p node by unfold usedP; rw [if_pos (by simp [z0, hc]; omega)]]
    obtain ⟨hs, hlen, _⟩ := checkP_ok hc
    obtain ⟨hul, hur⟩ := used_fine hs hlen node
    have hZ : ∀ S, (rArr 5).V S (.agg (ints (usedV s p node))) (usedV s p node) := fun S => V_arr.2 ⟨rfl, hul, fun z hz => by have := hur z hz; unfold Qty at this; unfold Rng; omega⟩
    repeat (refine s56_L14r ?_; intros)
    refine JO.eff rfl rfl rfl (JEff.storeW rfl rfl (hZ _) nna pma rfl (by intro l hl; cases hl) ?_)
    refine JO.freezeV (hZ _) nna hrb (by intro l hl; cases hl) ?_; intro S2 hl2 hpo
    repeat (refine s56_L14r ?_; intros)
    exact JX.retCell Tryz.results56 rfl hpo (List.nil_sublist _) (fun w hw => ⟨rfl, by obtain ⟨rfl, _⟩ := V_arr.1 hw; rfl⟩)
  · rw [decide_eq_false hc, show usedP s p node = [0, 0, 0, 0, 0] by unfold usedP; rw [if_neg (by simp [z0, hc])]]
    repeat (refine s56_L14r ?_; intros)
    refine JO.eff rfl rfl rfl (JEff.storeW rfl rfl (hZ _) nna pma rfl (by intro l hl; cases hl) ?_)
    refine JO.freezeV (hZ _) nna hrb (by intro l hl; cases hl) ?_; intro S2 hl2 hpo
    repeat (refine s56_L14r ?_; intros)
    exact JX.retCell Tryz.results56 rfl hpo (List.nil_sublist _) (fun w hw => ⟨rfl, by obtain ⟨rfl, _⟩ := V_arr.1 hw; rfl⟩)
theorem r7_Used_eq {S : SHeap} {u v : Value} {s : Snap} {p l : List Int} {node : Int} (h : usedP s p node = l) (hu : rSnap.V S u s) (hv : (rSlice 8 rI64).V S v p) : FnV Tryz.prog 56 #[u, v, .int .i64 node] S (.agg (ints l)) := by
  have hh := r7_Used node hu hv
  rw [h] at hh; exact hh
theorem s32_L14r {P K : Prop} (k : K) (h : Goal K → P := by
  intro zk
  (first | refine Walk ?_ | refine JC.block ?_ | (refine JO.eff rfl rfl rfl (JEff.callV rfl (r7_Check (by exact vta) (by exact vta)) rfl ?_); intro zqa zqb) | (refine WBox ?_) | (refine WNew ?_) | (refine WPut ?_))
  (repeat (first | revert zqg | revert zqf | revert zqe | revert zqd | revert zqc | revert zqb | revert zqa))
  exact zk.k) : P := h ⟨k⟩
theorem r14_Left {S : SHeap} {u v : Value} {s : Snap} {p : List Int} (node : Int) (hu : rSnap.V S u s) (hv : (rSlice 8 rI64).V S v p) : FnV Tryz.prog 32 #[u, v, .int .i64 node] S (.int .i64 (leftV s p node)) := by
  (refine Fn.enter (args := [u, v, .int .i64 node]) Tryz.func32 rfl Tryz.ntmps32 rfl ?_; intro w0)
  repeat (refine s32_L14r ?_; intros)
  by_cases hc : checkP s p = 0
  · rw [decide_eq_true hc]
    repeat (refine s32_L14r ?_; intros)
    by_cases h0 : node < 0
    · rw [decide_eq_true h0, left_no (by omega)]
      repeat (refine s32_L14r ?_; intros)
      (refine JX.ret1 Tryz.results32 (ResV.tmp rfl) (List.nil_sublist _) ?_)
      exact ⟨rfl, rfl⟩
    rw [decide_eq_false h0]
    repeat (refine s32_L14r ?_; intros)
    by_cases h1 : (s.nodes.length : Int) ≤ node
    · rw [decide_eq_true h1, left_no (by omega)]
      repeat (refine s32_L14r ?_; intros)
      (refine JX.ret1 Tryz.results32 (ResV.tmp rfl) (List.nil_sublist _) ?_)
      exact ⟨rfl, rfl⟩
    rw [decide_eq_false h1]
    obtain ⟨hs, hlen, _⟩ := checkP_ok hc
    obtain ⟨x, hx⟩ : ∃ x, s.nodes[node.toNat]? = some x := ⟨_, List.getElem?_eq_getElem (by omega)⟩
    have hxm := List.mem_of_getElem? hx
    have hxr := shaped_cap (checkS_ok hs).1 x hxm
    obtain ⟨hul, hur⟩ := used_fine hs hlen node
    have hU : (rArr 5).V S (.agg (ints (usedV s p node))) (usedV s p node) := V_arr.2 ⟨rfl, hul, fun z hz => by have := hur z hz; unfold Qty at this; unfold Rng; omega⟩
    have hcap : capOf s node.toNat = x.cap := by simp [capOf, hx]
    have hlv : leftV s p node = leftTo x.cap (usedV s p node) 5 := by unfold leftV; rw [if_pos ⟨hc, by omega, by omega⟩, hcap]
    have hlr := leftTo_rng (cap := x.cap) (used_nn hs hlen node)
    have hcl := (snap_caps (by assumption : PtrTo _ _ rSnap s) x hxm).1
    have hus : usedP s p node = usedV s p node := by unfold usedP; rw [if_pos (by simp [z0, hc]; omega)]
    rw [hlv]
    repeat (first | (refine Walk ?_; intros) | refine JC.block ?_ | (refine JO.eff rfl rfl rfl (JEff.callV rfl (r7_Used_eq hus (by exact vta) (by exact vta)) rfl ?_); intro _ _) | (refine JO.eff rfl rfl rfl (JEff.callV rfl (r7_Check (by exact vta) (by exact vta)) rfl ?_); intro _ _) | (refine WBox ?_; intros) | (refine WNew ?_; intros) | (refine WPut ?_; intros))
    refine JC.loopF0 (σ := Nat) [(2, _), (3, _), (8, _)] (fun q => [(7, .int .i64 (leftTo x.cap (usedV s p node) q)), (9, .int .i64 q)]) (fun Si q => q ≤ 5) (fun q => 5 - q) (0) (by exact sba) (by exact sba) (by omega) ?_; rintro Si k hli hii; (try dsimp only at hii); dsimp only [List.cons_append, List.nil_append]
    repeat (refine s32_L14r ?_; intros)
    refine JC.cond rfl (fun hc2 => ?_) (fun hc2 => ?_)
    · have hk' := dlt5 hc2
      obtain ⟨z, hz⟩ : ∃ z, (usedV s p node)[k]? = some z := ⟨_, List.getElem?_eq_getElem (by omega)⟩
      obtain ⟨y, hy⟩ : ∃ y, x.cap[k]? = some y := ⟨_, List.getElem?_eq_getElem (by omega)⟩
      have hzr := hur z (List.mem_of_getElem? hz)
      have hyr := hxr y (List.mem_of_getElem? hy)
      have hz0 := at0_some hz
      have hy0 := at0_some hy
      have h5 := hlr k
      have hst : leftTo x.cap (usedV s p node) (k + 1) = leftTo x.cap (usedV s p node) k + left1 y z := by simp only [leftTo, hz0, hy0]
      have hl2 := left1_rng (c := y) (u := z) (by omega)
      unfold Qty at hzr hyr
      repeat (refine s32_L14r ?_; intros)
      by_cases hy1 : 0 < y
      · rw [decide_eq_true hy1]
        have hl1 : left1 y z = (1000 * max 0 (y - z)).tdiv y := if_pos hy1
        repeat (refine s32_L14r ?_; intros)
        refine JO.pure rfl rfl rfl (JPure.quo rfl rfl (by omega) (by rw [← hl1]; unfold Rng; omega) rfl ?_)
        rw [← hl1]
        repeat (refine s32_L14r ?_; intros)
        exact JX.roundF (k + 1) (by exact lea) (by omega) (by (try dsimp only); omega) rfl (by (try dsimp only); rw [hst]; exact sba) (by exact sba)
      · rw [decide_eq_false hy1]
        have hl1 : left1 y z = 0 := if_neg hy1
        rw [hl1, Int.add_zero] at hst
        repeat (refine s32_L14r ?_; intros)
        exact JX.roundF (k + 1) (by exact lea) (by omega) (by (try dsimp only); omega) rfl (by (try dsimp only); rw [hst]; exact sba) (by exact sba)
    · have hk' := dnlt5 hc2
      obtain rfl : k = 5 := by omega
      repeat (refine s32_L14r ?_; intros)
      (refine JX.ret1 Tryz.results32 (ResV.tmp rfl) (List.nil_sublist _) ?_)
      exact ⟨rfl, rfl⟩
  · rw [decide_eq_false hc, left_no (fun h => hc h.1)]
    repeat (refine s32_L14r ?_; intros)
    (refine JX.ret1 Tryz.results32 (ResV.tmp rfl) (List.nil_sublist _) ?_)
    exact ⟨rfl, rfl⟩
end Go.Dr
namespace Go.Dr
open Go.Proofs
set_option maxRecDepth 20000
set_option maxHeartbeats 2000000
set_option linter.unusedSimpArgs false
set_option linter.unusedVariables false
theorem w14r_Step {S : SHeap} {u v xv : Value} {s : Snap} {p q : List Int} {c : Clause} {e : Int} {x : Step} (h : stepV s p x = (q, c, e)) (hu : rSnap.V S u s) (hv : (rSlice 8 rI64).V S v p) (hx : rStep.V S xv x) : FnSt Tryz.prog 60 #[u, v, xv] S q c (.int .i64 e) := by
  have hh := r10_Step hu hv hx
  rw [h] at hh; exact hh
theorem s34_L14s {P K : Prop} (k : K) (h : Goal K → P := by
  intro zk
  (first | refine Walk ?_ | refine JC.block ?_ | refine JC.drawN 7 rfl [0, 1, 2, 3, 4, 5, 6, 7] [0, 1, 2, 3, 4, 5, 7] Tryz_mixed (by decide +kernel) ?_ | (refine JO.eff rfl rfl rfl (JEff.callV rfl (r14_Left _ (by exact vta) (by exact vta)) rfl ?_); intro zqa zqb) | (refine JO.eff rfl rfl rfl (JEff.callL rfl (r10_Ways _ (by exact vta) (by exact vta) (by first | assumption | omega) (by first | assumption | (unfold Rng; omega))) rfl ?_); intro zqa zqb zqc zqd zqe zqf) | (refine JO.eff rfl rfl rfl (JEff.callSt rfl (r10_Step (by exact vta) (by exact vta) (by exact vta)) rfl ?_); intro zqa zqb zqc zqd zqe zqf zqg) | (refine WBox ?_) | (refine WNew ?_) | (refine WPut ?_))
  (repeat (first | revert zqg | revert zqf | revert zqe | revert zqd | revert zqc | revert zqb | revert zqa))
  exact zk.k) : P := h ⟨k⟩
theorem r14_Rank {S : SHeap} {u v : Value} {s : Snap} {p : List Int} (pod : Int) (hu : rSnap.V S u s) (hv : (rSlice 8 rI64).V S v p) (hn : s.nodes.length ≤ 1000) (hpr : Rng pod) : FnL Tryz.prog 34 #[u, v, .int .i64 pod] S 8 rI64 (rankV s p pod) := by
  have hwl := ways_len s p pod
  have hwr := ways_rise s p pod
  (refine Fn.enter (args := [u, v, .int .i64 pod]) Tryz.func34 rfl Tryz.ntmps34 rfl ?_; intro w0)
  repeat (refine s34_L14s ?_; intros)
  refine JC.loopF0 (σ := Nat × Option Addr × Nat × Option Addr × Nat × List Int) [(1, _), (2, _), (3, _), (9, _)] (fun q => [(7, .slice q.2.1 q.2.2.2.2.2.length q.2.2.1), (8, .slice q.2.2.2.1 q.2.2.2.2.2.length q.2.2.2.2.1), (10, .int .i64 q.1)]) (fun Si q => q.1 ≤ (waysV s p pod).length ∧ (rSlice 8 rI64).V Si (.slice q.2.1 q.2.2.2.2.2.length q.2.2.1) q.2.2.2.2.2 ∧ (rSlice 8 rI64).V Si (.slice q.2.2.2.1 q.2.2.2.2.2.length q.2.2.2.2.1) (q.2.2.2.2.2.map (leftAt s p pod)) ∧ q.2.2.2.2.2.Perm ((waysV s p pod).take q.1) ∧ q.2.2.2.2.2.Pairwise (fun a b => ltBy (leftAt s p pod) b a = false)) (fun q => (waysV s p pod).length - q.1) ((0, none, 0, none, 0, [])) (by exact sba) (by exact sba) (⟨Nat.zero_le _, V_nil, V_nil, List.Perm.refl _, List.Pairwise.nil⟩) ?_; rintro Si ⟨k, oa, oc, la, lc, out⟩ hli hii; (try dsimp only at hii); dsimp only [List.cons_append, List.nil_append]
  obtain ⟨hk, hVo, hVl, hpm, hso⟩ := hii
  try dsimp only at hk hVo hVl hpm hso
  have hol : out.length = k := by rw [hpm.length_eq, List.length_take]; omega
  repeat (refine s34_L14s ?_; intros)
  refine JC.cond rfl (fun hc => ?_) (fun hc => ?_)
  · have hk' := dlt hc
    obtain ⟨n, hn1, _⟩ := drop_at hk'
    obtain ⟨m1, m2, hp0, hp1, hst⟩ := ways_mem (List.mem_of_getElem? hn1)
    have hnr : Rng n := by unfold Rng; omega
    have hlr : 0 ≤ leftAt s p pod n ∧ leftAt s p pod n ≤ 5000 := leftV_rng s (p.set pod.toNat n) n
    have hxs : ∀ y ∈ out, y < n := fun y hy => by
      have h1 := hpm.mem_iff.1 hy
      obtain ⟨j, hj, hjy⟩ := List.getElem_of_mem h1
      rw [List.length_take] at hj
      rw [List.getElem_take] at hjy
      have h2 := List.pairwise_iff_getElem.1 hwr j k (by omega) (by omega) (by omega)
      rw [hjy] at h2
      rw [List.getElem?_eq_getElem (by omega)] at hn1
      cases hn1
      exact h2
    repeat (refine s34_L14s ?_; intros)
    refine JC.partF0 (σ := Option Addr × Nat) [(1, _), (2, _), (3, _), (7, _), (8, _), (9, _), (10, _)] (fun z => [(11, .slice z.1 (p.set pod.toNat n).length z.2)]) (fun SA z => (rSlice 8 rI64).V SA (.slice z.1 (p.set pod.toNat n).length z.2) (p.set pod.toNat n)) ?_ (by exact sba) ?_; rotate_left; rintro SA ⟨qa, qc⟩ hlA hiA; (try dsimp only at hiA); dsimp only [List.cons_append, List.nil_append]; rotate_left
    · refine JC.drawTree 6 rfl [14, 16] [0, 1, 2, 3, 4, 5, 6, 7] (.alt (ofL [8, 9, 10, 11, 12, 13, 14, 15, 16] .nil) (ofL [13, 8, 9, 10, 11, 12, 14, 15, 16] .nil)) Tryz_mixed (by decide +kernel) ?_
      repeat' (first | (refine Walk ?_; intros) | refine JC.block ?_ | refine JC.drawN 7 rfl [0, 1, 2, 3, 4, 5, 6, 7] [0, 1, 2, 3, 4, 5, 7] Tryz_mixed (by decide +kernel) ?_ | (refine JO.eff rfl rfl rfl (JEff.callSt rfl (w14r_Step hst (by exact vta) (by exact vta) (V_step.2 ⟨by simp [flatCells, Value.cells], by simp [Rng], hpr, hnr⟩)) rfl ?_); intro _ _ _ _ _ _ _) | refine JO.alt ?_ ?_ | (refine JO.eff rfl rfl rfl (JEff.callV rfl (r14_Left _ (by exact vta) (by exact vta)) rfl ?_); intro _ _) | (refine JO.eff rfl rfl rfl (JEff.callL rfl (r10_Ways _ (by exact vta) (by exact vta) (by first | assumption | omega) (by first | assumption | (unfold Rng; omega))) rfl ?_); intro _ _ _ _ _ _) | (refine JO.eff rfl rfl rfl (JEff.callSt rfl (r10_Step (by exact vta) (by exact vta) (by exact vta)) rfl ?_); intro _ _ _ _ _ _ _) | (refine WBox ?_; intros) | (refine WNew ?_; intros) | (refine WPut ?_; intros) | (refine JO.guard rfl rfl rfl rfl ?_ ?_ <;> intro _) | (refine JC.cond rfl ?_ ?_ <;> intro _))
      all_goals exact JX.partF ((_, _)) (by exact lea) (by exact vta) rfl (by exact sba) (by exact sba)
    repeat (refine s34_L14s ?_; intros)
    rw [show leftV s (p.set pod.toNat n) n = leftAt s p pod n from rfl]
    refine JC.loopF0 (σ := Nat) [(1, _), (2, _), (3, _), (7, _), (8, _), (9, _), (10, _), (14, _)] (fun z => [(15, .int .i64 z)]) (fun Sj z => z ≤ out.length ∧ ∀ j y, j < z → out[j]? = some y → leftAt s p pod y ≤ leftAt s p pod n) (fun z => out.length - z) (0) (by exact sba) (by exact sba) (⟨Nat.zero_le _, fun j y h => by omega⟩) ?_; rintro Sj m hlj hij; (try dsimp only at hij); dsimp only [List.cons_append, List.nil_append]
    obtain ⟨hm, hlow⟩ := hij
    repeat (refine s34_L14s ?_; intros)
    refine JO.guard rfl rfl rfl rfl (fun g1 => ?_) (fun g1 => ?_)
    · have hm' := dlt g1
      obtain ⟨y, hy, _⟩ := drop_at hm'
      have hy2 : (out.map (leftAt s p pod))[m]? = some (leftAt s p pod y) := by rw [List.getElem?_map, hy]; rfl
      repeat (refine s34_L14s ?_; intros)
      by_cases hle : leftAt s p pod y ≤ leftAt s p pod n
      · have hlow2 : ∀ j y', j < m + 1 → out[j]? = some y' → leftAt s p pod y' ≤ leftAt s p pod n := fun j y' hj hy' => by
          by_cases e : j = m
          · subst e; rw [hy] at hy'; cases hy'; exact hle
          · exact hlow j y' (by omega) hy'
        rw [decide_eq_true hle]
        repeat (refine s34_L14s ?_; intros)
        exact JX.roundF (m + 1) (by exact lea) (⟨by omega, hlow2⟩) (by (try dsimp only); omega) rfl (by exact sba) (by exact sba)
      · rw [decide_eq_false hle]
        have hhigh : ∀ y', out[m]? = some y' → leftAt s p pod n < leftAt s p pod y' := fun y' h => by rw [hy] at h; cases h; omega
        have hml : (out.map (leftAt s p pod)).length = out.length := List.length_map _
        repeat (refine s34_L14s ?_; intros)
        (first | refine JC.newRow 3 1 ?_ | refine JO.newRow 3 1 ?_ | refine JX.newRow 3 1 ?_)
        repeat (refine s34_L14s ?_; intros)
        refine JO.pure rfl rfl rfl (JPure.sliceS (xs := out) (rep := rI64) (bt := 8) rfl (by exact vta) rfl rfl rfl (by omega) (by omega) (by omega) ?_); intro a1 c1 ys1 hys1 hV1 hyl1 hyb1
        repeat (refine s34_L14s ?_; intros)
        (refine JO.eff rfl rfl rfl (JEff.appendS (rep := rI64) rfl rfl hV1 rfl rfl (List.Perm.refl _) (by unfold big; omega) (by unfold big; omega) (by intro l hl; cases hl) rfl ?_); intro a2 c2 us1 hus1)
        repeat (refine s34_L14s ?_; intros)
        (refine JO.eff rfl rfl rfl (JEff.build (rep := rI64) (ys := [n]) rfl rfl ⟨(⟨V_i64.2 ⟨rfl, hnr⟩, nna⟩), trivial⟩ rfl rfl rfl rfl ?_); intro bb hbb hvv); (repeat (first | (refine Walk ?_; intros) | refine JC.block ?_)); (refine JO.eff rfl rfl rfl (JEff.appendL (rep := rI64) rfl rfl rfl rfl (List.Perm.swap _ _ _) (by exact hvv.flat) (by intro c hc; exact flat_one (fun v hv => (hvv.size v hv).2) c hc) (by first | omega | (unfold big; omega)) (by unfold big; omega) (by intro l hl; cases hl) rfl ?_); intro a3 c3; clear hvv hbb)
        repeat (refine s34_L14s ?_; intros)
        refine JO.pure rfl rfl rfl (JPure.sliceS (xs := out) (rep := rI64) (bt := 8) rfl (by exact vta) rfl rfl rfl (by omega) (by omega) (by omega) ?_); intro a4 c4 ys2 hys2 hV2 hyl2 hyb2
        repeat (refine s34_L14s ?_; intros)
        (refine JO.eff rfl rfl rfl (JEff.appendS (rep := rI64) rfl rfl hV2 rfl rfl (List.Perm.refl _) (by unfold big; omega) (by unfold big; omega) (by intro l hl; cases hl) rfl ?_); intro oa5 oc5 us2 hus2)
        simp only [List.nil_append, List.toList_toArray, ← flat_append]
        have hys : ys1 ++ [n] ++ ys2 = (out).take m ++ [n] ++ (out).drop m := by
          rw [hys1, hys2, show ((m : Int) - 0).toNat = m by omega, show ((m : Int)).toNat = m by omega, show (Int.toNat 0) = 0 by rfl, List.drop_zero, List.take_of_length_le (l := (out).drop m) (by rw [List.length_drop]; omega)]
        rw [(rfl : out.take m ++ [n] ++ out.drop m = out.take m ++ [n] ++ out.drop m)] at hys
        have hnn : 0 + ys1.length + 1 + ys2.length = (out.take m ++ [n] ++ out.drop m).length := by rw [← hys]; simp; omega
        have hnl : (out.take m ++ [n] ++ out.drop m).length ≤ 1001 := by rw [← hnn]; omega
        refine JO.freezeRow (rep := rI64) (bt := 8) (xs := out.take m ++ [n] ++ out.drop m) (by rw [← hys]; exact allV_three (by exact lea) hus1 (V_i64.2 ⟨rfl, hnr⟩) nna hus2) hnn (by unfold big; omega) (by unfold big; omega) (by intro l hl; cases hl) (fun So9 hl9 hVo9 => ?_)
        rw [hnn] at hVo9 ⊢
        repeat (refine s34_L14s ?_; intros)
        (first | refine JC.newRow 3 1 ?_ | refine JO.newRow 3 1 ?_ | refine JX.newRow 3 1 ?_)
        repeat (refine s34_L14s ?_; intros)
        refine JO.pure rfl rfl rfl (JPure.sliceS (xs := out.map (leftAt s p pod)) (rep := rI64) (bt := 8) rfl (by exact vta) rfl rfl rfl (by omega) (by omega) (by omega) ?_); intro a1 c1 ys1 hys1 hV1 hyl1 hyb1
        repeat (refine s34_L14s ?_; intros)
        (refine JO.eff rfl rfl rfl (JEff.appendS (rep := rI64) rfl rfl hV1 rfl rfl (List.Perm.refl _) (by unfold big; omega) (by unfold big; omega) (by intro l hl; cases hl) rfl ?_); intro a2 c2 us1 hus1)
        repeat (refine s34_L14s ?_; intros)
        (refine JO.eff rfl rfl rfl (JEff.build (rep := rI64) (ys := [leftAt s p pod n]) rfl rfl ⟨(⟨V_i64.2 ⟨rfl, (by unfold Rng; omega)⟩, nna⟩), trivial⟩ rfl rfl rfl rfl ?_); intro bb hbb hvv); (repeat (first | (refine Walk ?_; intros) | refine JC.block ?_)); (refine JO.eff rfl rfl rfl (JEff.appendL (rep := rI64) rfl rfl rfl rfl (List.Perm.swap _ _ _) (by exact hvv.flat) (by intro c hc; exact flat_one (fun v hv => (hvv.size v hv).2) c hc) (by first | omega | (unfold big; omega)) (by unfold big; omega) (by intro l hl; cases hl) rfl ?_); intro a3 c3; clear hvv hbb)
        repeat (refine s34_L14s ?_; intros)
        refine JO.pure rfl rfl rfl (JPure.sliceS (xs := out.map (leftAt s p pod)) (rep := rI64) (bt := 8) rfl (by exact vta) rfl rfl rfl (by omega) (by omega) (by omega) ?_); intro a4 c4 ys2 hys2 hV2 hyl2 hyb2
        repeat (refine s34_L14s ?_; intros)
        (refine JO.eff rfl rfl rfl (JEff.appendS (rep := rI64) rfl rfl hV2 rfl rfl (List.Perm.refl _) (by unfold big; omega) (by unfold big; omega) (by intro l hl; cases hl) rfl ?_); intro la5 lc5 us2 hus2)
        simp only [List.nil_append, List.toList_toArray, ← flat_append]
        have hys : ys1 ++ [leftAt s p pod n] ++ ys2 = (out.map (leftAt s p pod)).take m ++ [leftAt s p pod n] ++ (out.map (leftAt s p pod)).drop m := by
          rw [hys1, hys2, show ((m : Int) - 0).toNat = m by omega, show ((m : Int)).toNat = m by omega, show (Int.toNat 0) = 0 by rfl, List.drop_zero, List.take_of_length_le (l := (out.map (leftAt s p pod)).drop m) (by rw [List.length_drop]; omega)]
        rw [(show (out.map (leftAt s p pod)).take m ++ [leftAt s p pod n] ++ (out.map (leftAt s p pod)).drop m = (out.take m ++ [n] ++ out.drop m).map (leftAt s p pod) by simp [List.map_append, List.map_take, List.map_drop])] at hys
        have hnn : 0 + ys1.length + 1 + ys2.length = ((out.take m ++ [n] ++ out.drop m).map (leftAt s p pod)).length := by rw [← hys]; simp; omega
        have hnl : ((out.take m ++ [n] ++ out.drop m).map (leftAt s p pod)).length ≤ 1001 := by rw [← hnn]; omega
        refine JO.freezeRow (rep := rI64) (bt := 8) (xs := (out.take m ++ [n] ++ out.drop m).map (leftAt s p pod)) (by rw [← hys]; exact allV_three (by exact lea) hus1 (V_i64.2 ⟨rfl, (by unfold Rng; omega)⟩) nna hus2) hnn (by unfold big; omega) (by unfold big; omega) (by intro l hl; cases hl) (fun Sl9 hl9 hVl9 => ?_)
        rw [hnn] at hVl9 ⊢
        rw [List.length_map] at hVl9 ⊢
        repeat (refine s34_L14s ?_; intros)
        have htk : (waysV s p pod).take (k + 1) = (waysV s p pod).take k ++ [n] := by rw [List.take_add_one, hn1]; rfl
        exact JX.roundF ((k + 1, oa5, oc5, la5, lc5, out.take m ++ [n] ++ out.drop m)) (by exact lea) (⟨by omega, hVo9.mono (by exact lea), hVl9.mono (by exact lea), by (try dsimp only); rw [htk]; exact ins_perm hpm, ins_sorted hso hxs hlow hhigh⟩) (by (try dsimp only); omega) rfl (by exact sba) (by exact sba)
    · have hm' := dnlt g1
      have hhigh : ∀ y', out[m]? = some y' → leftAt s p pod n < leftAt s p pod y' := fun y' h => by have := (List.getElem?_eq_some_iff.1 h).1; omega
      have hml : (out.map (leftAt s p pod)).length = out.length := List.length_map _
      repeat (refine s34_L14s ?_; intros)
      (first | refine JC.newRow 3 1 ?_ | refine JO.newRow 3 1 ?_ | refine JX.newRow 3 1 ?_)
      repeat (refine s34_L14s ?_; intros)
      refine JO.pure rfl rfl rfl (JPure.sliceS (xs := out) (rep := rI64) (bt := 8) rfl (by exact vta) rfl rfl rfl (by omega) (by omega) (by omega) ?_); intro a1 c1 ys1 hys1 hV1 hyl1 hyb1
      repeat (refine s34_L14s ?_; intros)
      (refine JO.eff rfl rfl rfl (JEff.appendS (rep := rI64) rfl rfl hV1 rfl rfl (List.Perm.refl _) (by unfold big; omega) (by unfold big; omega) (by intro l hl; cases hl) rfl ?_); intro a2 c2 us1 hus1)
      repeat (refine s34_L14s ?_; intros)
      (refine JO.eff rfl rfl rfl (JEff.build (rep := rI64) (ys := [n]) rfl rfl ⟨(⟨V_i64.2 ⟨rfl, hnr⟩, nna⟩), trivial⟩ rfl rfl rfl rfl ?_); intro bb hbb hvv); (repeat (first | (refine Walk ?_; intros) | refine JC.block ?_)); (refine JO.eff rfl rfl rfl (JEff.appendL (rep := rI64) rfl rfl rfl rfl (List.Perm.swap _ _ _) (by exact hvv.flat) (by intro c hc; exact flat_one (fun v hv => (hvv.size v hv).2) c hc) (by first | omega | (unfold big; omega)) (by unfold big; omega) (by intro l hl; cases hl) rfl ?_); intro a3 c3; clear hvv hbb)
      repeat (refine s34_L14s ?_; intros)
      refine JO.pure rfl rfl rfl (JPure.sliceS (xs := out) (rep := rI64) (bt := 8) rfl (by exact vta) rfl rfl rfl (by omega) (by omega) (by omega) ?_); intro a4 c4 ys2 hys2 hV2 hyl2 hyb2
      repeat (refine s34_L14s ?_; intros)
      (refine JO.eff rfl rfl rfl (JEff.appendS (rep := rI64) rfl rfl hV2 rfl rfl (List.Perm.refl _) (by unfold big; omega) (by unfold big; omega) (by intro l hl; cases hl) rfl ?_); intro oa5 oc5 us2 hus2)
      simp only [List.nil_append, List.toList_toArray, ← flat_append]
      have hys : ys1 ++ [n] ++ ys2 = (out).take m ++ [n] ++ (out).drop m := by
        rw [hys1, hys2, show ((m : Int) - 0).toNat = m by omega, show ((m : Int)).toNat = m by omega, show (Int.toNat 0) = 0 by rfl, List.drop_zero, List.take_of_length_le (l := (out).drop m) (by rw [List.length_drop]; omega)]
      rw [(rfl : out.take m ++ [n] ++ out.drop m = out.take m ++ [n] ++ out.drop m)] at hys
      have hnn : 0 + ys1.length + 1 + ys2.length = (out.take m ++ [n] ++ out.drop m).length := by rw [← hys]; simp; omega
      have hnl : (out.take m ++ [n] ++ out.drop m).length ≤ 1001 := by rw [← hnn]; omega
      refine JO.freezeRow (rep := rI64) (bt := 8) (xs := out.take m ++ [n] ++ out.drop m) (by rw [← hys]; exact allV_three (by exact lea) hus1 (V_i64.2 ⟨rfl, hnr⟩) nna hus2) hnn (by unfold big; omega) (by unfold big; omega) (by intro l hl; cases hl) (fun So9 hl9 hVo9 => ?_)
      rw [hnn] at hVo9 ⊢
      repeat (refine s34_L14s ?_; intros)
      (first | refine JC.newRow 3 1 ?_ | refine JO.newRow 3 1 ?_ | refine JX.newRow 3 1 ?_)
      repeat (refine s34_L14s ?_; intros)
      refine JO.pure rfl rfl rfl (JPure.sliceS (xs := out.map (leftAt s p pod)) (rep := rI64) (bt := 8) rfl (by exact vta) rfl rfl rfl (by omega) (by omega) (by omega) ?_); intro a1 c1 ys1 hys1 hV1 hyl1 hyb1
      repeat (refine s34_L14s ?_; intros)
      (refine JO.eff rfl rfl rfl (JEff.appendS (rep := rI64) rfl rfl hV1 rfl rfl (List.Perm.refl _) (by unfold big; omega) (by unfold big; omega) (by intro l hl; cases hl) rfl ?_); intro a2 c2 us1 hus1)
      repeat (refine s34_L14s ?_; intros)
      (refine JO.eff rfl rfl rfl (JEff.build (rep := rI64) (ys := [leftAt s p pod n]) rfl rfl ⟨(⟨V_i64.2 ⟨rfl, (by unfold Rng; omega)⟩, nna⟩), trivial⟩ rfl rfl rfl rfl ?_); intro bb hbb hvv); (repeat (first | (refine Walk ?_; intros) | refine JC.block ?_)); (refine JO.eff rfl rfl rfl (JEff.appendL (rep := rI64) rfl rfl rfl rfl (List.Perm.swap _ _ _) (by exact hvv.flat) (by intro c hc; exact flat_one (fun v hv => (hvv.size v hv).2) c hc) (by first | omega | (unfold big; omega)) (by unfold big; omega) (by intro l hl; cases hl) rfl ?_); intro a3 c3; clear hvv hbb)
      repeat (refine s34_L14s ?_; intros)
      refine JO.pure rfl rfl rfl (JPure.sliceS (xs := out.map (leftAt s p pod)) (rep := rI64) (bt := 8) rfl (by exact vta) rfl rfl rfl (by omega) (by omega) (by omega) ?_); intro a4 c4 ys2 hys2 hV2 hyl2 hyb2
      repeat (refine s34_L14s ?_; intros)
      (refine JO.eff rfl rfl rfl (JEff.appendS (rep := rI64) rfl rfl hV2 rfl rfl (List.Perm.refl _) (by unfold big; omega) (by unfold big; omega) (by intro l hl; cases hl) rfl ?_); intro la5 lc5 us2 hus2)
      simp only [List.nil_append, List.toList_toArray, ← flat_append]
      have hys : ys1 ++ [leftAt s p pod n] ++ ys2 = (out.map (leftAt s p pod)).take m ++ [leftAt s p pod n] ++ (out.map (leftAt s p pod)).drop m := by
        rw [hys1, hys2, show ((m : Int) - 0).toNat = m by omega, show ((m : Int)).toNat = m by omega, show (Int.toNat 0) = 0 by rfl, List.drop_zero, List.take_of_length_le (l := (out.map (leftAt s p pod)).drop m) (by rw [List.length_drop]; omega)]
      rw [(show (out.map (leftAt s p pod)).take m ++ [leftAt s p pod n] ++ (out.map (leftAt s p pod)).drop m = (out.take m ++ [n] ++ out.drop m).map (leftAt s p pod) by simp [List.map_append, List.map_take, List.map_drop])] at hys
      have hnn : 0 + ys1.length + 1 + ys2.length = ((out.take m ++ [n] ++ out.drop m).map (leftAt s p pod)).length := by rw [← hys]; simp; omega
      have hnl : ((out.take m ++ [n] ++ out.drop m).map (leftAt s p pod)).length ≤ 1001 := by rw [← hnn]; omega
      refine JO.freezeRow (rep := rI64) (bt := 8) (xs := (out.take m ++ [n] ++ out.drop m).map (leftAt s p pod)) (by rw [← hys]; exact allV_three (by exact lea) hus1 (V_i64.2 ⟨rfl, (by unfold Rng; omega)⟩) nna hus2) hnn (by unfold big; omega) (by unfold big; omega) (by intro l hl; cases hl) (fun Sl9 hl9 hVl9 => ?_)
      rw [hnn] at hVl9 ⊢
      rw [List.length_map] at hVl9 ⊢
      repeat (refine s34_L14s ?_; intros)
      have htk : (waysV s p pod).take (k + 1) = (waysV s p pod).take k ++ [n] := by rw [List.take_add_one, hn1]; rfl
      exact JX.roundF ((k + 1, oa5, oc5, la5, lc5, out.take m ++ [n] ++ out.drop m)) (by exact lea) (⟨by omega, hVo9.mono (by exact lea), hVl9.mono (by exact lea), by (try dsimp only); rw [htk]; exact ins_perm hpm, ins_sorted hso hxs hlow hhigh⟩) (by (try dsimp only); omega) rfl (by exact sba) (by exact sba)
  · have hk' := dnlt hc
    have hke : k = (waysV s p pod).length := by omega
    have hrk : out = rankV s p pod := sortBy_eq (by rw [hke, List.take_length] at hpm; exact hpm) hso
    repeat (refine s34_L14s ?_; intros)
    (refine JX.ret1 Tryz.results34 (ResV.tmp rfl) (List.nil_sublist _) ?_)
    exact ⟨rfl, by rw [← hrk]; exact hVo.mono (by exact lea)⟩
theorem r14_Rank_eq {S : SHeap} {u v : Value} {s : Snap} {p l : List Int} {pod : Int} (h : rankV s p pod = l) (hu : rSnap.V S u s) (hv : (rSlice 8 rI64).V S v p) (hn : s.nodes.length ≤ 1000) (hpr : Rng pod) : FnL Tryz.prog 34 #[u, v, .int .i64 pod] S 8 rI64 l := by
  have hh := r14_Rank pod hu hv hn hpr
  rw [h] at hh; exact hh
theorem r14_Best {S : SHeap} {u v : Value} {s : Snap} {p : List Int} (pod : Int) (hu : rSnap.V S u s) (hv : (rSlice 8 rI64).V S v p) (hn : s.nodes.length ≤ 1000) (hpr : Rng pod) : FnV Tryz.prog 30 #[u, v, .int .i64 pod] S (.tuple #[.int .i64 (bestV s p pod).1, .bool (bestV s p pod).2]) := by
  (refine Fn.enter (args := [u, v, .int .i64 pod]) Tryz.func30 rfl Tryz.ntmps30 rfl ?_; intro w0)
  cases hr : rankV s p pod with
  | nil =>
    have hb : bestV s p pod = (0, false) := by unfold bestV; rw [hr]
    rw [hb]
    repeat (first | (refine Walk ?_; intros) | refine JC.block ?_ | (refine JO.eff rfl rfl rfl (JEff.callL rfl (r14_Rank_eq hr (by exact vta) (by exact vta) hn hpr) rfl ?_); intro _ _ _ _ _ _) | (refine JO.eff rfl rfl rfl (JEff.callL rfl (r14_Rank _ (by exact vta) (by exact vta) (by first | assumption | omega) (by first | assumption | (unfold Rng; omega))) rfl ?_); intro _ _ _ _ _ _) | (refine WBox ?_; intros))
    (refine JX.ret2 Tryz.results30 (ResV.tmp rfl) (ResV.tmp rfl) (List.nil_sublist _) ?_)
    exact ⟨rfl, rfl⟩
  | cons n l =>
    have hb : bestV s p pod = (n, true) := by unfold bestV; rw [hr]
    have hz : (n :: l)[(0 : Int).toNat]? = some n := rfl
    have hl0 : (0 : Int) < ((n :: l).length : Int) := by first | (simp; done) | (simp; omega)
    rw [hb]
    repeat (first | (refine Walk ?_; intros) | refine JC.block ?_ | (refine JO.eff rfl rfl rfl (JEff.callL rfl (r14_Rank_eq hr (by exact vta) (by exact vta) hn hpr) rfl ?_); intro _ _ _ _ _ _) | (refine JO.eff rfl rfl rfl (JEff.callL rfl (r14_Rank _ (by exact vta) (by exact vta) (by first | assumption | omega) (by first | assumption | (unfold Rng; omega))) rfl ?_); intro _ _ _ _ _ _) | (refine WBox ?_; intros))
    rw [decide_eq_false (show ¬ ((n :: l).length : Int) = 0 by omega)]
    repeat (first | (refine Walk ?_; intros) | refine JC.block ?_ | (refine JO.eff rfl rfl rfl (JEff.callL rfl (r14_Rank _ (by exact vta) (by exact vta) (by first | assumption | omega) (by first | assumption | (unfold Rng; omega))) rfl ?_); intro _ _ _ _ _ _) | (refine WBox ?_; intros))
    (refine JX.ret2 Tryz.results30 (ResV.tmp rfl) (ResV.tmp rfl) (List.nil_sublist _) ?_)
    exact ⟨rfl, rfl⟩
end Go.Dr
namespace Go.Dr
open Go.Proofs
set_option maxRecDepth 20000
set_option maxHeartbeats 2000000
set_option linter.unusedSimpArgs false
set_option linter.unusedVariables false
theorem in_step (n : Nat) (pods : List Int) : inPods (n + 1) pods = inPods n pods ++ (if (n : Int) ∈ pods then [(n : Int)] else []) := by
  unfold inPods
  rw [List.range_succ, List.filter_append, List.map_append]
  congr 1
  by_cases h : (n : Int) ∈ pods <;> simp [h]
theorem r14_size {S : SHeap} {u : Value} {s : Snap} (pod : Int) (hs : checkS s = 0) (h0 : 0 ≤ pod) (h1 : pod < s.pods.length) (hu : rSnap.V S u s) : FnV Tryz.prog 67 #[u, .int .i64 pod] S (.int .i64 (sizeV s pod)) := by
  obtain ⟨x, hx⟩ : ∃ x, s.pods[pod.toNat]? = some x := ⟨_, List.getElem?_eq_getElem (by omega)⟩
  (refine Fn.enter (args := [u, .int .i64 pod]) Tryz.func67 rfl Tryz.ntmps67 rfl ?_; intro w0)
  repeat (first | (refine Walk ?_; intros) | refine JC.block ?_ | (refine WBox ?_; intros))
  have hq := (by assumption : PtrTo _ _ rSnap s)
  have hxl := (snap_reqs hq x (List.mem_of_getElem? hx)).1
  have hcl := snap_caps hq
  refine JC.loopF0 (σ := Nat) [(1, _), (2, _)] (fun q => [(5, .int .i64 (sizeTo s pod q)), (6, .int .i64 q)]) (fun Si q => q ≤ 5) (fun q => 5 - q) (0) (by exact sba) (by exact sba) (by omega) ?_; rintro Si k hli hii; (try dsimp only at hii); dsimp only [List.cons_append, List.nil_append]
  repeat (first | (refine Walk ?_; intros) | refine JC.block ?_ | (refine WBox ?_; intros))
  refine JC.cond rfl (fun hc2 => ?_) (fun hc2 => ?_)
  · have hk' := dlt5 hc2
    obtain ⟨y, hy⟩ : ∃ y, x.req[k]? = some y := ⟨_, List.getElem?_eq_getElem (by omega)⟩
    have hm := mostL_at s hk'
    have hmr := mostTo_rng hs k s.nodes.length
    have hy0 := at0_some hy
    have hrr := req_rng hs pod.toNat k
    have hrq : reqOf s pod.toNat = x.req := by simp [reqOf, hx]
    rw [hrq, hy0] at hrr
    have h5 := sizeTo_rng hs pod k
    have hst : sizeTo s pod (k + 1) = max (sizeTo s pod k) (size1 (mostV s k) y) := by simp only [sizeTo, hrq, hy0]
    have hs1 := size1_rng (m := mostV s k) hrr
    have hmv : mostV s k = mostTo s k s.nodes.length := rfl
    unfold Qty at hmr hrr h5 hs1
    repeat (first | (refine Walk ?_; intros) | refine JC.block ?_ | (refine WBox ?_; intros))
    refine JC.loopF0 (σ := Nat) [(1, _), (2, _), (5, _), (6, _)] (fun q => [(7, .int .i64 (mostTo s k q)), (8, .int .i64 q)]) (fun Sj q => q ≤ s.nodes.length) (fun q => s.nodes.length - q) (0) (by exact sba) (by exact sba) (Nat.zero_le _) ?_; rintro Sj m hlj hij; (try dsimp only at hij); dsimp only [List.cons_append, List.nil_append]
    repeat (first | (refine Walk ?_; intros) | refine JC.block ?_ | (refine WBox ?_; intros))
    refine JC.cond rfl (fun hc3 => ?_) (fun hc3 => ?_)
    · have hm' := dlt hc3
      obtain ⟨nd, hnd, _⟩ := drop_at hm'
      have hndl := (hcl nd (List.mem_of_getElem? hnd)).1
      obtain ⟨z, hz⟩ : ∃ z, nd.cap[k]? = some z := ⟨_, List.getElem?_eq_getElem (by omega)⟩
      have hz0 := at0_some hz
      have hzr := shaped_cap (checkS_ok hs).1 nd (List.mem_of_getElem? hnd) z (List.mem_of_getElem? hz)
      have hmr2 := mostTo_rng hs k m
      have hcap : capOf s m = nd.cap := by simp [capOf, hnd]
      have hst2 : mostTo s k (m + 1) = max (mostTo s k m) z := by simp only [mostTo, hcap, hz0]
      unfold Qty at hzr hmr2
      repeat (first | (refine Walk ?_; intros) | refine JC.block ?_ | (refine WBox ?_; intros))
      exact JX.roundF (m + 1) (by exact lea) (by omega) (by (try dsimp only); omega) rfl (by (try dsimp only); rw [hst2]; exact sba) (by exact sba)
    · have hm' := dnlt hc3
      obtain rfl : m = s.nodes.length := by omega
      rw [← hmv] at *
      repeat (first | (refine Walk ?_; intros) | refine JC.block ?_ | (refine WBox ?_; intros))
      by_cases hy1 : 0 < mostV s k
      · rw [decide_eq_true hy1]
        have hl1 : size1 (mostV s k) y = (1000 * y).tdiv (mostV s k) := if_pos hy1
        repeat (first | (refine Walk ?_; intros) | refine JC.block ?_ | (refine WBox ?_; intros))
        refine JO.pure rfl rfl rfl (JPure.quo rfl rfl (by omega) (by rw [← hl1]; unfold Rng; omega) rfl ?_)
        rw [← hl1]
        repeat (first | (refine Walk ?_; intros) | refine JC.block ?_ | (refine WBox ?_; intros))
        exact JX.roundF (k + 1) (by exact lea) (by omega) (by (try dsimp only); omega) rfl (by (try dsimp only); rw [hst]; exact sba) (by exact sba)
      · rw [decide_eq_false hy1]
        have hl1 : size1 (mostV s k) y = 0 := if_neg hy1
        rw [hl1, show max (sizeTo s pod k) 0 = sizeTo s pod k by omega] at hst
        repeat (first | (refine Walk ?_; intros) | refine JC.block ?_ | (refine WBox ?_; intros))
        exact JX.roundF (k + 1) (by exact lea) (by omega) (by (try dsimp only); omega) rfl (by (try dsimp only); rw [hst]; exact sba) (by exact sba)
  · have hk' := dnlt5 hc2
    obtain rfl : k = 5 := by omega
    repeat (first | (refine Walk ?_; intros) | refine JC.block ?_ | (refine WBox ?_; intros))
    (refine JX.ret1 Tryz.results67 (ResV.tmp rfl) (List.nil_sublist _) ?_)
    exact ⟨rfl, rfl⟩
theorem in_len (n : Nat) (pods : List Int) : (inPods n pods).length ≤ n := by
  unfold inPods
  rw [List.length_map]
  have := List.length_filter_le (fun (i : Nat) => decide ((i : Int) ∈ pods)) (List.range n)
  simpa using this
def anyIs (l : List Int) (x : Int) : Bool := l.any (fun y => decide (y = x))
theorem anyIs_step {l : List Int} {m : Nat} {y x : Int} (h : l[m]? = some y) : anyIs (l.take (m + 1)) x = (anyIs (l.take m) x || decide (y = x)) := by
  unfold anyIs
  rw [List.take_add_one, h]; simp
theorem anyIs_mem {l : List Int} {x : Int} : anyIs l x = decide (x ∈ l) := by
  unfold anyIs
  rw [Bool.eq_iff_iff]
  simp
theorem s39_L14h {P K : Prop} (k : K) (h : Goal K → P := by
  intro zk
  (first | refine Walk ?_ | refine JC.block ?_ | refine JC.drawN 14 rfl [0, 1, 2, 3, 4, 5, 6, 7, 8, 9, 11, 12, 10, 13, 14, 15] [0, 1, 2, 3, 4, 5, 6, 7, 8, 9, 14, 15] Tryz_mixed (by decide +kernel) ?_ | (refine JO.eff rfl rfl rfl (JEff.callV rfl (r5_Check (by exact vta)) rfl ?_); intro zqa zqb) | (refine JO.eff rfl rfl rfl (JEff.callV rfl (r14_size _ (by assumption) (by first | assumption | omega) (by first | assumption | omega) (by exact vta)) rfl ?_); intro zqa zqb) | (refine WBox ?_))
  (repeat (first | revert zqg | revert zqf | revert zqe | revert zqd | revert zqc | revert zqb | revert zqa))
  exact zk.k) : P := h ⟨k⟩
theorem r14_Order {S : SHeap} {u v : Value} {s : Snap} {pods : List Int} (hu : rSnap.V S u s) (hv : (rSlice 8 rI64).V S v pods) (hpl : pods.length ≤ 1000) : FnL Tryz.prog 39 #[u, v] S 8 rI64 (orderV s pods) := by
  have hv0 := hv
  obtain ⟨pa, pc, rfl, _⟩ := V_slice.1 hv
  (refine Fn.enter (args := [u, .slice pa pods.length pc]) Tryz.func39 rfl Tryz.ntmps39 rfl ?_; intro w0)
  repeat (refine s39_L14h ?_; intros)
  by_cases hs : checkS s = 0
  · rw [decide_eq_true hs]
    obtain ⟨_, hp24, _⟩ := shaped_small (checkS_ok hs).1
    have hord : orderV s pods = sortBy (fun i => -sizeV s i) (inPods s.pods.length pods) := if_pos hs
    repeat (refine s39_L14h ?_; intros)
    refine JC.loopF0 (σ := Nat × Option Addr × Nat × List Int) [(1, _), (2, _)] (fun q => [(5, .slice q.2.1 q.2.2.2.length q.2.2.1), (6, .int .i64 q.1)]) (fun Si q => q.1 ≤ s.pods.length ∧ (rSlice 8 rI64).V Si (.slice q.2.1 q.2.2.2.length q.2.2.1) q.2.2.2 ∧ q.2.2.2.Perm (inPods q.1 pods) ∧ q.2.2.2.Pairwise (fun a b => ltBy (fun i => -sizeV s i) b a = false)) (fun q => s.pods.length - q.1) ((0, none, 0, [])) (by exact sba) (by exact sba) (⟨Nat.zero_le _, V_nil, List.Perm.refl _, List.Pairwise.nil⟩) ?_; rintro Si ⟨k, oa, oc, out⟩ hli hii; (try dsimp only at hii); dsimp only [List.cons_append, List.nil_append]
    obtain ⟨hk, hVo, hpm, hso⟩ := hii
    try dsimp only at hk hVo hpm hso
    have hol : out.length ≤ k := by rw [hpm.length_eq]; exact in_len k pods
    have hom : ∀ y ∈ out, 0 ≤ y ∧ y < k := fun y hy => ⟨(in_mem.1 (hpm.mem_iff.1 hy)).1, (in_mem.1 (hpm.mem_iff.1 hy)).2.1⟩
    have hxs : ∀ y ∈ out, y < (k : Int) := fun y hy => (hom y hy).2
    repeat (refine s39_L14h ?_; intros)
    refine JC.cond rfl (fun hc => ?_) (fun hc => ?_)
    · have hk' := dlt hc
      have hstp := in_step k pods
      repeat (refine s39_L14h ?_; intros)
      refine JC.loopF0 (σ := Nat) [(1, _), (2, _), (5, _), (6, _)] (fun z => [(7, .bool (anyIs (pods.take z) k)), (8, .int .i64 z)]) (fun Sj z => z ≤ pods.length) (fun z => pods.length - z) (0) (by exact sba) (by exact sba) (Nat.zero_le _) ?_; rintro Sj m hlj hij; (try dsimp only at hij); dsimp only [List.cons_append, List.nil_append]
      repeat (refine s39_L14h ?_; intros)
      refine JC.cond rfl (fun hc2 => ?_) (fun hc2 => ?_)
      · have hm' := dlt hc2
        obtain ⟨y, hy, _⟩ := drop_at hm'
        have hst := anyIs_step (x := (k : Int)) hy
        cases hb : anyIs (pods.take m) k with
        | true =>
          rw [hb, Bool.true_or] at hst
          repeat (refine s39_L14h ?_; intros)
          exact JX.roundF (m + 1) (by exact lea) (by omega) (by (try dsimp only); omega) rfl (by (try dsimp only); rw [hst]; exact sba) (by exact sba)
        | false =>
          rw [hb, Bool.false_or] at hst
          repeat (refine s39_L14h ?_; intros)
          exact JX.roundF (m + 1) (by exact lea) (by omega) (by (try dsimp only); omega) rfl (by (try dsimp only); rw [hst]; exact sba) (by exact sba)
      · have hm' := dnlt hc2
        obtain rfl : m = pods.length := by omega
        rw [List.take_length, anyIs_mem]
        by_cases hmem : (k : Int) ∈ pods
        · have hin1 : inPods (k + 1) pods = inPods k pods ++ [(k : Int)] := by rw [hstp, if_pos hmem]
          rw [decide_eq_true hmem]
          repeat (refine s39_L14h ?_; intros)
          refine JC.loopF0 (σ := Nat) [(1, _), (2, _), (5, _), (6, _)] (fun z => [(9, .int .i64 z)]) (fun Sl z => z ≤ out.length ∧ ∀ j y, j < z → out[j]? = some y → -sizeV s y ≤ -sizeV s k) (fun z => out.length - z) (0) (by exact sba) (by exact sba) (⟨Nat.zero_le _, fun j y h => by omega⟩) ?_; rintro Sl m hll hil; (try dsimp only at hil); dsimp only [List.cons_append, List.nil_append]
          obtain ⟨hm, hlow⟩ := hil
          repeat (refine s39_L14h ?_; intros)
          refine JO.guard rfl rfl rfl rfl (fun g1 => ?_) (fun g1 => ?_)
          · have hm' := dlt g1
            obtain ⟨y, hy, _⟩ := drop_at hm'
            obtain ⟨hy0, hyk⟩ := hom y (List.mem_of_getElem? hy)
            have hk0 : (0 : Int) ≤ (k : Int) := by omega
            have hk1 : (k : Int) < s.pods.length := by omega
            have hy1 : y < s.pods.length := by omega
            repeat (refine s39_L14h ?_; intros)
            by_cases hle : sizeV s k ≤ sizeV s y
            · have hlow2 : ∀ j y', j < m + 1 → out[j]? = some y' → -sizeV s y' ≤ -sizeV s k := fun j y' hj hy' => by
                by_cases e : j = m
                · subst e; rw [hy] at hy'; cases hy'; omega
                · exact hlow j y' (by omega) hy'
              rw [decide_eq_true hle]
              repeat (refine s39_L14h ?_; intros)
              exact JX.roundF (m + 1) (by exact lea) (⟨by omega, hlow2⟩) (by (try dsimp only); omega) rfl (by exact sba) (by exact sba)
            · rw [decide_eq_false hle]
              have hhigh : ∀ y', out[m]? = some y' → -sizeV s k < -sizeV s y' := fun y' h => by rw [hy] at h; cases h; omega
              repeat (refine s39_L14h ?_; intros)
              (first | refine JC.newRow 3 1 ?_ | refine JO.newRow 3 1 ?_ | refine JX.newRow 3 1 ?_)
              repeat (refine s39_L14h ?_; intros)
              refine JO.pure rfl rfl rfl (JPure.sliceS (xs := out) (rep := rI64) (bt := 8) rfl (by exact vta) rfl rfl rfl (by omega) (by omega) (by omega) ?_); intro a1 c1 ys1 hys1 hV1 hyl1 hyb1
              repeat (refine s39_L14h ?_; intros)
              (refine JO.eff rfl rfl rfl (JEff.appendS (rep := rI64) rfl rfl hV1 rfl rfl (List.Perm.refl _) (by unfold big; omega) (by unfold big; omega) (by intro l hl; cases hl) rfl ?_); intro a2 c2 us1 hus1)
              repeat (refine s39_L14h ?_; intros)
              (refine JO.eff rfl rfl rfl (JEff.build (rep := rI64) (ys := [(k : Int)]) rfl rfl ⟨(⟨V_i64.2 ⟨rfl, (by unfold Rng; omega)⟩, nna⟩), trivial⟩ rfl rfl rfl rfl ?_); intro bb hbb hvv); (repeat (first | (refine Walk ?_; intros) | refine JC.block ?_)); (refine JO.eff rfl rfl rfl (JEff.appendL (rep := rI64) rfl rfl rfl rfl (List.Perm.swap _ _ _) (by exact hvv.flat) (by intro c hc; exact flat_one (fun v hv => (hvv.size v hv).2) c hc) (by first | omega | (unfold big; omega)) (by unfold big; omega) (by intro l hl; cases hl) rfl ?_); intro a3 c3; clear hvv hbb)
              repeat (refine s39_L14h ?_; intros)
              refine JO.pure rfl rfl rfl (JPure.sliceS (xs := out) (rep := rI64) (bt := 8) rfl (by exact vta) rfl rfl rfl (by omega) (by omega) (by omega) ?_); intro a4 c4 ys2 hys2 hV2 hyl2 hyb2
              repeat (refine s39_L14h ?_; intros)
              (refine JO.eff rfl rfl rfl (JEff.appendS (rep := rI64) rfl rfl hV2 rfl rfl (List.Perm.refl _) (by unfold big; omega) (by unfold big; omega) (by intro l hl; cases hl) rfl ?_); intro oa5 oc5 us2 hus2)
              simp only [List.nil_append, List.toList_toArray, ← flat_append]
              have hys : ys1 ++ [(k : Int)] ++ ys2 = (out).take m ++ [(k : Int)] ++ (out).drop m := by
                rw [hys1, hys2, show ((m : Int) - 0).toNat = m by omega, show ((m : Int)).toNat = m by omega, show (Int.toNat 0) = 0 by rfl, List.drop_zero, List.take_of_length_le (l := (out).drop m) (by rw [List.length_drop]; omega)]
              rw [(rfl : out.take m ++ [(k : Int)] ++ out.drop m = out.take m ++ [(k : Int)] ++ out.drop m)] at hys
              have hnn : 0 + ys1.length + 1 + ys2.length = (out.take m ++ [(k : Int)] ++ out.drop m).length := by rw [← hys]; simp; omega
              have hnl : (out.take m ++ [(k : Int)] ++ out.drop m).length ≤ 1001 := by rw [← hnn]; omega
              refine JO.freezeRow (rep := rI64) (bt := 8) (xs := out.take m ++ [(k : Int)] ++ out.drop m) (by rw [← hys]; exact allV_three (by exact lea) hus1 (V_i64.2 ⟨rfl, (by unfold Rng; omega)⟩) nna hus2) hnn (by unfold big; omega) (by unfold big; omega) (by intro l hl; cases hl) (fun So9 hl9 hVo9 => ?_)
              rw [hnn] at hVo9 ⊢
              repeat (refine s39_L14h ?_; intros)
              exact JX.roundF ((k + 1, oa5, oc5, out.take m ++ [(k : Int)] ++ out.drop m)) (by exact lea) (⟨by omega, hVo9.mono (by exact lea), by (try dsimp only); rw [hin1]; exact ins_perm hpm, ins_sorted hso hxs hlow hhigh⟩) (by (try dsimp only); omega) rfl (by exact sba) (by exact sba)
          · have hm' := dnlt g1
            have hhigh : ∀ y', out[m]? = some y' → -sizeV s k < -sizeV s y' := fun y' h => by have := (List.getElem?_eq_some_iff.1 h).1; omega
            repeat (refine s39_L14h ?_; intros)
            (first | refine JC.newRow 3 1 ?_ | refine JO.newRow 3 1 ?_ | refine JX.newRow 3 1 ?_)
            repeat (refine s39_L14h ?_; intros)
            refine JO.pure rfl rfl rfl (JPure.sliceS (xs := out) (rep := rI64) (bt := 8) rfl (by exact vta) rfl rfl rfl (by omega) (by omega) (by omega) ?_); intro a1 c1 ys1 hys1 hV1 hyl1 hyb1
            repeat (refine s39_L14h ?_; intros)
            (refine JO.eff rfl rfl rfl (JEff.appendS (rep := rI64) rfl rfl hV1 rfl rfl (List.Perm.refl _) (by unfold big; omega) (by unfold big; omega) (by intro l hl; cases hl) rfl ?_); intro a2 c2 us1 hus1)
            repeat (refine s39_L14h ?_; intros)
            (refine JO.eff rfl rfl rfl (JEff.build (rep := rI64) (ys := [(k : Int)]) rfl rfl ⟨(⟨V_i64.2 ⟨rfl, (by unfold Rng; omega)⟩, nna⟩), trivial⟩ rfl rfl rfl rfl ?_); intro bb hbb hvv); (repeat (first | (refine Walk ?_; intros) | refine JC.block ?_)); (refine JO.eff rfl rfl rfl (JEff.appendL (rep := rI64) rfl rfl rfl rfl (List.Perm.swap _ _ _) (by exact hvv.flat) (by intro c hc; exact flat_one (fun v hv => (hvv.size v hv).2) c hc) (by first | omega | (unfold big; omega)) (by unfold big; omega) (by intro l hl; cases hl) rfl ?_); intro a3 c3; clear hvv hbb)
            repeat (refine s39_L14h ?_; intros)
            refine JO.pure rfl rfl rfl (JPure.sliceS (xs := out) (rep := rI64) (bt := 8) rfl (by exact vta) rfl rfl rfl (by omega) (by omega) (by omega) ?_); intro a4 c4 ys2 hys2 hV2 hyl2 hyb2
            repeat (refine s39_L14h ?_; intros)
            (refine JO.eff rfl rfl rfl (JEff.appendS (rep := rI64) rfl rfl hV2 rfl rfl (List.Perm.refl _) (by unfold big; omega) (by unfold big; omega) (by intro l hl; cases hl) rfl ?_); intro oa5 oc5 us2 hus2)
            simp only [List.nil_append, List.toList_toArray, ← flat_append]
            have hys : ys1 ++ [(k : Int)] ++ ys2 = (out).take m ++ [(k : Int)] ++ (out).drop m := by
              rw [hys1, hys2, show ((m : Int) - 0).toNat = m by omega, show ((m : Int)).toNat = m by omega, show (Int.toNat 0) = 0 by rfl, List.drop_zero, List.take_of_length_le (l := (out).drop m) (by rw [List.length_drop]; omega)]
            rw [(rfl : out.take m ++ [(k : Int)] ++ out.drop m = out.take m ++ [(k : Int)] ++ out.drop m)] at hys
            have hnn : 0 + ys1.length + 1 + ys2.length = (out.take m ++ [(k : Int)] ++ out.drop m).length := by rw [← hys]; simp; omega
            have hnl : (out.take m ++ [(k : Int)] ++ out.drop m).length ≤ 1001 := by rw [← hnn]; omega
            refine JO.freezeRow (rep := rI64) (bt := 8) (xs := out.take m ++ [(k : Int)] ++ out.drop m) (by rw [← hys]; exact allV_three (by exact lea) hus1 (V_i64.2 ⟨rfl, (by unfold Rng; omega)⟩) nna hus2) hnn (by unfold big; omega) (by unfold big; omega) (by intro l hl; cases hl) (fun So9 hl9 hVo9 => ?_)
            rw [hnn] at hVo9 ⊢
            repeat (refine s39_L14h ?_; intros)
            exact JX.roundF ((k + 1, oa5, oc5, out.take m ++ [(k : Int)] ++ out.drop m)) (by exact lea) (⟨by omega, hVo9.mono (by exact lea), by (try dsimp only); rw [hin1]; exact ins_perm hpm, ins_sorted hso hxs hlow hhigh⟩) (by (try dsimp only); omega) rfl (by exact sba) (by exact sba)
        · have hin1 : inPods (k + 1) pods = inPods k pods := by rw [hstp, if_neg hmem, List.append_nil]
          rw [decide_eq_false hmem]
          repeat (refine s39_L14h ?_; intros)
          exact JX.roundF ((k + 1, oa, oc, out)) (by exact lea) (⟨by omega, hVo.mono (by exact lea), by (try dsimp only); rw [hin1]; exact hpm, hso⟩) (by (try dsimp only); omega) rfl (by exact sba) (by exact sba)
    · have hk' := dnlt hc
      have hke : k = s.pods.length := by omega
      have hrk : out = orderV s pods := by rw [hord]; exact sortBy_eq (by rw [hke] at hpm; exact hpm) hso
      repeat (refine s39_L14h ?_; intros)
      (refine JX.ret1 Tryz.results39 (ResV.tmp rfl) (List.nil_sublist _) ?_)
      exact ⟨rfl, by rw [← hrk]; exact hVo.mono (by exact lea)⟩
  · rw [decide_eq_false hs, show orderV s pods = [] from if_neg hs]
    repeat (refine s39_L14h ?_; intros)
    (refine JX.ret1 Tryz.results39 (ResV.tmp rfl) (List.nil_sublist _) ?_)
    exact ⟨rfl, V_nil⟩
end Go.Dr
