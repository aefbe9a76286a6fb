/- Part 8 of the rules and of the walks that the proofs of this seat rest on; no condition. -/
import Derived.Test.YthlkghfkcbpacaaGreatA06
set_option linter.unusedVariables false
set_option linter.unusedSimpArgs false
namespace Go.Dr
open Go.Proofs
set_option maxRecDepth 20000
set_option maxHeartbeats 2000000
set_option linter.unusedSimpArgs false
set_option linter.unusedVariables false
theorem of8_rng {s : Snap} {p : List Int} (hp : p.length ≤ 1000) (hw : ∀ x ∈ s.pods, x.wher.length ≤ 1000) (ht : ∀ x ∈ s.nodes, x.taints.length ≤ 1000) (kind : Int) (i : Nat) : 0 ≤ (of8 s p kind i).1 ∧ (of8 s p kind i).1 ≤ 1000 := by
  unfold of8
  cases hm : p[i]? with
  | none => simp
  | some m =>
    cases hx : s.pods[i]? with
    | none => simp
    | some x =>
      dsimp only
      split
      · simp
      · cases hn : s.nodes[m.toNat]? with
        | none => simp
        | some n =>
          dsimp only
          have h1 := hw x (List.mem_of_getElem? hx)
          have h2 := ht n (List.mem_of_getElem? hn)
          have h3 := List.length_filter_le (fun t => !holdsB [t] n.labels) x.wher
          have h4 := List.length_filter_le (fun t => !bearsB x.bears [t]) n.taints
          have h5 := cntI_rng p.length (aboutF s p i x.with_ false)
          have h6 := cntI_rng p.length (aboutF s p i x.apart true)
          have h7 := cntI_rng p.length (doubleF s p i)
          unfold termsN taintsN about8 double8
          repeat' split
          all_goals dsimp only
          all_goals omega
theorem shaped_lists {s : Snap} (h : shapedB s = true) : (∀ x ∈ s.pods, x.wher.length ≤ 1000) ∧ (∀ x ∈ s.nodes, x.taints.length ≤ 1000) := by
  unfold shapedB at h
  simp only [Bool.and_eq_true, List.all_eq_true] at h
  refine ⟨fun x hx => ?_, fun x hx => ?_⟩
  · have h1 := h.2.1.2 x hx
    unfold podB at h1
    simp only [Bool.and_eq_true] at h1
    have h2 := h1.1.1.2.1.2
    unfold z0 checkT at h2
    split at h2
    · rename_i h3
      simp only [Bool.and_eq_true, decide_eq_true_eq] at h3
      omega
    · simp at h2
  · have h1 := h.2.1.1 x hx
    unfold nodeB at h1
    simp only [Bool.and_eq_true] at h1
    have h2 := h1.2
    unfold z0 checkL at h2
    split at h2
    · rename_i h3
      simp only [Bool.and_eq_true, decide_eq_true_eq] at h3
      omega
    · simp at h2
theorem skewV_rng {s : Snap} {p : List Int} {o : Nat} (h : p.length ≤ 1000) (hlen : p.length = s.pods.length) (hn : s.nodes.length ≤ 1000) (hs : 0 ≤ skewOf s o) : 0 ≤ skewV s p o ∧ skewV s p o ≤ 1000000 := by
  unfold skewV
  have hr := spread_rng (o := o) h hlen hn
  generalize spreadL s p o = L at *
  cases L with
  | nil => simp
  | cons x L =>
    have r1 := fold_rng min_or (lo := 0) (hi := 1000000) (l := L) (z := x) (hr x (by simp)).1 (hr x (by simp)).2 (fun y hy => hr y (by simp [hy]))
    have r2 := fold_rng max_or (lo := 0) (hi := 1000000) (l := L) (z := x) (hr x (by simp)).1 (hr x (by simp)).2 (fun y hy => hr y (by simp [hy]))
    simp only [minL, maxL]
    split <;> omega
theorem placed_rng {s : Snap} {p : List Int} {o : Nat} (hlen : p.length = s.pods.length) : 0 ≤ placedN s p o ∧ placedN s p o ≤ p.length := by
  have : (ownedL s p o).length ≤ p.length := by rw [← ownedK_all hlen]; exact ownedK_len _ _ _ _
  unfold placedN; omega
theorem s142_L8x {P K : Prop} (k : K) (h : Goal K → P := by
  intro zk
  (first | refine Walk ?_ | refine JC.block ?_ | refine JC.drawN 22 rfl [0, 1, 2, 3, 4, 5, 6, 7, 8, 9, 10, 11, 12, 13, 14, 15, 16, 17] [8, 9, 10, 12, 13, 14, 17] Tryz_mixed (by decide +kernel) ?_ | (refine JO.eff rfl rfl rfl (JEff.callV rfl (r7_Check (by exact vta) (by exact vta)) rfl ?_); intro zqa zqb) | (refine JO.eff rfl rfl rfl (JEff.callRow rfl (r8_caps (by exact vta) (by exact vta) (by assumption)) rfl ?_); intro zqa zqb zqc zqd zqe zqf) | (refine JO.eff rfl rfl rfl (JEff.callV rfl (r8_of _ _ (by exact vta) (by exact vta) (by assumption) (by omega)) rfl ?_); intro zqa zqb) | (refine JO.eff rfl rfl rfl (JEff.callV rfl (r8_skew _ (by assumption) (by assumption) (by exact vta) (by exact vta)) rfl ?_); intro zqa zqb) | (refine JO.eff rfl rfl rfl (JEff.callV rfl (r7_PlacedOf _ (by assumption) (by assumption) (by exact vta) (by exact vta)) rfl ?_); intro zqa zqb) | (refine WBox ?_))
  (repeat (first | revert zqg | revert zqf | revert zqe | revert zqd | revert zqc | revert zqb | revert zqa))
  exact zk.k) : P := h ⟨k⟩
theorem r8_All {S : SHeap} {u v : Value} {s : Snap} {p : List Int} (hu : rSnap.V S u s) (hv : (rSlice 8 rI64).V S v p) : FnLE Tryz.prog 142 #[u, v] S 32 rClause (allL s p) (.int .i64 (checkP s p)) := by
  obtain ⟨a, c, rfl, _, _, hb, _⟩ := V_slice.1 hv
  unfold big at hb
  (refine Fn.enter (args := [u, .slice a p.length c]) Tryz.func142 rfl Tryz.ntmps142 rfl ?_; intro w0)
  repeat (refine s142_L8x ?_; intros)
  refine JC.cond rfl (fun he => ?_) (fun he => ?_)
  · have he : ¬ checkP s p = 0 := by simpa using he
    repeat (refine s142_L8x ?_; intros)
    (refine JX.ret2 Tryz.results142 (ResV.tmp rfl) (ResV.tmp rfl) (List.nil_sublist _) ?_)
    exact ⟨rfl, _, rfl, by unfold allL; rw [if_neg he]; exact V_nil⟩
  have hok : checkP s p = 0 := by simpa using he
  obtain ⟨hs, hlen, hodd⟩ := checkP_ok hok
  have hsh := (checkS_ok hs).1
  obtain ⟨hn8, hp24, ho8⟩ := shaped_small hsh
  obtain ⟨hwl, htl⟩ := shaped_lists hsh
  have hof := of8_rng (s := s) (p := p) (by omega) hwl htl
  have hcl : (capsC s p).length ≤ 40 := by unfold capsC; rw [capTo_len]; omega
  repeat (refine s142_L8x ?_; intros)
  rename_i ra0 rc0 S0 vs0 hl0 hv0
  have h0 : capsC s p = capsC s p ++ kindsTo s p 0 := by simp [kindsTo]
  rw [h0] at hv0
  rw [h0]
  refine JC.loopF (σ := Nat × Option Addr × Nat × List Value) [(1, _), (2, _)] (fun q => [(7, .slice q.2.1 ((fun j => capsC s p ++ kindsTo s p j) q.1).length q.2.2.1), (8, ((fun j => .int .i64 ((j : Int) + 2)) q.1))]) (fun q => [.row w0.heap.size 35 (Rp.sz rClause) (.slice q.2.1 ((fun j => capsC s p ++ kindsTo s p j) q.1).length q.2.2.1) ((fun j => capsC s p ++ kindsTo s p j) q.1).length (flatCells q.2.2.2)]) (fun Sj q => q.1 ≤ 5 ∧ allV rClause Sj q.2.2.2 ((fun j => capsC s p ++ kindsTo s p j) q.1) ∧ ((fun j => True) q.1)) (fun q => 5 - q.1) (0, ra0, rc0, vs0) (by exact sba) (by exact sba) (by first | rfl | simp) (⟨Nat.zero_le _, hv0, trivial⟩) ?_; rintro Sj ⟨j, raj, rcj, vsj⟩ hlj ⟨hj, hvj, hij⟩; (try dsimp only at hj hvj hij); dsimp only [List.cons_append, List.nil_append]
  have hkl := kindsTo_len s p j
  have hkl2 : j * p.length ≤ 5 * 24 := Nat.mul_le_mul (by omega) (by omega)
  have hXl : (capsC s p ++ kindsTo s p j).length ≤ 200 := by rw [List.length_append]; omega
  repeat (refine s142_L8x ?_; intros)
  refine JC.cond rfl (fun hc => ?_) (fun hc => ?_)
  · have hj' : j < 5 := by have := of_decide_eq_true hc; omega
    repeat (refine s142_L8x ?_; intros)
    have h1 : capsC s p ++ kindsTo s p j = capsC s p ++ kindsTo s p j ++ podsTo s p ((j : Int) + 2) 0 := by simp [podsTo]
    rw [h1] at hvj
    rw [h1]
    refine JC.loopF (σ := Nat × Option Addr × Nat × List Value) [(1, _), (2, _), (8, _)] (fun q => [(7, .slice q.2.1 ((fun i => capsC s p ++ kindsTo s p j ++ podsTo s p ((j : Int) + 2) i) q.1).length q.2.2.1), (9, ((fun i => .int .i64 i) q.1))]) (fun q => [.row w0.heap.size 35 (Rp.sz rClause) (.slice q.2.1 ((fun i => capsC s p ++ kindsTo s p j ++ podsTo s p ((j : Int) + 2) i) q.1).length q.2.2.1) ((fun i => capsC s p ++ kindsTo s p j ++ podsTo s p ((j : Int) + 2) i) q.1).length (flatCells q.2.2.2)]) (fun Si q => q.1 ≤ p.length ∧ allV rClause Si q.2.2.2 ((fun i => capsC s p ++ kindsTo s p j ++ podsTo s p ((j : Int) + 2) i) q.1) ∧ ((fun i => True) q.1)) (fun q => p.length - q.1) (0, raj, rcj, vsj) (by exact sba) (by exact sba) (by first | rfl | simp) (⟨Nat.zero_le _, hvj.mono (by exact lea), trivial⟩) ?_; rintro Si ⟨i, rai, rci, vsi⟩ hli ⟨hi, hvi, hii⟩; (try dsimp only at hi hvi hii); dsimp only [List.cons_append, List.nil_append]
    have hpl := podsTo_len s p ((j : Int) + 2) i
    have hYl : (capsC s p ++ kindsTo s p j ++ podsTo s p ((j : Int) + 2) i).length ≤ 300 := by rw [List.length_append]; omega
    repeat (refine s142_L8x ?_; intros)
    refine JC.cond rfl (fun hc2 => ?_) (fun hc2 => ?_)
    · have hi' := dlt hc2
      have hst := podsTo_step s p ((j : Int) + 2) i
      have hofr := hof ((j : Int) + 2) i
      repeat (refine s142_L8x ?_; intros)
      refine JC.cond rfl (fun hq => ?_) (fun hq => ?_)
      · have hst2 : capsC s p ++ kindsTo s p j ++ podsTo s p ((j : Int) + 2) (i + 1) = capsC s p ++ kindsTo s p j ++ podsTo s p ((j : Int) + 2) i ++ [⟨(j : Int) + 2, i, 0, (of8 s p ((j : Int) + 2) i).1⟩] := by
          rw [hst, podC1, if_pos hq, List.append_assoc (capsC s p ++ kindsTo s p j)]
        have hV : rClause.V Si (.agg (flatCells [.int .i64 ((j : Int) + 2), .int .i64 i, .int .i64 0, .int .i64 (of8 s p ((j : Int) + 2) i).1]).toArray) ⟨(j : Int) + 2, i, 0, (of8 s p ((j : Int) + 2) i).1⟩ := V_clause.2 ⟨by simp [flatCells, Value.cells], by unfold Rng; dsimp only; omega, by unfold Rng; dsimp only; omega, by unfold Rng; dsimp only; omega, by unfold Rng; dsimp only; omega⟩
        repeat (refine s142_L8x ?_; intros)
        (refine JO.eff rfl rfl rfl (JEff.build (rep := rClause) (ys := [(⟨(j : Int) + 2, i, 0, (of8 s p ((j : Int) + 2) i).1⟩ : Clause)]) rfl rfl ⟨⟨(hV.mono (by exact lea)), nna⟩, trivial⟩ rfl rfl rfl rfl ?_); intro bb hbb hvv); (repeat (first | (refine Walk ?_; intros) | refine JC.block ?_)); (refine JO.eff rfl rfl rfl (JEff.appendL (rep := rClause) rfl rfl rfl rfl (List.Perm.swap _ _ _) (by exact hvv.flat) (by intro c hc; exact flat_one (fun v hv => (hvv.size v hv).2) c hc) (by first | omega | (unfold big; omega)) (by unfold big; omega) (by first | exact rowT_ok | (intro l hl; cases hl)) rfl ?_); intro a2 c2; clear hvv hbb)
        repeat (refine s142_L8x ?_; intros)
        exact JX.roundF (i + 1, a2, c2, vsi ++ [((.agg (flatCells [.int .i64 ((j : Int) + 2), .int .i64 i, .int .i64 0, .int .i64 (of8 s p ((j : Int) + 2) i).1]).toArray))]) (by exact lea) ⟨by omega, by (try dsimp only); rw [hst2]; exact allV_add (by exact lea) hvi (hV.mono (by exact lea)) nna, (trivial)⟩ (by (try dsimp only); omega) (by (try dsimp only); rw [hst2]; (simp [flat_append] <;> omega)) (by (try dsimp only); rw [hst2]; simp only [List.length_append, List.length_cons, List.length_nil]; exact sba) (by exact sba)
      · have hst2 : capsC s p ++ kindsTo s p j ++ podsTo s p ((j : Int) + 2) (i + 1) = capsC s p ++ kindsTo s p j ++ podsTo s p ((j : Int) + 2) i := by
          rw [hst, podC1, if_neg (by rw [hq]; simp), List.append_nil]
        repeat (refine s142_L8x ?_; intros)
        exact JX.roundF (i + 1, rai, rci, vsi) (by exact lea) ⟨by omega, by (try dsimp only); rw [hst2]; exact hvi.mono (by exact lea), (trivial)⟩ (by (try dsimp only); omega) (by (try dsimp only); rw [hst2]) (by (try dsimp only); rw [hst2]; exact sba) (by exact sba)
    · have hi' := dnlt hc2
      obtain rfl : i = p.length := by omega
      have h2 : capsC s p ++ kindsTo s p j ++ podsTo s p ((j : Int) + 2) p.length = capsC s p ++ kindsTo s p (j + 1) := by rw [kindsTo_step, List.append_assoc]
      rw [h2] at hvi
      rw [h2]
      repeat (refine s142_L8x ?_; intros)
      exact JX.roundF (j + 1, rai, rci, vsi) (by exact lea) ⟨by omega, hvi.mono (by exact lea), trivial⟩ (by (try dsimp only); omega) rfl (by exact sba) (by exact sba)
  · obtain rfl : j = 5 := by have := of_decide_eq_false hc; omega
    repeat (refine s142_L8x ?_; intros)
    have h3 : capsC s p ++ kindsTo s p 5 = capsC s p ++ kindsTo s p 5 ++ spreadTo s p 0 := by simp [spreadTo]
    rw [h3] at hvj
    rw [h3]
    refine JC.loopF (σ := Nat × Option Addr × Nat × List Value) [(1, _), (2, _)] (fun q => [(7, .slice q.2.1 ((fun o => capsC s p ++ kindsTo s p 5 ++ spreadTo s p o) q.1).length q.2.2.1), (12, ((fun o => .int .i64 o) q.1))]) (fun q => [.row w0.heap.size 35 (Rp.sz rClause) (.slice q.2.1 ((fun o => capsC s p ++ kindsTo s p 5 ++ spreadTo s p o) q.1).length q.2.2.1) ((fun o => capsC s p ++ kindsTo s p 5 ++ spreadTo s p o) q.1).length (flatCells q.2.2.2)]) (fun So q => q.1 ≤ s.owners.length ∧ allV rClause So q.2.2.2 ((fun o => capsC s p ++ kindsTo s p 5 ++ spreadTo s p o) q.1) ∧ ((fun o => True) q.1)) (fun q => s.owners.length - q.1) (0, raj, rcj, vsj) (by exact sba) (by exact sba) (by first | rfl | simp) (⟨Nat.zero_le _, hvj.mono (by exact lea), trivial⟩) ?_; rintro So ⟨o, rao, rco, vso⟩ hlo ⟨ho, hvo, hio⟩; (try dsimp only at ho hvo hio); dsimp only [List.cons_append, List.nil_append]
    have hsl := spreadTo_len s p o
    have hYl : (capsC s p ++ kindsTo s p 5 ++ spreadTo s p o).length ≤ 300 := by rw [List.length_append]; omega
    repeat (refine s142_L8x ?_; intros)
    refine JC.cond rfl (fun hc2 => ?_) (fun hc2 => ?_)
    · have ho' := dlt hc2
      obtain ⟨ow, how, _⟩ := drop_at ho'
      have hst := spreadTo_step s p o
      have htp : topoOf s o = ow.topo := by simp [topoOf, how]
      have hsr := shaped_owner hsh ow (List.mem_of_getElem? how)
      have hskr := skewV_rng (o := o) (p := p) (s := s) (by omega) hlen (by omega) (by simp [skewOf, how]; omega)
      repeat (refine s142_L8x ?_; intros)
      refine JC.cond rfl (fun hq => ?_) (fun hq => ?_)
      · have hq : ¬ topoOf s o = noS := by rw [htp]; simpa [noS] using hq
        have hst2 : capsC s p ++ kindsTo s p 5 ++ spreadTo s p (o + 1) = capsC s p ++ kindsTo s p 5 ++ spreadTo s p o ++ [⟨7, o, 0, skewV s p o⟩] := by
          rw [hst, spreadC1, if_neg hq, List.append_assoc (capsC s p ++ kindsTo s p 5)]
        have hV : rClause.V So (.agg (flatCells [.int .i64 7, .int .i64 o, .int .i64 0, .int .i64 (skewV s p o)]).toArray) ⟨7, o, 0, skewV s p o⟩ := V_clause.2 ⟨by simp [flatCells, Value.cells], by unfold Rng; dsimp only; omega, by unfold Rng; dsimp only; omega, by unfold Rng; dsimp only; omega, by unfold Rng; dsimp only; omega⟩
        repeat (refine s142_L8x ?_; intros)
        (refine JO.eff rfl rfl rfl (JEff.build (rep := rClause) (ys := [(⟨7, o, 0, skewV s p o⟩ : Clause)]) rfl rfl ⟨⟨(hV.mono (by exact lea)), nna⟩, trivial⟩ rfl rfl rfl rfl ?_); intro bb hbb hvv); (repeat (first | (refine Walk ?_; intros) | refine JC.block ?_)); (refine JO.eff rfl rfl rfl (JEff.appendL (rep := rClause) rfl rfl rfl rfl (List.Perm.swap _ _ _) (by exact hvv.flat) (by intro c hc; exact flat_one (fun v hv => (hvv.size v hv).2) c hc) (by first | omega | (unfold big; omega)) (by unfold big; omega) (by first | exact rowT_ok | (intro l hl; cases hl)) rfl ?_); intro a2 c2; clear hvv hbb)
        repeat (refine s142_L8x ?_; intros)
        exact JX.roundF (o + 1, a2, c2, vso ++ [((.agg (flatCells [.int .i64 7, .int .i64 o, .int .i64 0, .int .i64 (skewV s p o)]).toArray))]) (by exact lea) ⟨by omega, by (try dsimp only); rw [hst2]; exact allV_add (by exact lea) hvo (hV.mono (by exact lea)) nna, (trivial)⟩ (by (try dsimp only); omega) (by (try dsimp only); rw [hst2]; (simp [flat_append] <;> omega)) (by (try dsimp only); rw [hst2]; simp only [List.length_append, List.length_cons, List.length_nil]; exact sba) (by exact sba)
      · have hq : topoOf s o = noS := by rw [htp]; simpa [noS] using hq
        have hst2 : capsC s p ++ kindsTo s p 5 ++ spreadTo s p (o + 1) = capsC s p ++ kindsTo s p 5 ++ spreadTo s p o := by
          rw [hst, spreadC1, if_pos hq, List.append_nil]
        repeat (refine s142_L8x ?_; intros)
        exact JX.roundF (o + 1, rao, rco, vso) (by exact lea) ⟨by omega, by (try dsimp only); rw [hst2]; exact hvo.mono (by exact lea), (trivial)⟩ (by (try dsimp only); omega) (by (try dsimp only); rw [hst2]) (by (try dsimp only); rw [hst2]; exact sba) (by exact sba)
    · have ho' := dnlt hc2
      obtain rfl : o = s.owners.length := by omega
      repeat (refine s142_L8x ?_; intros)
      have h4 : capsC s p ++ kindsTo s p 5 ++ spreadTo s p s.owners.length = capsC s p ++ kindsTo s p 5 ++ spreadTo s p s.owners.length ++ minTo s p 0 := by simp [minTo]
      rw [h4] at hvo
      rw [h4]
      refine JC.loopF (σ := Nat × Option Addr × Nat × List Value) [(1, _), (2, _)] (fun q => [(7, .slice q.2.1 ((fun m => capsC s p ++ kindsTo s p 5 ++ spreadTo s p s.owners.length ++ minTo s p m) q.1).length q.2.2.1), (13, ((fun m => .int .i64 m) q.1))]) (fun q => [.row w0.heap.size 35 (Rp.sz rClause) (.slice q.2.1 ((fun m => capsC s p ++ kindsTo s p 5 ++ spreadTo s p s.owners.length ++ minTo s p m) q.1).length q.2.2.1) ((fun m => capsC s p ++ kindsTo s p 5 ++ spreadTo s p s.owners.length ++ minTo s p m) q.1).length (flatCells q.2.2.2)]) (fun Sm q => q.1 ≤ s.owners.length ∧ allV rClause Sm q.2.2.2 ((fun m => capsC s p ++ kindsTo s p 5 ++ spreadTo s p s.owners.length ++ minTo s p m) q.1) ∧ ((fun m => True) q.1)) (fun q => s.owners.length - q.1) (0, rao, rco, vso) (by exact sba) (by exact sba) (by first | rfl | simp) (⟨Nat.zero_le _, hvo.mono (by exact lea), trivial⟩) ?_; rintro Sm ⟨m, ram, rcm, vsm⟩ hlm ⟨hm, hvm, him⟩; (try dsimp only at hm hvm him); dsimp only [List.cons_append, List.nil_append]
      have hml := minTo_len s p m
      have hZl : (capsC s p ++ kindsTo s p 5 ++ spreadTo s p s.owners.length ++ minTo s p m).length ≤ 400 := by rw [List.length_append]; omega
      repeat (refine s142_L8x ?_; intros)
      refine JC.cond rfl (fun hc3 => ?_) (fun hc3 => ?_)
      · have hm' := dlt hc3
        obtain ⟨ow, how, _⟩ := drop_at hm'
        have hst := minTo_step s p m
        have hmo : minOf s m = ow.min := by simp [minOf, how]
        have hsr := shaped_owner hsh ow (List.mem_of_getElem? how)
        have hplr := placed_rng (s := s) (p := p) (o := m) hlen
        have hst2 : capsC s p ++ kindsTo s p 5 ++ spreadTo s p s.owners.length ++ minTo s p (m + 1) = capsC s p ++ kindsTo s p 5 ++ spreadTo s p s.owners.length ++ minTo s p m ++ [minC1 s p m] := by
          rw [hst, List.append_assoc (capsC s p ++ kindsTo s p 5 ++ spreadTo s p s.owners.length)]
        have hV : rClause.V Sm (.agg (flatCells [.int .i64 8, .int .i64 m, .int .i64 0, .int .i64 (max 0 (ow.min - placedN s p m))]).toArray) (minC1 s p m) := V_clause.2 ⟨by simp [flatCells, Value.cells, minC1, hmo], by unfold Rng minC1; dsimp only; omega, by unfold Rng minC1; dsimp only; omega, by unfold Rng minC1; dsimp only; omega, by unfold Rng minC1; dsimp only; omega⟩
        repeat (refine s142_L8x ?_; intros)
        (refine JO.eff rfl rfl rfl (JEff.build (rep := rClause) (ys := [minC1 s p m]) rfl rfl ⟨⟨(hV.mono (by exact lea)), nna⟩, trivial⟩ rfl rfl rfl rfl ?_); intro bb hbb hvv); (repeat (first | (refine Walk ?_; intros) | refine JC.block ?_)); (refine JO.eff rfl rfl rfl (JEff.appendL (rep := rClause) rfl rfl rfl rfl (List.Perm.swap _ _ _) (by exact hvv.flat) (by intro c hc; exact flat_one (fun v hv => (hvv.size v hv).2) c hc) (by first | omega | (unfold big; omega)) (by unfold big; omega) (by first | exact rowT_ok | (intro l hl; cases hl)) rfl ?_); intro a2 c2; clear hvv hbb)
        repeat (refine s142_L8x ?_; intros)
        exact JX.roundF (m + 1, a2, c2, vsm ++ [((.agg (flatCells [.int .i64 8, .int .i64 m, .int .i64 0, .int .i64 (max 0 (ow.min - placedN s p m))]).toArray))]) (by exact lea) ⟨by omega, by (try dsimp only); rw [hst2]; exact allV_add (by exact lea) hvm (hV.mono (by exact lea)) nna, (trivial)⟩ (by (try dsimp only); omega) (by (try dsimp only); rw [hst2]; (simp [flat_append] <;> omega)) (by (try dsimp only); rw [hst2]; simp only [List.length_append, List.length_cons, List.length_nil]; exact sba) (by exact sba)
      · have hm' := dnlt hc3
        obtain rfl : m = s.owners.length := by omega
        have hfin : capsC s p ++ kindsTo s p 5 ++ spreadTo s p s.owners.length ++ minTo s p s.owners.length = allL s p := by unfold allL; rw [if_pos hok]; rfl
        rw [hfin] at hvm hZl
        rw [hfin]
        repeat (refine s142_L8x ?_; intros)
        refine JX.freezeRow (rep := rClause) (bt := 32) hvm rfl (by unfold big; omega) (by unfold big; omega) (fun S9 hl9 hV9 => ?_)
        (refine JX.ret2 Tryz.results142 (ResV.tmp rfl) (ResV.tmp rfl) (List.nil_sublist _) ?_)
        exact ⟨rfl, _, by rw [hok], hV9⟩
end Go.Dr
namespace Go.Dr
open Go.Proofs
set_option maxRecDepth 20000
set_option maxHeartbeats 2000000
set_option linter.unusedSimpArgs false
set_option linter.unusedVariables false
theorem p8_around {S : SHeap} {kp : Addr} {s : Snap} {p : List Int} {us : List (List Int)} {mb : Nat} {l : List (ByteArray × Value)} {xv : Value} {i : Nat} {x : Near} {m : Int} (self : Bool) (hok : checkP s p = 0)
    (hL : PtrTo S kp rLook ⟨s, p, us, .map (some mb)⟩) (hco : Cache s S l) (hx : rNear.V S xv x) (hi : p[i]? = some m) (hm : 0 ≤ m) :
    FnC Tryz.prog 170 #[.pointer (some kp), .int .i64 i, xv, .bool self] S Value.string mb (Cache s) l (fun w _ => w = .int .i64 (about8 s p i x (!self))) := by
  obtain ⟨hs, hlen, hp24, hn8, ho8, hpr, hprn⟩ := placed_hyps hok
  have hi' := (List.getElem?_eq_some_iff.1 hi).1
  have hir : Rng (i : Int) := by unfold Rng; omega
  (refine Fn.enter (args := [.pointer (some kp), .int .i64 i, xv, .bool self]) Tryz.func170 rfl Tryz.ntmps170 rfl ?_; intro w0)
  repeat (first | (refine Walk ?_; intros) | refine JC.block ?_ | (refine WBox ?_; intros))
  refine JO.eff rfl rfl rfl (JEff.callC (kv := Value.string) rfl (List.Perm.refl _) (by intro l hl; cases hl) (p8_many (aroundF s p i x self) inferInstance (by omega) (by exact pta) (hco.mono (by exact lea)) (fun S' l' j n hl hc hj hn => p8_around1 hok (by exact pta) hc (by exact pta) (by exact pta) (by exact pta) (by exact pta) hj hn hi hm)) rfl ?_); intro w S2 l2 hl2 hw hco2; subst hw
  rw [around_about hlen]
  repeat (first | (refine Walk ?_; intros) | refine JC.block ?_ | (refine WBox ?_; intros))
  refine JX.ret1 Tryz.results170 (ResV.tmp rfl) (List.Sublist.refl _) ?_
  exact ⟨rfl, _, rfl, hco2⟩
theorem p8_single1 {S : SHeap} {u : Value} {o : Owner} {q : Addr} {name : ByteArray} (hu : rOwner.V S u o) (hq : PtrTo S q rStr name) : FnV Tryz.prog 224 #[u, .pointer (some q)] S (.bool (decide (o.name = name))) := by
  (refine Fn.enter (args := [u, .pointer (some q)]) Tryz.func224 rfl Tryz.ntmps224 rfl ?_; intro w0)
  repeat (first | (refine Walk ?_; intros) | refine JC.block ?_ | (refine WBox ?_; intros))
  (refine JX.ret1 Tryz.results224 (ResV.tmp rfl) (List.nil_sublist _) ?_)
  exact ⟨rfl, rfl⟩
theorem idx_find {α : Type} {f : α → Bool} {xs : List α} : (∃ (i : Nat) (x : α), idxF f xs = i ∧ xs[i]? = some x ∧ xs.find? f = some x) ∨ (idxF f xs = -1 ∧ xs.find? f = none) := by
  unfold idxF
  cases h : xs.findIdx? f with
  | none =>
    right
    refine ⟨rfl, ?_⟩
    rw [List.find?_eq_none]
    intro x hx
    have := List.findIdx?_eq_none_iff.1 h x hx
    simpa using this
  | some i =>
    left
    obtain ⟨hi, h1, h2⟩ := List.findIdx?_eq_some_iff_getElem.1 h
    refine ⟨i, xs[i], rfl, List.getElem?_eq_getElem hi, ?_⟩
    rw [List.find?_eq_some_iff_getElem]
    exact ⟨h1, i, hi, rfl, fun j hj => by simpa using h2 j hj⟩
theorem p8_single {S : SHeap} {kp : Addr} {s : Snap} {p : List Int} {us : List (List Int)} {d : Value} (name : ByteArray) (hn : name.size ≤ big) (hL : PtrTo S kp rLook ⟨s, p, us, d⟩) : FnV Tryz.prog 173 #[.pointer (some kp), .string name] S (.bool (single8 s name)) := by
  (refine Fn.enter (args := [.pointer (some kp), .string name]) Tryz.func173 rfl Tryz.ntmps173 rfl ?_; intro w0)
  repeat (first | (refine Walk ?_; intros) | refine JC.block ?_ | (refine WBox ?_; intros))
  (refine JO.eff rfl rfl rfl (JEff.callV rfl (p_IndexFunc_Owner (fun o => decide (o.name = name)) (by exact vta) inferInstance (fun S' hl u x hx => p8_single1 hx (by exact pta))) rfl ?_); intro _ _)
  rcases idx_find (f := fun o : Owner => decide (o.name = name)) (xs := s.owners) with ⟨i, o, h1, h2, h3⟩ | ⟨h1, h3⟩
  · rw [h1]
    repeat' (first | (refine Walk ?_; intros) | refine JC.block ?_ | (refine WBox ?_; intros) | (refine JO.guard rfl rfl rfl rfl ?_ ?_ <;> intro _) | (refine JC.cond rfl ?_ ?_ <;> intro _))
    all_goals first
      | ((refine JX.ret1 Tryz.results173 (ResV.tmp rfl) (List.nil_sublist _) ?_); exact ⟨rfl, by simp [single8, h3, *]⟩)
      | (exfalso; first | (simp only [decide_eq_true_eq, decide_eq_false_iff_not, Bool.not_eq_true', Bool.not_eq_false', Bool.and_eq_true, Bool.or_eq_true, Bool.and_eq_false_iff, Bool.or_eq_false_iff] at *; omega) | (simp_all; done) | (simp_all; omega))
  · rw [h1]
    repeat' (first | (refine Walk ?_; intros) | refine JC.block ?_ | (refine WBox ?_; intros) | (refine JO.guard rfl rfl rfl rfl ?_ ?_ <;> intro _) | (refine JC.cond rfl ?_ ?_ <;> intro _))
    all_goals first
      | ((refine JX.ret1 Tryz.results173 (ResV.tmp rfl) (List.nil_sublist _) ?_); exact ⟨rfl, by simp [single8, h3]⟩)
      | (exfalso; first | (simp only [decide_eq_true_eq, decide_eq_false_iff_not, Bool.not_eq_true', Bool.not_eq_false', Bool.and_eq_true, Bool.or_eq_true, Bool.and_eq_false_iff, Bool.or_eq_false_iff] at *; omega) | (simp_all; done) | (simp_all; omega))
theorem p8_withoutT {S : SHeap} {u : Value} {l : List Term} {f : FuncId} {fs cs : Array Value} (F : Term → Bool) (hu : (rSlice 40 rTerm).V S u l) (hE : Ent Tryz.prog f)
    (hf : ∀ (S' : SHeap) (v : Value) (x : Term), S.le S' → (rSlice 40 rTerm).V S' v [x] → FnV Tryz.prog f (fs.toList ++ [v] ++ cs.toList).toArray S' (.bool (F x))) : FnV Tryz.prog 162 #[u, .func (.func f) fs cs] S (.int .i64 ((l.filter (fun t => !F t)).length : Int)) := by
  obtain ⟨a, c, rfl, _, _, hb, _⟩ := V_slice.1 hu
  unfold big at hb
  (refine Fn.enter (args := [.slice a l.length c, .func (.func f) fs cs]) Tryz.func162 rfl Tryz.ntmps162 rfl ?_; intro w0)
  repeat (first | (refine Walk ?_; intros) | refine JC.block ?_)
  refine JC.loopF0 [(0, _), (1, _), (7, _)] (fun (k : Nat) => [(4, .int .i64 (((l.take k).filter (fun t => !F t)).length : Int)), (8, .int .i64 k)]) (fun Sk k => k ≤ l.length ∧ (True)) (fun k => l.length - k) 0 (by exact sba) (by exact sba) ⟨Nat.zero_le _, trivial⟩ ?_; intro Sk k hlk hik; obtain ⟨hk, hik⟩ := hik; (try dsimp only at hk hik); dsimp only [List.cons_append, List.nil_append]
  repeat (first | (refine Walk ?_; intros) | refine JC.block ?_)
  refine JC.cond rfl (fun hc => ?_) (fun hc => ?_)
  · have hk' := dlt hc
    obtain ⟨x, hx, hd⟩ := drop_at hk'
    have hst := filt_take (f := fun t => !F t) hx
    have hle := filt_le l (fun t => !F t) k
    repeat (first | (refine Walk ?_; intros) | refine JC.block ?_)
    refine JO.pure rfl rfl rfl (JPure.sliceS (xs := l) (rep := rTerm) (bt := 40) rfl (by exact vta) rfl rfl rfl (by omega) (by omega) (by omega) ?_); intro a1 c1 ys hys hV hyl hyb
    rw [cut1 hx] at hys
    subst hys
    repeat (first | (refine Walk ?_; intros) | refine JC.block ?_)
    (refine JO.eff rfl rfl rfl (JEff.dynV rfl (by assumption) rfl (hf _ _ x (by exact lea) (by exact vta)) rfl ?_); intro _ _)
    repeat (first | (refine Walk ?_; intros) | refine JC.block ?_)
    refine JC.cond rfl (fun h1 => ?_) (fun h1 => ?_)
    · rw [h1, if_pos rfl] at hst
      repeat (first | (refine Walk ?_; intros) | refine JC.block ?_)
      (refine JX.roundF (k + 1) (by exact lea) ⟨by omega, (trivial)⟩ (by (try dsimp only); omega) rfl ?_ (by exact sba); (try dsimp only); rw [hst]; exact sba; done)
    · rw [h1, if_neg (by simp), Int.add_zero] at hst
      repeat (first | (refine Walk ?_; intros) | refine JC.block ?_)
      (refine JX.roundF (k + 1) (by exact lea) ⟨by omega, (trivial)⟩ (by (try dsimp only); omega) rfl ?_ (by exact sba); (try dsimp only); rw [hst]; exact sba; done)
  · have hk' := dnlt hc
    rw [List.take_of_length_le hk']
    repeat (first | (refine Walk ?_; intros) | refine JC.block ?_)
    (refine JX.ret1 Tryz.results162 (ResV.tmp rfl) (List.nil_sublist _) ?_)
    exact ⟨rfl, rfl⟩
theorem p8_withoutL {S : SHeap} {u : Value} {l : List Label} {f : FuncId} {fs cs : Array Value} (F : Label → Bool) (hu : (rSlice 32 rLabel).V S u l) (hE : Ent Tryz.prog f)
    (hf : ∀ (S' : SHeap) (v : Value) (x : Label), S.le S' → (rSlice 32 rLabel).V S' v [x] → FnV Tryz.prog f (fs.toList ++ [v] ++ cs.toList).toArray S' (.bool (F x))) : FnV Tryz.prog 166 #[u, .func (.func f) fs cs] S (.int .i64 ((l.filter (fun t => !F t)).length : Int)) := by
  obtain ⟨a, c, rfl, _, _, hb, _⟩ := V_slice.1 hu
  unfold big at hb
  (refine Fn.enter (args := [.slice a l.length c, .func (.func f) fs cs]) Tryz.func166 rfl Tryz.ntmps166 rfl ?_; intro w0)
  repeat (first | (refine Walk ?_; intros) | refine JC.block ?_)
  refine JC.loopF0 [(0, _), (1, _), (7, _)] (fun (k : Nat) => [(4, .int .i64 (((l.take k).filter (fun t => !F t)).length : Int)), (8, .int .i64 k)]) (fun Sk k => k ≤ l.length ∧ (True)) (fun k => l.length - k) 0 (by exact sba) (by exact sba) ⟨Nat.zero_le _, trivial⟩ ?_; intro Sk k hlk hik; obtain ⟨hk, hik⟩ := hik; (try dsimp only at hk hik); dsimp only [List.cons_append, List.nil_append]
  repeat (first | (refine Walk ?_; intros) | refine JC.block ?_)
  refine JC.cond rfl (fun hc => ?_) (fun hc => ?_)
  · have hk' := dlt hc
    obtain ⟨x, hx, hd⟩ := drop_at hk'
    have hst := filt_take (f := fun t => !F t) hx
    have hle := filt_le l (fun t => !F t) k
    repeat (first | (refine Walk ?_; intros) | refine JC.block ?_)
    refine JO.pure rfl rfl rfl (JPure.sliceS (xs := l) (rep := rLabel) (bt := 32) rfl (by exact vta) rfl rfl rfl (by omega) (by omega) (by omega) ?_); intro a1 c1 ys hys hV hyl hyb
    rw [cut1 hx] at hys
    subst hys
    repeat (first | (refine Walk ?_; intros) | refine JC.block ?_)
    (refine JO.eff rfl rfl rfl (JEff.dynV rfl (by assumption) rfl (hf _ _ x (by exact lea) (by exact vta)) rfl ?_); intro _ _)
    repeat (first | (refine Walk ?_; intros) | refine JC.block ?_)
    refine JC.cond rfl (fun h1 => ?_) (fun h1 => ?_)
    · rw [h1, if_pos rfl] at hst
      repeat (first | (refine Walk ?_; intros) | refine JC.block ?_)
      (refine JX.roundF (k + 1) (by exact lea) ⟨by omega, (trivial)⟩ (by (try dsimp only); omega) rfl ?_ (by exact sba); (try dsimp only); rw [hst]; exact sba; done)
    · rw [h1, if_neg (by simp), Int.add_zero] at hst
      repeat (first | (refine Walk ?_; intros) | refine JC.block ?_)
      (refine JX.roundF (k + 1) (by exact lea) ⟨by omega, (trivial)⟩ (by (try dsimp only); omega) rfl ?_ (by exact sba); (try dsimp only); rw [hst]; exact sba; done)
  · have hk' := dnlt hc
    rw [List.take_of_length_le hk']
    repeat (first | (refine Walk ?_; intros) | refine JC.block ?_)
    (refine JX.ret1 Tryz.results166 (ResV.tmp rfl) (List.nil_sublist _) ?_)
    exact ⟨rfl, rfl⟩
end Go.Dr
namespace Go.Dr
open Go.Proofs
set_option maxRecDepth 20000
set_option maxHeartbeats 2000000
set_option linter.unusedSimpArgs false
set_option linter.unusedVariables false
structure PodAt (s : Snap) (p : List Int) (i m : Nat) (x : Pod) (n : Node) : Prop where
  ok : checkP s p = 0
  hm : p[i]? = some (m : Int)
  hx : s.pods[i]? = some x
  hn : s.nodes[m]? = some n
theorem of8_at {s : Snap} {p : List Int} {i m : Nat} {x : Pod} {n : Node} (h : PodAt s p i m x n) (kind : Int) : of8 s p kind i =
      if kind = 2 then (termsN x.wher n.labels, true)
      else if kind = 3 then (taintsN n.taints x.bears, true)
      else if kind = 4 then (if x.with_.topo = noS then (0, false) else (max 0 (1 - about8 s p i x.with_ false), true))
      else if kind = 5 then (if x.apart.topo = noS then (0, false) else (about8 s p i x.apart true, true))
      else if x.owner = noS then (0, false) else if !single8 s x.owner then (0, false) else (double8 s p i, true) := by
  unfold of8
  rw [h.hm, h.hx]
  have e : ((m : Int)).toNat = m := by omega
  have e2 : ¬ (m : Int) < 0 := by omega
  simp only [e, h.hn, if_neg e2]
def KindAns (f : FuncId) (kind : Int) : Prop :=
  ∀ {S : SHeap} {kp : Addr} {s : Snap} {p : List Int} {us : List (List Int)} {mb : Nat} {l : List (ByteArray × Value)} {i m : Nat} {x : Pod} {n : Node}, PodAt s p i m x n →
    PtrTo S kp rLook ⟨s, p, us, .map (some mb)⟩ → Cache s S l → FnC Tryz.prog f #[.pointer (some kp), .int .i64 i] S Value.string mb (Cache s) l (fun w _ => w = .tuple #[.int .i64 (of8 s p kind i).1, .bool (of8 s p kind i).2])
theorem p8_kinds11 {S : SHeap} {u : Value} {t : Term} {ls : List Label} {q : Addr} (hu : (rSlice 40 rTerm).V S u [t]) (hq : PtrTo S q (rSlice 32 rLabel) ls) : FnV Tryz.prog 163 #[u, .pointer (some q)] S (.bool (holdsB [t] ls)) := by
  (refine Fn.enter (args := [u, .pointer (some q)]) Tryz.func163 rfl Tryz.ntmps163 rfl ?_; intro w0)
  repeat (first | (refine Walk ?_; intros) | refine JC.block ?_ | (refine JO.eff rfl rfl rfl (JEff.callV rfl (p3_Holds (by exact vta) (by exact vta)) rfl ?_); intro _ _))
  (refine JX.ret1 Tryz.results163 (ResV.tmp rfl) (List.nil_sublist _) ?_)
  exact ⟨rfl, rfl⟩
theorem p8_kinds21 {S : SHeap} {u : Value} {t : Label} {ls : List Label} {q : Addr} (hu : (rSlice 32 rLabel).V S u [t]) (hq : PtrTo S q (rSlice 32 rLabel) ls) : FnV Tryz.prog 167 #[u, .pointer (some q)] S (.bool (bearsB ls [t])) := by
  (refine Fn.enter (args := [u, .pointer (some q)]) Tryz.func167 rfl Tryz.ntmps167 rfl ?_; intro w0)
  repeat (first | (refine Walk ?_; intros) | refine JC.block ?_ | (refine JO.eff rfl rfl rfl (JEff.callV rfl (p3_Bears (by exact vta) (by exact vta)) rfl ?_); intro _ _))
  (refine JX.ret1 Tryz.results167 (ResV.tmp rfl) (List.nil_sublist _) ?_)
  exact ⟨rfl, rfl⟩
theorem s161_L8d {P K : Prop} (k : K) (h : Goal K → P := by
  intro zk
  (first | refine Walk ?_ | refine JC.block ?_ | refine JC.drawN 1 rfl [0, 1, 2, 3, 4, 5, 6, 7, 8, 9, 10, 11, 12, 13, 14, 15, 16] [] Tryz_mixed (by decide +kernel) ?_ | (refine WNew ?_) | (refine WPut ?_))
  (repeat (first | revert zqg | revert zqf | revert zqe | revert zqd | revert zqc | revert zqb | revert zqa))
  exact zk.k) : P := h ⟨k⟩
theorem p8_kinds1 : KindAns 161 2 := by
  intro S kp s p us mb l i m x n h hL hco
  rw [of8_at h]
  have hm := h.hm
  have hx := h.hx
  have hn := h.hn
  refine FnR.toC ?_ (fun S' hl => hco.mono hl)
  (refine Fn.enter (args := [.pointer (some kp), .int .i64 i]) Tryz.func161 rfl Tryz.ntmps161 rfl ?_; intro w0)
  repeat (refine s161_L8d ?_; intros)
  (refine JO.eff rfl rfl rfl (JEff.callV rfl (p8_withoutT (fun t => holdsB [t] n.labels) (by exact vta) inferInstance (fun S' v t hl hv => p8_kinds11 hv (by exact pta))) rfl ?_); intro _ _)
  repeat (refine s161_L8d ?_; intros)
  (refine JX.ret2 Tryz.results161 (ResV.tmp rfl) (ResV.tmp rfl) (List.nil_sublist _) ?_)
  exact ⟨rfl, rfl⟩
theorem s165_L8d {P K : Prop} (k : K) (h : Goal K → P := by
  intro zk
  (first | refine Walk ?_ | refine JC.block ?_ | refine JC.drawN 2 rfl [0, 1, 2, 3, 4, 5, 6, 7, 8, 9, 10, 11, 12, 13, 14, 15, 16, 17, 18] [0, 1, 2, 3, 4, 5, 6, 7, 8, 9, 10, 11, 12, 13, 14, 15, 17, 18] Tryz_mixed (by decide +kernel) ?_ | (refine WNew ?_) | (refine WPut ?_))
  (repeat (first | revert zqg | revert zqf | revert zqe | revert zqd | revert zqc | revert zqb | revert zqa))
  exact zk.k) : P := h ⟨k⟩
theorem p8_kinds2 : KindAns 165 3 := by
  intro S kp s p us mb l i m x n h hL hco
  rw [of8_at h]
  have hm := h.hm
  have hx := h.hx
  have hn := h.hn
  refine FnR.toC ?_ (fun S' hl => hco.mono hl)
  (refine Fn.enter (args := [.pointer (some kp), .int .i64 i]) Tryz.func165 rfl Tryz.ntmps165 rfl ?_; intro w0)
  repeat (refine s165_L8d ?_; intros)
  (refine JO.eff rfl rfl rfl (JEff.callV rfl (p8_withoutL (fun t => bearsB x.bears [t]) (by exact vta) inferInstance (fun S' v t hl hv => p8_kinds21 hv (by exact pta))) rfl ?_); intro _ _)
  repeat (refine s165_L8d ?_; intros)
  (refine JX.ret2 Tryz.results165 (ResV.tmp rfl) (ResV.tmp rfl) (List.nil_sublist _) ?_)
  exact ⟨rfl, rfl⟩
theorem p8_kinds3 : KindAns 169 4 := by
  intro S kp s p us mb l i m x n h hL hco
  rw [of8_at h]
  have hm := h.hm
  have hx := h.hx
  obtain ⟨hs, hlen, hp24, hn8, ho8, hpr, hprn⟩ := placed_hyps h.ok
  have hab := cntI_rng p.length (aboutF s p i x.with_ false)
  (refine Fn.enter (args := [.pointer (some kp), .int .i64 i]) Tryz.func169 rfl Tryz.ntmps169 rfl ?_; intro w0)
  repeat (first | (refine Walk ?_; intros) | refine JC.block ?_ | (refine WNew ?_; intros) | (refine WPut ?_; intros))
  refine JC.cond rfl (fun h1 => ?_) (fun h1 => ?_)
  · have h1 : x.with_.topo = noS := by simpa [noS] using h1
    repeat (first | (refine Walk ?_; intros) | refine JC.block ?_ | (refine WNew ?_; intros) | (refine WPut ?_; intros))
    refine JX.ret2 Tryz.results169 (ResV.tmp rfl) (ResV.tmp rfl) (List.Sublist.refl _) ?_
    exact ⟨by simp [h1], _, rfl, hco.mono (by exact lea)⟩
  · have h1 : ¬ x.with_.topo = noS := by simpa [noS] using h1
    repeat (first | (refine Walk ?_; intros) | refine JC.block ?_ | (refine WNew ?_; intros) | (refine WPut ?_; intros))
    refine JO.eff rfl rfl rfl (JEff.callC (kv := Value.string) rfl (List.Perm.refl _) (by intro l hl; cases hl) (p8_around true h.ok (by exact pta) (hco.mono (by exact lea)) (by exact vta) hm (by omega)) rfl ?_); intro w S2 l2 hl2 hw hco2; subst hw
    have e : about8 s p i x.with_ (!true) = about8 s p i x.with_ false := rfl
    have hab2 : 0 ≤ about8 s p i x.with_ (!true) ∧ about8 s p i x.with_ (!true) ≤ p.length := hab
    repeat (first | (refine Walk ?_; intros) | refine JC.block ?_ | (refine WNew ?_; intros) | (refine WPut ?_; intros))
    refine JX.ret2 Tryz.results169 (ResV.tmp rfl) (ResV.tmp rfl) (List.Sublist.refl _) ?_
    exact ⟨by simp [h1], _, rfl, hco2⟩
theorem p8_kinds4 : KindAns 171 5 := by
  intro S kp s p us mb l i m x n h hL hco
  rw [of8_at h]
  have hm := h.hm
  have hx := h.hx
  obtain ⟨hs, hlen, hp24, hn8, ho8, hpr, hprn⟩ := placed_hyps h.ok
  (refine Fn.enter (args := [.pointer (some kp), .int .i64 i]) Tryz.func171 rfl Tryz.ntmps171 rfl ?_; intro w0)
  repeat (first | (refine Walk ?_; intros) | refine JC.block ?_ | (refine WNew ?_; intros) | (refine WPut ?_; intros))
  refine JC.cond rfl (fun h1 => ?_) (fun h1 => ?_)
  · have h1 : x.apart.topo = noS := by simpa [noS] using h1
    repeat (first | (refine Walk ?_; intros) | refine JC.block ?_ | (refine WNew ?_; intros) | (refine WPut ?_; intros))
    refine JX.ret2 Tryz.results171 (ResV.tmp rfl) (ResV.tmp rfl) (List.Sublist.refl _) ?_
    exact ⟨by simp [h1], _, rfl, hco.mono (by exact lea)⟩
  · have h1 : ¬ x.apart.topo = noS := by simpa [noS] using h1
    repeat (first | (refine Walk ?_; intros) | refine JC.block ?_ | (refine WNew ?_; intros) | (refine WPut ?_; intros))
    refine JO.eff rfl rfl rfl (JEff.callC (kv := Value.string) rfl (List.Perm.refl _) (by intro l hl; cases hl) (p8_around false h.ok (by exact pta) (hco.mono (by exact lea)) (by exact vta) hm (by omega)) rfl ?_); intro w S2 l2 hl2 hw hco2; subst hw
    repeat (first | (refine Walk ?_; intros) | refine JC.block ?_ | (refine WNew ?_; intros) | (refine WPut ?_; intros))
    refine JX.ret2 Tryz.results171 (ResV.tmp rfl) (ResV.tmp rfl) (List.Sublist.refl _) ?_
    exact ⟨by simp [h1], _, rfl, hco2⟩
def dblF (s : Snap) (p : List Int) (i m : Nat) (x : Pod) (j : Nat) : Bool :=
  match p[j]?, s.pods[j]? with
  | some n, some q => !decide (j = i) && decide (n = (m : Int)) && decide (q.owner = x.owner)
  | _, _ => false
theorem dbl_double {s : Snap} {p : List Int} {i m : Nat} {x : Pod} {n : Node} (h : PodAt s p i m x n) : cntI p.length (thereB p (dblF s p i m x)) = double8 s p i := by
  unfold double8
  refine cntI_congr fun j hj => ?_
  obtain ⟨n, hn⟩ : ∃ n, p[j]? = some n := ⟨_, List.getElem?_eq_getElem hj⟩
  unfold thereB dblF doubleF
  rw [at0_some hn, hn, h.hm, h.hx]
  cases s.pods[j]? <;> simp
  intro _ h1 _
  omega
theorem p8_kinds51 {S : SHeap} {kp : Addr} {s : Snap} {p : List Int} {us : List (List Int)} {d : Value} {qi qk qn : Addr} {i m j : Nat} {x : Pod} {n : Node} {nj : Int} (h : PodAt s p i m x n)
    (hL : PtrTo S kp rLook ⟨s, p, us, d⟩) (h2 : PtrTo S qi rI64 (i : Int)) (h3 : PtrTo S qk rVal (.pointer (some kp))) (h4 : PtrTo S qn rStr x.owner) (hj : p[j]? = some nj) :
    FnV Tryz.prog 175 #[.int .i64 j, .pointer (some qi), .pointer (some qk), .pointer (some qn)] S (.bool (dblF s p i m x j)) := by
  obtain ⟨hs, hlen, hp24, hn8, ho8, hpr, hprn⟩ := placed_hyps h.ok
  have hm := h.hm
  have hj' := (List.getElem?_eq_some_iff.1 hj).1
  have hi' := (List.getElem?_eq_some_iff.1 hm).1
  obtain ⟨q, hq⟩ : ∃ q, s.pods[j]? = some q := ⟨_, List.getElem?_eq_getElem (by omega)⟩
  have haf : dblF s p i m x j = (!decide (j = i) && decide (nj = (m : Int)) && decide (q.owner = x.owner)) := by simp [dblF, hj, hq]
  have hij : decide ((j : Int) = (i : Int)) = decide (j = i) := by rw [Bool.eq_iff_iff]; simp; omega
  have hjr : Rng (j : Int) := by unfold Rng; omega
  rw [haf]
  clear haf
  (refine Fn.enter (args := [.int .i64 j, .pointer (some qi), .pointer (some qk), .pointer (some qn)]) Tryz.func175 rfl Tryz.ntmps175 rfl ?_; intro w0)
  repeat' (first | (refine Walk ?_; intros) | refine JC.block ?_ | refine JC.drawN 1 rfl [0, 1, 2, 3, 4, 5, 6, 7, 8, 9, 10, 11, 12, 13, 14, 15, 16, 17, 18, 19, 20, 21, 22, 23, 24, 25, 26, 27, 28, 29, 30, 31, 32, 33] [0, 1, 2, 3, 4, 5, 6, 7, 8, 9, 10, 11, 12, 13, 14, 15, 16, 17, 18, 19, 20, 21, 22, 23, 24, 25, 26, 27, 28, 29, 30, 31, 32, 33] Tryz_mixed (by decide +kernel) ?_ | (refine JO.guard rfl rfl rfl rfl ?_ ?_ <;> intro _) | (refine JC.cond rfl ?_ ?_ <;> intro _))
  all_goals ((refine JX.ret1 Tryz.results175 (ResV.tmp rfl) (List.nil_sublist _) ?_); refine ⟨rfl, ?_⟩; simp_all)
theorem single_no {s : Snap} (h : shapedB s = true) : single8 s noS = false := by
  unfold single8
  cases hf : s.owners.find? (fun o => decide (o.name = noS)) with
  | none => rfl
  | some o =>
    exfalso
    have h1 := List.find?_some hf
    have h2 := List.mem_of_find?_eq_some hf
    have h1 : o.name = noS := by simpa using h1
    unfold shapedB at h
    simp only [Bool.and_eq_true] at h
    have h3 := h.1.2.2
    have h4 : nameB o.name = true := by
      have : ∀ (l : List ByteArray) (a : Option ByteArray), riseN a l = true → ∀ x ∈ l, nameB x = true := by
        intro l
        induction l with
        | nil => intro a _ x hx; cases hx
        | cons y l ih =>
          intro a hr x hx
          simp only [riseN, Bool.and_eq_true] at hr
          rcases List.mem_cons.1 hx with rfl | hx
          · exact hr.1.1
          · exact ih _ hr.2 x hx
      exact this _ _ h3 _ (List.mem_map.2 ⟨o, h2, rfl⟩)
    rw [h1] at h4
    exact absurd h4 (by decide)
theorem s172_L8d {P K : Prop} (k : K) (h : Goal K → P := by
  intro zk
  (first | refine Walk ?_ | refine JC.block ?_ | refine JC.drawN 1 rfl [0, 1, 2, 3, 4, 5, 6, 7, 8, 9, 10] [] Tryz_mixed (by decide +kernel) ?_ | (refine WBox ?_) | (refine WNew ?_) | (refine WPut ?_))
  (repeat (first | revert zqg | revert zqf | revert zqe | revert zqd | revert zqc | revert zqb | revert zqa))
  exact zk.k) : P := h ⟨k⟩
theorem p8_kinds5 : KindAns 172 6 := by
  intro S kp s p us mb l i m x n h hL hco
  have hm := h.hm
  have hx := h.hx
  obtain ⟨hs, hlen, hp24, hn8, ho8, hpr, hprn⟩ := placed_hyps h.ok
  have hi' := (List.getElem?_eq_some_iff.1 hm).1
  have hir : Rng (i : Int) := by unfold Rng; omega
  have hno := single_no (checkS_ok hs).1
  have hval : (if x.owner = noS then ((0 : Int), false) else if !single8 s x.owner then (0, false) else (double8 s p i, true)) = if single8 s x.owner then (double8 s p i, true) else (0, false) := by
    by_cases h1 : x.owner = noS
    · rw [if_pos h1, h1, hno]; rfl
    · rw [if_neg h1]; cases single8 s x.owner <;> rfl
  have hv6 : of8 s p 6 i = if single8 s x.owner then (double8 s p i, true) else (0, false) := by rw [of8_at h, if_neg (by decide), if_neg (by decide), if_neg (by decide), if_neg (by decide)]; exact hval
  rw [hv6]
  (refine Fn.enter (args := [.pointer (some kp), .int .i64 i]) Tryz.func172 rfl Tryz.ntmps172 rfl ?_; intro w0)
  repeat (refine s172_L8d ?_; intros)
  (refine JO.eff rfl rfl rfl (JEff.callV rfl (p8_single x.owner (by assumption) (by exact pta)) rfl ?_); intro _ _)
  repeat (refine s172_L8d ?_; intros)
  cases h1 : single8 s x.owner with
  | false =>
    repeat (refine s172_L8d ?_; intros)
    refine JX.ret2 Tryz.results172 (ResV.tmp rfl) (ResV.tmp rfl) (List.Sublist.refl _) ?_
    exact ⟨by simp [h1], _, rfl, hco.mono (by exact lea)⟩
  | true =>
    repeat (refine s172_L8d ?_; intros)
    refine JO.eff rfl rfl rfl (JEff.callC (kv := Value.string) rfl (List.Perm.refl _) (by intro l hl; cases hl) (p8_many (dblF s p i m x) inferInstance (by omega) (by exact pta) (hco.mono (by exact lea)) (fun S' l' j n hl hc hj hn => FnR.toC (p8_kinds51 h (by exact pta) (by exact pta) (by exact pta) (by exact pta) hj) (fun _ hl => hc.mono hl))) rfl ?_); intro w S2 l2 hl2 hw hco2; subst hw
    rw [dbl_double h]
    repeat (refine s172_L8d ?_; intros)
    refine JX.ret2 Tryz.results172 (ResV.tmp rfl) (ResV.tmp rfl) (List.Sublist.refl _) ?_
    exact ⟨by simp [h1], _, rfl, hco2⟩
end Go.Dr
namespace Go.Dr
def spCnt (s : Snap) (key : ByteArray) (xs : List Int) (v : ByteArray) : Int := ((xs.filter (fun x => inDom s key v x.toNat)).length : Int)
theorem sum_add2 (f g : Nat → Int) : ∀ N, ((List.range N).map (fun n => f n + g n)).sum = ((List.range N).map f).sum + ((List.range N).map g).sum
  | 0 => rfl
  | N + 1 => by
    simp only [List.range_succ, List.map_append, List.sum_append, List.map_cons, List.map_nil, List.sum_cons, List.sum_nil, sum_add2 f g N]; omega
theorem sum_one (c : Int) (i : Nat) : ∀ N, ((List.range N).map (fun n => if n = i then c else 0)).sum = if i < N then c else 0
  | 0 => rfl
  | N + 1 => by
    simp only [List.range_succ, List.map_append, List.sum_append, List.map_cons, List.map_nil, List.sum_cons, List.sum_nil, sum_one c i N]
    by_cases h : i < N
    · rw [if_pos h, if_neg (by omega), if_pos (by omega)]; omega
    · by_cases h2 : N = i
      · rw [if_neg h, if_pos h2, if_pos (by omega)]; omega
      · rw [if_neg h, if_neg h2, if_neg (by omega)]; rfl
theorem spCnt_sum (s : Snap) (key v : ByteArray) (N : Nat) : ∀ (xs : List Int), (∀ x ∈ xs, 0 ≤ x ∧ x < N) →
    ((List.range N).map (fun n => if inDom s key v n = true then ((xs.filter (fun x => decide (x = (n : Int)))).length : Int) else 0)).sum = spCnt s key xs v
  | [], _ => by
    unfold spCnt
    simp [List.map_const', List.sum_replicate_int]
  | x :: xs, h => by
    have ih := spCnt_sum s key v N xs (fun y hy => h y (by simp [hy]))
    obtain ⟨h0, h1⟩ := h x (by simp)
    obtain ⟨i, rfl⟩ := Int.eq_ofNat_of_zero_le h0
    have e1 : (fun n : Nat => if inDom s key v n = true then ((((i : Int) :: xs).filter (fun x => decide (x = (n : Int)))).length : Int) else 0) =
        fun n => (if inDom s key v n = true then ((xs.filter (fun x => decide (x = (n : Int)))).length : Int) else 0) + (if n = i then (if inDom s key v i = true then 1 else 0) else 0) := by
      funext n
      by_cases hn : n = i
      · subst hn
        rw [List.filter_cons_of_pos (by simp)]
        cases inDom s key v n <;> simp
      · rw [List.filter_cons_of_neg (by simp; omega), if_neg hn]; simp
    rw [e1, sum_add2, ih, sum_one, if_pos (by omega)]
    unfold spCnt
    cases hd : inDom s key v i with
    | true => rw [List.filter_cons_of_pos (by simpa using hd)]; simp
    | false => rw [List.filter_cons_of_neg (by simpa using hd)]; simp
theorem spread_cnt {s : Snap} {p : List Int} {o : Nat} (h : ∀ x ∈ ownedL s p o, 0 ≤ x ∧ x < s.nodes.length) : spreadL s p o = (domL s (topoOf s o)).map (spCnt s (topoOf s o) (ownedL s p o)) := by
  unfold spreadL
  apply List.map_congr_left
  intro v _
  rw [← spCnt_sum s (topoOf s o) v s.nodes.length _ h]
  unfold domCount
  congr 1
  apply List.map_congr_left
  intro n hn
  have hn := List.mem_range.1 hn
  have : at0 (countsL s p o) n = (((ownedL s p o).filter (fun x => decide (x = (n : Int)))).length : Int) := by
    simp [at0, countsL, hn]
  rw [this]
theorem spCnt_step {s : Snap} {key : ByteArray} {xs : List Int} {k : Nat} {y : Int} (h : xs[k]? = some y) (v : ByteArray) : spCnt s key (xs.take (k + 1)) v = spCnt s key (xs.take k) v + if inDom s key v y.toNat = true then 1 else 0 := by
  unfold spCnt
  rw [List.take_add_one, h]
  cases hd : inDom s key v y.toNat <;> simp [hd]
theorem map_set1 {D : List ByteArray} {j : Nat} {v : ByteArray} (f : ByteArray → Int) (hn : pwS D) (hj : D[j]? = some v) : D.map (fun d => f d + if d = v then 1 else 0) = (D.map f).set j (f v + 1) := by
  obtain ⟨l1, e1⟩ := List.getElem?_eq_some_iff.1 hj
  apply List.ext_getElem?
  intro i
  rw [List.getElem?_set, List.getElem?_map, List.getElem?_map, List.length_map]
  by_cases hi : j = i
  · subst hi
    rw [if_pos rfl, if_pos l1, hj]; simp
  · rw [if_neg hi]
    cases hd : D[i]? with
    | none => rfl
    | some d =>
      obtain ⟨l2, e2⟩ := List.getElem?_eq_some_iff.1 hd
      have hne : ¬ d = v := by
        intro he
        have hp := List.pairwise_iff_getElem.1 hn
        rcases Nat.lt_or_ge i j with hl | hl
        · have := hp i j l2 l1 hl
          rw [e1, e2, he, ltS_irr] at this; cases this
        · have := hp j i l1 l2 (by omega)
          rw [e1, e2, he, ltS_irr] at this; cases this
      simp [hne]
theorem dom_has (key : ByteArray) : ∀ (l : List Node) (b : List ByteArray) (v : ByteArray), (v ∈ b ∨ ∃ x ∈ l, (valB x key).2 = true ∧ (valB x key).1 = v) → v ∈ l.foldl (domStep key) b
  | [], b, v, h => by
    rcases h with h | ⟨x, hx, _⟩
    · exact h
    · cases hx
  | n :: l, b, v, h => by
    simp only [List.foldl_cons]
    refine dom_has key l _ v ?_
    rcases h with h | ⟨x, hx, h1, h2⟩
    · left
      unfold domStep
      split
      · rw [domIns_mem]; exact .inr h
      · exact h
    · rcases List.mem_cons.1 hx with rfl | hx
      · left
        unfold domStep
        rw [if_pos h1, domIns_mem]; exact .inl h2.symm
      · exact .inr ⟨x, hx, h1, h2⟩
end Go.Dr
namespace Go.Dr
open Go.Proofs
set_option maxRecDepth 20000
set_option maxHeartbeats 2000000
set_option linter.unusedSimpArgs false
set_option linter.unusedVariables false
def spreadP (s : Snap) (p : List Int) (o : Int) : List Int := if z0 (checkP s p) && (decide (0 ≤ o) && decide (o < s.owners.length)) then spreadL s p o.toNat else []
theorem idxS_mem {l : List ByteArray} {v : ByteArray} (h : v ∈ l) : ∃ j : Nat, idxS l v = (j : Int) ∧ l[j]? = some v := by
  unfold idxS idxF
  cases hf : l.findIdx? (fun x => decide (x = v)) with
  | none =>
    have := List.findIdx?_eq_none_iff.1 hf v h
    simp at this
  | some j =>
    obtain ⟨h1, h2, _⟩ := List.findIdx?_eq_some_iff_getElem.1 hf
    refine ⟨j, rfl, ?_⟩
    rw [List.getElem?_eq_getElem h1, of_decide_eq_true h2]
theorem s109_L7i {P K : Prop} (k : K) (h : Goal K → P := by
  intro zk
  (first | refine Walk ?_ | refine JC.block ?_ | refine JC.drawN 8 rfl [0, 1, 2, 3, 4, 5, 6, 7, 8, 9, 10, 11] [0, 1, 2, 3, 4, 5, 7, 8, 9, 10, 11] Tryz_mixed (by decide +kernel) ?_ | refine JC.drawN 10 rfl [0, 1, 2, 3, 4, 5, 6, 7, 8] [1, 2, 4, 5, 6, 7] Tryz_mixed (by decide +kernel) ?_ | (refine JO.eff rfl rfl rfl (JEff.callV rfl (p7_asked _ (by exact vta) (by exact vta)) rfl ?_); intro zqa zqb) | (refine JO.eff rfl rfl rfl (JEff.callL rfl (p7_Domains _ (by assumption) (by exact vta)) rfl ?_); intro zqa zqb zqc zqd zqe zqf) | (refine JO.eff rfl rfl rfl (JEff.callV rfl (p7_value _ (by assumption) (by exact vta)) rfl ?_); intro zqa zqb) | (refine JO.eff rfl rfl rfl (JEff.callV rfl (p_Index_string _ (by exact vta)) rfl ?_); intro zqa zqb) | (refine WBox ?_) | (refine WNew ?_) | (refine WPut ?_))
  (repeat (first | revert zqg | revert zqf | revert zqe | revert zqd | revert zqc | revert zqb | revert zqa))
  exact zk.k) : P := h ⟨k⟩
theorem p7_Spread {S : SHeap} {u v : Value} {s : Snap} {p : List Int} (o : Int) (hu : rSnap.V S u s) (hv : (rSlice 8 rI64).V S v p) :
    FnL Tryz.prog 109 #[u, v, .int .i64 o] S 8 rI64 (spreadP s p o) := by
  haveI : TyR Tryz.prog 28 rVal := ⟨(inferInstance : TyR Tryz.prog 28 (rSlice 8 rI64)).b⟩
  obtain ⟨a, c, rfl, _⟩ := V_slice.1 hv
  (refine Fn.enterM (args := [u, .slice a p.length c, .int .i64 o]) Tryz.func109 rfl Tryz.ntmps109 rfl ?_; intro w0)
  repeat (refine s109_L7i ?_; intros)
  cases hc : (z0 (checkP s p) && (decide (0 ≤ o) && decide (o < s.owners.length))) with
  | false =>
    repeat (refine s109_L7i ?_; intros)
    refine JX.retM0 Tryz.results109 (ResV.tmp rfl) (List.nil_sublist _) ?_
    refine ⟨rfl, ?_⟩
    rw [spreadP, hc]
    exact V_nil
  | true =>
    have hol := owned_len s p o.toNat
    have hsp : spreadP s p o = spreadL s p o.toNat := by rw [spreadP, hc]; rfl
    rw [hsp]
    simp only [Bool.and_eq_true, decide_eq_true_eq] at hc
    obtain ⟨c1, c2, c3⟩ := hc
    obtain ⟨o, rfl⟩ := Int.eq_ofNat_of_zero_le c2
    rw [Int.toNat_natCast] at hol ⊢
    obtain ⟨h1, h2, h3, h4, h5, h6, h7⟩ := placed_hyps (s := s) (p := p) (by simpa [z0] using c1)
    obtain ⟨ow, how, _⟩ := drop_at (l := s.owners) (show o < s.owners.length by omega)
    have htp : topoOf s o = ow.topo := by rw [topoOf, how]
    repeat (refine s109_L7i ?_; intros)
    have hif : (if z0 (checkS s) = true then domL s ow.topo else []) = domL s ow.topo := by rw [h1]; rfl
    have hdl := domK_len s ow.topo s.nodes.length
    have hdf : domK s ow.topo s.nodes.length = domL s ow.topo := by unfold domK domL; rw [List.take_length]
    rw [hdf] at hdl
    generalize (if z0 (checkS s) = true then domL s ow.topo else []) = D at *
    subst hif
    refine JO.eff rfl rfl rfl (JEff.makeInts (n := (domL s ow.topo).length) rfl rfl (by unfold big; omega) rfl ?_); intro bo hbo
    repeat (refine s109_L7i ?_; intros)
    (refine JO.eff rfl rfl rfl (JEff.callR rfl ((p7_owned o (by exact vta) (by exact vta) (by omega) (by omega) h2 (by omega) h7)) rfl ?_); intro w S2 hl2 hV)
    obtain ⟨lb, rfl, hit⟩ := hV
    repeat (refine s109_L7i ?_; intros)
    have hz : (domL s ow.topo).map (spCnt s ow.topo ((ownedL s p o).take 0)) = List.replicate (domL s ow.topo).length 0 := by
      rw [List.take_zero, ← List.map_const']
      apply List.map_congr_left
      intro v _
      simp [spCnt]
    have hown : ∀ x ∈ ownedL s p o, 0 ≤ x ∧ x < s.nodes.length := by
      intro x hx
      unfold ownedL at hx
      obtain ⟨z, hz, rfl⟩ := List.mem_map.1 hx
      rw [List.mem_filter] at hz
      simp only [Bool.and_eq_true, decide_eq_true_eq] at hz
      have := h6 z.1 (List.of_mem_zip hz.1).1
      exact ⟨hz.2.1, this.2⟩
    refine JC.rangeFunc (rep := rI64) (xs := ownedL s p o) (fun k S' M' => M' = [.blk bo (.cells (ints ((domL s ow.topo).map (spCnt s ow.topo ((ownedL s p o).take k)))) 3 (0, 0))]) rfl rfl inferInstance rfl hit (by rw [hz]) ?_ ?_
    · rintro w1 B1 K L Rc k y v S' M' hR hp hl hy hv rfl
      obtain ⟨rfl, hyr⟩ := V_i64.1 hv
      obtain ⟨y0, y1⟩ := hown y (List.mem_of_getElem? hy)
      obtain ⟨n, hn, _⟩ := drop_at (l := s.nodes) (show y.toNat < s.nodes.length by omega)
      repeat (refine s109_L7i ?_; intros)
      refine JX.begin rfl hR ?_
      repeat (refine s109_L7i ?_; intros)
      have hkl := (List.getElem?_eq_some_iff.1 hy).1
      cases hv2 : (valB n ow.topo).2 with
      | true =>
        obtain ⟨j, hj, hjd⟩ := idxS_mem (dom_has ow.topo s.nodes [] (valB n ow.topo).1 (.inr ⟨n, List.mem_of_getElem? hn, hv2, rfl⟩))
        have hjd : (domL s ow.topo)[j]? = some (valB n ow.topo).1 := hjd
        have hj : idxS (domL s ow.topo) (valB n ow.topo).1 = (j : Int) := hj
        have hjl := (List.getElem?_eq_some_iff.1 hjd).1
        have hset : ((domL s ow.topo).map (spCnt s ow.topo ((ownedL s p o).take k))).set j (spCnt s ow.topo ((ownedL s p o).take k) (valB n ow.topo).1 + 1) = (domL s ow.topo).map (spCnt s ow.topo ((ownedL s p o).take (k + 1))) := by
          rw [← map_set1 (D := domL s ow.topo) _ (show pwS (domL s ow.topo) from dom_pw ow.topo s.nodes [] List.Pairwise.nil) hjd]
          apply List.map_congr_left
          intro d _
          rw [spCnt_step hy, inDom, hn]
          simp [hv2, eq_comm]
        have hcn : 0 ≤ spCnt s ow.topo ((ownedL s p o).take k) (valB n ow.topo).1 ∧ spCnt s ow.topo ((ownedL s p o).take k) (valB n ow.topo).1 ≤ 1000 := by
          unfold spCnt
          have e1 := List.length_filter_le (fun x => inDom s ow.topo (valB n ow.topo).1 x.toNat) ((ownedL s p o).take k)
          rw [List.length_take] at e1
          omega
        have hxj : ((domL s ow.topo).map (spCnt s ow.topo ((ownedL s p o).take k)))[j]? = some (spCnt s ow.topo ((ownedL s p o).take k) (valB n ow.topo).1) := by rw [List.getElem?_map, hjd]; rfl
        repeat (refine s109_L7i ?_; intros)
        rw [hj]
        repeat (refine s109_L7i ?_; intros)
        refine JO.pure rfl rfl rfl (JPure.indexRI rfl rfl rfl (by omega) (by omega) ?_)
        refine JO.pure rfl rfl rfl (JPure.loadMI (off := j) rfl (by (first | exact List.mem_cons_self | exact List.mem_cons_of_mem _ List.mem_cons_self | exact List.mem_cons_of_mem _ (List.mem_cons_of_mem _ List.mem_cons_self))) hxj (by unfold Rng; omega) (.inl rfl) rfl ?_)
        repeat (refine s109_L7i ?_; intros)
        refine JO.pure rfl rfl rfl (JPure.indexRI rfl rfl rfl (by omega) (by omega) ?_)
        refine JO.eff rfl rfl rfl (JEff.storeI (i := j) (Mr := [.blk L (.loop { Rc with state := .busy }), .blk K (.deferred (some []))]) rfl rfl (by unfold Rng; omega) (List.perm_append_comm (l₁ := [_]) (l₂ := [_, _])) (by rw [List.length_map]; exact hjl) (by intro l hl; cases hl) ?_)
        rw [hset]
        repeat (refine s109_L7i ?_; intros)
        refine JX.endRound hR hp (List.perm_append_comm (l₁ := [_, _]) (l₂ := [_])) ?_
        rfl
      | false =>
        have hset : (domL s ow.topo).map (spCnt s ow.topo ((ownedL s p o).take k)) = (domL s ow.topo).map (spCnt s ow.topo ((ownedL s p o).take (k + 1))) := by
          apply List.map_congr_left
          intro d _
          rw [spCnt_step hy, inDom, hn]
          simp [hv2]
        rw [hset]
        repeat (refine s109_L7i ?_; intros)
        refine JX.endRound hR hp (List.Perm.refl _) ?_
        rfl
    · rintro K S' M' hl rfl
      have hfin : (domL s ow.topo).map (spCnt s ow.topo ((ownedL s p o).take (ownedL s p o).length)) = spreadL s p o := by
        rw [List.take_length, spread_cnt hown, htp]
      rw [hfin]
      have hln : (spreadL s p o).length = (domL s ow.topo).length := by rw [← hfin, List.length_map]
      repeat (refine s109_L7i ?_; intros)
      have hrg : ∀ x ∈ spreadL s p o, Rng x := by
        intro x hx
        rw [← hfin, List.take_length] at hx
        obtain ⟨d, _, rfl⟩ := List.mem_map.1 hx
        have e1 := List.length_filter_le (fun x => inDom s ow.topo d x.toNat) (ownedL s p o)
        unfold spCnt Rng
        omega
      refine JX.perm (List.Perm.swap _ _ _) ?_
      refine JX.freezeInts hln.symm (Nat.le_refl _) (by unfold big; omega) hrg hbo (fun S3 hl3 hV3 => ?_)
      refine JX.retM1 Tryz.results109 (List.Perm.refl _) (ResV.tmp rfl) (List.nil_sublist _) ?_
      exact ⟨rfl, hV3⟩
end Go.Dr
namespace Go.Dr
open Go.Proofs
set_option maxRecDepth 20000
set_option maxHeartbeats 2000000
set_option linter.unusedSimpArgs false
set_option linter.unusedVariables false
instance : Fld1 Tryz.prog 156 0 0 := ⟨by kernel_rfl⟩
def kindV (f : FuncId) : Value := .agg #[.func (.func f) #[] #[]]
def kindsL : List (Int × Value) := [(2, kindV 161), (3, kindV 165), (4, kindV 169), (5, kindV 171), (6, kindV 172)]
theorem p8_kinds {S : SHeap} : FnR Tryz.prog 107 #[] S (fun w S' => ∃ b, w = .map (some b) ∧ S' b = some (mapK (Value.int .i64) kindsL)) := by
  (refine Fn.enter (args := []) Tryz.func107 rfl Tryz.ntmps107 rfl ?_; intro w0)
  repeat (first | (refine Walk ?_; intros) | refine JC.block ?_)
  refine JO.eff rfl rfl rfl (JEff.makeMapK (Value.int .i64) rfl ?_); intro b hb
  repeat (first | (refine Walk ?_; intros) | refine JC.block ?_)
  refine JO.eff rfl rfl rfl (JEff.insNew (kv := Value.int .i64) rfl rfl rfl (List.Perm.refl _) (by intro l hl; cases hl) rfl ?_)
  repeat (first | (refine Walk ?_; intros) | refine JC.block ?_)
  refine JO.eff rfl rfl rfl (JEff.insNew (kv := Value.int .i64) rfl rfl rfl (List.Perm.refl _) (by intro l hl; cases hl) rfl ?_)
  repeat (first | (refine Walk ?_; intros) | refine JC.block ?_)
  refine JO.eff rfl rfl rfl (JEff.insNew (kv := Value.int .i64) rfl rfl rfl (List.Perm.refl _) (by intro l hl; cases hl) rfl ?_)
  repeat (first | (refine Walk ?_; intros) | refine JC.block ?_)
  refine JO.eff rfl rfl rfl (JEff.insNew (kv := Value.int .i64) rfl rfl rfl (List.Perm.refl _) (by intro l hl; cases hl) rfl ?_)
  repeat (first | (refine Walk ?_; intros) | refine JC.block ?_)
  refine JO.eff rfl rfl rfl (JEff.insNew (kv := Value.int .i64) rfl rfl rfl (List.Perm.refl _) (by intro l hl; cases hl) rfl ?_)
  repeat (first | (refine Walk ?_; intros) | refine JC.block ?_)
  refine JX.freeze hb (fun S' hl hS => ?_)
  (refine JX.ret1 Tryz.results107 (ResV.tmp rfl) (List.nil_sublist _) ?_)
  exact ⟨rfl, b, rfl, hS⟩
theorem kinds_all {j : Nat} {q : Int × Value} (h : kindsL[j]? = some q) : ∃ f, q.2 = kindV f ∧ Ent Tryz.prog f ∧ KindAns f q.1 := by
  match j with
  | 0 => cases h; exact ⟨_, rfl, inferInstance, p8_kinds1⟩
  | 1 => cases h; exact ⟨_, rfl, inferInstance, p8_kinds2⟩
  | 2 => cases h; exact ⟨_, rfl, inferInstance, p8_kinds3⟩
  | 3 => cases h; exact ⟨_, rfl, inferInstance, p8_kinds4⟩
  | 4 => cases h; exact ⟨_, rfl, inferInstance, p8_kinds5⟩
  | j + 5 => simp [kindsL] at h
theorem kinds_there {kind : Int} (h1 : 2 ≤ kind) (h2 : kind ≤ 6) : ∃ q ∈ kindsL, q.1 = kind := by
  have : kind = 2 ∨ kind = 3 ∨ kind = 4 ∨ kind = 5 ∨ kind = 6 := by omega
  rcases this with rfl | rfl | rfl | rfl | rfl <;> simp [kindsL]
theorem kinds_distinct : DistinctK kindsL := by
  intro i j p q hi hj h
  have hi5 := (List.getElem?_eq_some_iff.1 hi).1
  have hj5 := (List.getElem?_eq_some_iff.1 hj).1
  simp only [kindsL, List.length_cons, List.length_nil] at hi5 hj5
  match i, j, hi, hj with
  | 0, 0, _, _ => rfl
  | 1, 1, _, _ => rfl
  | 2, 2, _, _ => rfl
  | 3, 3, _, _ => rfl
  | 4, 4, _, _ => rfl
  | 0, 1, hi, hj | 0, 2, hi, hj | 0, 3, hi, hj | 0, 4, hi, hj | 1, 0, hi, hj | 1, 2, hi, hj | 1, 3, hi, hj | 1, 4, hi, hj | 2, 0, hi, hj | 2, 1, hi, hj | 2, 3, hi, hj | 2, 4, hi, hj | 3, 0, hi, hj | 3, 1, hi, hj | 3, 2, hi, hj | 3, 4, hi, hj | 4, 0, hi, hj | 4, 1, hi, hj | 4, 2, hi, hj | 4, 3, hi, hj => cases hi; cases hj; simp at h
  | i + 5, _, hi, _ => omega
  | _, j + 5, _, hj => omega
theorem p8_numN {S : SHeap} (n : Int) : FnV Tryz.prog 299 #[.int .i64 n] S (.int .i64 n) := by
  (refine Fn.enter (args := [.int .i64 n]) Tryz.func299 rfl Tryz.ntmps299 rfl ?_; intro w0)
  repeat (first | (refine Walk ?_; intros) | refine JC.block ?_)
  (refine JX.ret1 Tryz.results299 (ResV.tmp rfl) (List.nil_sublist _) ?_)
  exact ⟨rfl, rfl⟩
theorem p8_numP {S : SHeap} (n : Int) : FnV Tryz.prog 300 #[.int .i64 n] S (.int .i64 n) := by
  (refine Fn.enter (args := [.int .i64 n]) Tryz.func300 rfl Tryz.ntmps300 rfl ?_; intro w0)
  repeat (first | (refine Walk ?_; intros) | refine JC.block ?_)
  (refine JX.ret1 Tryz.results300 (ResV.tmp rfl) (List.nil_sublist _) ?_)
  exact ⟨rfl, rfl⟩
theorem p8_numO {S : SHeap} (n : Int) : FnV Tryz.prog 301 #[.int .i64 n] S (.int .i64 n) := by
  (refine Fn.enter (args := [.int .i64 n]) Tryz.func301 rfl Tryz.ntmps301 rfl ?_; intro w0)
  repeat (first | (refine Walk ?_; intros) | refine JC.block ?_)
  (refine JX.ret1 Tryz.results301 (ResV.tmp rfl) (List.nil_sublist _) ?_)
  exact ⟨rfl, rfl⟩
theorem m8_N (v : Value) (w : World) : (callMethod (.iface 121 v) "drayage/clause.number" #[]).run Tryz.prog w = .ok (.enter 299 #[v]) w := by kernel_rfl
theorem m8_P (v : Value) (w : World) : (callMethod (.iface 122 v) "drayage/clause.number" #[]).run Tryz.prog w = .ok (.enter 300 #[v]) w := by kernel_rfl
theorem m8_O (v : Value) (w : World) : (callMethod (.iface 123 v) "drayage/clause.number" #[]).run Tryz.prog w = .ok (.enter 301 #[v]) w := by kernel_rfl
end Go.Dr
namespace Go.Dr
section
variable {C : Cx} {R : Rg} {Q : Post} {S S' : SHeap} {M M' : List MEnt} {e : Env} {rest : List Nat} {L : List Nat}
variable {d : Nat} {ty : TypeId} {pos : String} {aft : Array Edge} {g : Option (Nat × Bool)}
theorem JO.perm (hM : M'.Perm M) (k : JO C R L Q S M' e) : JO C R L Q S M e := ⟨fun a w hw => k.run a w ⟨hw.env, hw.defers, hw.wd.perm hM⟩⟩
theorem JPure.loadCl {i : Nat} {T t : TypeId} {x : Operand} {b : Nat} {xs : List Int} {fr : Nat × Nat} {c : Clause} (hx : ev e x = some (.pointer (some ⟨b, 0, none⟩))) (hM : MEnt.blk b (.cells (ints xs) t fr) ∈ M)
    (hc : xs = [c.kind, c.a, c.b, c.by_]) (hr : Rng c.kind ∧ Rng c.a ∧ Rng c.b ∧ Rng c.by_) [ht : TyR C.P T rClause] (hst : R.isAnch i = true ∨ ∃ l, R.T = some l ∧ b ∉ l) (hdN : Nat.blt d C.N = true)
    (k : rClause.V S (clV c) c → JO C R rest Q S M ((d, clV c) :: e)) : JPure C R (R.isAnch i) ⟨some d, .load T x, ty, pos, aft, g⟩ rest Q S M e := by
  subst hc
  exact JPure.loadM (rep := rClause) (x0 := c) (mid := [.int .i64 c.kind, .int .i64 c.a, .int .i64 c.b, .int .i64 c.by_]) hx hM rfl (R_clause.2 ⟨rfl, hr⟩) hst hdN (k (V_clV hr))
end
/-! ### A result that is a variable -/
theorem JX.retCell {α : Type} {P : Program} {r : Option Nat} {N : Nat} {fn : Func} {w0 : World} {B0 : List Nat} {S S0 : SHeap} {M M' : List MEnt} {e : Env} {PP : Value → SHeap → List MEnt → Prop} {p : Nat} {T : TypeId} {q : Addr} {rep : Rp α} {x : α}
    (hr : fn.results = #[.cell p T]) (h : Env.get? e p = some (.pointer (some q))) (hq : PtrTo S q rep x) [ht : TyR P T rep] (hM : M'.Sublist M) (hp : ∀ w, rep.V S w x → PP w S M') :
    JX ⟨P, r, N, [], w0, B0, S0⟩ .ret (bodyPost P fn (EndPost w0 B0 S0 PP)) S M e := by
  obtain ⟨w, hw, hrv⟩ := ResV.cell (C := ⟨P, r, N, [], w0, B0, S0⟩) (M := M) (T := T) h hq
  exact JX.ret1 hr hrv hM (hp w hw)
/-! ### Structs, written out -/
theorem map_R {α γ : Type} {f : γ → α} {a : Rp α} {S : SHeap} {cs : List Value} {x : γ} (h : a.R S cs (f x)) : (rMap f a).R S cs x := h
theorem seq1 {α β : Type} {a : Rp α} {b : Rp β} {S : SHeap} {c : Value} {cs : List Value} {x : α × β} (h1 : a.R S [c] x.1) (h2 : b.R S cs x.2) : (rSeq a b).R S (c :: cs) x := ⟨[c], cs, rfl, h1, h2⟩
theorem seq2 {α β : Type} {a : Rp α} {b : Rp β} {S : SHeap} {c d : Value} {cs : List Value} {x : α × β} (h1 : a.R S [c, d] x.1) (h2 : b.R S cs x.2) : (rSeq a b).R S (c :: d :: cs) x := ⟨[c, d], cs, rfl, h1, h2⟩
theorem seq5 {α β : Type} {a : Rp α} {b : Rp β} {S : SHeap} {c1 c2 c3 c4 c5 : Value} {cs : List Value} {x : α × β} (h1 : a.R S [c1, c2, c3, c4, c5] x.1) (h2 : b.R S cs x.2) : (rSeq a b).R S (c1 :: c2 :: c3 :: c4 :: c5 :: cs) x := ⟨[c1, c2, c3, c4, c5], cs, rfl, h1, h2⟩
theorem R_str {S : SHeap} {s : ByteArray} (h : s.size ≤ big) : rStr.R S [.string s] s := ⟨rfl, h⟩
theorem R_bool {S : SHeap} {b : Bool} : rBool.R S [.bool b] b := rfl
theorem R_arr {S : SHeap} {n : Nat} {xs : List Int} (h : xs.length = n) (hr : ∀ x ∈ xs, Rng x) : (rArr n).R S (xs.map (fun x => Value.int .i64 x)) xs := ⟨h, rfl, hr⟩
theorem Rp.V.one {α : Type} {rep : Rp α} {S : SHeap} {v : Value} {x : α} (ha : rep.agg = false) (h : rep.V S v x) : rep.R S [v] x := by
  obtain ⟨cs, h1, h2⟩ := h
  rw [if_neg (by rw [ha]; simp)] at h2
  rw [h2] at h1; exact h1
theorem V_snap {S : SHeap} {u v w : Value} {x : Snap} (h1 : (rSlice 112 rNode).V S u x.nodes) (h2 : (rSlice 240 rPod).V S v x.pods) (h3 : (rSlice 56 rOwner).V S w x.owners) : rSnap.V S (.agg (flatCells [u, v, w]).toArray) x := by
  obtain ⟨a1, c1, rfl, _⟩ := V_slice.1 h1
  obtain ⟨a2, c2, rfl, _⟩ := V_slice.1 h2
  obtain ⟨a3, c3, rfl, _⟩ := V_slice.1 h3
  exact ⟨[_, _, _], map_R (seq1 (h1.one rfl) (seq1 (h2.one rfl) (h3.one rfl))), rfl⟩
end Go.Dr
namespace Go.Dr
open Go.Proofs
set_option maxRecDepth 20000
set_option maxHeartbeats 2000000
set_option linter.unusedSimpArgs false
set_option linter.unusedVariables false
def usedAll (s : Snap) (p : List Int) : List (List Int) := (List.range s.nodes.length).map (fun (n : Nat) => usedV s p n)
def capW (s : Snap) (p : List Int) (n : Nat) : Nat → List Int
  | 0 => [1, n, 0, 0]
  | k + 1 => [1, n, k, (capN s p n k).by_]
theorem capW_len (s : Snap) (p : List Int) (n k : Nat) : (capW s p n k).length = 4 := by cases k <;> rfl
theorem capW_set (s : Snap) (p : List Int) (n k : Nat) : ((capW s p n k).set 2 (k : Int)).set 3 (capN s p n k).by_ = capW s p n (k + 1) := by cases k <;> rfl
def capsK (s : Snap) (p : List Int) (n k : Nat) : List Clause := (List.range k).map (capN s p n)
theorem capsK_step (s : Snap) (p : List Int) (n k : Nat) : capsK s p n (k + 1) = capsK s p n k ++ [capN s p n k] := by
  unfold capsK; rw [List.range_succ]; simp
theorem capsK_len (s : Snap) (p : List Int) (n k : Nat) : (capsK s p n k).length = k := by simp [capsK]
theorem s72_L8f {P K : Prop} (k : K) (h : Goal K → P := by
  intro zk
  (first | refine Walk ?_ | refine JC.block ?_ | refine JC.drawN 8 rfl [0, 1, 2, 3, 4, 5, 6, 7, 8, 9, 10, 11, 12, 13, 14, 15, 16, 17, 18] [0, 15, 17] Tryz_mixed (by decide +kernel) ?_ | refine JC.drawN 24 rfl [0, 1, 2, 3, 4, 5, 6, 7, 8, 9, 10, 11, 12, 13, 14, 15] [2, 3, 4, 5, 6, 7, 8, 9, 10, 12, 13, 14] Tryz_mixed (by decide +kernel) ?_ | refine JC.drawN 27 rfl [0, 1, 2, 3, 4, 5, 6, 7, 8, 9, 10] [0, 1, 2, 3, 4, 5, 6, 7, 8, 10] Tryz_mixed (by decide +kernel) ?_ | refine JC.drawN 29 rfl [0, 2, 5, 6, 1, 3, 4, 7, 8, 9, 10] [0, 4, 7, 8, 9] Tryz_mixed (by decide +kernel) ?_ | (refine JO.eff rfl rfl rfl (JEff.callL rfl (p7_Spread _ (by exact vta) (by exact vta)) rfl ?_); intro zqa zqb zqc zqd zqe zqf) | (refine JO.eff rfl rfl rfl (JEff.callV rfl (p_Max (by exact vta) (by first | assumption | simp)) rfl ?_); intro zqa zqb) | (refine JO.eff rfl rfl rfl (JEff.callV rfl (p_Min (by exact vta) (by first | assumption | simp)) rfl ?_); intro zqa zqb))
  (repeat (first | revert zqg | revert zqf | revert zqe | revert zqd | revert zqc | revert zqb | revert zqa))
  exact zk.k) : P := h ⟨k⟩
theorem p8_ofNode {S : SHeap} {kp : Addr} {s : Snap} {p : List Int} {mb : Nat} {l : List (ByteArray × Value)} {n : Nat} (hok : checkP s p = 0) (hn : n < s.nodes.length)
    (hL : PtrTo S kp rLook ⟨s, p, usedAll s p, .map (some mb)⟩) (hco : Cache s S l) :
    FnC Tryz.prog 72 #[.pointer (some kp), .iface 121 (.int .i64 n), .int .i64 1] S Value.string mb (Cache s) l (fun w S' => (rSlice 32 rClause).V S' w (capsK s p n 5)) := by
  obtain ⟨hs, hlen, hp24, hn8, ho8, hpr, hprn⟩ := placed_hyps hok
  have hnr : Rng (n : Int) := by unfold Rng; omega
  obtain ⟨x, hx, _⟩ := drop_at hn
  have hxm := List.mem_of_getElem? hx
  have hcl := snap_caps (PtrTo.part hL (Part.map Part.first))
  have hxl := (hcl x hxm).1
  have hxr := shaped_cap (checkS_ok hs).1 x hxm
  obtain ⟨hul, hur⟩ := used_fine hs hlen n
  have hus : (usedAll s p)[n]? = some (usedV s p n) := by simp [usedAll, hn]
  have hcap : capOf s n = x.cap := by simp [capOf, hx]
  have hV0 : ∀ S, rClause.V S (.agg (flatCells [.int .i64 1, .int .i64 n, .int .i64 0, .int .i64 0]).toArray) ⟨1, n, 0, 0⟩ := fun S => V_clause.2 ⟨by simp [flatCells, Value.cells], by unfold Rng; dsimp only; omega, hnr, by unfold Rng; dsimp only; omega, by unfold Rng; dsimp only; omega⟩
  (refine Fn.enter (args := [.pointer (some kp), .iface 121 (.int .i64 n), .int .i64 1]) Tryz.func72 rfl Tryz.ntmps72 rfl ?_; intro w0)
  repeat (refine s72_L8f ?_; intros)
  refine JO.eff rfl rfl rfl (JEff.method rfl rfl (m8_N _) (p8_numN _) rfl ?_); intro S1 hl1
  repeat (refine s72_L8f ?_; intros)
  (refine JO.eff rfl rfl rfl (JEff.alloc rfl ?_); intro cb hcb)
  repeat (refine s72_L8f ?_; intros)
  refine JO.eff rfl rfl rfl (JEff.storeW rfl rfl (hV0 _) nna (List.Perm.refl _) rfl (by intro l hl; cases hl) ?_)
  repeat (refine s72_L8f ?_; intros)
  refine JO.pure rfl rfl rfl (JPure.assertT rfl rfl ?_)
  repeat (refine s72_L8f ?_; intros)
  obtain ⟨hv31, _, _⟩ := V_arr.1 (by assumption : (rArr 5).V _ _ (usedV s p n))
  subst hv31
  (first | refine JC.newRow 35 (Rp.sz rClause) ?_ | refine JO.newRow 35 (Rp.sz rClause) ?_ | refine JX.newRow 35 (Rp.sz rClause) ?_)
  refine JC.loopF (σ := Nat × Option Addr × Nat × List Value) [(0, _), (7, _), (8, _), (31, _)] (fun q => [(6, .slice q.2.1 ((fun k => capsK s p n k) q.1).length q.2.2.1), (32, ((fun k => .int .i64 k) q.1))]) (fun q => [.row w0.heap.size 35 (Rp.sz rClause) (.slice q.2.1 ((fun k => capsK s p n k) q.1).length q.2.2.1) ((fun k => capsK s p n k) q.1).length (flatCells q.2.2.2), ((fun k => .blk cb (.cells (ints (capW s p n k)) 35 (0, 0))) q.1), ((fun k => .blk mb (mapK Value.string l)) q.1)]) (fun Sk q => q.1 ≤ 5 ∧ allV rClause Sk q.2.2.2 ((fun k => capsK s p n k) q.1) ∧ ((fun k => True) q.1)) (fun q => 5 - q.1) (0, none, 0, []) (by exact sba) (by exact sba) (by first | rfl | simp) (⟨Nat.zero_le _, trivial, trivial⟩) ?_; rintro Sk ⟨k, rak, rck, vsk⟩ hlk ⟨hk, hvk, hik⟩; (try dsimp only at hk hvk hik); dsimp only [List.cons_append, List.nil_append]
  repeat (refine s72_L8f ?_; intros)
  refine JC.cond rfl (fun hc2 => ?_) (fun hc2 => ?_)
  · have hk' := dlt5 hc2
    obtain ⟨z, hz⟩ : ∃ z, (usedV s p n)[k]? = some z := ⟨_, List.getElem?_eq_getElem (by omega)⟩
    obtain ⟨y, hy⟩ : ∃ y, x.cap[k]? = some y := ⟨_, List.getElem?_eq_getElem (by omega)⟩
    have hzr := hur z (List.mem_of_getElem? hz)
    have hyr := hxr y (List.mem_of_getElem? hy)
    have hz0 := at0_some hz
    have hy0 := at0_some hy
    have hst := capsK_step s p n k
    have hcl := capsK_len s p n k
    unfold Qty at hzr hyr
    have hby : (capN s p n k).by_ = max 0 (z - y) := by simp [capN, hcap, hz0, hy0]
    repeat (refine s72_L8f ?_; intros)
    refine JO.pure rfl rfl rfl (JPure.indexV rfl rfl rfl (by omega) hul hz ?_)
    repeat (refine s72_L8f ?_; intros)
    refine JO.pure rfl rfl rfl (JPure.fieldP rfl rfl ?_)
    refine JO.eff rfl rfl rfl (JEff.storeI (i := 2) (xs := capW s p n k) rfl rfl (by unfold Rng; omega) (List.perm_middle (l₁ := [_])).symm (by rw [capW_len]; omega) (by intro l hl; cases hl) ?_)
    refine JO.pure rfl rfl rfl (JPure.fieldP rfl rfl ?_)
    refine JO.eff rfl rfl rfl (JEff.storeI (i := 3) (xs := (capW s p n k).set 2 (k : Int)) rfl rfl (by unfold Rng; omega) (List.Perm.refl _) (by rw [List.length_set, capW_len]; omega) (by intro l hl; cases hl) ?_)
    rw [← hby, capW_set]
    repeat (refine s72_L8f ?_; intros)
    refine JO.pure rfl rfl rfl (JPure.loadCl (c := capN s p n k) rfl (by (first | exact List.mem_cons_self | exact List.mem_cons_of_mem _ List.mem_cons_self | exact List.mem_cons_of_mem _ (List.mem_cons_of_mem _ List.mem_cons_self))) rfl ⟨by unfold Rng capN; dsimp only; omega, hnr, by unfold Rng capN; dsimp only; omega, by rw [hby]; unfold Rng; omega⟩ (.inl rfl) rfl ?_); intro hV
    refine JO.perm (M' := [_, _, _]) (List.Perm.swap _ _ _) ?_
    repeat (refine s72_L8f ?_; intros)
    (refine JO.eff rfl rfl rfl (JEff.build (rep := rClause) (ys := [capN s p n k]) rfl rfl ⟨⟨(hV), nna⟩, trivial⟩ rfl rfl rfl rfl ?_); intro bb hbb hvv); (repeat (first | (refine Walk ?_; intros) | refine JC.block ?_)); (refine JO.eff rfl rfl rfl (JEff.appendL (rep := rClause) rfl rfl rfl rfl (List.Perm.swap _ _ _) (by exact hvv.flat) (by intro c hc; exact flat_one (fun v hv => (hvv.size v hv).2) c hc) (by first | omega | (unfold big; omega)) (by unfold big; omega) (by first | exact rowT_ok | (intro l hl; cases hl)) rfl ?_); intro a2 c2; clear hvv hbb)
    repeat (refine s72_L8f ?_; intros)
    exact JX.roundF (k + 1, a2, c2, vsk ++ [(clV (capN s p n k))]) (by exact lea) ⟨by omega, by (try dsimp only); rw [hst]; exact allV_add (by exact lea) hvk (hV.mono (by exact lea)) nna, (trivial)⟩ (by (try dsimp only); omega) (by (try dsimp only); rw [hst]; (simp [flat_append] <;> omega)) (by (try dsimp only); rw [hst]; simp only [List.length_append, List.length_cons, List.length_nil]; exact sba) (by exact sba)
  · have hk' := dnlt5 hc2
    obtain rfl : k = 5 := by omega
    have hcl := capsK_len s p n 5
    refine JC.freezeRow (rep := rClause) (bt := 32) hvk rfl (by unfold big; omega) (by unfold big; omega) (fun S9 hl9 hV9 => ?_)
    repeat (refine s72_L8f ?_; intros)
    refine JX.ret1 Tryz.results72 (ResV.tmp rfl) (List.sublist_cons_self _ _) ?_
    exact ⟨hV9, _, rfl, hco.mono (by exact lea)⟩
end Go.Dr
namespace Go.Dr
open Go.Proofs
set_option maxRecDepth 20000
set_option maxHeartbeats 2000000
set_option linter.unusedSimpArgs false
set_option linter.unusedVariables false
theorem s72_L8g {P K : Prop} (k : K) (h : Goal K → P := by
  intro zk
  (first | refine Walk ?_ | refine JC.block ?_ | refine JC.drawN 8 rfl [0, 1, 2, 3, 4, 5, 6, 7, 8, 9, 10, 11, 12, 13, 14, 15, 16, 17, 18] [0, 15, 17] Tryz_mixed (by decide +kernel) ?_ | refine JC.drawN 24 rfl [0, 1, 2, 3, 4, 5, 6, 7, 8, 9, 10, 11, 12, 13, 14, 15] [2, 3, 4, 5, 6, 7, 8, 9, 10, 12, 13, 14] Tryz_mixed (by decide +kernel) ?_ | refine JC.drawN 27 rfl [0, 1, 2, 3, 4, 5, 6, 7, 8, 9, 10] [0, 1, 2, 3, 4, 5, 6, 7, 8, 10] Tryz_mixed (by decide +kernel) ?_ | refine JC.drawN 29 rfl [0, 2, 5, 6, 1, 3, 4, 7, 8, 9, 10] [0, 4, 7, 8, 9] Tryz_mixed (by decide +kernel) ?_ | (refine JO.eff rfl rfl rfl (JEff.callL rfl (p7_Spread _ (by exact vta) (by exact vta)) rfl ?_); intro zqa zqb zqc zqd zqe zqf) | (refine JO.eff rfl rfl rfl (JEff.callV rfl (p_Max (by exact vta) (by first | assumption | simp)) rfl ?_); intro zqa zqb) | (refine JO.eff rfl rfl rfl (JEff.callV rfl (p_Min (by exact vta) (by first | assumption | simp)) rfl ?_); intro zqa zqb))
  (repeat (first | revert zqg | revert zqf | revert zqe | revert zqd | revert zqc | revert zqb | revert zqa))
  exact zk.k) : P := h ⟨k⟩
theorem p8_ofPod {S : SHeap} {kp : Addr} {s : Snap} {p : List Int} {us : List (List Int)} {mb : Nat} {l : List (ByteArray × Value)} {i : Nat} {kind : Int} (hok : checkP s p = 0) (hi : i < p.length) (hk1 : 2 ≤ kind) (hk2 : kind ≤ 6)
    (hL : PtrTo S kp rLook ⟨s, p, us, .map (some mb)⟩) (hco : Cache s S l) :
    FnC Tryz.prog 72 #[.pointer (some kp), .iface 122 (.int .i64 i), .int .i64 kind] S Value.string mb (Cache s) l (fun w S' => (rSlice 32 rClause).V S' w (podC1 s p kind i)) := by
  obtain ⟨hs, hlen, hp24, hn8, ho8, hpr, hprn⟩ := placed_hyps hok
  have hir : Rng (i : Int) := by unfold Rng; omega
  have hkr : Rng kind := by unfold Rng; omega
  obtain ⟨m, hm, _⟩ := drop_at hi
  obtain ⟨x, hx⟩ : ∃ x, s.pods[i]? = some x := ⟨_, List.getElem?_eq_getElem (by omega)⟩
  have hmr := hpr m (List.mem_of_getElem? hm)
  obtain ⟨hwl, htl⟩ := shaped_lists (checkS_ok hs).1
  have hof := of8_rng (s := s) (p := p) (by omega) hwl htl kind i
  have hV0 : ∀ S, rClause.V S (.agg (flatCells [.int .i64 kind, .int .i64 i, .int .i64 0, .int .i64 0]).toArray) ⟨kind, i, 0, 0⟩ := fun S => V_clause.2 ⟨by simp [flatCells, Value.cells], hkr, hir, by unfold Rng; dsimp only; omega, by unfold Rng; dsimp only; omega⟩
  (refine Fn.enter (args := [.pointer (some kp), .iface 122 (.int .i64 i), .int .i64 kind]) Tryz.func72 rfl Tryz.ntmps72 rfl ?_; intro w0)
  repeat (refine s72_L8g ?_; intros)
  refine JO.eff rfl rfl rfl (JEff.method rfl rfl (m8_P _) (p8_numP _) rfl ?_); intro S1 hl1
  repeat (refine s72_L8g ?_; intros)
  (refine JO.eff rfl rfl rfl (JEff.alloc rfl ?_); intro cb hcb)
  repeat (refine s72_L8g ?_; intros)
  refine JO.eff rfl rfl rfl (JEff.storeW rfl rfl (hV0 _) nna (List.Perm.refl _) rfl (by intro l hl; cases hl) ?_)
  repeat (refine s72_L8g ?_; intros)
  refine JO.pure rfl rfl rfl (JPure.assertF rfl rfl rfl ?_)
  repeat (refine s72_L8g ?_; intros)
  refine JO.pure rfl rfl rfl (JPure.assertT rfl rfl ?_)
  repeat (refine s72_L8g ?_; intros)
  refine JC.cond rfl (fun hneg => ?_) (fun hneg => ?_)
  · have hneg : m < 0 := by simpa using hneg
    have hp1 : podC1 s p kind i = [] := by unfold podC1 of8; rw [hm, hx]; simp [hneg]
    repeat (refine s72_L8g ?_; intros)
    refine JX.ret1 Tryz.results72 (ResV.tmp rfl) (List.sublist_cons_self _ _) ?_
    exact ⟨by rw [hp1]; exact V_nil, _, rfl, hco.mono (by exact lea)⟩
  · have hneg : ¬ m < 0 := by simpa using hneg
    obtain ⟨m, rfl⟩ := Int.eq_ofNat_of_zero_le (show 0 ≤ m by omega)
    obtain ⟨nd, hnd, _⟩ := drop_at (l := s.nodes) (show m < s.nodes.length by omega)
    have hat : PodAt s p i m x nd := ⟨hok, hm, hx, hnd⟩
    repeat (refine s72_L8g ?_; intros)
    (refine JO.eff rfl rfl rfl (JEff.callR rfl (p8_kinds) rfl ?_); intro w S2 hl2 hw)
    obtain ⟨b, rfl, hSb⟩ := hw
    repeat (refine s72_L8g ?_; intros)
    refine JO.pure rfl rfl rfl (JPure.lookS (kv := Value.int .i64) (s := kind) rfl rfl hSb kinds_distinct rfl (fun hno => ?_) (fun j q hj hq => ?_))
    · obtain ⟨q, hq, hqk⟩ := kinds_there hk1 hk2
      exact absurd hqk (hno q hq)
    obtain ⟨g, hg, hE, hans⟩ := kinds_all hj
    rw [hq] at hans
    rw [hg]
    refine JO.pure rfl rfl rfl (JPure.fieldV rfl rfl rfl ?_)
    repeat (refine s72_L8g ?_; intros)
    refine JO.eff rfl rfl rfl (JEff.dynC (kv := Value.string) rfl hE rfl (List.Perm.swap _ _ _) (by intro l hl; cases hl) (hans hat (by exact pta) (hco.mono (by exact lea))) rfl ?_); intro w S3 l3 hl3 hw hco3; subst hw
    repeat (refine s72_L8g ?_; intros)
    cases his : (of8 s p kind i).2 with
    | false =>
      have hp1 : podC1 s p kind i = [] := by unfold podC1; rw [his]; rfl
      repeat (refine s72_L8g ?_; intros)
      refine JX.ret1 Tryz.results72 (ResV.tmp rfl) (M' := [_]) (List.Sublist.cons_cons _ (List.nil_sublist _)) ?_
      exact ⟨by rw [hp1]; exact V_nil, _, rfl, hco3.mono (by exact lea)⟩
    | true =>
      have hp1 : podC1 s p kind i = [⟨kind, i, 0, (of8 s p kind i).1⟩] := by unfold podC1; rw [his]; rfl
      repeat (refine s72_L8g ?_; intros)
      refine JO.pure rfl rfl rfl (JPure.fieldP rfl rfl ?_)
      refine JO.eff rfl rfl rfl (JEff.storeI (i := 3) (xs := [kind, i, 0, 0]) rfl rfl (by unfold Rng; omega) (List.Perm.swap _ _ _) (by simp) (by intro l hl; cases hl) ?_)
      repeat (refine s72_L8g ?_; intros)
      refine JO.pure rfl rfl rfl (JPure.loadCl (c := ⟨kind, i, 0, (of8 s p kind i).1⟩) rfl (by (first | exact List.mem_cons_self | exact List.mem_cons_of_mem _ List.mem_cons_self | exact List.mem_cons_of_mem _ (List.mem_cons_of_mem _ List.mem_cons_self))) rfl ⟨hkr, hir, by unfold Rng; dsimp only; omega, by unfold Rng; dsimp only; omega⟩ (.inl rfl) rfl ?_); intro hV
      (refine JO.eff rfl rfl rfl (JEff.buildS (bt := 32) (rep := rClause) (ys := [(⟨kind, i, 0, (of8 s p kind i).1⟩ : Clause)]) rfl rfl (⟨⟨hV, nna⟩, trivial⟩) rfl rfl rfl (by decide) rfl ?_); intro S4 a4 hl4 hV4)
      repeat (refine s72_L8g ?_; intros)
      refine JX.ret1 Tryz.results72 (ResV.tmp rfl) (M' := [_]) (List.sublist_cons_self _ _) ?_
      exact ⟨by rw [hp1]; exact hV4, _, rfl, hco3.mono (by exact lea)⟩
end Go.Dr
namespace Go.Dr
open Go.Proofs
set_option maxRecDepth 20000
set_option maxHeartbeats 2000000
set_option linter.unusedSimpArgs false
set_option linter.unusedVariables false
def ownC1 (s : Snap) (p : List Int) (kind : Int) (o : Nat) : List Clause := if kind = 8 then [minC1 s p o] else spreadC1 s p o
theorem maxmin_rng {L : List Int} (hne : L ≠ []) (hr : ∀ x ∈ L, 0 ≤ x ∧ x ≤ 1000000) : (0 ≤ maxL L ∧ maxL L ≤ 1000000) ∧ (0 ≤ minL L ∧ minL L ≤ 1000000) := by
  cases L with
  | nil => exact absurd rfl hne
  | cons x L =>
    have r1 := fold_rng min_or (lo := 0) (hi := 1000000) (l := L) (z := x) (hr x (by simp)).1 (hr x (by simp)).2 (fun y hy => hr y (by simp [hy]))
    have r2 := fold_rng max_or (lo := 0) (hi := 1000000) (l := L) (z := x) (hr x (by simp)).1 (hr x (by simp)).2 (fun y hy => hr y (by simp [hy]))
    exact ⟨r2, r1⟩
theorem s72_L8h {P K : Prop} (k : K) (h : Goal K → P := by
  intro zk
  (first | refine Walk ?_ | refine JC.block ?_ | refine JC.drawN 8 rfl [0, 1, 2, 3, 4, 5, 6, 7, 8, 9, 10, 11, 12, 13, 14, 15, 16, 17, 18] [0, 15, 17] Tryz_mixed (by decide +kernel) ?_ | refine JC.drawN 24 rfl [0, 1, 2, 3, 4, 5, 6, 7, 8, 9, 10, 11, 12, 13, 14, 15] [2, 3, 4, 5, 6, 7, 8, 9, 10, 12, 13, 14] Tryz_mixed (by decide +kernel) ?_ | refine JC.drawN 27 rfl [0, 1, 2, 3, 4, 5, 6, 7, 8, 9, 10] [0, 1, 2, 3, 4, 5, 6, 7, 8, 10] Tryz_mixed (by decide +kernel) ?_ | refine JC.drawN 29 rfl [0, 2, 5, 6, 1, 3, 4, 7, 8, 9, 10] [0, 4, 7, 8, 9] Tryz_mixed (by decide +kernel) ?_ | (refine JO.eff rfl rfl rfl (JEff.callL rfl (p7_Spread _ (by exact vta) (by exact vta)) rfl ?_); intro zqa zqb zqc zqd zqe zqf) | (refine JO.eff rfl rfl rfl (JEff.callV rfl (p_Max (by exact vta) (by first | assumption | simp)) rfl ?_); intro zqa zqb) | (refine JO.eff rfl rfl rfl (JEff.callV rfl (p_Min (by exact vta) (by first | assumption | simp)) rfl ?_); intro zqa zqb))
  (repeat (first | revert zqg | revert zqf | revert zqe | revert zqd | revert zqc | revert zqb | revert zqa))
  exact zk.k) : P := h ⟨k⟩
theorem p8_ofMin {S : SHeap} {kp : Addr} {s : Snap} {p : List Int} {us : List (List Int)} {mb : Nat} {l : List (ByteArray × Value)} {o : Nat} (hok : checkP s p = 0) (ho : o < s.owners.length)
    (hL : PtrTo S kp rLook ⟨s, p, us, .map (some mb)⟩) (hco : Cache s S l) :
    FnC Tryz.prog 72 #[.pointer (some kp), .iface 123 (.int .i64 o), .int .i64 8] S Value.string mb (Cache s) l (fun w S' => (rSlice 32 rClause).V S' w [minC1 s p o]) := by
  obtain ⟨hs, hlen, hp24, hn8, ho8, hpr, hprn⟩ := placed_hyps hok
  have hor : Rng (o : Int) := by unfold Rng; omega
  obtain ⟨ow, how, _⟩ := drop_at ho
  have hmo : minOf s o = ow.min := by simp [minOf, how]
  have hsr := shaped_owner (checkS_ok hs).1 ow (List.mem_of_getElem? how)
  have hplr := placed_rng (s := s) (p := p) (o := o) hlen
  have hV0 : ∀ S, rClause.V S (.agg (flatCells [.int .i64 8, .int .i64 o, .int .i64 0, .int .i64 0]).toArray) ⟨8, o, 0, 0⟩ := fun S => V_clause.2 ⟨by simp [flatCells, Value.cells], by unfold Rng; dsimp only; omega, hor, by unfold Rng; dsimp only; omega, by unfold Rng; dsimp only; omega⟩
  (refine Fn.enter (args := [.pointer (some kp), .iface 123 (.int .i64 o), .int .i64 8]) Tryz.func72 rfl Tryz.ntmps72 rfl ?_; intro w0)
  repeat (refine s72_L8h ?_; intros)
  refine JO.eff rfl rfl rfl (JEff.method rfl rfl (m8_O _) (p8_numO _) rfl ?_); intro S1 hl1
  repeat (refine s72_L8h ?_; intros)
  (refine JO.eff rfl rfl rfl (JEff.alloc rfl ?_); intro cb hcb)
  repeat (refine s72_L8h ?_; intros)
  refine JO.eff rfl rfl rfl (JEff.storeW rfl rfl (hV0 _) nna (List.Perm.refl _) rfl (by intro l hl; cases hl) ?_)
  repeat (refine s72_L8h ?_; intros)
  refine JO.pure rfl rfl rfl (JPure.assertF rfl rfl rfl ?_)
  repeat (refine s72_L8h ?_; intros)
  refine JO.pure rfl rfl rfl (JPure.assertF rfl rfl rfl ?_)
  repeat (refine s72_L8h ?_; intros)
  refine JO.pure rfl rfl rfl (JPure.assertT rfl rfl ?_)
  repeat (refine s72_L8h ?_; intros)
  (refine JO.eff rfl rfl rfl (JEff.alloc rfl ?_); intro ob hob)
  repeat (refine s72_L8h ?_; intros)
  refine JO.eff rfl rfl rfl (JEff.storeW rfl rfl (by exact vta) nna (List.Perm.refl _) rfl (by intro l hl; cases hl) ?_)
  refine JO.freezeV (by exact vta) nna hob (by intro l hl; cases hl) ?_; intro S2 hl2 hpo
  repeat (refine s72_L8h ?_; intros)
  refine JO.eff rfl rfl rfl (JEff.callV rfl (p7_Placed (s := s) (p := p) o (by exact vta) (by exact vta)) rfl ?_); intro S3 hl3
  have hpl : (if (z0 (checkP s p) && (decide ((0 : Int) ≤ o) && decide ((o : Int) < s.owners.length))) = true then placedN s p ((o : Int)).toNat else 0) = placedN s p o := by
    rw [if_pos (by simp [z0, hok, ho])]; rfl
  rw [hpl]
  repeat (refine s72_L8h ?_; intros)
  refine JO.pure rfl rfl rfl (JPure.fieldP rfl rfl ?_)
  refine JO.eff rfl rfl rfl (JEff.storeI (i := 3) (xs := [8, o, 0, 0]) rfl rfl (by unfold Rng; omega) (List.Perm.refl _) (by simp) (by intro l hl; cases hl) ?_)
  have hp1 : [minC1 s p o] = [⟨8, o, 0, max 0 (ow.min - placedN s p o)⟩] := by rw [minC1, hmo]
  repeat (refine s72_L8h ?_; intros)
  refine JO.pure rfl rfl rfl (JPure.loadCl (c := ⟨8, o, 0, max 0 (ow.min - placedN s p o)⟩) rfl (by (first | exact List.mem_cons_self | exact List.mem_cons_of_mem _ List.mem_cons_self | exact List.mem_cons_of_mem _ (List.mem_cons_of_mem _ List.mem_cons_self))) rfl ⟨by unfold Rng; dsimp only; omega, hor, by unfold Rng; dsimp only; omega, by unfold Rng; dsimp only; omega⟩ (.inl rfl) rfl ?_); intro hV
  (refine JO.eff rfl rfl rfl (JEff.buildS (bt := 32) (rep := rClause) (ys := [(⟨8, o, 0, max 0 (ow.min - placedN s p o)⟩ : Clause)]) rfl rfl (⟨⟨hV, nna⟩, trivial⟩) rfl rfl rfl (by decide) rfl ?_); intro S4 a4 hl4 hV4)
  repeat (refine s72_L8h ?_; intros)
  refine JX.ret1 Tryz.results72 (ResV.tmp rfl) (M' := [_]) (List.sublist_cons_self _ _) ?_
  exact ⟨by rw [hp1]; exact hV4, _, rfl, hco.mono (by exact lea)⟩
theorem p8_ofSpread {S : SHeap} {kp : Addr} {s : Snap} {p : List Int} {us : List (List Int)} {mb : Nat} {l : List (ByteArray × Value)} {o : Nat} (hok : checkP s p = 0) (ho : o < s.owners.length)
    (hL : PtrTo S kp rLook ⟨s, p, us, .map (some mb)⟩) (hco : Cache s S l) :
    FnC Tryz.prog 72 #[.pointer (some kp), .iface 123 (.int .i64 o), .int .i64 7] S Value.string mb (Cache s) l (fun w S' => (rSlice 32 rClause).V S' w (spreadC1 s p o)) := by
  obtain ⟨hs, hlen, hp24, hn8, ho8, hpr, hprn⟩ := placed_hyps hok
  have hor : Rng (o : Int) := by unfold Rng; omega
  obtain ⟨ow, how, _⟩ := drop_at ho
  have htp : topoOf s o = ow.topo := by simp [topoOf, how]
  have hsko : skewOf s o = ow.skew := by simp [skewOf, how]
  have hsr := shaped_owner (checkS_ok hs).1 ow (List.mem_of_getElem? how)
  have hspr := spread_rng (s := s) (p := p) (o := o) (by omega) hlen (by omega)
  have hV0 : ∀ S, rClause.V S (.agg (flatCells [.int .i64 7, .int .i64 o, .int .i64 0, .int .i64 0]).toArray) ⟨7, o, 0, 0⟩ := fun S => V_clause.2 ⟨by simp [flatCells, Value.cells], by unfold Rng; dsimp only; omega, hor, by unfold Rng; dsimp only; omega, by unfold Rng; dsimp only; omega⟩
  have hspp : spreadP s p o = spreadL s p o := by unfold spreadP; rw [if_pos (by simp [z0, hok, ho])]; rfl
  (refine Fn.enter (args := [.pointer (some kp), .iface 123 (.int .i64 o), .int .i64 7]) Tryz.func72 rfl Tryz.ntmps72 rfl ?_; intro w0)
  repeat (refine s72_L8h ?_; intros)
  refine JO.eff rfl rfl rfl (JEff.method rfl rfl (m8_O _) (p8_numO _) rfl ?_); intro S1 hl1
  repeat (refine s72_L8h ?_; intros)
  (refine JO.eff rfl rfl rfl (JEff.alloc rfl ?_); intro cb hcb)
  repeat (refine s72_L8h ?_; intros)
  refine JO.eff rfl rfl rfl (JEff.storeW rfl rfl (hV0 _) nna (List.Perm.refl _) rfl (by intro l hl; cases hl) ?_)
  repeat (refine s72_L8h ?_; intros)
  refine JO.pure rfl rfl rfl (JPure.assertF rfl rfl rfl ?_)
  repeat (refine s72_L8h ?_; intros)
  refine JO.pure rfl rfl rfl (JPure.assertF rfl rfl rfl ?_)
  repeat (refine s72_L8h ?_; intros)
  refine JO.pure rfl rfl rfl (JPure.assertT rfl rfl ?_)
  repeat (refine s72_L8h ?_; intros)
  (refine JO.eff rfl rfl rfl (JEff.alloc rfl ?_); intro ob hob)
  repeat (refine s72_L8h ?_; intros)
  refine JO.eff rfl rfl rfl (JEff.storeW rfl rfl (by exact vta) nna (List.Perm.refl _) rfl (by intro l hl; cases hl) ?_)
  refine JO.freezeV (by exact vta) nna hob (by intro l hl; cases hl) ?_; intro S2 hl2 hpo
  repeat (refine s72_L8h ?_; intros)
  refine JC.cond rfl (fun ht => ?_) (fun ht => ?_)
  · have ht : topoOf s o = noS := by rw [htp]; simpa [noS] using ht
    have hp1 : spreadC1 s p o = [] := by rw [spreadC1, if_pos ht]
    repeat (refine s72_L8h ?_; intros)
    refine JX.ret1 Tryz.results72 (ResV.tmp rfl) (M' := [_]) (List.sublist_cons_self _ _) ?_
    exact ⟨by rw [hp1]; exact V_nil, _, rfl, hco.mono (by exact lea)⟩
  · have ht : ¬ topoOf s o = noS := by rw [htp]; simpa [noS] using ht
    repeat (refine s72_L8h ?_; intros)
    have hVs := (by assumption : (rSlice 8 rI64).V _ _ (spreadP s p o))
    rw [hspp] at hVs
    rw [hspp]
    refine JC.cond rfl (fun hle => ?_) (fun hle => ?_)
    · have hne : spreadL s p o ≠ [] := by intro h; rw [h] at hle; simp at hle
      have hne2 : ¬ (spreadL s p o).length = 0 := by intro h; exact hne (List.length_eq_zero_iff.1 h)
      have hsk : skewV s p o = max 0 (maxL (spreadL s p o) - minL (spreadL s p o) - ow.skew) := by rw [skewV, if_neg hne2, hsko]
      obtain ⟨hmx, hmn⟩ := maxmin_rng hne hspr
      repeat (refine s72_L8h ?_; intros)
      refine JO.pure rfl rfl rfl (JPure.fieldP rfl rfl ?_)
      refine JO.eff rfl rfl rfl (JEff.storeI (i := 3) (xs := [7, o, 0, 0]) rfl rfl (by unfold Rng; omega) (List.Perm.refl _) (by simp) (by intro l hl; cases hl) ?_)
      have hp1 : spreadC1 s p o = [⟨7, o, 0, max 0 (maxL (spreadL s p o) - minL (spreadL s p o) - ow.skew)⟩] := by rw [spreadC1, if_neg ht, hsk]
      repeat (refine s72_L8h ?_; intros)
      refine JO.pure rfl rfl rfl (JPure.loadCl (c := ⟨7, o, 0, max 0 (maxL (spreadL s p o) - minL (spreadL s p o) - ow.skew)⟩) rfl (by (first | exact List.mem_cons_self | exact List.mem_cons_of_mem _ List.mem_cons_self | exact List.mem_cons_of_mem _ (List.mem_cons_of_mem _ List.mem_cons_self))) rfl ⟨by unfold Rng; dsimp only; omega, hor, by unfold Rng; dsimp only; omega, by unfold Rng; dsimp only; omega⟩ (.inl rfl) rfl ?_); intro hV
      (refine JO.eff rfl rfl rfl (JEff.buildS (bt := 32) (rep := rClause) (ys := [(⟨7, o, 0, max 0 (maxL (spreadL s p o) - minL (spreadL s p o) - ow.skew)⟩ : Clause)]) rfl rfl (⟨⟨hV, nna⟩, trivial⟩) rfl rfl rfl (by decide) rfl ?_); intro S4 a4 hl4 hV4)
      repeat (refine s72_L8h ?_; intros)
      refine JX.ret1 Tryz.results72 (ResV.tmp rfl) (M' := [_]) (List.sublist_cons_self _ _) ?_
      exact ⟨by rw [hp1]; exact hV4, _, rfl, hco.mono (by exact lea)⟩
    · have hz : (spreadL s p o).length = 0 := by
        have : ¬ (0 : Int) < ((spreadL s p o).length : Int) := by simpa using hle
        omega
      have hsk : skewV s p o = 0 := by rw [skewV, if_pos hz]
      have hp1 : spreadC1 s p o = [⟨7, o, 0, 0⟩] := by rw [spreadC1, if_neg ht, hsk]
      repeat (refine s72_L8h ?_; intros)
      refine JO.pure rfl rfl rfl (JPure.loadCl (c := ⟨7, o, 0, 0⟩) rfl (by (first | exact List.mem_cons_self | exact List.mem_cons_of_mem _ List.mem_cons_self | exact List.mem_cons_of_mem _ (List.mem_cons_of_mem _ List.mem_cons_self))) rfl ⟨by unfold Rng; dsimp only; omega, hor, by unfold Rng; dsimp only; omega, by unfold Rng; dsimp only; omega⟩ (.inl rfl) rfl ?_); intro hV
      (refine JO.eff rfl rfl rfl (JEff.buildS (bt := 32) (rep := rClause) (ys := [(⟨7, o, 0, 0⟩ : Clause)]) rfl rfl (⟨⟨hV, nna⟩, trivial⟩) rfl rfl rfl (by decide) rfl ?_); intro S4 a4 hl4 hV4)
      repeat (refine s72_L8h ?_; intros)
      refine JX.ret1 Tryz.results72 (ResV.tmp rfl) (M' := [_]) (List.sublist_cons_self _ _) ?_
      exact ⟨by rw [hp1]; exact hV4, _, rfl, hco.mono (by exact lea)⟩
end Go.Dr
namespace Go.Dr
open Go.Proofs
set_option maxRecDepth 20000
set_option maxHeartbeats 2000000
set_option linter.unusedSimpArgs false
set_option linter.unusedVariables false
def usedK (s : Snap) (p : List Int) (k : Nat) : List (List Int) := (List.range k).map (fun (n : Nat) => usedV s p n)
theorem usedK_step (s : Snap) (p : List Int) (k : Nat) : usedK s p (k + 1) = usedK s p k ++ [usedV s p k] := by unfold usedK; rw [List.range_succ]; simp
theorem usedK_len (s : Snap) (p : List Int) (k : Nat) : (usedK s p k).length = k := by simp [usedK]
def SeeAns (s : Snap) (p : List Int) (w : Value) (S' : SHeap) (M' : List MEnt) : Prop :=
  (¬ checkP s p = 0 ∧ w = .tuple #[.pointer none, .int .i64 (checkP s p)] ∧ M' = []) ∨
  (checkP s p = 0 ∧ ∃ kp mb, w = .tuple #[.pointer (some kp), .int .i64 0] ∧ PtrTo S' kp rLook ⟨s, p, usedAll s p, .map (some mb)⟩ ∧ M' = [.blk mb (mapK Value.string [])])
theorem s48_L8i {P K : Prop} (k : K) (h : Goal K → P := by
  intro zk
  (first | refine Walk ?_ | refine JC.block ?_ | (refine JO.eff rfl rfl rfl (JEff.callV rfl (p7_Check (by exact vta) (by exact vta)) rfl ?_); intro zqa zqb))
  (repeat (first | revert zqg | revert zqf | revert zqe | revert zqd | revert zqc | revert zqb | revert zqa))
  exact zk.k) : P := h ⟨k⟩
theorem p8_see {S : SHeap} {u v : Value} {s : Snap} {p : List Int} (hu : rSnap.V S u s) (hv : (rSlice 8 rI64).V S v p) : Fn Tryz.prog 48 #[u, v] S [] (SeeAns s p) := by
  haveI : TyR Tryz.prog 117 rVal := ⟨(inferInstance : TyR Tryz.prog 117 (rSlice 40 (rArr 5))).b⟩
  obtain ⟨a, c, rfl, _⟩ := V_slice.1 hv
  (refine Fn.enter (args := [u, .slice a p.length c]) Tryz.func48 rfl Tryz.ntmps48 rfl ?_; intro w0)
  repeat (refine s48_L8i ?_; intros)
  (refine JO.eff rfl rfl rfl (JEff.boxS rfl (by exact vta) nna rfl ?_); intro S0 pa l0 hp0)
  repeat (refine s48_L8i ?_; intros)
  refine JC.cond rfl (fun he => ?_) (fun he => ?_)
  · have he : ¬ checkP s p = 0 := by simpa using he
    repeat (refine s48_L8i ?_; intros)
    refine JX.ret2 Tryz.results48 (ResV.tmp rfl) (ResV.tmp rfl) (List.nil_sublist _) ?_
    exact .inl ⟨he, rfl, rfl⟩
  have hok : checkP s p = 0 := by simpa using he
  obtain ⟨hs, hlen, hp24, hn8, ho8, hpr, hprn⟩ := placed_hyps hok
  repeat (refine s48_L8i ?_; intros)
  obtain ⟨cs, rfl, hcs⟩ := V_agg rfl (by assumption : rSnap.V _ _ s)
  obtain ⟨n1, n2, n3, rfl⟩ : ∃ n1 n2 n3, cs = [n1, n2, n3] := by
    have h3 : cs.length = 3 := rSnap.len hcs
    match cs, h3 with
    | [n1, n2, n3], _ => exact ⟨n1, n2, n3, rfl⟩
  refine JO.eff rfl rfl rfl (JEff.makeMapK Value.string rfl ?_); intro mb hmb
  repeat (refine s48_L8i ?_; intros)
  refine JO.eff rfl rfl rfl (JEff.box rfl rfl ?_); intro kb hkb
  repeat (refine s48_L8i ?_; intros)
  refine JC.newRow 30 (Rp.sz (rArr 5)) ?_
  refine JC.loopF (σ := Nat × Option Addr × Nat × List Value) [(1, _), (2, _), (7, _), (22, _)] (fun q => [(23, .int .i64 q.1)])
    (fun q => [.row w0.heap.size 30 (Rp.sz (rArr 5)) (.slice q.2.1 q.1 q.2.2.1) q.1 (flatCells q.2.2.2), .blk kb (.cells #[n1, n2, n3, .slice a p.length c, .slice q.2.1 q.1 q.2.2.1, .map (some mb)] 119 (0, 0)), .blk mb (mapK Value.string [])])
    (fun Sk q => q.1 ≤ s.nodes.length ∧ allV (rArr 5) Sk q.2.2.2 (usedK s p q.1)) (fun q => s.nodes.length - q.1) (0, none, 0, []) (by exact sba) (by exact sba) (by rfl) ⟨Nat.zero_le _, trivial⟩ ?_
  rintro Sk ⟨k, ra, rc, vs⟩ hlk ⟨hk, hv1⟩
  dsimp only at hk hv1
  dsimp only [List.cons_append, List.nil_append]
  repeat (refine s48_L8i ?_; intros)
  refine JC.cond rfl (fun hc => ?_) (fun hc => ?_)
  · have hk' := dlt hc
    have hst := usedK_step s p k
    obtain ⟨hul, hur⟩ := used_fine hs hlen k
    have hU : ∀ S, (rArr 5).V S (.agg (ints (usedV s p k))) (usedV s p k) := fun S => V_arr.2 ⟨rfl, hul, fun z hz => by have := hur z hz; unfold Qty at this; unfold Rng; omega⟩
    have hup : usedP s p k = usedV s p k := by unfold usedP; rw [if_pos (by simp [z0, hok, hk'])]
    have hkl := usedK_len s p k
    have hvl := hv1.length
    rw [hkl] at hvl
    repeat (refine s48_L8i ?_; intros)
    refine JC.drawTreeF 8 rfl [11, 12] [4] [0, 1, 2, 3, 5, 6, 7] (.alt (ofL [4, 8, 9, 10, 11, 12, 13] .nil) (ofL [8] (.alt (ofL [4, 9, 10, 11, 12, 13] .nil) (ofL [9, 4, 10, 11, 12, 13] .nil)))) Tryz_mixed (by decide +kernel) ?_
    repeat (refine s48_L8i ?_; intros)
    refine JO.pure rfl rfl rfl (JPure.fieldP rfl rfl ?_)
    repeat (refine s48_L8i ?_; intros)
    refine JO.alt ?_ ?_
    · refine JO.eff rfl rfl rfl (JEff.loadE (rVal) (x0 := .slice ra k rc) rfl (by (first | exact List.mem_cons_self | exact List.mem_cons_of_mem _ List.mem_cons_self | exact List.mem_cons_of_mem _ (List.mem_cons_of_mem _ List.mem_cons_self))) rfl ⟨rfl, rfl⟩ inferInstance rfl ?_)
      repeat (refine s48_L8i ?_; intros)
      refine JO.eff rfl rfl rfl (JEff.callV rfl (p7_Used (s := s) (p := p) k (by exact vta) (by exact vta)) rfl ?_); intro S3 hl3
      rw [hup]
      repeat (refine s48_L8i ?_; intros)
      (refine JO.eff rfl rfl rfl (JEff.build (rep := rArr 5) (ys := [usedV s p k]) rfl rfl ⟨⟨hU _, nna⟩, trivial⟩ rfl rfl rfl rfl ?_); intro bb hbb hvv)
      (refine JO.eff rfl rfl rfl (JEff.appendL (rep := rArr 5) rfl rfl rfl rfl (List.Perm.swap _ _ _) (by exact hvv.flat) (by intro c hc; exact flat_one (fun v hv => (hvv.size v hv).2) c hc) (by unfold big; omega) (by unfold big; omega) (by first | exact rowT_ok | (intro l hl; cases hl)) rfl ?_); intro a2 c2; clear hvv hbb)
      repeat (refine s48_L8i ?_; intros)
      refine JO.pure rfl rfl rfl (JPure.fieldP rfl rfl ?_)
      refine JO.eff rfl rfl rfl (JEff.store (rep := rVal) (x0 := .slice a2 (k + 1) c2) rfl rfl (V_val.2 ⟨rfl, rfl⟩) nna (List.Perm.swap _ _ _) (by simp [rVal]) (by intro l hl; cases hl) ?_)
      repeat (refine s48_L8i ?_; intros)
      refine JX.perm (M' := [_, _, _]) (List.Perm.swap _ _ _) ?_
      exact JX.roundF (k + 1, a2, c2, vs ++ [.agg (ints (usedV s p k))]) (by exact lea) ⟨by dsimp only; omega, by (try dsimp only); rw [hst]; exact allV_add (by exact lea) hv1 (hU _) nna⟩ (by (try dsimp only); omega) (by simp [flat_append]; rfl) (by exact sba) (by exact sba)
    · refine JO.eff rfl rfl rfl (JEff.callV rfl (p7_Used (s := s) (p := p) k (by exact vta) (by exact vta)) rfl ?_); intro S3 hl3
      rw [hup]
      repeat (refine s48_L8i ?_; intros)
      refine JO.alt ?_ ?_
      · refine JO.eff rfl rfl rfl (JEff.loadE (rVal) (x0 := .slice ra k rc) rfl (by (first | exact List.mem_cons_self | exact List.mem_cons_of_mem _ List.mem_cons_self | exact List.mem_cons_of_mem _ (List.mem_cons_of_mem _ List.mem_cons_self))) rfl ⟨rfl, rfl⟩ inferInstance rfl ?_)
        (refine JO.eff rfl rfl rfl (JEff.build (rep := rArr 5) (ys := [usedV s p k]) rfl rfl ⟨⟨hU _, nna⟩, trivial⟩ rfl rfl rfl rfl ?_); intro bb hbb hvv)
        (refine JO.eff rfl rfl rfl (JEff.appendL (rep := rArr 5) rfl rfl rfl rfl (List.Perm.swap _ _ _) (by exact hvv.flat) (by intro c hc; exact flat_one (fun v hv => (hvv.size v hv).2) c hc) (by unfold big; omega) (by unfold big; omega) (by first | exact rowT_ok | (intro l hl; cases hl)) rfl ?_); intro a2 c2; clear hvv hbb)
        repeat (refine s48_L8i ?_; intros)
        refine JO.pure rfl rfl rfl (JPure.fieldP rfl rfl ?_)
        refine JO.eff rfl rfl rfl (JEff.store (rep := rVal) (x0 := .slice a2 (k + 1) c2) rfl rfl (V_val.2 ⟨rfl, rfl⟩) nna (List.Perm.swap _ _ _) (by simp [rVal]) (by intro l hl; cases hl) ?_)
        repeat (refine s48_L8i ?_; intros)
        refine JX.perm (M' := [_, _, _]) (List.Perm.swap _ _ _) ?_
        exact JX.roundF (k + 1, a2, c2, vs ++ [.agg (ints (usedV s p k))]) (by exact lea) ⟨by dsimp only; omega, by (try dsimp only); rw [hst]; exact allV_add (by exact lea) hv1 (hU _) nna⟩ (by (try dsimp only); omega) (by simp [flat_append]; rfl) (by exact sba) (by exact sba)
      · (refine JO.eff rfl rfl rfl (JEff.build (rep := rArr 5) (ys := [usedV s p k]) rfl rfl ⟨⟨hU _, nna⟩, trivial⟩ rfl rfl rfl rfl ?_); intro bb hbb hvv)
        refine JO.eff rfl rfl rfl (JEff.loadE (rVal) (x0 := .slice ra k rc) rfl (by (first | exact List.mem_cons_self | exact List.mem_cons_of_mem _ List.mem_cons_self | exact List.mem_cons_of_mem _ (List.mem_cons_of_mem _ List.mem_cons_self))) rfl ⟨rfl, rfl⟩ inferInstance rfl ?_)
        (refine JO.eff rfl rfl rfl (JEff.appendL (rep := rArr 5) rfl rfl rfl rfl (List.Perm.swap _ _ _) (by exact hvv.flat) (by intro c hc; exact flat_one (fun v hv => (hvv.size v hv).2) c hc) (by unfold big; omega) (by unfold big; omega) (by first | exact rowT_ok | (intro l hl; cases hl)) rfl ?_); intro a2 c2; clear hvv hbb)
        repeat (refine s48_L8i ?_; intros)
        refine JO.pure rfl rfl rfl (JPure.fieldP rfl rfl ?_)
        refine JO.eff rfl rfl rfl (JEff.store (rep := rVal) (x0 := .slice a2 (k + 1) c2) rfl rfl (V_val.2 ⟨rfl, rfl⟩) nna (List.Perm.swap _ _ _) (by simp [rVal]) (by intro l hl; cases hl) ?_)
        repeat (refine s48_L8i ?_; intros)
        refine JX.perm (M' := [_, _, _]) (List.Perm.swap _ _ _) ?_
        exact JX.roundF (k + 1, a2, c2, vs ++ [.agg (ints (usedV s p k))]) (by exact lea) ⟨by dsimp only; omega, by (try dsimp only); rw [hst]; exact allV_add (by exact lea) hv1 (hU _) nna⟩ (by (try dsimp only); omega) (by simp [flat_append]; rfl) (by exact sba) (by exact sba)
  · have hk' := dnlt hc
    obtain rfl : k = s.nodes.length := by omega
    have hkl := usedK_len s p s.nodes.length
    refine JC.freezeRow (rep := rArr 5) (bt := 40) hv1 hkl.symm (by unfold big; omega) (by unfold big; omega) (fun S9 hl9 hV9 => ?_)
    refine JC.freeze hkb (fun S10 hl10 hS10 => ?_)
    have hfin : PtrTo S10 ⟨kb, 0, none⟩ rLook ⟨s, p, usedAll s p, .map (some mb)⟩ :=
      cells_ptr (v := .agg #[n1, n2, n3, .slice a p.length c, .slice ra s.nodes.length rc, .map (some mb)]) hS10
        ⟨[n1, n2, n3], _, rfl, rSnap.mono (by exact lea) hcs, [_], _, rfl, Rp.V.one rfl (hv.mono (by exact lea)), [_], [_], rfl, Rp.V.one rfl (hV9.mono (by exact lea)), rfl, rfl⟩
    repeat (refine s48_L8i ?_; intros)
    refine JX.ret2 Tryz.results48 (ResV.tmp rfl) (ResV.tmp rfl) (List.Sublist.refl _) ?_
    exact .inr ⟨hok, _, _, rfl, hfin, rfl⟩
end Go.Dr
namespace Go.Dr
open Go.Proofs
set_option maxRecDepth 20000
set_option maxHeartbeats 2000000
set_option linter.unusedSimpArgs false
set_option linter.unusedVariables false
theorem capTo_next (s : Snap) (p : List Int) (n : Nat) : capTo s p (n + 1) 0 = capTo s p n 0 ++ capsK s p n 5 := by
  unfold capTo capsK
  rw [List.range_succ (n := n)]; simp
def ownTo (s : Snap) (p : List Int) : Nat → Nat → List Clause
  | 0, o => capsC s p ++ kindsTo s p 5 ++ spreadTo s p o
  | 1, o => capsC s p ++ kindsTo s p 5 ++ spreadTo s p s.owners.length ++ minTo s p o
  | _ + 2, _ => capsC s p ++ kindsTo s p 5 ++ spreadTo s p s.owners.length ++ minTo s p s.owners.length
theorem ownTo_next (s : Snap) (p : List Int) (t : Nat) : ownTo s p t s.owners.length = ownTo s p (t + 1) 0 := by
  match t with
  | 0 => simp [ownTo, minTo]
  | 1 => simp [ownTo]
  | t + 2 => simp [ownTo]
theorem ownTo_step (s : Snap) (p : List Int) (t o : Nat) (ht : t < 2) : ownTo s p t (o + 1) = ownTo s p t o ++ ownC1 s p ((t : Int) + 7) o := by
  match t with
  | 0 =>
    have : ¬ ((0 : Nat) : Int) + 7 = 8 := by omega
    unfold ownC1
    rw [if_neg this]
    show capsC s p ++ kindsTo s p 5 ++ spreadTo s p (o + 1) = capsC s p ++ kindsTo s p 5 ++ spreadTo s p o ++ spreadC1 s p o
    rw [spreadTo_step, List.append_assoc (capsC s p ++ kindsTo s p 5)]
  | 1 =>
    have : ((1 : Nat) : Int) + 7 = 8 := by omega
    unfold ownC1
    rw [if_pos this]
    show capsC s p ++ kindsTo s p 5 ++ spreadTo s p s.owners.length ++ minTo s p (o + 1) = capsC s p ++ kindsTo s p 5 ++ spreadTo s p s.owners.length ++ minTo s p o ++ [minC1 s p o]
    rw [minTo_step, List.append_assoc (capsC s p ++ kindsTo s p 5 ++ spreadTo s p s.owners.length)]
theorem ownTo_len (s : Snap) (p : List Int) (hok : checkP s p = 0) (t o : Nat) (ht : t ≤ 2) (ho : o ≤ s.owners.length) : (ownTo s p t o).length ≤ 400 := by
  obtain ⟨hs, hlen, hp24, hn8, ho8, hpr, hprn⟩ := placed_hyps hok
  have hcl : (capsC s p).length ≤ 40 := by unfold capsC; rw [capTo_len]; omega
  have hkl := kindsTo_len s p 5
  have h1 := spreadTo_len s p o
  have h2 := minTo_len s p o
  have h3 := spreadTo_len s p s.owners.length
  have h4 := minTo_len s p s.owners.length
  match t with
  | 0 => simp only [ownTo, List.length_append]; omega
  | 1 => simp only [ownTo, List.length_append]; omega
  | t + 2 => simp only [ownTo, List.length_append]; omega
theorem ownC1_len (s : Snap) (p : List Int) (kind : Int) (o : Nat) : (ownC1 s p kind o).length ≤ 1 := by
  unfold ownC1 spreadC1
  split
  · simp
  · split <;> simp
theorem p8_ofOwner {S : SHeap} {kp : Addr} {s : Snap} {p : List Int} {us : List (List Int)} {mb : Nat} {l : List (ByteArray × Value)} {o t : Nat} (hok : checkP s p = 0) (ho : o < s.owners.length) (ht : t < 2)
    (hL : PtrTo S kp rLook ⟨s, p, us, .map (some mb)⟩) (hco : Cache s S l) :
    FnC Tryz.prog 72 #[.pointer (some kp), .iface 123 (.int .i64 o), .int .i64 ((t : Int) + 7)] S Value.string mb (Cache s) l (fun w S' => (rSlice 32 rClause).V S' w (ownC1 s p ((t : Int) + 7) o)) := by
  match t with
  | 0 => exact p8_ofSpread hok ho hL hco
  | 1 => exact p8_ofMin hok ho hL hco
theorem p8_all {S : SHeap} {kp : Addr} {s : Snap} {p : List Int} {mb : Nat} {l : List (ByteArray × Value)} (hok : checkP s p = 0)
    (hL : PtrTo S kp rLook ⟨s, p, usedAll s p, .map (some mb)⟩) (hco : Cache s S l) :
    FnC Tryz.prog 49 #[.pointer (some kp)] S Value.string mb (Cache s) l (fun w S' => (rSlice 32 rClause).V S' w (allC s p)) := by
  obtain ⟨hs, hlen, hp24, hn8, ho8, hpr, hprn⟩ := placed_hyps hok
  (refine Fn.enter (args := [.pointer (some kp)]) Tryz.func49 rfl Tryz.ntmps49 rfl ?_; intro w0)
  repeat (first | (refine Walk ?_; intros) | refine JC.block ?_)
  (first | refine JC.newRow 35 (Rp.sz rClause) ?_ | refine JO.newRow 35 (Rp.sz rClause) ?_ | refine JX.newRow 35 (Rp.sz rClause) ?_)
  refine JC.loopF (σ := Nat × Option Addr × Nat × List Value × List (ByteArray × Value)) [(0, _), (13, _)] (fun q => [(2, .slice q.2.1 ((fun n => capTo s p n 0) q.1).length q.2.2.1), (14, ((fun n => .int .i64 n) q.1))]) (fun q => [.row w0.heap.size 35 (Rp.sz rClause) (.slice q.2.1 ((fun n => capTo s p n 0) q.1).length q.2.2.1) ((fun n => capTo s p n 0) q.1).length (flatCells q.2.2.2.1), .blk mb (mapK Value.string q.2.2.2.2)]) (fun Sn q => q.1 ≤ s.nodes.length ∧ allV rClause Sn q.2.2.2.1 ((fun n => capTo s p n 0) q.1) ∧ Cache s Sn q.2.2.2.2) (fun q => s.nodes.length - q.1) (0, none, 0, [], l) (by exact sba) (by exact sba) (by first | rfl | simp) (⟨Nat.zero_le _, trivial, hco⟩) ?_; rintro Sn ⟨n, ran, rcn, vsn, lmn⟩ hln ⟨hn, hvn, hcon⟩; (try dsimp only at hn hvn hcon); dsimp only [List.cons_append, List.nil_append]
  have hxl := capTo_len s p n 0
  repeat (first | (refine Walk ?_; intros) | refine JC.block ?_)
  refine JC.cond rfl (fun hc => ?_) (fun hc => ?_)
  · have hn' := dlt hc
    have hst := capTo_next s p n
    have hcl := capsK_len s p n 5
    repeat (first | (refine Walk ?_; intros) | refine JC.block ?_)
    refine JO.pure rfl rfl rfl (JPure.mkIface rfl rfl ?_)
    repeat (first | (refine Walk ?_; intros) | refine JC.block ?_)
    refine JO.eff rfl rfl rfl (JEff.callC (kv := Value.string) rfl (List.Perm.swap _ _ _) (by intro l hl; cases hl) (p8_ofNode hok hn' (by exact pta) (hcon.mono (by exact lea))) rfl ?_); intro w S2 l2 hl2 hw hco2
    obtain ⟨wa, wc, rfl, _⟩ := V_slice.1 hw
    repeat (first | (refine Walk ?_; intros) | refine JC.block ?_)
    refine JO.eff rfl rfl rfl (JEff.appendS (rep := rClause) rfl rfl hw rfl rfl (List.Perm.swap _ _ _) (by unfold big; omega) (by unfold big; omega) (by intro l hl; cases hl) rfl ?_); intro a2 c2 us1 hus1
    repeat (first | (refine Walk ?_; intros) | refine JC.block ?_)
    exact JX.roundF (n + 1, a2, c2, vsn ++ us1, l2) (by exact lea) ⟨by omega, by (try dsimp only); rw [hst]; exact allV.append hus1 (hvn.mono (by exact lea)), hco2.mono (by exact lea)⟩ (by (try dsimp only); omega) (by (try dsimp only); rw [hst]; simp [flat_append]) (by (try dsimp only); rw [hst, List.length_append]; exact sba) (by exact sba)
  · have hn' := dnlt hc
    obtain rfl : n = s.nodes.length := by omega
    have hcl : (capsC s p).length ≤ 40 := by unfold capsC; rw [capTo_len]; omega
    repeat (first | (refine Walk ?_; intros) | refine JC.block ?_)
    have h0 : capTo s p s.nodes.length 0 = capsC s p ++ kindsTo s p 0 := by simp [kindsTo, capsC]
    rw [h0] at hvn
    rw [h0]
    refine JC.loopF (σ := Nat × Option Addr × Nat × List Value × List (ByteArray × Value)) [(0, _)] (fun q => [(2, .slice q.2.1 ((fun j => capsC s p ++ kindsTo s p j) q.1).length q.2.2.1), (4, ((fun j => .int .i64 ((j : Int) + 2)) q.1))]) (fun q => [.row w0.heap.size 35 (Rp.sz rClause) (.slice q.2.1 ((fun j => capsC s p ++ kindsTo s p j) q.1).length q.2.2.1) ((fun j => capsC s p ++ kindsTo s p j) q.1).length (flatCells q.2.2.2.1), .blk mb (mapK Value.string q.2.2.2.2)]) (fun Sj q => q.1 ≤ 5 ∧ allV rClause Sj q.2.2.2.1 ((fun j => capsC s p ++ kindsTo s p j) q.1) ∧ Cache s Sj q.2.2.2.2) (fun q => 5 - q.1) (0, ran, rcn, vsn, lmn) (by exact sba) (by exact sba) (by first | rfl | simp) (⟨Nat.zero_le _, hvn, hcon⟩) ?_; rintro Sj ⟨j, raj, rcj, vsj, lmj⟩ hlj ⟨hj, hvj, hcoj⟩; (try dsimp only at hj hvj hcoj); dsimp only [List.cons_append, List.nil_append]
    have hkl := kindsTo_len s p j
    have hkl2 : j * p.length ≤ 5 * 24 := Nat.mul_le_mul (by omega) (by omega)
    have hXl : (capsC s p ++ kindsTo s p j).length ≤ 200 := by rw [List.length_append]; omega
    repeat (first | (refine Walk ?_; intros) | refine JC.block ?_)
    refine JC.cond rfl (fun hc => ?_) (fun hc => ?_)
    · have hj' : j < 5 := by have := of_decide_eq_true hc; omega
      repeat (first | (refine Walk ?_; intros) | refine JC.block ?_)
      have h1 : capsC s p ++ kindsTo s p j = capsC s p ++ kindsTo s p j ++ podsTo s p ((j : Int) + 2) 0 := by simp [podsTo]
      rw [h1] at hvj
      rw [h1]
      refine JC.loopF (σ := Nat × Option Addr × Nat × List Value × List (ByteArray × Value)) [(0, _), (4, _), (32, _)] (fun q => [(2, .slice q.2.1 ((fun i => capsC s p ++ kindsTo s p j ++ podsTo s p ((j : Int) + 2) i) q.1).length q.2.2.1), (33, ((fun i => .int .i64 i) q.1))]) (fun q => [.row w0.heap.size 35 (Rp.sz rClause) (.slice q.2.1 ((fun i => capsC s p ++ kindsTo s p j ++ podsTo s p ((j : Int) + 2) i) q.1).length q.2.2.1) ((fun i => capsC s p ++ kindsTo s p j ++ podsTo s p ((j : Int) + 2) i) q.1).length (flatCells q.2.2.2.1), .blk mb (mapK Value.string q.2.2.2.2)]) (fun Si q => q.1 ≤ p.length ∧ allV rClause Si q.2.2.2.1 ((fun i => capsC s p ++ kindsTo s p j ++ podsTo s p ((j : Int) + 2) i) q.1) ∧ Cache s Si q.2.2.2.2) (fun q => p.length - q.1) (0, raj, rcj, vsj, lmj) (by exact sba) (by exact sba) (by first | rfl | simp) (⟨Nat.zero_le _, hvj.mono (by exact lea), hcoj.mono (by exact lea)⟩) ?_; rintro Si ⟨i, rai, rci, vsi, lmi⟩ hli ⟨hi, hvi, hcoi⟩; (try dsimp only at hi hvi hcoi); dsimp only [List.cons_append, List.nil_append]
      have hpl := podsTo_len s p ((j : Int) + 2) i
      have hp1 := podC1_len s p ((j : Int) + 2) i
      have hYl : (capsC s p ++ kindsTo s p j ++ podsTo s p ((j : Int) + 2) i).length ≤ 300 := by rw [List.length_append]; omega
      repeat (first | (refine Walk ?_; intros) | refine JC.block ?_)
      refine JC.cond rfl (fun hc2 => ?_) (fun hc2 => ?_)
      · have hi' := dlt hc2
        have hst : capsC s p ++ kindsTo s p j ++ podsTo s p ((j : Int) + 2) (i + 1) = capsC s p ++ kindsTo s p j ++ podsTo s p ((j : Int) + 2) i ++ podC1 s p ((j : Int) + 2) i := by rw [podsTo_step, List.append_assoc (capsC s p ++ kindsTo s p j)]
        repeat (first | (refine Walk ?_; intros) | refine JC.block ?_)
        refine JO.pure rfl rfl rfl (JPure.mkIface rfl rfl ?_)
        repeat (first | (refine Walk ?_; intros) | refine JC.block ?_)
        refine JO.eff rfl rfl rfl (JEff.callC (kv := Value.string) rfl (List.Perm.swap _ _ _) (by intro l hl; cases hl) (p8_ofPod hok hi' (by omega) (by omega) (by exact pta) (hcoi.mono (by exact lea))) rfl ?_); intro w S2 l2 hl2 hw hco2
        obtain ⟨wa, wc, rfl, _⟩ := V_slice.1 hw
        repeat (first | (refine Walk ?_; intros) | refine JC.block ?_)
        refine JO.eff rfl rfl rfl (JEff.appendS (rep := rClause) rfl rfl hw rfl rfl (List.Perm.swap _ _ _) (by unfold big; omega) (by unfold big; omega) (by intro l hl; cases hl) rfl ?_); intro a2 c2 us1 hus1
        repeat (first | (refine Walk ?_; intros) | refine JC.block ?_)
        exact JX.roundF (i + 1, a2, c2, vsi ++ us1, l2) (by exact lea) ⟨by omega, by (try dsimp only); rw [hst]; exact allV.append hus1 (hvi.mono (by exact lea)), hco2.mono (by exact lea)⟩ (by (try dsimp only); omega) (by (try dsimp only); rw [hst]; (simp [flat_append] <;> omega)) (by (try dsimp only); rw [hst, List.length_append (bs := podC1 s p ((j : Int) + 2) i)]; exact sba) (by exact sba)
      · have hi' := dnlt hc2
        obtain rfl : i = p.length := by omega
        have h2 : capsC s p ++ kindsTo s p j ++ podsTo s p ((j : Int) + 2) p.length = capsC s p ++ kindsTo s p (j + 1) := by rw [kindsTo_step, List.append_assoc]
        rw [h2] at hvi
        rw [h2]
        repeat (first | (refine Walk ?_; intros) | refine JC.block ?_)
        exact JX.roundF (j + 1, rai, rci, vsi, lmi) (by exact lea) ⟨by omega, hvi.mono (by exact lea), hcoi.mono (by exact lea)⟩ (by (try dsimp only); omega) rfl (by exact sba) (by exact sba)
    · obtain rfl : j = 5 := by have := of_decide_eq_false hc; omega
      repeat (first | (refine Walk ?_; intros) | refine JC.block ?_)
      have h3 : capsC s p ++ kindsTo s p 5 = ownTo s p 0 0 := by simp [ownTo, spreadTo, minTo]
      rw [h3] at hvj
      rw [h3]
      refine JC.loopF (σ := Nat × Option Addr × Nat × List Value × List (ByteArray × Value)) [(0, _)] (fun q => [(2, .slice q.2.1 ((fun t => ownTo s p t 0) q.1).length q.2.2.1), (6, ((fun t => .int .i64 ((t : Int) + 7)) q.1))]) (fun q => [.row w0.heap.size 35 (Rp.sz rClause) (.slice q.2.1 ((fun t => ownTo s p t 0) q.1).length q.2.2.1) ((fun t => ownTo s p t 0) q.1).length (flatCells q.2.2.2.1), .blk mb (mapK Value.string q.2.2.2.2)]) (fun St q => q.1 ≤ 2 ∧ allV rClause St q.2.2.2.1 ((fun t => ownTo s p t 0) q.1) ∧ Cache s St q.2.2.2.2) (fun q => 2 - q.1) (0, raj, rcj, vsj, lmj) (by exact sba) (by exact sba) (by first | rfl | simp) (⟨Nat.zero_le _, hvj.mono (by exact lea), hcoj.mono (by exact lea)⟩) ?_; rintro St ⟨t, rat, rct, vst, lmt⟩ hlt ⟨ht, hvt, hcot⟩; (try dsimp only at ht hvt hcot); dsimp only [List.cons_append, List.nil_append]
      have hXl := ownTo_len s p hok t 0 (by omega) (by omega)
      repeat (first | (refine Walk ?_; intros) | refine JC.block ?_)
      refine JC.cond rfl (fun hc => ?_) (fun hc => ?_)
      · have ht' : t < 2 := by have := of_decide_eq_true hc; omega
        repeat (first | (refine Walk ?_; intros) | refine JC.block ?_)
        refine JC.loopF (σ := Nat × Option Addr × Nat × List Value × List (ByteArray × Value)) [(0, _), (6, _), (53, _)] (fun q => [(2, .slice q.2.1 ((fun o => ownTo s p t o) q.1).length q.2.2.1), (54, ((fun o => .int .i64 o) q.1))]) (fun q => [.row w0.heap.size 35 (Rp.sz rClause) (.slice q.2.1 ((fun o => ownTo s p t o) q.1).length q.2.2.1) ((fun o => ownTo s p t o) q.1).length (flatCells q.2.2.2.1), .blk mb (mapK Value.string q.2.2.2.2)]) (fun So q => q.1 ≤ s.owners.length ∧ allV rClause So q.2.2.2.1 ((fun o => ownTo s p t o) q.1) ∧ Cache s So q.2.2.2.2) (fun q => s.owners.length - q.1) (0, rat, rct, vst, lmt) (by exact sba) (by exact sba) (by first | rfl | simp) (⟨Nat.zero_le _, hvt.mono (by exact lea), hcot.mono (by exact lea)⟩) ?_; rintro So ⟨o, rao, rco, vso, lmo⟩ hlo ⟨ho, hvo, hcoo⟩; (try dsimp only at ho hvo hcoo); dsimp only [List.cons_append, List.nil_append]
        have hYl := ownTo_len s p hok t o (by omega) (by omega)
        repeat (first | (refine Walk ?_; intros) | refine JC.block ?_)
        refine JC.cond rfl (fun hc2 => ?_) (fun hc2 => ?_)
        · have ho' := dlt hc2
          have hst := ownTo_step s p t o ht'
          have hp1 := ownC1_len s p ((t : Int) + 7) o
          repeat (first | (refine Walk ?_; intros) | refine JC.block ?_)
          refine JO.pure rfl rfl rfl (JPure.mkIface rfl rfl ?_)
          repeat (first | (refine Walk ?_; intros) | refine JC.block ?_)
          refine JO.eff rfl rfl rfl (JEff.callC (kv := Value.string) rfl (List.Perm.swap _ _ _) (by intro l hl; cases hl) (p8_ofOwner hok ho' (by omega) (by exact pta) (hcoo.mono (by exact lea))) rfl ?_); intro w S2 l2 hl2 hw hco2
          obtain ⟨wa, wc, rfl, _⟩ := V_slice.1 hw
          repeat (first | (refine Walk ?_; intros) | refine JC.block ?_)
          refine JO.eff rfl rfl rfl (JEff.appendS (rep := rClause) rfl rfl hw rfl rfl (List.Perm.swap _ _ _) (by unfold big; omega) (by unfold big; omega) (by intro l hl; cases hl) rfl ?_); intro a2 c2 us1 hus1
          repeat (first | (refine Walk ?_; intros) | refine JC.block ?_)
          exact JX.roundF (o + 1, a2, c2, vso ++ us1, l2) (by exact lea) ⟨by omega, by (try dsimp only); rw [hst]; exact allV.append hus1 (hvo.mono (by exact lea)), hco2.mono (by exact lea)⟩ (by (try dsimp only); omega) (by (try dsimp only); rw [hst]; simp [flat_append]) (by (try dsimp only); rw [hst, List.length_append]; exact sba) (by exact sba)
        · have ho' := dnlt hc2
          obtain rfl : o = s.owners.length := by omega
          rw [ownTo_next] at hvo
          rw [ownTo_next]
          repeat (first | (refine Walk ?_; intros) | refine JC.block ?_)
          exact JX.roundF (t + 1, rao, rco, vso, lmo) (by exact lea) ⟨by omega, hvo.mono (by exact lea), hcoo.mono (by exact lea)⟩ (by (try dsimp only); omega) rfl (by exact sba) (by exact sba)
      · obtain rfl : t = 2 := by have := of_decide_eq_false hc; omega
        have hfin : ownTo s p 2 0 = allC s p := by simp [ownTo, allC]
        rw [hfin] at hvt hXl
        rw [hfin]
        repeat (first | (refine Walk ?_; intros) | refine JC.block ?_)
        refine JX.freezeRow (rep := rClause) (bt := 32) hvt rfl (by unfold big; omega) (by unfold big; omega) (fun S9 hl9 hV9 => ?_)
        refine JX.ret1 Tryz.results49 (ResV.tmp rfl) (List.Sublist.refl _) ?_
        exact ⟨hV9, _, rfl, hcot.mono (by exact lea)⟩
end Go.Dr
namespace Go.Dr
open Go.Proofs
set_option maxRecDepth 20000
set_option maxHeartbeats 2000000
set_option linter.unusedSimpArgs false
set_option linter.unusedVariables false
theorem slice_bytes {α : Type} {bt : Nat} {rep : Rp α} {S : SHeap} {v : Value} {xs : List α} (h : (rSlice bt rep).V S v xs) : xs.length * bt ≤ big := by
  obtain ⟨_, _, _, _, h, _⟩ := V_slice.1 h; exact h
theorem slice_at {α : Type} {bt : Nat} {rep : Rp α} {S : SHeap} {v : Value} {xs : List α} (h : (rSlice bt rep).V S v xs) : ∀ x ∈ xs, ∃ q, PtrTo S q rep x := by
  obtain ⟨a, c, rfl, _, _, _, hh⟩ := V_slice.1 h
  intro x hx
  obtain ⟨i, hi⟩ := List.getElem?_of_mem hx
  obtain ⟨ad, _, hp⟩ := hh i x hi
  exact ⟨_, hp⟩
end Go.Dr
namespace Go.Dr
open Go.Proofs
set_option maxRecDepth 20000
set_option maxHeartbeats 2000000
set_option linter.unusedSimpArgs false
set_option linter.unusedVariables false
theorem p8_All {S : SHeap} {u v : Value} {s : Snap} {p : List Int} (hu : rSnap.V S u s) (hv : (rSlice 8 rI64).V S v p) : FnLE Tryz.prog 22 #[u, v] S 32 rClause (allL s p) (.int .i64 (checkP s p)) := by
  obtain ⟨a, c, rfl, _⟩ := V_slice.1 hv
  (refine Fn.enter (args := [u, .slice a p.length c]) Tryz.func22 rfl Tryz.ntmps22 rfl ?_; intro w0)
  repeat (first | (refine Walk ?_; intros) | refine JC.block ?_ | (refine WBox ?_; intros))
  refine JO.eff rfl rfl rfl (JEff.callM (Mc := []) rfl (List.Perm.refl _) (mayAll rfl) (p8_see (s := s) (p := p) (by exact vta) (by exact vta)) rfl ?_); intro w S2 M2 hl2 hw
  rcases hw with ⟨he, rfl, rfl⟩ | ⟨hok, kp, mb, rfl, hL, rfl⟩
  · have he2 : decide (checkP s p = 0) = false := by simpa using he
    repeat (first | (refine Walk ?_; intros) | refine JC.block ?_ | (refine WBox ?_; intros))
    refine JC.cond rfl (fun h1 => ?_) (fun h1 => ?_)
    · repeat (first | (refine Walk ?_; intros) | refine JC.block ?_ | (refine WBox ?_; intros))
      (refine JX.ret2 Tryz.results22 (ResV.tmp rfl) (ResV.tmp rfl) (List.nil_sublist _) ?_)
      exact ⟨rfl, _, rfl, by rw [allL, if_neg he]; exact V_nil⟩
    · (exfalso; first | (simp only [decide_eq_true_eq, decide_eq_false_iff_not, Bool.not_eq_true', Bool.not_eq_false', Bool.and_eq_true, Bool.or_eq_true, Bool.and_eq_false_iff, Bool.or_eq_false_iff] at *; omega) | (simp_all; done) | (simp_all; omega))
  · repeat (first | (refine Walk ?_; intros) | refine JC.block ?_ | (refine WBox ?_; intros))
    refine JO.eff rfl rfl rfl (JEff.callC (kv := Value.string) rfl (List.Perm.refl _) (by intro l hl; cases hl) (p8_all hok hL Cache.nil) rfl ?_); intro w S3 l3 hl3 hw hco3
    repeat (first | (refine Walk ?_; intros) | refine JC.block ?_ | (refine WBox ?_; intros))
    (refine JX.ret2 Tryz.results22 (ResV.tmp rfl) (ResV.tmp rfl) (List.nil_sublist _) ?_)
    exact ⟨rfl, _, by rw [hok], by rw [allL, if_pos hok]; exact hw⟩
end Go.Dr
namespace Go.Dr
def cutS (s : Snap) : Snap := ⟨s.nodes.take 12, s.pods.take 30, s.owners.take 12⟩
def noNear : Near := ⟨⟨#[]⟩, []⟩
end Go.Dr
namespace Go.Dr
open Go.Proofs
set_option maxRecDepth 20000
set_option maxHeartbeats 2000000
set_option linter.unusedSimpArgs false
set_option linter.unusedVariables false
theorem cut_len {α : Type} (l : List α) (n : Nat) : (l.drop (0 : Int).toNat).take (min (l.length : Int) (n : Int) - 0).toNat = l.take n := by
  have e : (min (l.length : Int) (n : Int) - 0).toNat = min l.length n := by omega
  rw [e, show (0 : Int).toNat = 0 from rfl, List.drop_zero]
  rcases Nat.le_total l.length n with h | h
  · rw [Nat.min_eq_left h, List.take_length, List.take_of_length_le h]
  · rw [Nat.min_eq_right h]
end Go.Dr
namespace Go.Dr
section
variable {C : Cx} {R : Rg} {Q : Post} {S S' : SHeap} {M M' : List MEnt} {e : Env} {rest : List Nat}
variable {d : Nat} {ty : TypeId} {pos : String} {aft : Array Edge} {g : Option (Nat × Bool)} {an : Bool}
theorem JPure.sliceT {T : TypeId} {x lo hi : Operand} {s : ByteArray} {kl kh : IntKind} {l h : Int} (hx : ev e x = some (.string s)) (hlo : ev e lo = some (.int kl l)) (hhi : ev e hi = some (.int kh h)) [hu : Und C.P T .string] (hdN : Nat.blt d C.N = true)
    (h0 : 0 ≤ l) (h1 : l ≤ h) (h2 : h ≤ s.size) (k : JO C R rest Q S M ((d, .string (s.extract l.toNat h.toNat)) :: e)) : JPure C R an ⟨some d, .slice T x (some lo) (some hi) none, ty, pos, aft, g⟩ rest Q S M e := by
  refine JPure.of rfl hdN (fun act w' hh => ?_) k
  have bl : (Instr.sliceBound (.int kl l) h.toNat .sliceB).run C.P w' = .ok l.toNat w' := run_sliceBound (P := C.P) w' kl l h.toNat _ h0 (by omega)
  have bh : (Instr.sliceBound (.int kh h) s.size .sliceAlen).run C.P w' = .ok h.toNat w' := run_sliceBound (P := C.P) w' kh h s.size _ (by omega) h2
  have hm : (Instr.slice T (.string s) (some (.int kl l)) (some (.int kh h)) none).run C.P w' = .ok (.string (s.extract l.toNat h.toNat)) w' := by
    simp [Instr.slice, run_underlying hu.h, Instr.sliceBounds, bl, bh]
  have hs : (Instr.sliceAt T (.string s) (some (.int kl l)) (some (.int kh h)) none).run C.P w' = (Instr.slice T (.string s) (some (.int kl l)) (some (.int kh h)) none).run C.P w' := by
    simp [Instr.sliceAt, run_underlying hu.h]
  simp only [execOp, hh.eval hx, Option.map_some, Option.map_none, hh.eval hlo, hh.eval hhi, Sem.run_bind, hs, hm, Result.andThen_ok, Sem.run_pure]
end
end Go.Dr
namespace Go.Dr
open Go.Proofs
set_option maxRecDepth 20000
set_option maxHeartbeats 2000000
set_option linter.unusedSimpArgs false
set_option linter.unusedVariables false
theorem R_vec {S : SHeap} {a b c d e : Int} (h : ∀ x ∈ [a, b, c, d, e], Rng x) : (rArr 5).R S [.int .i64 a, .int .i64 b, .int .i64 c, .int .i64 d, .int .i64 e] [a, b, c, d, e] := ⟨rfl, rfl, h⟩
theorem sz1 (n : UInt8) : (⟨#[n]⟩ : ByteArray).size ≤ big := by show 1 ≤ big; decide
theorem sz0 : (⟨#[]⟩ : ByteArray).size ≤ big := by decide
end Go.Dr
namespace Go.Dr
open Go.Proofs
set_option maxRecDepth 20000
set_option maxHeartbeats 2000000
set_option linter.unusedSimpArgs false
set_option linter.unusedVariables false
theorem V_num {S : SHeap} {a : Int} (h : Rng a := by simp [Rng]) : rI64.V S (.int .i64 a) a := V_i64.2 ⟨rfl, h⟩
end Go.Dr
namespace Go.Dr
open Go.Proofs
set_option maxRecDepth 20000
set_option maxHeartbeats 2000000
set_option linter.unusedSimpArgs false
set_option linter.unusedVariables false
theorem w_EqInts {S : SHeap} {u v : Value} {xs : List Int} (hu : (rSlice 8 rI64).V S u xs) (hv : (rSlice 8 rI64).V S v xs) : FnV Tryz.prog 17 #[u, v] S (.bool true) := by
  have h := r0_EqInts hu hv
  rw [decide_eq_true rfl] at h; exact h
end Go.Dr
namespace Go.Dr
set_option linter.unusedSimpArgs false
set_option linter.unusedVariables false
def SHeap.del (S : SHeap) (b : Nat) : SHeap := fun k => if k = b then none else S k
theorem SHeap.del_self (S : SHeap) (b : Nat) : S.del b b = none := by simp [SHeap.del]
theorem SHeap.del_other {S : SHeap} {b k : Nat} (h : k ≠ b) : S.del b k = S k := by simp [SHeap.del, h]
theorem SHeap.le_del {S S' : SHeap} {b : Nat} (h : S.le S') (hb : S b = none) : S.le (S'.del b) := fun k o hk => by
  have hne : k ≠ b := fun e => by rw [e, hb] at hk; cases hk
  rw [SHeap.del_other hne]; exact h k o hk
theorem Wd.thaw {w0 w : World} {B0 : List Nat} {S0 S : SHeap} {M : List MEnt} {b : Nat} {o : Obj} (h : Wd w0 B0 S0 S M w) (h0 : S0 b = none) (hb : w0.heap.size ≤ b) (hS : S b = some o) : Wd w0 B0 S0 (S.del b) (.blk b o :: M) w where
  os := h.os
  tape := h.tape
  output := h.output
  size := h.size
  drawn := h.drawn
  keep := h.keep
  le := SHeap.le_del h.le h0
  new := fun k hk => by
    by_cases e : k = b
    · subst e; exact .inr hb
    · exact h.new k (by rwa [SHeap.del_other e] at hk)
  agree := fun k o' hk => by
    have hne : k ≠ b := fun e => by rw [e, SHeap.del_self] at hk; cases hk
    rw [SHeap.del_other hne] at hk; exact h.agree k o' hk
  ok := fun m hm => by
    rcases List.mem_cons.1 hm with rfl | hm
    · exact h.agree b o hS
    · exact h.ok m hm
  sep := by
    refine List.pairwise_cons.2 ⟨?_, h.sep⟩
    intro m hm k hk hk'
    simp only [MEnt.own, Option.some.injEq] at hk
    subst hk
    have := (h.out m hm _ hk').1
    rw [hS] at this; cases this
  out := fun m hm k hk => by
    rcases List.mem_cons.1 hm with rfl | hm
    · simp only [MEnt.own, Option.some.injEq] at hk
      subst hk
      exact ⟨SHeap.del_self _ _, .inl hb⟩
    · obtain ⟨h1, h2⟩ := h.out m hm k hk
      refine ⟨?_, h2⟩
      unfold SHeap.del
      split
      · rfl
      · exact h1
theorem Fn.lend {P : Program} {f : FuncId} {args : Array Value} {S : SHeap} {b : Nat} {o : Obj} {PP : Value → SHeap → List MEnt → Prop} (h : Fn P f args (S.put b o) [] PP) :
    Fn P f args S [.blk b o] (fun v S' M' => ∃ S'' M'', PP v S'' M'' ∧ (S.put b o).le S'' ∧ S' = S''.del b ∧ M' = [.blk b o]) := fun w hg hok hs ho => by
  have hSb : S b = none := ho (.blk b o) (by simp) b rfl
  have hwb : w.heap[b]? = some o := hok (.blk b o) (by simp)
  have hg' : Agree (S.put b o) w := fun k o' hk => by
    by_cases e : k = b
    · subst e
      rw [SHeap.put_self] at hk; cases hk; exact hwb
    · exact hg k o' (by simpa [SHeap.put, e] using hk)
  refine (h w hg' (by simp) List.Pairwise.nil (by simp)).mono ?_
  rintro e w' ⟨v, S'', M'', rfl, hw, hp⟩
  have hSb2 : S'' b = some o := hw.le b o (SHeap.put_self _ _ _)
  refine ⟨v, S''.del b, [.blk b o], rfl, ?_, S'', M'', hp, hw.le, rfl, rfl⟩
  have hle : S.le S'' := (SHeap.le_put o hSb).trans hw.le
  exact {
    os := hw.os
    tape := hw.tape
    output := hw.output
    size := hw.size
    drawn := hw.drawn
    keep := fun k hk hkb => hw.keep k hk (by simp)
    le := SHeap.le_del hle hSb
    new := fun k hk => by
      by_cases e : k = b
      · subst e; rw [SHeap.del_self] at hk; exact absurd rfl hk
      · rw [SHeap.del_other e] at hk
        rcases hw.new k hk with h1 | h1
        · exact .inl (by simpa [SHeap.put, e] using h1)
        · exact .inr h1
    agree := fun k o' hk => by
      have hne : k ≠ b := fun e => by rw [e, SHeap.del_self] at hk; cases hk
      rw [SHeap.del_other hne] at hk; exact hw.agree k o' hk
    ok := fun m hm => by
      rw [List.mem_singleton] at hm; subst hm
      exact hw.agree b o hSb2
    sep := List.pairwise_singleton _ _
    out := fun m hm k hk => by
      rw [List.mem_singleton] at hm; subst hm
      simp only [MEnt.own, Option.some.injEq] at hk
      subst hk
      exact ⟨SHeap.del_self _ _, .inr (by simp [MEnt.own])⟩ }
theorem Fn.frozen {P : Program} {f : FuncId} {args : Array Value} {S : SHeap} {PP : Value → SHeap → List MEnt → Prop} {QQ : Value → SHeap → Prop} (h : Fn P f args S [] PP)
    (hq : ∀ v S' M', PP v S' M' → (M' = [] ∧ QQ v S') ∨ ∃ b o, M' = [.blk b o] ∧ ∀ S'', S'.le S'' → S'' b = some o → QQ v S'') : FnR P f args S QQ := fun w hg hok hs ho => by
  refine (h w hg hok hs ho).mono ?_
  rintro e w' ⟨v, S', M', rfl, hw, hp⟩
  rcases hq v S' M' hp with ⟨rfl, h1⟩ | ⟨b, o, rfl, h1⟩
  · exact ⟨v, S', [], rfl, hw, rfl, h1⟩
  · have h2 := hw.out (.blk b o) (by simp) b rfl
    have hb : w.heap.size ≤ b := h2.2.resolve_right (by simp)
    exact ⟨v, S'.put b o, [], rfl, hw.freeze hb, rfl, h1 _ (SHeap.le_put o h2.1) (SHeap.put_self _ _ _)⟩
section
variable {C : Cx} {R : Rg} {Q : Post} {S S' : SHeap} {M M' : List MEnt} {e : Env} {rest : List Nat} {L : List Nat}
variable {d : Nat} {ty : TypeId} {pos : String} {aft : Array Edge} {g : Option (Nat × Bool)}
theorem JEff.lendV {f : FuncId} [Ent C.P f] {args : Array Operand} {ts : Array TypeId} {vs : List Value} {b : Nat} {o : Obj} {Mr : List MEnt} {r : Value} (hargs : evs e args.toList = some vs) (hM : (MEnt.blk b o :: Mr).Perm M) (hT : ∀ l, R.T = some l → b ∈ l) (hb : ∀ m ∈ M, ∀ k, m.own = some k → S k = none)
    (hf : ∀ S1 : SHeap, S.le S1 → S1 b = some o → FnV C.P f vs.toArray S1 r) (hdN : Nat.blt d C.N = true)
    (k : ∀ S', S.le S' → JO C R rest Q S' (.blk b o :: Mr) ((d, r) :: e)) : JEff C R ⟨some d, .call { callee := .value (.func f), args, argTypes := ts }, ty, pos, aft, g⟩ rest Q S M e := by
  have hSb : S b = none := hb (.blk b o) (hM.mem_iff.1 (by simp)) b rfl
  refine JEff.fn (Mc := [.blk b o]) (sem_call hargs _ _ _ _ _) rfl rfl hdN hM (by intro t ht m hm k hk; rw [List.mem_singleton] at hm; subst hm; simp only [MEnt.own, Option.some.injEq] at hk; subst hk; exact hT t ht)
    (Fn.lend (hf (S.put b o) (SHeap.le_put o hSb) (SHeap.put_self _ _ _))) fun v S' M' hl hp => ?_
  obtain ⟨S'', M'', hp, hle, rfl, rfl⟩ := hp
  obtain ⟨-, rfl⟩ := hp
  exact k _ hl
theorem JO.out (k : (∀ m ∈ M, ∀ b, m.own = some b → S b = none) → JO C R L Q S M e) : JO C R L Q S M e := ⟨fun a w hw => (k fun m hm b hb => (hw.wd.out m hm b hb).1).run a w hw⟩
theorem JO.blkNew {b : Nat} {o : Obj} (h0 : C.B0 = []) (k : C.S0 b = none → C.w0.heap.size ≤ b → JO C R L Q S (.blk b o :: M) e) : JO C R L Q S (.blk b o :: M) e := ⟨fun a w hw => by
  have h1 := hw.wd.out (.blk b o) (by simp) b rfl
  have h2 := h1.2
  rw [h0] at h2
  refine (k ?_ (h2.resolve_right (by simp))).run a w hw
  cases h : C.S0 b with
  | none => rfl
  | some o' => have := hw.wd.le b o' h; rw [h1.1] at this; cases this⟩
theorem JC.blkNew {x : Code} {b : Nat} {o : Obj} (h0 : C.B0 = []) (k : C.S0 b = none → C.w0.heap.size ≤ b → JC C x Q S (.blk b o :: M) e) : JC C x Q S (.blk b o :: M) e := ⟨fun a w hw => by
  have h1 := hw.wd.out (.blk b o) (by simp) b rfl
  have h2 := h1.2
  rw [h0] at h2
  refine (k ?_ (h2.resolve_right (by simp))).run a w hw
  cases h : C.S0 b with
  | none => rfl
  | some o' => have := hw.wd.le b o' h; rw [h1.1] at this; cases this⟩
theorem JX.thaw {x : Exit} {b : Nat} {o : Obj} (h0 : C.S0 b = none) (hb : C.w0.heap.size ≤ b) (hS : S b = some o) (k : JX C x Q (S.del b) (.blk b o :: M) e) : JX C x Q S M e := ⟨fun a w hw => k.run a w ⟨hw.env, hw.defers, hw.wd.thaw h0 hb hS⟩⟩
class IfaceT (P : Program) (T : TypeId) : Prop where
  h : P.underlying T = some (.interface (P.methodsAt T))
theorem JPure.eqNilT {an : Bool} {T t' : TypeId} {x : Operand} (hx : ev e x = some .nilIface) [hi : IfaceT C.P T] (hdN : Nat.blt d C.N = true) (k : JO C R rest Q S M ((d, .bool true) :: e)) : JPure C R an ⟨some d, .binOp .eql T x (.const .nilIface) t', ty, pos, aft, g⟩ rest Q S M e :=
  JPure.of rfl hdN (fun a w' h => by
    simp only [execOp, h.eval hx, h.eval (show ev e (.const .nilIface) = some .nilIface from rfl), Sem.run_bind, eqGuard_nil_constR, Sem.run_pure, Result.andThen_ok, run_eql_nil_nil w' T hi.h]) k
theorem JPure.eqNilF {an : Bool} {T t' u : TypeId} {x : Operand} {v : Value} (hx : ev e x = some (.iface u v)) [hi : IfaceT C.P T] (hdN : Nat.blt d C.N = true) (k : JO C R rest Q S M ((d, .bool false) :: e)) : JPure C R an ⟨some d, .binOp .eql T x (.const .nilIface) t', ty, pos, aft, g⟩ rest Q S M e :=
  JPure.of rfl hdN (fun a w' h => by
    have hg : eqGuard .eql T x (.const .nilIface) (.iface u v) .nilIface = pure () := by rfl
    simp only [execOp, h.eval hx, h.eval (show ev e (.const .nilIface) = some .nilIface from rfl), Sem.run_bind, hg, Sem.run_pure, Result.andThen_ok, run_eql_held_nil w' T u v hi.h]) k
end
end Go.Dr
namespace Go.Dr
section
variable {C : Cx} {R : Rg} {Q : Post} {S : SHeap} {M : List MEnt} {e : Env} {rest : List Nat}
variable {d : Nat} {ty : TypeId} {pos : String} {aft : Array Edge} {g : Option (Nat × Bool)} {an : Bool}
theorem JPure.rem {t t' : TypeId} {x y : Operand} {a b : Int} (hx : ev e x = some (.int .i64 a)) (hy : ev e y = some (.int .i64 b)) (hb : b ≠ 0) (hdN : Nat.blt d C.N = true) (k : JO C R rest Q S M ((d, .int .i64 (a.tmod b)) :: e)) :
    JPure C R an ⟨some d, .binOp .rem t x y t', ty, pos, aft, g⟩ rest Q S M e :=
  JPure.of rfl hdN (fun a' w' h => by
    simp [execOp, h.eval hx, h.eval hy, eqGuard_rem, binOp_rem, Op.intDiv, hb, Sem.run_bind, Sem.run_pure, Result.andThen]) k
end
def bring (i n : Int) : Int := if i.tmod n < 0 then i.tmod n + n else i.tmod n
theorem tmod_rng (i : Int) {n : Int} (hn : 0 < n) : -n < i.tmod n ∧ i.tmod n < n := by
  have h1 := Int.tmod_lt_of_pos i hn
  have h2 := Int.tmod_lt_of_pos (-i) hn
  rw [Int.neg_tmod] at h2
  omega
theorem bring_rng (i : Int) {n : Int} (hn : 0 < n) : 0 ≤ bring i n ∧ bring i n < n := by
  have := tmod_rng i hn
  unfold bring
  split <;> omega
end Go.Dr
namespace Go.Dr
open Go.Proofs
set_option maxRecDepth 20000
set_option maxHeartbeats 2000000
set_option linter.unusedSimpArgs false
set_option linter.unusedVariables false
theorem r0_Bring {S : SHeap} (i n : Int) (h0 : 0 < n) (h1 : n ≤ 1000000) (hr : Rng i) : FnV Tryz.prog 47 #[.int .i64 i, .int .i64 n] S (.int .i64 (bring i n)) := by
  have hb := tmod_rng i h0
  (refine Fn.enter (args := [.int .i64 i, .int .i64 n]) Tryz.func47 rfl Tryz.ntmps47 rfl ?_; intro w0)
  repeat (first | (refine Walk ?_; intros) | refine JC.block ?_)
  refine JO.pure rfl rfl rfl (JPure.rem rfl rfl (by omega) rfl ?_)
  unfold bring
  generalize i.tmod n = m at *
  repeat (first | (refine Walk ?_; intros) | refine JC.block ?_)
  refine JC.cond rfl (fun hm => ?_) (fun hm => ?_)
  · have hm := of_decide_eq_true hm
    rw [if_pos hm]
    repeat (first | (refine Walk ?_; intros) | refine JC.block ?_)
    (refine JX.ret1 Tryz.results47 (ResV.tmp rfl) (List.nil_sublist _) ?_)
    exact ⟨rfl, rfl⟩
  · have hm := of_decide_eq_false hm
    rw [if_neg hm]
    repeat (first | (refine Walk ?_; intros) | refine JC.block ?_)
    (refine JX.ret1 Tryz.results47 (ResV.tmp rfl) (List.nil_sublist _) ?_)
    exact ⟨rfl, rfl⟩
def fitN (s : Snap) (l : List Int) (i : Nat) : Int := match l[i]? with | some x => bring x ((s.nodes.length : Int) + 1) - 1 | none => -1
def fitAt (s : Snap) (l : List Int) (i : Nat) : Int := if 0 ≤ fitN s l i ∧ lostAt s (fitN s l i) = true then -1 else fitN s l i
def fitK (s : Snap) (l : List Int) (k : Nat) : List Int := (List.range k).map (fitAt s l)
theorem fitK_step (s : Snap) (l : List Int) (k : Nat) : fitK s l (k + 1) = fitK s l k ++ [fitAt s l k] := by unfold fitK; rw [List.range_succ]; simp
theorem fitK_len (s : Snap) (l : List Int) (k : Nat) : (fitK s l k).length = k := by simp [fitK]
def fitV (s : Snap) (l : List Int) : List Int := fitK s l s.pods.length
theorem fitN_rng (s : Snap) (l : List Int) (i : Nat) : -1 ≤ fitN s l i ∧ fitN s l i < s.nodes.length := by
  unfold fitN
  split
  · rename_i x _
    have := bring_rng x (show (0 : Int) < (s.nodes.length : Int) + 1 by omega)
    omega
  · omega
end Go.Dr
namespace Go.Dr
section
variable {C : Cx} {Q : Post} {S : SHeap} {M : List MEnt} {e : Env}
theorem JC.thaw {x : Code} {b : Nat} {o : Obj} (h0 : C.S0 b = none) (hb : C.w0.heap.size ≤ b) (hS : S b = some o) (k : JC C x Q (S.del b) (.blk b o :: M) e) : JC C x Q S M e := ⟨fun a w hw => k.run a w ⟨hw.env, hw.defers, hw.wd.thaw h0 hb hS⟩⟩
theorem JC.out {x : Code} (k : (∀ m ∈ M, ∀ b, m.own = some b → S b = none) → JC C x Q S M e) : JC C x Q S M e := ⟨fun a w hw => (k fun m hm b hb => (hw.wd.out m hm b hb).1).run a w hw⟩
end
section
variable {C : Cx} {R : Rg} {Q : Post} {S : SHeap} {M : List MEnt} {e : Env} {rest : List Nat}
variable {ty : TypeId} {pos : String} {aft : Array Edge} {g : Option (Nat × Bool)}
theorem JEff.storeTo (c' : Array Value) {α : Type} {T t : TypeId} {x y : Operand} {b off : Nat} {c : Array Value} {v : Value} {rep : Rp α} {x0 : α} {Mr : List MEnt} (hx : ev e x = some (.pointer (some ⟨b, off, none⟩))) (hy : ev e y = some v)
    (hv : rep.V S v x0) (hn : rep.agg = false → ∀ cs, v ≠ .agg cs) [ht : TyR C.P T rep] (hM : (MEnt.blk b (.cells c t (0, 0)) :: Mr).Perm M) (hl : off + rep.sz ≤ c.size) (hT : ∀ l, R.T = some l → b ∈ l)
    (hc : (c.toList.take off ++ v.cells.toList ++ c.toList.drop (off + rep.sz)).toArray = c')
    (k : JO C R rest Q S (.blk b (.cells c' t (0, 0)) :: Mr) e) : JEff C R ⟨none, .store T x y, ty, pos, aft, g⟩ rest Q S M e := by
  refine JEff.store hx hy hv hn hM hl hT ?_
  rw [hc]; exact k
end
theorem none_le {S S' : SHeap} {b : Nat} (h : S.le S') (hb : S' b = none) : S b = none := by
  cases hs : S b with
  | none => rfl
  | some o => have := h b o hs; rw [hb] at this; cases this
theorem ne_none {S : SHeap} {b c : Nat} {o : Obj} (hb : S b = none) (hc : S c = some o) : c ≠ b := fun e => by rw [e, hb] at hc; cases hc
def rRaw3 : Rp (Value × Value × Value) := rSeq rVal (rSeq rVal rVal)
instance : Fld rRaw3 0 rVal (fun x => x.1) := ⟨Part.first⟩
instance : Fld rRaw3 1 rVal (fun x => x.2.1) := ⟨Part.next Part.first rfl⟩
instance : Fld rRaw3 2 rVal (fun x => x.2.2) := ⟨Part.next (Part.last rfl) rfl⟩
theorem V_raw3 {S : SHeap} {a1 a2 a3 : Option Addr} {n1 n2 n3 c1 c2 c3 : Nat} : rRaw3.V S (.agg #[.slice a1 n1 c1, .slice a2 n2 c2, .slice a3 n3 c3]) (.slice a1 n1 c1, .slice a2 n2 c2, .slice a3 n3 c3) :=
  ⟨[_, _, _], ⟨[_], [_, _], rfl, ⟨rfl, rfl⟩, [_], [_], rfl, ⟨rfl, rfl⟩, rfl, rfl⟩, rfl⟩
end Go.Dr
namespace Go.Dr
open Go.Proofs
set_option maxRecDepth 20000
set_option maxHeartbeats 2000000
set_option linter.unusedSimpArgs false
set_option linter.unusedVariables false
end Go.Dr
namespace Go.Dr
def findC (l : List Clause) (c : Clause) : Int := match l.find? (isC c.kind c.a c.b) with | some d => d.by_ | none => 0
def worseF (l : List Clause) (c : Clause) : Bool := decide (findC l c < c.by_)
def worseV (s : Snap) (p q : List Int) : List Clause × Int :=
  if ¬ checkP s p = 0 then ([], checkP s p) else if ¬ checkP s q = 0 then ([], checkP s q) else ((allL s q).filter (worseF (allL s p)), 0)
end Go.Dr
namespace Go.Dr
def noC : Clause := ⟨0, 0, 0, 0⟩
def cordonAt (s : Snap) (n : Int) : Bool := match s.nodes[n.toNat]? with | some x => x.cordon | none => false
def stepV (s : Snap) (p : List Int) (x : Step) : List Int × Clause × Int :=
  if ¬ (applyP s p x).2 = 0 then ([], noC, (applyP s p x).2)
  else if x.kind = 2 ∧ cordonAt s x.node = true then ([], noC, 100)
  else match (worseV s p (applyP s p x).1).1 with
    | c :: _ => ([], c, 100)
    | [] => ((applyP s p x).1, noC, 0)
def mayV (s : Snap) (p : List Int) (x : Step) : Bool := decide ((stepV s p x).2.2 = 0)
def waysV (s : Snap) (p : List Int) (pod : Int) : List Int := ((List.range s.nodes.length).filter (fun (n : Nat) => mayV s p ⟨2, pod, (n : Int)⟩)).map (fun (n : Nat) => (n : Int))
end Go.Dr
namespace Go.Dr
def ltC (c d : Clause) : Prop := c.kind < d.kind ∨ (c.kind = d.kind ∧ (c.a < d.a ∨ (c.a = d.a ∧ c.b < d.b)))
theorem pw_flat {f : Nat → List Clause} {R : Clause → Clause → Prop} : ∀ {n : Nat}, (∀ i, i < n → (f i).Pairwise R) → (∀ i j, i < j → j < n → ∀ x ∈ f i, ∀ y ∈ f j, R x y) → ((List.range n).flatMap f).Pairwise R
  | 0, _, _ => by simp
  | n + 1, h1, h2 => by
    rw [List.range_succ, List.flatMap_append]
    refine List.pairwise_append.2 ⟨pw_flat (fun i hi => h1 i (by omega)) (fun i j hij hj => h2 i j hij (by omega)), by simpa using h1 n (by omega), ?_⟩
    intro x hx y hy
    obtain ⟨i, hi, hxi⟩ := List.mem_flatMap.1 hx
    have hi : i < n := by simpa using hi
    exact h2 i n hi (by omega) x hxi y (by simpa using hy)
theorem mem_pods {s : Snap} {p : List Int} {kind : Int} {n : Nat} {c : Clause} (h : c ∈ podsTo s p kind n) : ∃ i, i < n ∧ c = ⟨kind, i, 0, (of8 s p kind i).1⟩ ∧ (of8 s p kind i).2 = true := by
  obtain ⟨i, hi, hc⟩ := List.mem_flatMap.1 h
  unfold podC1 at hc
  split at hc
  · rename_i h1
    exact ⟨i, by simpa using hi, by simpa using hc, h1⟩
  · simp at hc
theorem mem_caps {s : Snap} {p : List Int} {c : Clause} (h : c ∈ capsC s p) : ∃ n k, n < s.nodes.length ∧ k < 5 ∧ c = capN s p n k := by
  unfold capsC capTo at h
  simp only [List.range_zero, List.map_nil, List.append_nil] at h
  obtain ⟨n, hn, hc⟩ := List.mem_flatMap.1 h
  obtain ⟨k, hk, rfl⟩ := List.mem_map.1 hc
  exact ⟨n, k, by simpa using hn, by simpa using hk, rfl⟩
theorem mem_kinds {s : Snap} {p : List Int} {c : Clause} {j : Nat} (h : c ∈ kindsTo s p j) : ∃ t i, t < j ∧ i < p.length ∧ c = ⟨(t : Int) + 2, i, 0, (of8 s p ((t : Int) + 2) i).1⟩ ∧ (of8 s p ((t : Int) + 2) i).2 = true := by
  obtain ⟨t, ht, hc⟩ := List.mem_flatMap.1 h
  obtain ⟨i, hi, hc, h2⟩ := mem_pods hc
  exact ⟨t, i, by simpa using ht, hi, hc, h2⟩
theorem mem_spread {s : Snap} {p : List Int} {c : Clause} {n : Nat} (h : c ∈ spreadTo s p n) : ∃ o, o < n ∧ c = ⟨7, o, 0, skewV s p o⟩ ∧ topoOf s o ≠ noS := by
  obtain ⟨o, ho, hc⟩ := List.mem_flatMap.1 h
  unfold spreadC1 at hc
  split at hc
  · simp at hc
  · rename_i h1
    exact ⟨o, by simpa using ho, by simpa using hc, h1⟩
theorem mem_min {s : Snap} {p : List Int} {c : Clause} {n : Nat} (h : c ∈ minTo s p n) : ∃ o, o < n ∧ c = minC1 s p o := by
  obtain ⟨o, ho, hc⟩ := List.mem_map.1 h
  exact ⟨o, by simpa using ho, hc.symm⟩
theorem allC_order (s : Snap) (p : List Int) : (allC s p).Pairwise ltC := by
  have h1 : (capsC s p).Pairwise ltC := by
    unfold capsC capTo
    simp only [List.range_zero, List.map_nil, List.append_nil]
    refine pw_flat (fun n _ => ?_) (fun i j hij hj x hx y hy => ?_)
    · refine List.pairwise_map.2 (List.Pairwise.imp ?_ List.pairwise_lt_range)
      intro a b hab
      exact .inr ⟨rfl, .inr ⟨rfl, by show (a : Int) < b; omega⟩⟩
    · obtain ⟨a, _, rfl⟩ := List.mem_map.1 hx
      obtain ⟨b, _, rfl⟩ := List.mem_map.1 hy
      exact .inr ⟨rfl, .inl (by show (i : Int) < j; omega)⟩
  have h2 : (kindsTo s p 5).Pairwise ltC := by
    refine pw_flat (fun t _ => ?_) (fun i j hij hj x hx y hy => ?_)
    · refine pw_flat (fun i _ => ?_) (fun i j hij hj x hx y hy => ?_)
      · unfold podC1; split <;> simp
      · unfold podC1 at hx hy
        split at hx <;> split at hy <;> first | (simp at hx; done) | (simp at hy; done) | skip
        simp only [List.mem_singleton] at hx hy
        subst hx; subst hy
        exact .inr ⟨rfl, .inl (by show (i : Int) < j; omega)⟩
    · obtain ⟨a, _, rfl, _⟩ := mem_pods hx
      obtain ⟨b, _, rfl, _⟩ := mem_pods hy
      exact .inl (by show (i : Int) + 2 < (j : Int) + 2; omega)
  have h3 : (spreadTo s p s.owners.length).Pairwise ltC := by
    refine pw_flat (fun o _ => ?_) (fun i j hij hj x hx y hy => ?_)
    · unfold spreadC1; split <;> simp
    · unfold spreadC1 at hx hy
      split at hx <;> split at hy <;> first | (simp at hx; done) | (simp at hy; done) | skip
      simp only [List.mem_singleton] at hx hy
      subst hx; subst hy
      exact .inr ⟨rfl, .inl (by show (i : Int) < j; omega)⟩
  have h4 : (minTo s p s.owners.length).Pairwise ltC := by
    refine List.pairwise_map.2 (List.Pairwise.imp ?_ List.pairwise_lt_range)
    intro a b hab
    exact .inr ⟨rfl, .inl (by show (a : Int) < b; omega)⟩
  unfold allC
  refine List.pairwise_append.2 ⟨List.pairwise_append.2 ⟨List.pairwise_append.2 ⟨h1, h2, ?_⟩, h3, ?_⟩, h4, ?_⟩
  · intro x hx y hy
    obtain ⟨n, k, _, _, rfl⟩ := mem_caps hx
    obtain ⟨t, i, _, _, rfl, _⟩ := mem_kinds hy
    exact .inl (by show (1 : Int) < (t : Int) + 2; omega)
  · intro x hx y hy
    obtain ⟨o, _, rfl, _⟩ := mem_spread hy
    rcases List.mem_append.1 hx with hx | hx
    · obtain ⟨n, k, _, _, rfl⟩ := mem_caps hx
      exact .inl (by show (1 : Int) < 7; omega)
    · obtain ⟨t, i, _, _, rfl, _⟩ := mem_kinds hx
      exact .inl (by show (t : Int) + 2 < 7; omega)
  · intro x hx y hy
    obtain ⟨o, _, rfl⟩ := mem_min hy
    rcases List.mem_append.1 hx with hx | hx
    · rcases List.mem_append.1 hx with hx | hx
      · obtain ⟨n, k, _, _, rfl⟩ := mem_caps hx
        exact .inl (by show (1 : Int) < 8; omega)
      · obtain ⟨t, i, _, _, rfl, _⟩ := mem_kinds hx
        exact .inl (by show (t : Int) + 2 < 8; omega)
    · obtain ⟨o', _, rfl, _⟩ := mem_spread hx
      exact .inl (by show (7 : Int) < 8; omega)
theorem allL_order (s : Snap) (p : List Int) : (allL s p).Pairwise ltC := by
  unfold allL
  split
  · exact allC_order s p
  · exact .nil
def nameC (c : Clause) : Int × Int × Int := (c.kind, c.a, c.b)
theorem ltC_name {c d : Clause} (h : ltC c d) : nameC c ≠ nameC d := by
  intro e
  simp only [nameC, Prod.mk.injEq] at e
  unfold ltC at h
  omega
theorem allL_names (s : Snap) (p : List Int) : (allL s p).Pairwise (fun c d => nameC c ≠ nameC d) := (allL_order s p).imp ltC_name
theorem isC_name (c d : Clause) : isC c.kind c.a c.b d = decide (nameC d = nameC c) := by
  unfold isC nameC
  rw [Bool.eq_iff_iff]
  simp [and_assoc]
theorem find_self {l : List Clause} (h : l.Pairwise (fun c d => nameC c ≠ nameC d)) {c : Clause} (hc : c ∈ l) : l.find? (isC c.kind c.a c.b) = some c := by
  induction l with
  | nil => cases hc
  | cons x l ih =>
    obtain ⟨h1, h2⟩ := List.pairwise_cons.1 h
    rw [List.find?_cons, isC_name]
    rcases List.mem_cons.1 hc with rfl | hc
    · simp
    · have := h1 c hc
      rw [decide_eq_false this]
      exact ih h2 hc
end Go.Dr
