/- Part 5 of the rules and of the walks that the proofs of this seat rest on; no condition. -/
import Derived.Test.YthlkghfkcbpacaaGreatA03
import Derived.Shelf.Small.Bits
import Derived.Shelf.Sort.Plain
import Derived.Shelf.Slices.In.SortNone
set_option linter.unusedVariables false
set_option linter.unusedSimpArgs false
namespace Go.Dr
open Go.Proofs
set_option maxRecDepth 20000
set_option maxHeartbeats 2000000
set_option linter.unusedSimpArgs false
set_option linter.unusedVariables false
theorem node_name {S : SHeap} {v : Value} {x : Node} (h : rNode.V S v x) : x.name.size ≤ big := by
  obtain ⟨cs, h, _⟩ := h
  obtain ⟨c1, c2, _, ⟨_, h1⟩, _⟩ := h
  exact h1
theorem pod_name {S : SHeap} {v : Value} {x : Pod} (h : rPod.V S v x) : x.name.size ≤ big := by
  obtain ⟨cs, h, _⟩ := h
  obtain ⟨c1, c2, _, ⟨_, h1⟩, _⟩ := h
  exact h1
theorem owner_name {S : SHeap} {v : Value} {x : Owner} (h : rOwner.V S v x) : x.name.size ≤ big := by
  obtain ⟨cs, h, _⟩ := h
  obtain ⟨c1, c2, _, ⟨_, h1⟩, _⟩ := h
  exact h1
theorem p5_nodes1 {S : SHeap} {u : Value} {x : Node} (hu : rNode.V S u x) : FnV Tryz.prog 119 #[u] S (.string x.name) := by
  (refine Fn.enter (args := [u]) Tryz.func119 rfl Tryz.ntmps119 rfl ?_; intro w0)
  repeat (first | (refine Walk ?_; intros) | refine JC.block ?_ | (refine WBox ?_; intros))
  (refine JX.ret1 Tryz.results119 (ResV.tmp rfl) (List.nil_sublist _) ?_)
  exact ⟨rfl, rfl⟩
theorem p5_pods1 {S : SHeap} {u : Value} {x : Pod} (hu : rPod.V S u x) : FnV Tryz.prog 121 #[u] S (.string x.name) := by
  (refine Fn.enter (args := [u]) Tryz.func121 rfl Tryz.ntmps121 rfl ?_; intro w0)
  repeat (first | (refine Walk ?_; intros) | refine JC.block ?_ | (refine WBox ?_; intros))
  (refine JX.ret1 Tryz.results121 (ResV.tmp rfl) (List.nil_sublist _) ?_)
  exact ⟨rfl, rfl⟩
theorem p5_owners1 {S : SHeap} {u : Value} {x : Owner} (hu : rOwner.V S u x) : FnV Tryz.prog 123 #[u] S (.string x.name) := by
  (refine Fn.enter (args := [u]) Tryz.func123 rfl Tryz.ntmps123 rfl ?_; intro w0)
  repeat (first | (refine Walk ?_; intros) | refine JC.block ?_ | (refine WBox ?_; intros))
  (refine JX.ret1 Tryz.results123 (ResV.tmp rfl) (List.nil_sublist _) ?_)
  exact ⟨rfl, rfl⟩
theorem p5_nodes {S : SHeap} {u : Value} {s : Snap} (hu : rSnap.V S u s) (hn : s.nodes.length ≤ 1000000) : FnL Tryz.prog 75 #[u] S 16 rStr (nNames s) := by
  (refine Fn.enter (args := [u]) Tryz.func75 rfl Tryz.ntmps75 rfl ?_; intro w0)
  repeat (first | (refine Walk ?_; intros) | refine JC.block ?_ | (refine WBox ?_; intros))
  (refine JO.eff rfl rfl rfl (JEff.callR rfl (p5_each_NS (l := s.nodes) Node.name hn (by exact vta) inferInstance (fun S v x h => V_str.2 ⟨rfl, node_name h⟩) (fun S' h u x hx => p5_nodes1 hx)) rfl ?_); intro w S2 hl2 hV)
  repeat (first | (refine Walk ?_; intros) | refine JC.block ?_ | (refine WBox ?_; intros))
  (refine JX.ret1 Tryz.results75 (ResV.tmp rfl) (List.nil_sublist _) ?_)
  exact ⟨rfl, hV⟩
theorem p5_pods {S : SHeap} {u : Value} {s : Snap} (hu : rSnap.V S u s) (hn : s.pods.length ≤ 1000000) : FnL Tryz.prog 76 #[u] S 16 rStr (pNames s) := by
  (refine Fn.enter (args := [u]) Tryz.func76 rfl Tryz.ntmps76 rfl ?_; intro w0)
  repeat (first | (refine Walk ?_; intros) | refine JC.block ?_ | (refine WBox ?_; intros))
  (refine JO.eff rfl rfl rfl (JEff.callR rfl (p5_each_PS (l := s.pods) Pod.name hn (by exact vta) inferInstance (fun S v x h => V_str.2 ⟨rfl, pod_name h⟩) (fun S' h u x hx => p5_pods1 hx)) rfl ?_); intro w S2 hl2 hV)
  repeat (first | (refine Walk ?_; intros) | refine JC.block ?_ | (refine WBox ?_; intros))
  (refine JX.ret1 Tryz.results76 (ResV.tmp rfl) (List.nil_sublist _) ?_)
  exact ⟨rfl, hV⟩
theorem p5_owners {S : SHeap} {u : Value} {s : Snap} (hu : rSnap.V S u s) (hn : s.owners.length ≤ 1000000) : FnL Tryz.prog 77 #[u] S 16 rStr (oNames s) := by
  (refine Fn.enter (args := [u]) Tryz.func77 rfl Tryz.ntmps77 rfl ?_; intro w0)
  repeat (first | (refine Walk ?_; intros) | refine JC.block ?_ | (refine WBox ?_; intros))
  (refine JO.eff rfl rfl rfl (JEff.callR rfl (p5_each_OS (l := s.owners) Owner.name hn (by exact vta) inferInstance (fun S v x h => V_str.2 ⟨rfl, owner_name h⟩) (fun S' h u x hx => p5_owners1 hx)) rfl ?_); intro w S2 hl2 hV)
  repeat (first | (refine Walk ?_; intros) | refine JC.block ?_ | (refine WBox ?_; intros))
  (refine JX.ret1 Tryz.results77 (ResV.tmp rfl) (List.nil_sublist _) ?_)
  exact ⟨rfl, hV⟩
theorem p_Index_string {S : SHeap} {u : Value} {l : List ByteArray} (name : ByteArray) (hu : (rSlice 16 rStr).V S u l) : FnV Tryz.prog 180 #[u, .string name] S (.int .i64 (idxS l name)) := by
  obtain ⟨a, c, rfl, _, _, hb, _⟩ := V_slice.1 hu
  unfold big at hb
  (refine Fn.enter (args := [.slice a l.length c, .string name]) Tryz.func180 rfl Tryz.ntmps180 rfl ?_; intro w0)
  repeat (first | (refine Walk ?_; intros) | refine JC.block ?_)
  refine JC.loopF0 [(0, _), (1, _), (7, _)] (fun (k : Nat) => [(8, .int .i64 k)]) (fun Sk k => k ≤ l.length ∧ (l.findIdx? (fun x => decide (x = name)) = ((l.drop k).findIdx? (fun x => decide (x = name))).map (· + k))) (fun k => l.length - k) 0 (by exact sba) (by exact sba) ⟨Nat.zero_le _, by simp⟩ ?_; intro Sk k hlk hik; obtain ⟨hk, hik⟩ := hik; (try dsimp only at hk hik); dsimp only [List.cons_append, List.nil_append]
  repeat (first | (refine Walk ?_; intros) | refine JC.block ?_)
  refine JC.cond rfl (fun hc => ?_) (fun hc => ?_)
  · have hk' := dlt hc
    obtain ⟨x, hx, hd⟩ := drop_at hk'
    repeat (first | (refine Walk ?_; intros) | refine JC.block ?_)
    refine JC.cond rfl (fun h1 => ?_) (fun h1 => ?_)
    · have h1 : decide (x = name) = true := by have := of_decide_eq_true h1; simp [this]
      repeat (first | (refine Walk ?_; intros) | refine JC.block ?_)
      (refine JX.ret1 Tryz.results180 (ResV.tmp rfl) (List.nil_sublist _) ?_)
      exact ⟨rfl, by rw [idxS, idx_hit hd h1 hik]⟩
    · have h1 : decide (x = name) = false := by have := of_decide_eq_false h1; simp; exact fun h => this h.symm
      repeat (first | (refine Walk ?_; intros) | refine JC.block ?_)
      exact JX.roundF (k + 1) (by exact lea) ⟨by omega, (idx_step hd h1 hik)⟩ (by (try dsimp only); omega) rfl (by exact sba) (by exact sba)
  · have hk' := dnlt hc
    repeat (first | (refine Walk ?_; intros) | refine JC.block ?_)
    (refine JX.ret1 Tryz.results180 (ResV.tmp rfl) (List.nil_sublist _) ?_)
    exact ⟨rfl, by rw [idxS, idx_miss (List.drop_eq_nil_of_le hk') hik]⟩
theorem p5_Node {S : SHeap} {u : Value} {s : Snap} (name : ByteArray) (hu : rSnap.V S u s) (hn : s.nodes.length ≤ 1000000) : FnV Tryz.prog 129 #[u, .string name] S (.int .i64 (idxS (nNames s) name)) := by
  (refine Fn.enter (args := [u, .string name]) Tryz.func129 rfl Tryz.ntmps129 rfl ?_; intro w0)
  repeat (first | (refine Walk ?_; intros) | refine JC.block ?_ | (refine JO.eff rfl rfl rfl (JEff.callL rfl (p5_nodes (by exact vta) (by omega)) rfl ?_); intro _ _ _ _ _ _) | (refine JO.eff rfl rfl rfl (JEff.callV rfl (p_Index_string _ (by exact vta)) rfl ?_); intro _ _) | (refine WBox ?_; intros))
  (refine JX.ret1 Tryz.results129 (ResV.tmp rfl) (List.nil_sublist _) ?_)
  exact ⟨rfl, rfl⟩
theorem p5_Owner {S : SHeap} {u : Value} {s : Snap} (name : ByteArray) (hu : rSnap.V S u s) (hn : s.owners.length ≤ 1000000) : FnV Tryz.prog 130 #[u, .string name] S (.int .i64 (idxS (oNames s) name)) := by
  (refine Fn.enter (args := [u, .string name]) Tryz.func130 rfl Tryz.ntmps130 rfl ?_; intro w0)
  repeat (first | (refine Walk ?_; intros) | refine JC.block ?_ | (refine JO.eff rfl rfl rfl (JEff.callL rfl (p5_owners (by exact vta) (by omega)) rfl ?_); intro _ _ _ _ _ _) | (refine JO.eff rfl rfl rfl (JEff.callV rfl (p_Index_string _ (by exact vta)) rfl ?_); intro _ _) | (refine WBox ?_; intros))
  (refine JX.ret1 Tryz.results130 (ResV.tmp rfl) (List.nil_sublist _) ?_)
  exact ⟨rfl, rfl⟩
theorem p_isNaN {S : SHeap} (a : ByteArray) : FnV Tryz.prog 233 #[.string a] S (.bool false) := by
  (refine Fn.enter (args := [.string a]) Tryz.func233 rfl Tryz.ntmps233 rfl ?_; intro w0)
  repeat (first | (refine Walk ?_; intros) | refine JC.block ?_)
  (refine JX.ret1 Tryz.results233 (ResV.tmp rfl) (List.nil_sublist _) ?_)
  exact ⟨rfl, by simp⟩
theorem p_Less {S : SHeap} (a b : ByteArray) : FnV Tryz.prog 184 #[.string a, .string b] S (.bool (ltS a b)) := by
  (refine Fn.enter (args := [.string a, .string b]) Tryz.func184 rfl Tryz.ntmps184 rfl ?_; intro w0)
  repeat (first | (refine Walk ?_; intros) | refine JC.block ?_ | (refine JO.eff rfl rfl rfl (JEff.callV rfl (p_isNaN _) rfl ?_); intro _ _))
  (refine JX.ret1 Tryz.results184 (ResV.tmp rfl) (List.nil_sublist _) ?_)
  exact ⟨rfl, rfl⟩
theorem s115_L5q {P K : Prop} (k : K) (h : Goal K → P := by
  intro zk
  (first | refine Walk ?_ | refine JC.block ?_ | refine JC.drawN 4 rfl [0, 1, 2, 3, 4, 5, 6, 7, 8, 9] [0, 1, 2, 3, 4, 5, 6, 7, 8] Tryz_mixed (by decide +kernel) ?_ | (refine JO.eff rfl rfl rfl (JEff.callV rfl (p_Less _ _) rfl ?_); intro zqa zqb))
  (repeat (first | revert zqg | revert zqf | revert zqe | revert zqd | revert zqc | revert zqb | revert zqa))
  exact zk.k) : P := h ⟨k⟩
theorem p_IsSorted {S : SHeap} {u : Value} {l : List ByteArray} (hu : (rSlice 16 rStr).V S u l) : FnV Tryz.prog 115 #[u] S (.bool (sortedB l)) := by
  obtain ⟨a, c, rfl, _, _, hb, _⟩ := V_slice.1 hu
  unfold big at hb
  (refine Fn.enter (args := [.slice a l.length c]) Tryz.func115 rfl Tryz.ntmps115 rfl ?_; intro w0)
  repeat (refine s115_L5q ?_; intros)
  refine JC.loopF0 (σ := Int) [(0, _)] (fun i => [(3, .int .i64 i)]) (fun Si i => -1 ≤ i ∧ i ≤ (l.length : Int) - 1 ∧ ∀ (j : Nat) (x y : ByteArray), i ≤ j → l[j]? = some x → l[j + 1]? = some y → (!ltS y x) = true) (fun i => i.toNat) ((l.length : Int) - 1) (by exact sba) (by exact sba) (⟨by omega, Int.le_refl _, fun j x y hj _ hy => by have := (List.getElem?_eq_some_iff.1 hy).1; omega⟩) ?_; rintro Si i hli hii; (try dsimp only at hii); dsimp only [List.cons_append, List.nil_append]
  obtain ⟨h1, h2, h3⟩ := hii
  repeat (refine s115_L5q ?_; intros)
  refine JC.cond rfl (fun hc => ?_) (fun hc => ?_)
  · have hc := of_decide_eq_true hc
    obtain ⟨m, rfl⟩ : ∃ m : Nat, i = (m : Int) + 1 := ⟨(i - 1).toNat, by omega⟩
    obtain ⟨y, hy⟩ : ∃ y, l[((m : Int) + 1).toNat]? = some y := ⟨_, List.getElem?_eq_getElem (by omega)⟩
    obtain ⟨x, hx⟩ : ∃ x, l[((m : Int) + 1 - 1).toNat]? = some x := ⟨_, List.getElem?_eq_getElem (by omega)⟩
    have hy' : l[m + 1]? = some y := by rw [← hy]; congr 1
    have hx' : l[m]? = some x := by rw [← hx]; congr 1; omega
    repeat (refine s115_L5q ?_; intros)
    refine JC.cond rfl (fun hlt => ?_) (fun hlt => ?_)
    · repeat (refine s115_L5q ?_; intros)
      (refine JX.ret1 Tryz.results115 (ResV.tmp rfl) (List.nil_sublist _) ?_)
      refine ⟨rfl, ?_⟩
      congr 1
      cases hs : sortedB l with
      | false => rfl
      | true => have := adj_iff.1 hs m x y hx' hy'; rw [hlt] at this; cases this
    · repeat (refine s115_L5q ?_; intros)
      have h4 : ∀ (j : Nat) (x' y' : ByteArray), (m : Int) + 1 - 1 ≤ j → l[j]? = some x' → l[j + 1]? = some y' → (!ltS y' x') = true := by
        intro j x' y' hj hx2 hy2
        rcases Nat.eq_or_lt_of_le (show m ≤ j by omega) with rfl | h
        · rw [hx'] at hx2; rw [hy'] at hy2; cases hx2; cases hy2; rw [hlt]; rfl
        · exact h3 j x' y' (by omega) hx2 hy2
      exact JX.roundF ((m : Int) + 1 - 1) (by exact lea) (⟨by omega, by omega, h4⟩) (by (try dsimp only); omega) rfl (by exact sba) (by exact sba)
  · have hc := of_decide_eq_false hc
    repeat (refine s115_L5q ?_; intros)
    (refine JX.ret1 Tryz.results115 (ResV.tmp rfl) (List.nil_sublist _) ?_)
    refine ⟨rfl, ?_⟩
    congr 1
    exact (adj_iff.2 (fun j x y hx hy => h3 j x y (by omega) hx hy)).symm
theorem p_Clone_string {S : SHeap} {u : Value} {l : List ByteArray} (hu : (rSlice 16 rStr).V S u l) : FnRow Tryz.prog 117 #[u] S 9 rStr l := by
  have hu0 := hu
  obtain ⟨a, c, rfl, _, hb16, hb, _⟩ := V_slice.1 hu
  unfold big at hb16 hb
  (refine FnRow.enter (args := [.slice a l.length c]) Tryz.func117 rfl Tryz.ntmps117 rfl ?_; intro w0)
  repeat (first | (refine Walk ?_; intros) | refine JC.block ?_)
  refine JO.pure rfl rfl rfl (JPure.eqNil rfl rfl rfl ?_)
  repeat (first | (refine Walk ?_; intros) | refine JC.block ?_)
  refine JC.cond rfl (fun hn => ?_) (fun hn => ?_)
  · have ha : a = none := by simpa using hn
    subst ha
    have hl : l = [] := nil_slice hu0
    subst hl
    repeat (first | (refine Walk ?_; intros) | refine JC.block ?_)
    (first | refine JC.newRow 9 (Rp.sz rStr) ?_ | refine JO.newRow 9 (Rp.sz rStr) ?_ | refine JX.newRow 9 (Rp.sz rStr) ?_)
    exact JX.retRow (vs := []) Tryz.results117 (ResV.tmp rfl) rfl trivial
  · repeat (first | (refine Walk ?_; intros) | refine JC.block ?_)
    refine JO.eff rfl rfl rfl (JEff.build0 rStr rfl ?_); intro b0
    repeat (first | (refine Walk ?_; intros) | refine JC.block ?_)
    (refine JO.eff rfl rfl rfl (JEff.appendS (rep := rStr) rfl rfl (hu0.mono (by exact lea)) rfl rfl (List.Perm.refl _) (by unfold big; omega) (by unfold big; omega) (by intro l hl; cases hl) rfl ?_); intro a2 c2 us1 hus1)
    repeat (first | (refine Walk ?_; intros) | refine JC.block ?_)
    exact JX.retRow Tryz.results117 (ResV.tmp rfl) (Nat.zero_add _) hus1
end Go.Dr
namespace Go.Dr
open Go.Proofs
set_option maxRecDepth 20000
set_option maxHeartbeats 2000000
set_option linter.unusedSimpArgs false
set_option linter.unusedVariables false
def uniqTo (l : List ByteArray) (k : Nat) : Prop := ∀ (j : Nat) (x y : ByteArray), j + 1 < k → l[j]? = some x → l[j + 1]? = some y → ¬ y = x
theorem s116_L5w {P K : Prop} (k : K) (h : Goal K → P := by
  intro zk
  (first | refine Walk ?_ | refine JC.block ?_ | refine JC.drawN 6 rfl [0, 1, 2, 3, 4, 5, 6, 7, 8, 9] [0, 1, 2, 3, 4, 5, 6, 7, 8, 9] Tryz_mixed (by decide +kernel) ?_ | refine JC.drawN 11 rfl [0, 1, 2, 3, 4, 5, 6, 7, 8, 9] [0, 1, 2, 3, 4, 5, 6, 7, 8, 9] Tryz_mixed (by decide +kernel) ?_)
  (repeat (first | revert zqg | revert zqf | revert zqe | revert zqd | revert zqc | revert zqb | revert zqa))
  exact zk.k) : P := h ⟨k⟩
theorem p_Compact {S : SHeap} {base n c : Nat} {vs : List Value} {xs : List ByteArray} {a : Option Addr} (hv : allV rStr S vs xs) (hn : n = xs.length) (hb : n ≤ 1000000) (hc : n ≤ c) :
    Fn Tryz.prog 116 #[.slice a n c] S [.row base 9 1 (.slice a n c) n (flatCells vs)] (fun w S' M' => M' = [] ∧ ∃ a' m c', w = .slice a' m c' ∧ decide (m = n) = uniqB xs) := by
  (refine Fn.enter (args := [.slice a n c]) Tryz.func116 rfl Tryz.ntmps116 rfl ?_; intro w0)
  repeat (refine s116_L5w ?_; intros)
  refine JC.cond rfl (fun h2 => ?_) (fun h2 => ?_)
  · have h2 : n < 2 := by have := of_decide_eq_true h2; omega
    have hu : uniqB xs = true := by
      match xs, hn with
      | [], _ => rfl
      | [x], _ => rfl
      | x :: y :: l, hn => simp at hn; omega
    repeat (refine s116_L5w ?_; intros)
    refine JX.ret1 Tryz.results116 (ResV.tmp rfl) (List.nil_sublist _) ?_
    exact ⟨rfl, _, _, _, rfl, by rw [hu]; simp⟩
  have h2 : 2 ≤ n := by have := of_decide_eq_false h2; omega
  repeat (refine s116_L5w ?_; intros)
  refine JC.rowBlkB (by omega) (fun b tl hab hnc hsz => ?_)
  subst hab
  refine JC.loopF [(0, _)] (fun (k : Nat) => [(3, .int .i64 ((k : Int) + 1))]) (fun k => [.blk b (.cells (cellsR vs tl) 9 (0, 0))]) (fun Sk k => k ≤ n - 1 ∧ (uniqTo xs (k + 1))) (fun k => n - 1 - k) 0 (by exact sba) (by exact sba) rfl ⟨Nat.zero_le _, by intro j x y hj; omega⟩ ?_; intro Sk k hlk hik; obtain ⟨hk, hik⟩ := hik; (try dsimp only at hk hik); dsimp only [List.cons_append, List.nil_append]
  repeat (refine s116_L5w ?_; intros)
  refine JC.cond rfl (fun hc0 => ?_) (fun hc0 => ?_)
  · have hk' : k + 1 < n := by have := of_decide_eq_true hc0; omega
    obtain ⟨y, hy⟩ : ∃ y, xs[k + 1]? = some y := ⟨_, List.getElem?_eq_getElem (by omega)⟩
    obtain ⟨x, hx⟩ : ∃ x, xs[k]? = some x := ⟨_, List.getElem?_eq_getElem (by omega)⟩
    repeat (refine s116_L5w ?_; intros)
    refine JO.pure rfl rfl rfl (JPure.indexRR rStr rfl rfl rfl (by omega) (by omega) ?_)
    refine JO.pure rfl rfl rfl (JPure.loadRT (j := k + 1) rfl (by show 0 + ((k : Int) + 1).toNat * 1 = k + 1; omega) (by (first | exact List.mem_cons_self | exact List.mem_cons_of_mem _ List.mem_cons_self | exact List.mem_cons_of_mem _ (List.mem_cons_of_mem _ List.mem_cons_self))) (hv.mono (by exact lea)) hy (.inl rfl) rfl ?_); intro hys
    repeat (refine s116_L5w ?_; intros)
    refine JO.pure rfl rfl rfl (JPure.indexRR rStr rfl rfl rfl (by omega) (by omega) ?_)
    refine JO.pure rfl rfl rfl (JPure.loadRT (j := k) rfl (by show 0 + ((k : Int) + 1 - 1).toNat * 1 = k; omega) (by (first | exact List.mem_cons_self | exact List.mem_cons_of_mem _ List.mem_cons_self | exact List.mem_cons_of_mem _ (List.mem_cons_of_mem _ List.mem_cons_self))) (hv.mono (by exact lea)) hx (.inl rfl) rfl ?_); intro hxs
    repeat (refine s116_L5w ?_; intros)
    refine JC.cond rfl (fun heq => ?_) (fun heq => ?_)
    · have heq : y = x := of_decide_eq_true heq
      have hu : uniqB xs = false := by
        cases hh : uniqB xs with
        | false => rfl
        | true =>
          have := adj_iff.1 hh k x y hx hy
          simp [heq] at this
      repeat (refine s116_L5w ?_; intros)
      refine JO.pure rfl rfl rfl (JPure.sliceBlk rStr rfl rfl rfl rfl (by omega) (by omega) (Int.le_refl _) hnc (by omega) ?_)
      rw [show ((n : Int)).toNat - ((k : Int) + 1).toNat = n - (k + 1) by omega, show ((k : Int) + 1).toNat = k + 1 by omega]
      repeat (refine s116_L5w ?_; intros)
      refine JC.loopF (σ := Nat × Nat × List Value × List ByteArray) [(0, _), (4, _)] (fun q => [(3, .int .i64 q.1), (5, .int .i64 q.2.1)]) (fun q => [.blk b (.cells (cellsR q.2.2.1 tl) 9 (0, 0))]) (fun Sj q => 1 ≤ q.2.1 ∧ k + 1 + q.2.1 ≤ n ∧ k + 1 ≤ q.1 ∧ q.1 + 1 ≤ k + 1 + q.2.1 ∧ allV rStr Sj q.2.2.1 q.2.2.2 ∧ q.2.2.2.length = n) (fun q => n - q.2.1) ((k + 1, 1, vs, xs)) (by exact sba) (by exact sba) rfl (⟨Nat.le_refl _, by dsimp only; omega, Nat.le_refl _, Nat.le_refl _, hv.mono (by exact lea), hn.symm⟩) ?_; rintro Sj ⟨kk, k2, vs', xs'⟩ hlj hij; (try dsimp only at hij); dsimp only [List.cons_append, List.nil_append]
      obtain ⟨g1, g2, g3, g4, hv', hl'⟩ := hij
      repeat (refine s116_L5w ?_; intros)
      refine JC.cond rfl (fun hc1 => ?_) (fun hc1 => ?_)
      · have hlt : k2 < n - (k + 1) := by have := of_decide_eq_true hc1; omega
        obtain ⟨y2, hy2⟩ : ∃ y2, xs'[k + 1 + k2]? = some y2 := ⟨_, List.getElem?_eq_getElem (by omega)⟩
        obtain ⟨x2, hx2⟩ : ∃ x2, xs'[k + 1 + k2 - 1]? = some x2 := ⟨_, List.getElem?_eq_getElem (by omega)⟩
        repeat (refine s116_L5w ?_; intros)
        refine JO.pure rfl rfl rfl (JPure.indexRR rStr rfl rfl rfl (by omega) (by omega) ?_)
        refine JO.pure rfl rfl rfl (JPure.loadRT (j := k + 1 + k2) rfl (by show 0 + (k + 1) * 1 + ((k2 : Int)).toNat * 1 = k + 1 + k2; omega) (by (first | exact List.mem_cons_self | exact List.mem_cons_of_mem _ List.mem_cons_self | exact List.mem_cons_of_mem _ (List.mem_cons_of_mem _ List.mem_cons_self))) (hv'.mono (by exact lea)) hy2 (.inl rfl) rfl ?_); intro hys2
        repeat (refine s116_L5w ?_; intros)
        refine JO.pure rfl rfl rfl (JPure.indexRR rStr rfl rfl rfl (by omega) (by omega) ?_)
        refine JO.pure rfl rfl rfl (JPure.loadRT (j := k + 1 + k2 - 1) rfl (by show 0 + (k + 1) * 1 + ((k2 : Int) - 1).toNat * 1 = k + 1 + k2 - 1; omega) (by (first | exact List.mem_cons_self | exact List.mem_cons_of_mem _ List.mem_cons_self | exact List.mem_cons_of_mem _ (List.mem_cons_of_mem _ List.mem_cons_self))) (hv'.mono (by exact lea)) hx2 (.inl rfl) rfl ?_); intro hxs2
        repeat (refine s116_L5w ?_; intros)
        refine JC.cond rfl (fun hne => ?_) (fun hne => ?_)
        · repeat (refine s116_L5w ?_; intros)
          refine JO.pure rfl rfl rfl (JPure.indexRR rStr rfl rfl rfl (by omega) (by omega) ?_)
          refine JO.pure rfl rfl rfl (JPure.loadRT (j := k + 1 + k2) rfl (by show 0 + (k + 1) * 1 + ((k2 : Int)).toNat * 1 = k + 1 + k2; omega) (by (first | exact List.mem_cons_self | exact List.mem_cons_of_mem _ List.mem_cons_self | exact List.mem_cons_of_mem _ (List.mem_cons_of_mem _ List.mem_cons_self))) (hv'.mono (by exact lea)) hy2 (.inl rfl) rfl ?_); intro hys3
          repeat (refine s116_L5w ?_; intros)
          refine JO.pure rfl rfl rfl (JPure.indexRR rStr rfl rfl rfl (by omega) (by omega) ?_)
          refine JO.eff rfl rfl rfl (JEff.storeRO (i := kk) rfl (by show 0 + ((kk : Int)).toNat * 1 = kk * 1; omega) rfl (hv'.mono (by exact lea)) (V_str.2 ⟨rfl, hys2⟩) nna (List.Perm.refl _) (by omega) (by intro l hl; cases hl) ?_); intro hv''
          repeat (refine s116_L5w ?_; intros)
          exact JX.roundF (kk + 1, k2 + 1, _, _) (by exact lea) ⟨by dsimp only; omega, by dsimp only; omega, by dsimp only; omega, by dsimp only; omega, hv''.mono (by exact lea), by (try dsimp only); rw [List.length_set]; exact hl'⟩ (by (try dsimp only); omega) rfl (by exact sba) (by exact sba)
        · repeat (refine s116_L5w ?_; intros)
          exact JX.roundF (kk, k2 + 1, vs', xs') (by exact lea) ⟨by dsimp only; omega, by dsimp only; omega, by dsimp only; omega, by dsimp only; omega, hv'.mono (by exact lea), hl'⟩ (by (try dsimp only); omega) rfl (by exact sba) (by exact sba)
      · repeat (refine s116_L5w ?_; intros)
        refine JO.pure rfl rfl rfl (JPure.sliceBlk rStr rfl rfl rfl rfl (by omega) (by omega) (Int.le_refl _) hnc (by omega) ?_)
        refine JO.eff rfl rfl rfl (JEff.clear rfl rfl rfl (by omega) (List.Perm.refl _) (by rw [show (cellsR vs' tl).size = (cellsR vs tl).size by unfold cellsR; simp; have e1 := flat_len (n := 1) (vs := vs') (fun v h => (hv'.size v h).1); have e2 := flat_len (n := 1) (vs := vs) (fun v h => (hv.size v h).1); have e3 := hv'.length; have e4 := hv.length; omega, hsz]; show 0 + ((kk : Int)).toNat * 1 + _ ≤ _; omega) (by intro l hl; cases hl) ?_); intro cur'
        repeat (refine s116_L5w ?_; intros)
        refine JO.pure rfl rfl rfl (JPure.sliceBlk rStr rfl rfl rfl rfl (by omega) (by omega) (by omega) hnc (by omega) ?_)
        repeat (refine s116_L5w ?_; intros)
        refine JX.ret1 Tryz.results116 (ResV.tmp rfl) (List.nil_sublist _) ?_
        exact ⟨rfl, _, _, _, rfl, by rw [hu]; simp; omega⟩
    · have heq : ¬ y = x := of_decide_eq_false heq
      have hnext : uniqTo xs (k + 1 + 1) := by
        intro j x' y' hj hx2 hy2
        rcases Nat.eq_or_lt_of_le (show j ≤ k by omega) with rfl | h
        · rw [hx] at hx2; rw [hy] at hy2; cases hx2; cases hy2; exact heq
        · exact hik j x' y' (by omega) hx2 hy2
      repeat (refine s116_L5w ?_; intros)
      exact JX.roundF (k + 1) (by exact lea) ⟨by omega, (hnext)⟩ (by (try dsimp only); omega) rfl (by exact sba) (by exact sba)
  · have hk' : n ≤ k + 1 := by have := of_decide_eq_false hc0; omega
    have hu : uniqB xs = true := adj_iff.2 (fun j x y hx hy => by
      have h := hik j x y (by have := (List.getElem?_eq_some_iff.1 hy).1; omega) hx hy
      simpa using h)
    repeat (refine s116_L5w ?_; intros)
    refine JX.ret1 Tryz.results116 (ResV.tmp rfl) (List.nil_sublist _) ?_
    exact ⟨rfl, _, _, _, rfl, by rw [hu]; simp⟩
end Go.Dr
namespace Go.Dr
open Go.Proofs
set_option maxRecDepth 20000
set_option maxHeartbeats 2000000
set_option linter.unusedSimpArgs false
set_option linter.unusedVariables false
theorem p5_rise1 {S : SHeap} (s : ByteArray) (hs : s.size ≤ big) : FnV Tryz.prog 113 #[.string s] S (.bool (!nameB s)) := by
  (refine Fn.enter (args := [.string s]) Tryz.func113 rfl Tryz.ntmps113 rfl ?_; intro w0)
  repeat (first | (refine Walk ?_; intros) | refine JC.block ?_ | (refine JO.eff rfl rfl rfl (JEff.callV rfl (p3_Name _ (by assumption)) rfl ?_); intro _ _))
  (refine JX.ret1 Tryz.results113 (ResV.tmp rfl) (List.nil_sublist _) ?_)
  exact ⟨rfl, rfl⟩
theorem s74_L5x {P K : Prop} (k : K) (h : Goal K → P := by
  intro zk
  (first | refine Walk ?_ | refine JC.block ?_ | (refine JO.eff rfl rfl rfl (JEff.callV rfl (p_IsSorted (by exact vta)) rfl ?_); intro zqa zqb) | (refine JO.eff rfl rfl rfl (JEff.callRow rfl (p_Clone_string (by exact vta)) rfl ?_); intro zqa zqb zqc zqd zqe zqf))
  (repeat (first | revert zqg | revert zqf | revert zqe | revert zqd | revert zqc | revert zqb | revert zqa))
  exact zk.k) : P := h ⟨k⟩
theorem p5_rise {S : SHeap} {u : Value} {l : List ByteArray} (hu : (rSlice 16 rStr).V S u l) (hb : l.length ≤ 1000000) : FnV Tryz.prog 74 #[u] S (.bool (riseN none l)) := by
  obtain ⟨a, c, rfl, _, _, _, _⟩ := V_slice.1 hu
  rw [rise_eq]
  (refine Fn.enter (args := [.slice a l.length c]) Tryz.func74 rfl Tryz.ntmps74 rfl ?_; intro w0)
  repeat (refine s74_L5x ?_; intros)
  (refine JO.eff rfl rfl rfl (JEff.callV rfl ((p_ContainsFunc_string (fun s => !nameB s) (by exact vta) inferInstance (fun S' h u x hx => by obtain ⟨rfl, hs⟩ := V_str.1 hx; exact p5_rise1 x hs))) rfl ?_); intro _ _)
  repeat (refine s74_L5x ?_; intros)
  have hany : (l.any fun s => !nameB s) = !l.all nameB := by
    rw [← List.not_all_eq_any_not]
  rw [hany]
  refine JO.guard rfl rfl rfl rfl (fun h1 => ?_) (fun h1 => ?_)
  · have h1 : l.all nameB = true := by simpa using h1
    repeat (refine s74_L5x ?_; intros)
    refine JO.guard rfl rfl rfl rfl (fun h2 => ?_) (fun h2 => ?_)
    · repeat (refine s74_L5x ?_; intros)
      rename_i a2 c2 S2 vs2 hl2 hv2
      refine JO.rowCap (fun hcap => ?_)
      refine JO.eff rfl rfl rfl (JEff.fn (Mc := [_]) (Mr := []) (sem_call rfl _ _ _ _ _) rfl rfl rfl (List.Perm.refl _) (by intro l hl; cases hl) (p_Compact hv2 rfl hb hcap) ?_); rintro v S' M' hl ⟨rfl, a', m, c', rfl, hm⟩
      repeat (refine s74_L5x ?_; intros)
      (refine JX.ret1 Tryz.results74 (ResV.tmp rfl) (List.nil_sublist _) ?_)
      refine ⟨rfl, ?_⟩
      rw [h1, h2, Bool.true_and, Bool.true_and, ← hm]
      congr 1
      rw [Bool.eq_iff_iff]; simp; omega
    · repeat (refine s74_L5x ?_; intros)
      (refine JX.ret1 Tryz.results74 (ResV.tmp rfl) (List.nil_sublist _) ?_)
      exact ⟨rfl, by rw [h1, h2]; rfl⟩
  · have h1 : l.all nameB = false := by simpa using h1
    repeat (refine s74_L5x ?_; intros)
    (refine JX.ret1 Tryz.results74 (ResV.tmp rfl) (List.nil_sublist _) ?_)
    exact ⟨rfl, by rw [h1]; rfl⟩
theorem p5_many {S : SHeap} {u : Value} {s : Snap} (hu : rSnap.V S u s) : FnV Tryz.prog 73 #[u] S (.bool (manyB s)) := by
  (refine Fn.enter (args := [u]) Tryz.func73 rfl Tryz.ntmps73 rfl ?_; intro w0)
  repeat' (first | (refine Walk ?_; intros) | refine JC.block ?_ | (refine WBox ?_; intros) | (refine JO.guard rfl rfl rfl rfl ?_ ?_ <;> intro _) | (refine JC.cond rfl ?_ ?_ <;> intro _))
  all_goals ((refine JX.ret1 Tryz.results73 (ResV.tmp rfl) (List.nil_sublist _) ?_); refine ⟨rfl, ?_⟩; (first | ((simp only [manyB, *, Bool.and_true, Bool.true_and, Bool.false_and, Bool.and_false, Bool.or_true, Bool.true_or, Bool.false_or, Bool.or_false, Bool.not_true, Bool.not_false]) <;> rfl) | (simp only [manyB, *, Bool.and_true, Bool.true_and, Bool.false_and, Bool.and_false, Bool.or_true, Bool.true_or, Bool.false_or, Bool.or_false, Bool.not_true, Bool.not_false]; done) | (simp [manyB, *]; done) | (simp_all [manyB]; done) | (simp_all [manyB]; intros; omega) | (simp_all [manyB]; omega)))
theorem s86_L5x {P K : Prop} (k : K) (h : Goal K → P := by
  intro zk
  (first | refine Walk ?_ | refine JC.block ?_ | refine JC.drawN 2 rfl [0, 1, 2, 3, 4, 5, 6, 7, 8, 9, 10, 11, 12, 13, 14, 15, 16, 17, 18, 19, 20, 21, 22, 23, 24, 25, 26, 27, 28, 29, 30, 32, 33, 35, 36, 38, 39, 31, 34, 37, 40, 41, 42, 43, 44, 45, 46, 47, 48, 49, 50, 51, 52, 53, 54] [0, 1, 2, 3, 4, 5, 6, 8, 9, 10, 11, 12, 13, 14, 15, 16, 17, 18, 19, 20, 21, 22, 23, 24, 25, 26, 27, 28, 29, 30, 43, 44, 45, 46, 48, 49, 50, 51, 53, 54] Tryz_mixed (by decide +kernel) ?_ | (refine JO.eff rfl rfl rfl (JEff.callV rfl (p5_fine (by exact vta)) rfl ?_); intro zqa zqb) | (refine JO.eff rfl rfl rfl (JEff.callV rfl (p2_Check (by exact vta)) rfl ?_); intro zqa zqb) | (refine JO.eff rfl rfl rfl (JEff.callV rfl (p3_Check (by exact vta)) rfl ?_); intro zqa zqb) | (refine JO.eff rfl rfl rfl (JEff.callV rfl (p5_Node _ (by exact vta) (by omega)) rfl ?_); intro zqa zqb) | (refine JO.eff rfl rfl rfl (JEff.callV rfl (p5_Owner _ (by exact vta) (by omega)) rfl ?_); intro zqa zqb) | (refine JO.eff rfl rfl rfl (JEff.callV rfl (p3_CheckTerms (by exact vta)) rfl ?_); intro zqa zqb) | (refine JO.eff rfl rfl rfl (JEff.callV rfl (p3_CheckBears (by exact vta)) rfl ?_); intro zqa zqb) | (refine JO.eff rfl rfl rfl (JEff.callV rfl (p5_near (by exact vta)) rfl ?_); intro zqa zqb) | (refine WBox ?_))
  (repeat (first | revert zqg | revert zqf | revert zqe | revert zqd | revert zqc | revert zqb | revert zqa))
  exact zk.k) : P := h ⟨k⟩
theorem p5_pod {S : SHeap} {u v : Value} {s : Snap} {p : Pod} (hu : rSnap.V S u s) (hv : rPod.V S v p) (hn : s.nodes.length ≤ 1000000) (ho : s.owners.length ≤ 1000000) : FnV Tryz.prog 86 #[u, v] S (.bool (podB s p)) := by
  have hlt : idxS (nNames s) p.on < s.nodes.length := by rw [nNames, idxS_map]; exact idxF_lt _ _
  have hge : -1 ≤ idxS (nNames s) p.on := by rw [nNames, idxS_map]; exact idxF_ge _ _
  have hpb : podB s p = ((decide (p.owner = noS) || decide (0 ≤ idxS (oNames s) p.owner)) && (decide (p.on = noS) || (decide (0 ≤ idxS (nNames s) p.on) && !lostAt s (idxS (nNames s) p.on))) &&
    [checkV p.req, checkL false p.labels, checkT p.wher, checkL true p.bears].all z0 && nearB p.with_ && nearB p.apart) := by simp [podB, Bool.and_assoc]
  rw [hpb]
  clear hpb
  generalize hI : idxS (nNames s) p.on = I at *
  generalize hJ : idxS (oNames s) p.owner = J at *
  generalize hX : [checkV p.req, checkL false p.labels, checkT p.wher, checkL true p.bears].all z0 = X at *
  (refine Fn.enter (args := [u, v]) Tryz.func86 rfl Tryz.ntmps86 rfl ?_; intro w0)
  cases o1 : decide (p.owner = noS) with
  | true =>
    repeat (refine s86_L5x ?_; intros)
    rw [hI]
    repeat (refine s86_L5x ?_; intros)
    refine JO.guard rfl rfl rfl rfl (fun _ => ?_) (fun g => Bool.noConfusion (g.symm.trans o1))
    rw [Bool.true_or, Bool.true_and]
    repeat (refine s86_L5x ?_; intros)
    cases n1 : decide (p.on = noS) with
    | true =>
      refine JO.guard rfl rfl rfl rfl (fun _ => ?_) (fun g => Bool.noConfusion (g.symm.trans n1))
      rw [Bool.true_or, Bool.true_and]
      repeat (refine s86_L5x ?_; intros)
      refine JO.eff rfl rfl rfl (JEff.buildS (bt := 8) (rep := rI64) (ys := [checkV p.req, checkL false p.labels, checkT p.wher, checkL true p.bears]) rfl rfl (⟨⟨V_i64.2 ⟨rfl, checkV_rng _⟩, nna⟩, ⟨V_i64.2 ⟨rfl, checkL_rng _ _⟩, nna⟩, ⟨V_i64.2 ⟨rfl, checkT_rng _⟩, nna⟩, ⟨V_i64.2 ⟨rfl, checkL_rng _ _⟩, nna⟩, trivial⟩) rfl rfl rfl (by decide) rfl ?_); intro S3 sa l3 hs
      repeat (refine s86_L5x ?_; intros)
      rw [hX]
      cases x1 : X with
      | true =>
        rw [Bool.true_and]
        repeat (refine s86_L5x ?_; intros)
        cases w1 : nearB p.with_ with
        | true =>
          refine JO.guard rfl rfl rfl rfl (fun _ => ?_) (fun g => Bool.noConfusion (g.symm.trans rfl))
          repeat (refine s86_L5x ?_; intros)
          (refine JX.ret1 Tryz.results86 (ResV.tmp rfl) (List.nil_sublist _) ?_)
          exact ⟨rfl, rfl⟩
        | false =>
          refine JO.guard rfl rfl rfl rfl (fun g => Bool.noConfusion (g.symm.trans rfl)) (fun _ => ?_)
          repeat (refine s86_L5x ?_; intros)
          (refine JX.ret1 Tryz.results86 (ResV.tmp rfl) (List.nil_sublist _) ?_)
          exact ⟨rfl, rfl⟩
      | false =>
        repeat (refine s86_L5x ?_; intros)
        (refine JX.ret1 Tryz.results86 (ResV.tmp rfl) (List.nil_sublist _) ?_)
        exact ⟨rfl, rfl⟩
    | false =>
      refine JO.guard rfl rfl rfl rfl (fun g => Bool.noConfusion (g.symm.trans n1)) (fun _ => ?_)
      repeat (refine s86_L5x ?_; intros)
      cases n2 : decide (0 ≤ I) with
      | true =>
        refine JO.guard rfl rfl rfl rfl (fun _ => ?_) (fun g => Bool.noConfusion (g.symm.trans rfl))
        obtain ⟨nd, hnd, _⟩ := drop_at (l := s.nodes) (show I.toNat < s.nodes.length by have := of_decide_eq_true n2; omega)
        have h0 : 0 ≤ I := of_decide_eq_true n2
        have hlo : lostAt s I = nd.lost := by simp [lostAt, hnd]
        rw [hlo]
        repeat (refine s86_L5x ?_; intros)
        cases lo : nd.lost with
        | true =>
          refine JO.guard rfl rfl rfl rfl (fun g => Bool.noConfusion (g.symm.trans rfl)) (fun _ => ?_)
          repeat (refine s86_L5x ?_; intros)
          (refine JX.ret1 Tryz.results86 (ResV.tmp rfl) (List.nil_sublist _) ?_)
          exact ⟨rfl, rfl⟩
        | false =>
          refine JO.guard rfl rfl rfl rfl (fun _ => ?_) (fun g => Bool.noConfusion (g.symm.trans rfl))
          rw [show (false || (true && !false)) = true from rfl, Bool.true_and]
          repeat (refine s86_L5x ?_; intros)
          refine JO.eff rfl rfl rfl (JEff.buildS (bt := 8) (rep := rI64) (ys := [checkV p.req, checkL false p.labels, checkT p.wher, checkL true p.bears]) rfl rfl (⟨⟨V_i64.2 ⟨rfl, checkV_rng _⟩, nna⟩, ⟨V_i64.2 ⟨rfl, checkL_rng _ _⟩, nna⟩, ⟨V_i64.2 ⟨rfl, checkT_rng _⟩, nna⟩, ⟨V_i64.2 ⟨rfl, checkL_rng _ _⟩, nna⟩, trivial⟩) rfl rfl rfl (by decide) rfl ?_); intro S3 sa l3 hs
          repeat (refine s86_L5x ?_; intros)
          rw [hX]
          cases x1 : X with
          | true =>
            rw [Bool.true_and]
            repeat (refine s86_L5x ?_; intros)
            cases w1 : nearB p.with_ with
            | true =>
              refine JO.guard rfl rfl rfl rfl (fun _ => ?_) (fun g => Bool.noConfusion (g.symm.trans rfl))
              repeat (refine s86_L5x ?_; intros)
              (refine JX.ret1 Tryz.results86 (ResV.tmp rfl) (List.nil_sublist _) ?_)
              exact ⟨rfl, rfl⟩
            | false =>
              refine JO.guard rfl rfl rfl rfl (fun g => Bool.noConfusion (g.symm.trans rfl)) (fun _ => ?_)
              repeat (refine s86_L5x ?_; intros)
              (refine JX.ret1 Tryz.results86 (ResV.tmp rfl) (List.nil_sublist _) ?_)
              exact ⟨rfl, rfl⟩
          | false =>
            repeat (refine s86_L5x ?_; intros)
            (refine JX.ret1 Tryz.results86 (ResV.tmp rfl) (List.nil_sublist _) ?_)
            exact ⟨rfl, rfl⟩
      | false =>
        refine JO.guard rfl rfl rfl rfl (fun g => Bool.noConfusion (g.symm.trans rfl)) (fun _ => ?_)
        repeat (refine s86_L5x ?_; intros)
        (refine JX.ret1 Tryz.results86 (ResV.tmp rfl) (List.nil_sublist _) ?_)
        exact ⟨rfl, rfl⟩
  | false =>
    cases o2 : decide (0 ≤ J) with
    | true =>
      repeat (refine s86_L5x ?_; intros)
      rw [hI]
      repeat (refine s86_L5x ?_; intros)
      refine JO.guard rfl rfl rfl rfl (fun g => Bool.noConfusion (g.symm.trans o1)) (fun _ => ?_)
      repeat (refine s86_L5x ?_; intros)
      rw [hJ]
      repeat (refine s86_L5x ?_; intros)
      refine JO.guard rfl rfl rfl rfl (fun _ => ?_) (fun g => Bool.noConfusion (g.symm.trans o2))
      rw [Bool.or_true, Bool.true_and]
      repeat (refine s86_L5x ?_; intros)
      cases n1 : decide (p.on = noS) with
      | true =>
        refine JO.guard rfl rfl rfl rfl (fun _ => ?_) (fun g => Bool.noConfusion (g.symm.trans n1))
        rw [Bool.true_or, Bool.true_and]
        repeat (refine s86_L5x ?_; intros)
        refine JO.eff rfl rfl rfl (JEff.buildS (bt := 8) (rep := rI64) (ys := [checkV p.req, checkL false p.labels, checkT p.wher, checkL true p.bears]) rfl rfl (⟨⟨V_i64.2 ⟨rfl, checkV_rng _⟩, nna⟩, ⟨V_i64.2 ⟨rfl, checkL_rng _ _⟩, nna⟩, ⟨V_i64.2 ⟨rfl, checkT_rng _⟩, nna⟩, ⟨V_i64.2 ⟨rfl, checkL_rng _ _⟩, nna⟩, trivial⟩) rfl rfl rfl (by decide) rfl ?_); intro S3 sa l3 hs
        repeat (refine s86_L5x ?_; intros)
        rw [hX]
        cases x1 : X with
        | true =>
          rw [Bool.true_and]
          repeat (refine s86_L5x ?_; intros)
          cases w1 : nearB p.with_ with
          | true =>
            refine JO.guard rfl rfl rfl rfl (fun _ => ?_) (fun g => Bool.noConfusion (g.symm.trans rfl))
            repeat (refine s86_L5x ?_; intros)
            (refine JX.ret1 Tryz.results86 (ResV.tmp rfl) (List.nil_sublist _) ?_)
            exact ⟨rfl, rfl⟩
          | false =>
            refine JO.guard rfl rfl rfl rfl (fun g => Bool.noConfusion (g.symm.trans rfl)) (fun _ => ?_)
            repeat (refine s86_L5x ?_; intros)
            (refine JX.ret1 Tryz.results86 (ResV.tmp rfl) (List.nil_sublist _) ?_)
            exact ⟨rfl, rfl⟩
        | false =>
          repeat (refine s86_L5x ?_; intros)
          (refine JX.ret1 Tryz.results86 (ResV.tmp rfl) (List.nil_sublist _) ?_)
          exact ⟨rfl, rfl⟩
      | false =>
        refine JO.guard rfl rfl rfl rfl (fun g => Bool.noConfusion (g.symm.trans n1)) (fun _ => ?_)
        repeat (refine s86_L5x ?_; intros)
        cases n2 : decide (0 ≤ I) with
        | true =>
          refine JO.guard rfl rfl rfl rfl (fun _ => ?_) (fun g => Bool.noConfusion (g.symm.trans rfl))
          obtain ⟨nd, hnd, _⟩ := drop_at (l := s.nodes) (show I.toNat < s.nodes.length by have := of_decide_eq_true n2; omega)
          have h0 : 0 ≤ I := of_decide_eq_true n2
          have hlo : lostAt s I = nd.lost := by simp [lostAt, hnd]
          rw [hlo]
          repeat (refine s86_L5x ?_; intros)
          cases lo : nd.lost with
          | true =>
            refine JO.guard rfl rfl rfl rfl (fun g => Bool.noConfusion (g.symm.trans rfl)) (fun _ => ?_)
            repeat (refine s86_L5x ?_; intros)
            (refine JX.ret1 Tryz.results86 (ResV.tmp rfl) (List.nil_sublist _) ?_)
            exact ⟨rfl, rfl⟩
          | false =>
            refine JO.guard rfl rfl rfl rfl (fun _ => ?_) (fun g => Bool.noConfusion (g.symm.trans rfl))
            rw [show (false || (true && !false)) = true from rfl, Bool.true_and]
            repeat (refine s86_L5x ?_; intros)
            refine JO.eff rfl rfl rfl (JEff.buildS (bt := 8) (rep := rI64) (ys := [checkV p.req, checkL false p.labels, checkT p.wher, checkL true p.bears]) rfl rfl (⟨⟨V_i64.2 ⟨rfl, checkV_rng _⟩, nna⟩, ⟨V_i64.2 ⟨rfl, checkL_rng _ _⟩, nna⟩, ⟨V_i64.2 ⟨rfl, checkT_rng _⟩, nna⟩, ⟨V_i64.2 ⟨rfl, checkL_rng _ _⟩, nna⟩, trivial⟩) rfl rfl rfl (by decide) rfl ?_); intro S3 sa l3 hs
            repeat (refine s86_L5x ?_; intros)
            rw [hX]
            cases x1 : X with
            | true =>
              rw [Bool.true_and]
              repeat (refine s86_L5x ?_; intros)
              cases w1 : nearB p.with_ with
              | true =>
                refine JO.guard rfl rfl rfl rfl (fun _ => ?_) (fun g => Bool.noConfusion (g.symm.trans rfl))
                repeat (refine s86_L5x ?_; intros)
                (refine JX.ret1 Tryz.results86 (ResV.tmp rfl) (List.nil_sublist _) ?_)
                exact ⟨rfl, rfl⟩
              | false =>
                refine JO.guard rfl rfl rfl rfl (fun g => Bool.noConfusion (g.symm.trans rfl)) (fun _ => ?_)
                repeat (refine s86_L5x ?_; intros)
                (refine JX.ret1 Tryz.results86 (ResV.tmp rfl) (List.nil_sublist _) ?_)
                exact ⟨rfl, rfl⟩
            | false =>
              repeat (refine s86_L5x ?_; intros)
              (refine JX.ret1 Tryz.results86 (ResV.tmp rfl) (List.nil_sublist _) ?_)
              exact ⟨rfl, rfl⟩
        | false =>
          refine JO.guard rfl rfl rfl rfl (fun g => Bool.noConfusion (g.symm.trans rfl)) (fun _ => ?_)
          repeat (refine s86_L5x ?_; intros)
          (refine JX.ret1 Tryz.results86 (ResV.tmp rfl) (List.nil_sublist _) ?_)
          exact ⟨rfl, rfl⟩
    | false =>
      repeat (refine s86_L5x ?_; intros)
      rw [hI]
      repeat (refine s86_L5x ?_; intros)
      refine JO.guard rfl rfl rfl rfl (fun g => Bool.noConfusion (g.symm.trans o1)) (fun _ => ?_)
      repeat (refine s86_L5x ?_; intros)
      rw [hJ]
      repeat (refine s86_L5x ?_; intros)
      refine JO.guard rfl rfl rfl rfl (fun g => Bool.noConfusion (g.symm.trans o2)) (fun _ => ?_)
      repeat (refine s86_L5x ?_; intros)
      (refine JX.ret1 Tryz.results86 (ResV.tmp rfl) (List.nil_sublist _) ?_)
      exact ⟨rfl, rfl⟩
end Go.Dr
namespace Go.Dr
open Go.Proofs
set_option maxRecDepth 20000
set_option maxHeartbeats 2000000
set_option linter.unusedSimpArgs false
set_option linter.unusedVariables false
theorem many_small {s : Snap} (h : manyB s = false) : s.nodes.length ≤ 8 ∧ s.pods.length ≤ 24 ∧ s.owners.length ≤ 8 := by
  simp only [manyB, Bool.or_eq_false_iff, decide_eq_false_iff_not] at h; omega
theorem any_not {α : Type} (p : α → Bool) : ∀ l : List α, (l.any fun x => !p x) = !l.all p
  | [] => rfl
  | x :: l => by rw [List.any_cons, List.all_cons, any_not p l]; cases p x <;> simp
theorem node_cap {S : SHeap} {v : Value} {x : Node} (h : rNode.V S v x) : (rArr 5).V S (.agg (ints x.cap)) x.cap := by
  obtain ⟨cs, h, _⟩ := h
  obtain ⟨c1, c2, _, _, ⟨d1, d2, _, h1, _⟩⟩ := h
  exact V_arr.2 ⟨rfl, h1.1, h1.2.2⟩
theorem pod_req {S : SHeap} {v : Value} {x : Pod} (h : rPod.V S v x) : (rArr 5).V S (.agg (ints x.req)) x.req := by
  obtain ⟨cs, h, _⟩ := h
  obtain ⟨c1, c2, _, _, ⟨d1, d2, _, _, ⟨e1, e2, _, h1, _⟩⟩⟩ := h
  exact V_arr.2 ⟨rfl, h1.1, h1.2.2⟩
theorem plusV_rng2 (l : List (List Int)) : Rng (plusV l).2 := by
  unfold plusV
  split
  · rename_i i _
    rcases (addQ_rng (l.map (fun v => at0 v i))).2 with h | h | h <;> (show Rng (addQ _).2) <;> rw [h] <;> unfold Rng <;> omega
  · show Rng 0
    unfold Rng; omega
theorem p5_Check1 {S : SHeap} {u : Value} {x : Node} (hu : rNode.V S u x) : FnV Tryz.prog 79 #[u] S (.bool (!nodeB x)) := by
  (refine Fn.enter (args := [u]) Tryz.func79 rfl Tryz.ntmps79 rfl ?_; intro w0)
  repeat (first | (refine Walk ?_; intros) | refine JC.block ?_ | (refine JO.eff rfl rfl rfl (JEff.callV rfl (p5_node (by exact vta)) rfl ?_); intro _ _) | (refine WBox ?_; intros))
  (refine JX.ret1 Tryz.results79 (ResV.tmp rfl) (List.nil_sublist _) ?_)
  exact ⟨rfl, rfl⟩
theorem p5_Check2 {S : SHeap} {u : Value} {x : Owner} (hu : rOwner.V S u x) : FnV Tryz.prog 82 #[u] S (.bool (!ownerB x)) := by
  (refine Fn.enter (args := [u]) Tryz.func82 rfl Tryz.ntmps82 rfl ?_; intro w0)
  repeat (first | (refine Walk ?_; intros) | refine JC.block ?_ | (refine JO.eff rfl rfl rfl (JEff.callV rfl (p5_owner (by exact vta)) rfl ?_); intro _ _) | (refine WBox ?_; intros))
  (refine JX.ret1 Tryz.results82 (ResV.tmp rfl) (List.nil_sublist _) ?_)
  exact ⟨rfl, rfl⟩
theorem p5_Check3 {S : SHeap} {u : Value} {x : Pod} {s : Snap} {q : Addr} (hu : rPod.V S u x) (hq : PtrTo S q rSnap s) (hn : s.nodes.length ≤ 1000000) (ho : s.owners.length ≤ 1000000) : FnV Tryz.prog 85 #[u, .pointer (some q)] S (.bool (!podB s x)) := by
  (refine Fn.enter (args := [u, .pointer (some q)]) Tryz.func85 rfl Tryz.ntmps85 rfl ?_; intro w0)
  repeat (first | (refine Walk ?_; intros) | refine JC.block ?_ | (refine JO.eff rfl rfl rfl (JEff.callV rfl (p5_pod (by exact vta) (by exact vta) (by assumption) (by assumption)) rfl ?_); intro _ _) | (refine WBox ?_; intros))
  (refine JX.ret1 Tryz.results85 (ResV.tmp rfl) (List.nil_sublist _) ?_)
  exact ⟨rfl, rfl⟩
theorem p5_Check4 {S : SHeap} {u : Value} {x : Node} (hu : rNode.V S u x) : FnV Tryz.prog 89 #[u] S (.agg (ints x.cap)) := by
  (refine Fn.enter (args := [u]) Tryz.func89 rfl Tryz.ntmps89 rfl ?_; intro w0)
  repeat (first | (refine Walk ?_; intros) | refine JC.block ?_ | (refine WBox ?_; intros))
  (refine JO.eff rfl rfl rfl (JEff.alloc rfl ?_); intro b2 hb2)
  repeat (first | (refine Walk ?_; intros) | refine JC.block ?_ | (refine WBox ?_; intros))
  obtain ⟨rfl, h5, hr5⟩ := V_arr.1 ‹(rArr 5).V _ _ x.cap›
  refine JO.eff rfl rfl rfl (JEff.storeA (n := 5) (xs := [0, 0, 0, 0, 0]) rfl rfl h5 hr5 (List.Perm.refl _) rfl (by intro l hl; cases hl) ?_)
  repeat (first | (refine Walk ?_; intros) | refine JC.block ?_ | (refine WBox ?_; intros))
  refine JX.ret1 Tryz.results89 (ResV.cellA (n := 5) rfl (by (first | exact List.mem_cons_self | exact List.mem_cons_of_mem _ List.mem_cons_self | exact List.mem_cons_of_mem _ (List.mem_cons_of_mem _ List.mem_cons_self))) h5) (List.nil_sublist _) ?_
  exact ⟨rfl, rfl⟩
theorem p5_Check5 {S : SHeap} {u : Value} {x : Pod} (hu : rPod.V S u x) : FnV Tryz.prog 91 #[u] S (.agg (ints x.req)) := by
  (refine Fn.enter (args := [u]) Tryz.func91 rfl Tryz.ntmps91 rfl ?_; intro w0)
  repeat (first | (refine Walk ?_; intros) | refine JC.block ?_ | (refine WBox ?_; intros))
  (refine JO.eff rfl rfl rfl (JEff.alloc rfl ?_); intro b2 hb2)
  repeat (first | (refine Walk ?_; intros) | refine JC.block ?_ | (refine WBox ?_; intros))
  obtain ⟨rfl, h5, hr5⟩ := V_arr.1 ‹(rArr 5).V _ _ x.req›
  refine JO.eff rfl rfl rfl (JEff.storeA (n := 5) (xs := [0, 0, 0, 0, 0]) rfl rfl h5 hr5 (List.Perm.refl _) rfl (by intro l hl; cases hl) ?_)
  repeat (first | (refine Walk ?_; intros) | refine JC.block ?_ | (refine WBox ?_; intros))
  refine JX.ret1 Tryz.results91 (ResV.cellA (n := 5) rfl (by (first | exact List.mem_cons_self | exact List.mem_cons_of_mem _ List.mem_cons_self | exact List.mem_cons_of_mem _ (List.mem_cons_of_mem _ List.mem_cons_self))) h5) (List.nil_sublist _) ?_
  exact ⟨rfl, rfl⟩
theorem s50_L5y {P K : Prop} (k : K) (h : Goal K → P := by
  intro zk
  (first | refine Walk ?_ | refine JC.block ?_ | (refine JO.eff rfl rfl rfl (JEff.callV rfl (p5_many (by exact vta)) rfl ?_); intro zqa zqb) | (refine JO.eff rfl rfl rfl (JEff.callV rfl (p5_rise (by exact vta) (by first | omega | (simp [nNames, pNames, oNames]; omega))) rfl ?_); intro zqa zqb) | (refine JO.eff rfl rfl rfl (JEff.callL rfl (p5_nodes (by exact vta) (by omega)) rfl ?_); intro zqa zqb zqc zqd zqe zqf) | (refine JO.eff rfl rfl rfl (JEff.callL rfl (p5_pods (by exact vta) (by omega)) rfl ?_); intro zqa zqb zqc zqd zqe zqf) | (refine JO.eff rfl rfl rfl (JEff.callL rfl (p5_owners (by exact vta) (by omega)) rfl ?_); intro zqa zqb zqc zqd zqe zqf) | (refine JO.eff rfl rfl rfl (JEff.callV rfl (p2_Plus (by exact vta)) rfl ?_); intro zqa zqb) | (refine JO.eff rfl rfl rfl (JEff.callV rfl (p5_fine (by exact vta)) rfl ?_); intro zqa zqb) | (refine WBox ?_) | (refine WNew ?_) | (refine WPut ?_))
  (repeat (first | revert zqg | revert zqf | revert zqe | revert zqd | revert zqc | revert zqb | revert zqa))
  exact zk.k) : P := h ⟨k⟩
theorem p5_Check {S : SHeap} {u : Value} {s : Snap} (hu : rSnap.V S u s) : FnV Tryz.prog 50 #[u] S (.int .i64 (checkS s)) := by
  (refine Fn.enter (args := [u]) Tryz.func50 rfl Tryz.ntmps50 rfl ?_; intro w0)
  repeat (refine s50_L5y ?_; intros)
  cases m1 : manyB s with
  | true =>
    refine JO.guard rfl rfl rfl rfl (fun _ => ?_) (fun g => Bool.noConfusion (g.symm.trans rfl))
    repeat (refine s50_L5y ?_; intros)
    (refine JX.ret1 Tryz.results50 (ResV.tmp rfl) (List.nil_sublist _) ?_)
    exact ⟨rfl, by rw [checkS, shapedB, m1]; rfl⟩
  | false =>
    obtain ⟨hn, hpn, ho⟩ := many_small m1
    refine JO.guard rfl rfl rfl rfl (fun g => Bool.noConfusion (g.symm.trans rfl)) (fun _ => ?_)
    repeat (refine s50_L5y ?_; intros)
    cases r1 : riseN none (nNames s) with
    | false =>
      refine JO.guard rfl rfl rfl rfl (fun _ => ?_) (fun g => Bool.noConfusion (g.symm.trans rfl))
      repeat (refine s50_L5y ?_; intros)
      (refine JX.ret1 Tryz.results50 (ResV.tmp rfl) (List.nil_sublist _) ?_)
      exact ⟨rfl, by rw [checkS, shapedB, m1, r1]; rfl⟩
    | true =>
      refine JO.guard rfl rfl rfl rfl (fun g => Bool.noConfusion (g.symm.trans rfl)) (fun _ => ?_)
      repeat (refine s50_L5y ?_; intros)
      cases r2 : riseN none (pNames s) with
      | false =>
        refine JO.guard rfl rfl rfl rfl (fun _ => ?_) (fun g => Bool.noConfusion (g.symm.trans rfl))
        repeat (refine s50_L5y ?_; intros)
        (refine JX.ret1 Tryz.results50 (ResV.tmp rfl) (List.nil_sublist _) ?_)
        exact ⟨rfl, by rw [checkS, shapedB, m1, r1, r2]; rfl⟩
      | true =>
        refine JO.guard rfl rfl rfl rfl (fun g => Bool.noConfusion (g.symm.trans rfl)) (fun _ => ?_)
        repeat (refine s50_L5y ?_; intros)
        cases r3 : riseN none (oNames s) with
        | false =>
          repeat (refine s50_L5y ?_; intros)
          (refine JX.ret1 Tryz.results50 (ResV.tmp rfl) (List.nil_sublist _) ?_)
          exact ⟨rfl, by rw [checkS, shapedB, m1, r1, r2, r3]; rfl⟩
        | true =>
          repeat (refine s50_L5y ?_; intros)
          (refine JO.eff rfl rfl rfl (JEff.callV rfl ((p_ContainsFunc_Node (fun x => !nodeB x) (by exact vta) inferInstance (fun S' h u x hx => p5_Check1 hx))) rfl ?_); intro _ _)
          rw [any_not]
          repeat (refine s50_L5y ?_; intros)
          cases a1 : s.nodes.all nodeB with
          | false =>
            refine JO.guard rfl rfl rfl rfl (fun _ => ?_) (fun g => Bool.noConfusion (g.symm.trans rfl))
            repeat (refine s50_L5y ?_; intros)
            (refine JX.ret1 Tryz.results50 (ResV.tmp rfl) (List.nil_sublist _) ?_)
            exact ⟨rfl, by rw [checkS, shapedB, m1, r1, r2, r3, a1]; rfl⟩
          | true =>
            refine JO.guard rfl rfl rfl rfl (fun g => Bool.noConfusion (g.symm.trans rfl)) (fun _ => ?_)
            repeat (refine s50_L5y ?_; intros)
            (refine JO.eff rfl rfl rfl (JEff.callV rfl ((p_ContainsFunc_Owner (fun x => !ownerB x) (by exact vta) inferInstance (fun S' h u x hx => p5_Check2 hx))) rfl ?_); intro _ _)
            rw [any_not]
            repeat (refine s50_L5y ?_; intros)
            cases a2 : s.owners.all ownerB with
            | false =>
              refine JO.guard rfl rfl rfl rfl (fun _ => ?_) (fun g => Bool.noConfusion (g.symm.trans rfl))
              repeat (refine s50_L5y ?_; intros)
              (refine JX.ret1 Tryz.results50 (ResV.tmp rfl) (List.nil_sublist _) ?_)
              exact ⟨rfl, by rw [checkS, shapedB, m1, r1, r2, r3, a1, a2, Bool.and_false]; rfl⟩
            | true =>
              refine JO.guard rfl rfl rfl rfl (fun g => Bool.noConfusion (g.symm.trans rfl)) (fun _ => ?_)
              repeat (refine s50_L5y ?_; intros)
              (refine JO.eff rfl rfl rfl (JEff.callV rfl ((p_ContainsFunc_Pod (fs := #[]) (cs := #[.pointer (some _)]) (fun x => !podB s x) (by exact vta) inferInstance (fun S' h u x hx => p5_Check3 hx (PtrTo.mono (by assumption) (by exact lea)) (by omega) (by omega)))) rfl ?_); intro _ _)
              rw [any_not]
              repeat (refine s50_L5y ?_; intros)
              cases a3 : s.pods.all (podB s) with
              | false =>
                repeat (refine s50_L5y ?_; intros)
                (refine JX.ret1 Tryz.results50 (ResV.tmp rfl) (List.nil_sublist _) ?_)
                exact ⟨rfl, by rw [checkS, shapedB, m1, r1, r2, r3, a1, a2, a3]; rfl⟩
              | true =>
                have hsh : shapedB s = true := by rw [shapedB, m1, r1, r2, r3, a1, a2, a3]; rfl
                repeat (refine s50_L5y ?_; intros)
                (refine JO.eff rfl rfl rfl (JEff.callR rfl (p5_each_NV (l := s.nodes) Node.cap (by omega) (by exact vta) inferInstance (fun S v x h => node_cap h) (fun S' h u x hx => p5_Check4 hx)) rfl ?_); intro w4 S4 hl4 hV4)
                repeat (refine s50_L5y ?_; intros)
                refine JO.eff rfl rfl rfl (JEff.storeW (rep := rArr 5) rfl rfl (V_arr.2 ⟨rfl, plusV_fine _⟩) (fun h => by cases h) (List.Perm.refl _) rfl (by intro l hl; cases hl) ?_)
                repeat (refine s50_L5y ?_; intros)
                (refine JO.eff rfl rfl rfl (JEff.callR rfl (p5_each_PV (l := s.pods) Pod.req (by omega) (by exact vta) inferInstance (fun S v x h => pod_req h) (fun S' h u x hx => p5_Check5 hx)) rfl ?_); intro w5 S5 hl5 hV5)
                repeat (refine s50_L5y ?_; intros)
                refine JO.eff rfl rfl rfl (JEff.storeW (rep := rArr 5) rfl rfl (V_arr.2 ⟨rfl, plusV_fine _⟩) (fun h => by cases h) (List.Perm.refl _) rfl (by intro l hl; cases hl) ?_)
                repeat (refine s50_L5y ?_; intros)
                (refine JO.eff rfl rfl rfl (JEff.buildS (bt := 8) (rep := rI64) (ys := [(plusV (caps s)).2, (plusV (reqs s)).2]) rfl rfl (⟨⟨V_i64.2 ⟨rfl, plusV_rng2 _⟩, nna⟩, ⟨V_i64.2 ⟨rfl, plusV_rng2 _⟩, nna⟩, trivial⟩) rfl rfl rfl (by decide) rfl ?_); intro S6 sa l6 hs)
                repeat (refine s50_L5y ?_; intros)
                cases f1 : [(plusV (caps s)).2, (plusV (reqs s)).2].all z0 with
                | false =>
                  repeat (refine s50_L5y ?_; intros)
                  (refine JX.ret1 Tryz.results50 (ResV.tmp rfl) (List.nil_sublist _) ?_)
                  refine ⟨rfl, ?_⟩
                  rw [checkS, hsh, if_pos rfl, if_neg]
                  simpa using f1
                | true =>
                  repeat (refine s50_L5y ?_; intros)
                  (refine JX.ret1 Tryz.results50 (ResV.tmp rfl) (List.nil_sublist _) ?_)
                  refine ⟨rfl, ?_⟩
                  rw [checkS, hsh, if_pos rfl, if_pos]
                  simpa using f1
end Go.Dr
namespace Go.Dr
open Go.Proofs
set_option maxRecDepth 20000
set_option maxHeartbeats 2000000
set_option linter.unusedSimpArgs false
set_option linter.unusedVariables false
theorem p7_Check1 {S : SHeap} {s : Snap} {q : Addr} (x : Int) (hx : Rng x) (hq : PtrTo S q rSnap s) : FnV Tryz.prog 51 #[.int .i64 x, .pointer (some q)] S (.bool (oddP s x)) := by
  (refine Fn.enter (args := [.int .i64 x, .pointer (some q)]) Tryz.func51 rfl Tryz.ntmps51 rfl ?_; intro w0)
  repeat (first | (refine Walk ?_; intros) | refine JC.block ?_)
  cases e1 : decide (x < -1) with
  | true =>
    refine JO.guard rfl rfl rfl rfl (fun _ => ?_) (fun g => Bool.noConfusion (g.symm.trans rfl))
    repeat (first | (refine Walk ?_; intros) | refine JC.block ?_)
    (refine JX.ret1 Tryz.results51 (ResV.tmp rfl) (List.nil_sublist _) ?_)
    exact ⟨rfl, by simp [oddP, e1]⟩
  | false =>
    refine JO.guard rfl rfl rfl rfl (fun g => Bool.noConfusion (g.symm.trans rfl)) (fun _ => ?_)
    repeat (first | (refine Walk ?_; intros) | refine JC.block ?_)
    cases e2 : decide ((s.nodes.length : Int) ≤ x) with
    | true =>
      refine JO.guard rfl rfl rfl rfl (fun _ => ?_) (fun g => Bool.noConfusion (g.symm.trans rfl))
      repeat (first | (refine Walk ?_; intros) | refine JC.block ?_)
      (refine JX.ret1 Tryz.results51 (ResV.tmp rfl) (List.nil_sublist _) ?_)
      exact ⟨rfl, by simp [oddP, e1, e2]⟩
    | false =>
      refine JO.guard rfl rfl rfl rfl (fun g => Bool.noConfusion (g.symm.trans rfl)) (fun _ => ?_)
      repeat (first | (refine Walk ?_; intros) | refine JC.block ?_)
      cases e3 : decide (0 ≤ x) with
      | true =>
        have h0 : 0 ≤ x := of_decide_eq_true e3
        have hlt : x < s.nodes.length := by have := of_decide_eq_false e2; omega
        obtain ⟨nd, hnd, _⟩ := drop_at (l := s.nodes) (show x.toNat < s.nodes.length by omega)
        have hlo : lostAt s x = nd.lost := by simp [lostAt, hnd]
        refine JO.guard rfl rfl rfl rfl (fun _ => ?_) (fun g => Bool.noConfusion (g.symm.trans rfl))
        repeat (first | (refine Walk ?_; intros) | refine JC.block ?_)
        (refine JX.ret1 Tryz.results51 (ResV.tmp rfl) (List.nil_sublist _) ?_)
        exact ⟨rfl, by simp [oddP, e1, e2, e3, hlo]⟩
      | false =>
        refine JO.guard rfl rfl rfl rfl (fun g => Bool.noConfusion (g.symm.trans rfl)) (fun _ => ?_)
        repeat (first | (refine Walk ?_; intros) | refine JC.block ?_)
        (refine JX.ret1 Tryz.results51 (ResV.tmp rfl) (List.nil_sublist _) ?_)
        exact ⟨rfl, by simp [oddP, e1, e2, e3]⟩
theorem s23_L7p {P K : Prop} (k : K) (h : Goal K → P := by
  intro zk
  (first | refine Walk ?_ | refine JC.block ?_ | (refine JO.eff rfl rfl rfl (JEff.callV rfl (p5_Check (by exact vta)) rfl ?_); intro zqa zqb) | (refine WBox ?_))
  (repeat (first | revert zqg | revert zqf | revert zqe | revert zqd | revert zqc | revert zqb | revert zqa))
  exact zk.k) : P := h ⟨k⟩
theorem p7_Check {S : SHeap} {u v : Value} {s : Snap} {p : List Int} (hu : rSnap.V S u s) (hv : (rSlice 8 rI64).V S v p) : FnV Tryz.prog 23 #[u, v] S (.int .i64 (checkP s p)) := by
  obtain ⟨a, c, rfl, _, _, hb, _⟩ := V_slice.1 hv
  unfold big at hb
  (refine Fn.enter (args := [u, .slice a p.length c]) Tryz.func23 rfl Tryz.ntmps23 rfl ?_; intro w0)
  repeat (refine s23_L7p ?_; intros)
  refine JC.cond rfl (fun h1 => ?_) (fun h1 => ?_)
  · have h1 : z0 (checkS s) = false := by simpa [z0] using h1
    repeat (refine s23_L7p ?_; intros)
    (refine JX.ret1 Tryz.results23 (ResV.tmp rfl) (List.nil_sublist _) ?_)
    exact ⟨rfl, by rw [checkP, h1]; rfl⟩
  have h1 : z0 (checkS s) = true := by simpa [z0] using h1
  repeat (refine s23_L7p ?_; intros)
  refine JO.guard rfl rfl rfl rfl (fun h2 => ?_) (fun h2 => ?_)
  · have h2 : decide (p.length = s.pods.length) = false := by simp at h2; simp; omega
    repeat (refine s23_L7p ?_; intros)
    (refine JX.ret1 Tryz.results23 (ResV.tmp rfl) (List.nil_sublist _) ?_)
    exact ⟨rfl, by rw [checkP, h1, h2]; rfl⟩
  have h2 : decide (p.length = s.pods.length) = true := by simp at h2; simp; omega
  have hodd : checkP s p = if p.any (oddP s) then 2 else 0 := by rw [checkP, h1, h2]; rfl
  rw [hodd]
  repeat (refine s23_L7p ?_; intros)
  (refine JO.eff rfl rfl rfl (JEff.callV rfl ((p_ContainsFunc_int (fs := #[]) (cs := #[.pointer (some _)]) (oddP s) (by exact vta) inferInstance (fun S' h u x hx => by obtain ⟨rfl, hr⟩ := V_i64.1 hx; exact p7_Check1 x hr (PtrTo.mono (by assumption) (by exact lea))))) rfl ?_); intro _ _)
  repeat (refine s23_L7p ?_; intros)
  cases h3 : p.any (oddP s) with
  | true =>
    repeat (refine s23_L7p ?_; intros)
    (refine JX.ret1 Tryz.results23 (ResV.tmp rfl) (List.nil_sublist _) ?_)
    exact ⟨rfl, rfl⟩
  | false =>
    repeat (refine s23_L7p ?_; intros)
    (refine JX.ret1 Tryz.results23 (ResV.tmp rfl) (List.nil_sublist _) ?_)
    exact ⟨rfl, rfl⟩
theorem p7_there {S : SHeap} (i n : Int) : FnV Tryz.prog 68 #[.int .i64 i, .int .i64 n] S (.bool (decide (0 ≤ i) && decide (i < n))) := by
  (refine Fn.enter (args := [.int .i64 i, .int .i64 n]) Tryz.func68 rfl Tryz.ntmps68 rfl ?_; intro w0)
  repeat' (first | (refine Walk ?_; intros) | refine JC.block ?_ | (refine JO.guard rfl rfl rfl rfl ?_ ?_ <;> intro _) | (refine JC.cond rfl ?_ ?_ <;> intro _))
  all_goals ((refine JX.ret1 Tryz.results68 (ResV.tmp rfl) (List.nil_sublist _) ?_); exact ⟨rfl, by (first | ((simp only [z0, *, Bool.and_true, Bool.true_and, Bool.false_and, Bool.and_false, Bool.or_true, Bool.true_or, Bool.false_or, Bool.or_false, Bool.not_true, Bool.not_false]) <;> rfl) | (simp only [z0, *, Bool.and_true, Bool.true_and, Bool.false_and, Bool.and_false, Bool.or_true, Bool.true_or, Bool.false_or, Bool.or_false, Bool.not_true, Bool.not_false]; done) | (simp [z0, *]; done) | (simp_all [z0]; done) | (simp_all [z0]; intros; omega) | (simp_all [z0]; omega))⟩)
theorem p7_asked {S : SHeap} {u v : Value} {s : Snap} {p : List Int} (o : Int) (hu : rSnap.V S u s) (hv : (rSlice 8 rI64).V S v p) : FnV Tryz.prog 176 #[u, v, .int .i64 o] S (.bool (z0 (checkP s p) && (decide (0 ≤ o) && decide (o < s.owners.length)))) := by
  obtain ⟨a, c, rfl, _, _, hb, _⟩ := V_slice.1 hv
  unfold big at hb
  (refine Fn.enter (args := [u, .slice a p.length c, .int .i64 o]) Tryz.func176 rfl Tryz.ntmps176 rfl ?_; intro w0)
  repeat' (first | (refine Walk ?_; intros) | refine JC.block ?_ | (refine JO.eff rfl rfl rfl (JEff.callV rfl (p7_Check (by exact vta) (by exact vta)) rfl ?_); intro _ _) | (refine JO.eff rfl rfl rfl (JEff.callV rfl (p7_there _ _) rfl ?_); intro _ _) | (refine WBox ?_; intros) | (refine JO.guard rfl rfl rfl rfl ?_ ?_ <;> intro _) | (refine JC.cond rfl ?_ ?_ <;> intro _))
  all_goals ((refine JX.ret1 Tryz.results176 (ResV.tmp rfl) (List.nil_sublist _) ?_); exact ⟨rfl, by (first | ((simp only [z0, *, Bool.and_true, Bool.true_and, Bool.false_and, Bool.and_false, Bool.or_true, Bool.true_or, Bool.false_or, Bool.or_false, Bool.not_true, Bool.not_false]) <;> rfl) | (simp only [z0, *, Bool.and_true, Bool.true_and, Bool.false_and, Bool.and_false, Bool.or_true, Bool.true_or, Bool.false_or, Bool.or_false, Bool.not_true, Bool.not_false]; done) | (simp [z0, *]; done) | (simp_all [z0]; done) | (simp_all [z0]; intros; omega) | (simp_all [z0]; omega))⟩)
theorem p7_value1 {S : SHeap} {u : Value} {x : Label} {q : Addr} {key : ByteArray} (hu : rLabel.V S u x) (hq : PtrTo S q rStr key) : FnV Tryz.prog 229 #[u, .pointer (some q)] S (.bool (keyIs key x)) := by
  (refine Fn.enter (args := [u, .pointer (some q)]) Tryz.func229 rfl Tryz.ntmps229 rfl ?_; intro w0)
  repeat (first | (refine Walk ?_; intros) | refine JC.block ?_ | (refine WBox ?_; intros))
  (refine JX.ret1 Tryz.results229 (ResV.tmp rfl) (List.nil_sublist _) ?_)
  exact ⟨rfl, rfl⟩
theorem p7_value {S : SHeap} {u : Value} {n : Node} (key : ByteArray) (hk : key.size ≤ big) (hu : rNode.V S u n) : FnV Tryz.prog 179 #[u, .string key] S (.tuple #[.string (valB n key).1, .bool (valB n key).2]) := by
  (refine Fn.enter (args := [u, .string key]) Tryz.func179 rfl Tryz.ntmps179 rfl ?_; intro w0)
  repeat (first | (refine Walk ?_; intros) | refine JC.block ?_ | (refine WBox ?_; intros))
  (refine JO.eff rfl rfl rfl (JEff.callV rfl ((p_IndexFunc_Label (fs := #[]) (cs := #[.pointer (some _)]) (keyIs key) (by exact vta) inferInstance (fun S' h u x hx => p7_value1 hx (PtrTo.mono (by assumption) (by exact lea))))) rfl ?_); intro _ _)
  repeat (first | (refine Walk ?_; intros) | refine JC.block ?_ | (refine WBox ?_; intros))
  obtain ⟨g1, g2⟩ := getL_idx n.labels key
  generalize idxF (keyIs key) n.labels = I at *
  cases lo : n.lost with
  | true =>
    refine JO.guard rfl rfl rfl rfl (fun _ => ?_) (fun g => Bool.noConfusion (g.symm.trans rfl))
    repeat (first | (refine Walk ?_; intros) | refine JC.block ?_ | (refine WBox ?_; intros))
    (refine JX.ret2 Tryz.results179 (ResV.tmp rfl) (ResV.tmp rfl) (List.nil_sublist _) ?_)
    exact ⟨rfl, by rw [valB, lo]; rfl⟩
  | false =>
    refine JO.guard rfl rfl rfl rfl (fun g => Bool.noConfusion (g.symm.trans rfl)) (fun _ => ?_)
    repeat (first | (refine Walk ?_; intros) | refine JC.block ?_ | (refine WBox ?_; intros))
    refine JC.cond rfl (fun h1 => ?_) (fun h1 => ?_)
    · have h1 : I < 0 := of_decide_eq_true h1
      repeat (first | (refine Walk ?_; intros) | refine JC.block ?_ | (refine WBox ?_; intros))
      (refine JX.ret2 Tryz.results179 (ResV.tmp rfl) (ResV.tmp rfl) (List.nil_sublist _) ?_)
      exact ⟨rfl, by rw [valB, lo, g1 h1]; rfl⟩
    · have h1 : ¬ I < 0 := of_decide_eq_false h1
      obtain ⟨x, hx, hg, h0, hlt⟩ := g2 h1
      repeat (first | (refine Walk ?_; intros) | refine JC.block ?_ | (refine WBox ?_; intros))
      (refine JX.ret2 Tryz.results179 (ResV.tmp rfl) (ResV.tmp rfl) (List.nil_sublist _) ?_)
      exact ⟨rfl, by rw [valB, lo, hg]; rfl⟩
end Go.Dr
namespace Go.Dr
open Go.Proofs
set_option maxRecDepth 20000
set_option maxHeartbeats 2000000
set_option linter.unusedSimpArgs false
set_option linter.unusedVariables false
theorem filt_step {β γ : Type} {l : List β} {f : β → Bool} {g : β → γ} {i : Nat} {y : β} (h : l[i]? = some y) :
    (f y = true → ((l.filter f).map g)[((l.take i).filter f).length]? = some (g y) ∧ ((l.take (i + 1)).filter f).length = ((l.take i).filter f).length + 1) ∧
    (f y = false → ((l.take (i + 1)).filter f).length = ((l.take i).filter f).length) := by
  have ht : l.take (i + 1) = l.take i ++ [y] := by rw [List.take_add_one, h]; rfl
  have hd : l = l.take i ++ y :: l.drop (i + 1) := by
    obtain ⟨hi, rfl⟩ := List.getElem?_eq_some_iff.1 h
    rw [← List.drop_eq_getElem_cons hi, List.take_append_drop]
  refine ⟨fun hy => ⟨?_, ?_⟩, fun hy => ?_⟩
  · conv => lhs; arg 1; rw [hd]
    rw [List.filter_append, List.filter_cons_of_pos hy, List.map_append, List.getElem?_append_right (by simp)]
    simp
  · rw [ht, List.filter_append, List.length_append, List.filter_cons_of_pos hy]; rfl
  · rw [ht, List.filter_append, List.length_append, List.filter_cons_of_neg (by simp [hy])]; rfl
theorem p7_on1 {S : SHeap} {s : Snap} {p : List Int} {node : Int} {qp qn qs : Addr} (hlen : p.length = s.pods.length) (hp : PtrTo S qp (rSlice 8 rI64) p) (hn : PtrTo S qn rI64 node) (hs : PtrTo S qs rSnap s) (hb : p.length ≤ 1000000) :
    Iter Tryz.prog 139 #[.pointer (some qp), .pointer (some qn), .pointer (some qs)] rPod S (onN s p node) := by
  intro L J S1 M1 hl h0 hy
  have hp1 := hp.mono hl
  have hn1 := hn.mono hl
  have hs1 := hs.mono hl
  clear hp hn hs
  rw [show (#[.func (.yield L) #[] #[]] ++ #[.pointer (some qp), .pointer (some qn), .pointer (some qs)] : Array Value) = #[.func (.yield L) #[] #[], .pointer (some qp), .pointer (some qn), .pointer (some qs)] from rfl]
  (refine Fn.enter (args := [.func (.yield L) #[] #[], .pointer (some qp), .pointer (some qn), .pointer (some qs)]) Tryz.func139 rfl Tryz.ntmps139 rfl ?_; intro w0)
  repeat (first | (refine Walk ?_; intros) | refine JC.block ?_)
  refine JC.loopF (σ := Nat × List MEnt) [(0, _), (2, _), (3, _), (7, _), (8, _)] (fun q => [(9, .int .i64 q.1)]) (fun q => q.2) (fun Si q => q.1 ≤ p.length ∧ J (((p.zip s.pods).take q.1).filter (fun x => decide (x.1 = node))).length Si q.2) (fun q => p.length - q.1) ((0, M1)) (by exact sba) (by exact sba) rfl (⟨Nat.zero_le _, h0⟩) ?_; rintro Si ⟨i, Mi⟩ hli hii; (try dsimp only at hii); dsimp only [List.cons_append, List.nil_append]
  obtain ⟨hi1, hi2⟩ := hii
  repeat (first | (refine Walk ?_; intros) | refine JC.block ?_)
  refine JC.cond rfl (fun hc => ?_) (fun hc => ?_)
  · have hk' := dlt hc
    obtain ⟨x, hx, hd⟩ := drop_at hk'
    obtain ⟨y, hy', hd2⟩ := drop_at (l := s.pods) (show i < s.pods.length by omega)
    have hz : (p.zip s.pods)[i]? = some (x, y) := by rw [List.getElem?_zip_eq_some]; exact ⟨hx, hy'⟩
    obtain ⟨f1, f2⟩ := filt_step (f := fun x => decide (x.1 = node)) (g := fun x => x.2) hz
    dsimp only at f1 f2
    repeat (first | (refine Walk ?_; intros) | refine JC.block ?_)
    cases hm : decide (x = node) with
    | true =>
      obtain ⟨f3, f4⟩ := f1 hm
      refine JO.guard rfl rfl rfl rfl (fun _ => ?_) (fun g => Bool.noConfusion (g.symm.trans rfl))
      repeat (first | (refine Walk ?_; intros) | refine JC.block ?_)
      refine JO.eff rfl rfl rfl (JEff.yield (Mc := Mi) (Mr := []) rfl rfl rfl (by rw [List.append_nil]) (by intro l hl; cases hl) (hy _ y _ _ _ (by exact lea) f3 (by exact vta) hi2) rfl ?_); intro S' M' hl' hJ'
      rw [List.append_nil]
      repeat (first | (refine Walk ?_; intros) | refine JC.block ?_)
      exact JX.roundF (i + 1, M') (by exact lea) (⟨hk', by rw [f4]; exact hJ'⟩) (by (try dsimp only); omega) rfl (by exact sba) (by exact sba)
    | false =>
      have f4 := f2 hm
      refine JO.guard rfl rfl rfl rfl (fun g => Bool.noConfusion (g.symm.trans rfl)) (fun _ => ?_)
      repeat (first | (refine Walk ?_; intros) | refine JC.block ?_)
      exact JX.roundF (i + 1, Mi) (by exact lea) (⟨hk', by rw [f4]; exact hi2⟩) (by (try dsimp only); omega) rfl (by exact sba) (by exact sba)
  · have hk' := dnlt hc
    repeat (first | (refine Walk ?_; intros) | refine JC.block ?_)
    refine JX.end0 Tryz.results139 (List.Sublist.refl _) ?_
    rw [List.take_of_length_le (by simp; omega)] at hi2
    simpa [onN] using hi2
theorem s225_L7q {P K : Prop} (k : K) (h : Goal K → P := by
  intro zk
  (first | refine Walk ?_ | refine JC.block ?_ | refine JC.drawN 3 rfl [0, 1, 2, 3, 4, 5, 6, 7, 8, 9, 10, 11, 12, 13, 14, 15, 16, 17, 18, 19, 20, 21, 22] [0, 1, 2, 3, 4, 5, 6, 7, 8, 9, 10, 11, 12, 13, 14, 15, 16, 17, 18, 19, 21, 22] Tryz_mixed (by decide +kernel) ?_)
  (repeat (first | revert zqg | revert zqf | revert zqe | revert zqd | revert zqc | revert zqb | revert zqa))
  exact zk.k) : P := h ⟨k⟩
theorem p7_owned1 {S : SHeap} {s : Snap} {p : List Int} {o : Nat} {qp qs qo : Addr} (hlen : p.length = s.pods.length) (ho : o < s.owners.length) (hp : PtrTo S qp (rSlice 8 rI64) p) (hs : PtrTo S qs rSnap s) (hn : PtrTo S qo rI64 (o : Int)) (hb : p.length ≤ 1000000) (hrg : ∀ x ∈ p, Rng x) :
    Iter Tryz.prog 225 #[.pointer (some qp), .pointer (some qs), .pointer (some qo)] rI64 S (ownedL s p o) := by
  intro L J S1 M1 hl h0 hy
  have hp1 := hp.mono hl
  have hn1 := hn.mono hl
  have hs1 := hs.mono hl
  clear hp hn hs
  obtain ⟨ow, how, _⟩ := drop_at ho
  have hon : ownName s o = ow.name := by rw [ownName, how]
  rw [show (#[.func (.yield L) #[] #[]] ++ #[.pointer (some qp), .pointer (some qs), .pointer (some qo)] : Array Value) = #[.func (.yield L) #[] #[], .pointer (some qp), .pointer (some qs), .pointer (some qo)] from rfl]
  (refine Fn.enter (args := [.func (.yield L) #[] #[], .pointer (some qp), .pointer (some qs), .pointer (some qo)]) Tryz.func225 rfl Tryz.ntmps225 rfl ?_; intro w0)
  repeat (refine s225_L7q ?_; intros)
  refine JC.loopF (σ := Nat × List MEnt) [(0, _), (2, _), (3, _), (7, _), (8, _)] (fun q => [(9, .int .i64 q.1)]) (fun q => q.2) (fun Si q => q.1 ≤ p.length ∧ J (((p.zip s.pods).take q.1).filter (fun x => decide (0 ≤ x.1) && decide (x.2.owner = ownName s o))).length Si q.2) (fun q => p.length - q.1) ((0, M1)) (by exact sba) (by exact sba) rfl (⟨Nat.zero_le _, h0⟩) ?_; rintro Si ⟨i, Mi⟩ hli hii; (try dsimp only at hii); dsimp only [List.cons_append, List.nil_append]
  obtain ⟨hi1, hi2⟩ := hii
  repeat (refine s225_L7q ?_; intros)
  refine JC.cond rfl (fun hc => ?_) (fun hc => ?_)
  · have hk' := dlt hc
    obtain ⟨x, hx, hd⟩ := drop_at hk'
    obtain ⟨y, hy', hd2⟩ := drop_at (l := s.pods) (show i < s.pods.length by omega)
    have hz : (p.zip s.pods)[i]? = some (x, y) := by rw [List.getElem?_zip_eq_some]; exact ⟨hx, hy'⟩
    obtain ⟨f1, f2⟩ := filt_step (f := fun x : Int × Pod => decide (0 ≤ x.1) && decide (x.2.owner = ownName s o)) (g := fun x : Int × Pod => x.1) hz
    dsimp only at f1 f2
    repeat (refine s225_L7q ?_; intros)
    cases g0 : decide (0 ≤ x) with
    | true =>
      refine JO.guard rfl rfl rfl rfl (fun _ => ?_) (fun g => Bool.noConfusion (g.symm.trans rfl))
      repeat (refine s225_L7q ?_; intros)
      cases g1 : decide (y.owner = ow.name) with
      | true =>
        obtain ⟨f3, f4⟩ := f1 (by rw [hon, g0, g1]; rfl)
        refine JO.guard rfl rfl rfl rfl (fun _ => ?_) (fun g => Bool.noConfusion (g.symm.trans rfl))
        repeat (refine s225_L7q ?_; intros)
        refine JO.eff rfl rfl rfl (JEff.yield (Mc := Mi) (Mr := []) rfl rfl rfl (by rw [List.append_nil]) (by intro l hl; cases hl) (hy _ x _ _ _ (by exact lea) f3 (V_i64.2 ⟨rfl, hrg x (List.mem_of_getElem? hx)⟩) hi2) rfl ?_); intro S' M' hl' hJ'
        rw [List.append_nil]
        repeat (refine s225_L7q ?_; intros)
        exact JX.roundF (i + 1, M') (by exact lea) (⟨hk', by rw [f4]; exact hJ'⟩) (by (try dsimp only); omega) rfl (by exact sba) (by exact sba)
      | false =>
        have f4 := f2 (by rw [hon, g0, g1]; rfl)
        refine JO.guard rfl rfl rfl rfl (fun g => Bool.noConfusion (g.symm.trans rfl)) (fun _ => ?_)
        repeat (refine s225_L7q ?_; intros)
        exact JX.roundF (i + 1, Mi) (by exact lea) (⟨hk', by rw [f4]; exact hi2⟩) (by (try dsimp only); omega) rfl (by exact sba) (by exact sba)
    | false =>
      have f4 := f2 (by rw [g0]; rfl)
      refine JO.guard rfl rfl rfl rfl (fun g => Bool.noConfusion (g.symm.trans rfl)) (fun _ => ?_)
      repeat (refine s225_L7q ?_; intros)
      exact JX.roundF (i + 1, Mi) (by exact lea) (⟨hk', by rw [f4]; exact hi2⟩) (by (try dsimp only); omega) rfl (by exact sba) (by exact sba)
  · have hk' := dnlt hc
    repeat (refine s225_L7q ?_; intros)
    refine JX.end0 Tryz.results225 (List.Sublist.refl _) ?_
    rw [List.take_of_length_le (by simp; omega)] at hi2
    simpa [ownedL] using hi2
end Go.Dr
namespace Go.Dr
open Go.Proofs
set_option maxRecDepth 20000
set_option linter.unusedSimpArgs false
set_option linter.unusedVariables false
end Go.Dr
namespace Go.Dr
open Go.Proofs
set_option maxRecDepth 20000
set_option linter.unusedSimpArgs false
set_option linter.unusedVariables false
end Go.Dr
namespace Go.Dr
open Go.Proofs
set_option maxRecDepth 20000
set_option linter.unusedSimpArgs false
set_option linter.unusedVariables false
end Go.Dr
namespace Go.Dr
open Go.Proofs
set_option maxRecDepth 20000
set_option linter.unusedSimpArgs false
set_option linter.unusedVariables false
end Go.Dr
namespace Go.Dr
open Go.Proofs
set_option maxRecDepth 20000
set_option maxHeartbeats 1000000
set_option linter.unusedSimpArgs false
set_option linter.unusedVariables false
end Go.Dr
namespace Go.Dr
open Go.Proofs
set_option maxRecDepth 20000
set_option maxHeartbeats 1000000
set_option linter.unusedSimpArgs false
set_option linter.unusedVariables false
end Go.Dr
namespace Go.Dr
open Go.Proofs
set_option maxRecDepth 20000
set_option maxHeartbeats 1000000
set_option linter.unusedSimpArgs false
set_option linter.unusedVariables false
theorem shaped_small {s : Snap} (h : shapedB s = true) : s.nodes.length ≤ 8 ∧ s.pods.length ≤ 24 ∧ s.owners.length ≤ 8 := by
  have hm : manyB s = false := by
    cases hm : manyB s with
    | false => rfl
    | true => rw [shapedB, hm] at h; simp at h
  simp only [manyB, Bool.or_eq_false_iff, decide_eq_false_iff_not] at hm; omega
end Go.Dr
namespace Go.Dr
open Go.Proofs
set_option maxRecDepth 20000
set_option maxHeartbeats 1000000
set_option linter.unusedSimpArgs false
set_option linter.unusedVariables false
end Go.Dr
namespace Go.Dr
open Go.Proofs
set_option maxRecDepth 20000
set_option maxHeartbeats 1000000
set_option linter.unusedSimpArgs false
set_option linter.unusedVariables false
theorem ptr_arr {S : SHeap} {p : Addr} {n : Nat} {xs : List Int} (h : PtrTo S p (rArr n) xs) : xs.length = n ∧ ∀ x ∈ xs, Rng x := by
  obtain ⟨cs, h, _⟩ := h; exact ⟨h.1, h.2.2⟩
theorem ptr_slice {α : Type} {S : SHeap} {p : Addr} {bt : Nat} {rep : Rp α} {xs : List α} (h : PtrTo S p (rSlice bt rep) xs) : ∀ x ∈ xs, ∃ q, PtrTo S q rep x := by
  obtain ⟨cs, ⟨a, n, c, _, _, _, _, _, hh⟩, _⟩ := h
  intro x hx
  obtain ⟨i, hi⟩ := List.getElem?_of_mem hx
  obtain ⟨ad, _, hp⟩ := hh i x hi
  exact ⟨_, hp⟩
theorem snap_caps {S : SHeap} {p : Addr} {s : Snap} (h : PtrTo S p rSnap s) : ∀ x ∈ s.nodes, x.cap.length = 5 ∧ ∀ y ∈ x.cap, Rng y := by
  intro x hx
  have h1 : PtrTo S (p.add 0) (rSlice 112 rNode) s.nodes := h.part (Fld.h (rep := rSnap) (off := 0))
  obtain ⟨q, hq⟩ := ptr_slice h1 x hx
  have h2 : PtrTo S (q.add 1) (rArr 5) x.cap := hq.part (Fld.h (rep := rNode) (off := 1))
  exact ptr_arr h2
theorem plus_ok {l : List (List Int)} (h : (plusV l).2 = 0) (j : Nat) (hj : j < 5) : (l.map (fun v => at0 v j)).any negB = false ∧ (l.map (fun v => at0 v j)).sum ≤ Qty := by
  have hc : (colQ l j).2 = 0 := by
    unfold plusV at h
    split at h
    · rename_i i hi
      rw [List.find?_range_eq_some] at hi
      have := hi.1
      simp only [Bool.not_eq_true', decide_eq_false_iff_not] at this
      exact absurd h this
    · rename_i hi
      rw [List.find?_range_eq_none] at hi
      have := hi j hj
      simpa using this
  unfold colQ addQ at hc
  cases hn : (l.map (fun v => at0 v j)).any negB with
  | true => rw [hn] at hc; simp at hc
  | false =>
    rw [hn] at hc
    refine ⟨rfl, ?_⟩
    simp only [Bool.false_eq_true, if_false] at hc
    split at hc
    · simp at hc
    · rename_i h; omega
theorem checkS_ok {s : Snap} (h : checkS s = 0) : shapedB s = true ∧ (plusV (caps s)).2 = 0 ∧ (plusV (reqs s)).2 = 0 := by
  unfold checkS at h
  cases h1 : shapedB s with
  | false => rw [h1] at h; simp at h
  | true =>
    rw [h1] at h
    simp only [if_true] at h
    split at h
    · rename_i h2
      simp only [Bool.and_eq_true, z0, decide_eq_true_eq] at h2
      exact ⟨rfl, h2⟩
    · cases h
def colsOf (l : List Pod) (x : List Int) (j : Nat) : List Int := (List.range 5).map (fun i => (l.map (fun y => at0 y.req i)).sum + if i < j then at0 x i else 0)
theorem colsOf_len (l : List Pod) (x : List Int) (j : Nat) : (colsOf l x j).length = 5 := by simp [colsOf]
theorem colsOf_at (l : List Pod) (x : List Int) (j : Nat) (hj : j < 5) : (colsOf l x j)[j]? = some ((l.map (fun y => at0 y.req j)).sum) := by
  simp [colsOf, hj]
theorem colsOf_set (l : List Pod) (x : List Int) (j : Nat) (hj : j < 5) : (colsOf l x j).set j ((l.map (fun y => at0 y.req j)).sum + at0 x j) = colsOf l x (j + 1) := by
  apply List.ext_getElem?
  intro i
  rw [List.getElem?_set]
  simp only [colsOf, List.length_map, List.length_range, List.getElem?_map]
  by_cases h : j = i
  · subst h; simp [hj]
  · rw [if_neg h]
    cases hr : (List.range 5)[i]? with
    | none => rfl
    | some i' =>
      have : i' = i := by
        rw [List.getElem?_range] at hr
        · simpa using hr.symm
        · exact Nat.lt_of_not_le fun hle => by rw [List.getElem?_eq_none (by simpa using hle)] at hr; cases hr
      subst this
      simp only [Option.map_some]
      have : (i' < j) = (i' < j + 1) := by simp; omega
      simp [this]
theorem colsOf_full (l : List Pod) (x : Pod) (y : List Int) : colsOf l x.req 5 = colsOf (l ++ [x]) y 0 := by
  unfold colsOf
  apply List.map_congr_left
  intro i hi
  have : i < 5 := by simpa using hi
  simp [this]
def onK (s : Snap) (p : List Int) (node : Int) (k : Nat) : List Pod := (((p.zip s.pods).take k).filter (fun x => decide (x.1 = node))).map (fun x => x.2)
theorem onK_all {s : Snap} {p : List Int} {node : Int} (h : p.length = s.pods.length) : onK s p node p.length = onN s p node := by
  unfold onK onN
  rw [List.take_of_length_le (by simp [h])]
theorem filt_sum {l : List Pod} {f : Pod → Int} (h : ∀ x ∈ l, 0 ≤ f x) : ∀ {m : List Pod}, m.Sublist l → (m.map f).sum ≤ (l.map f).sum ∧ 0 ≤ (m.map f).sum := by
  intro m hm
  induction hm with
  | slnil => simp
  | cons a hs ih =>
    have := ih (fun x hx => h x (by simp [hx]))
    have := h a (by simp)
    simp only [List.map_cons, List.sum_cons]; omega
  | cons_cons a hs ih =>
    have := ih (fun x hx => h x (by simp [hx]))
    have := h a (by simp)
    simp only [List.map_cons, List.sum_cons]; omega
theorem zip_snd_sub : ∀ (p : List Int) (l : List Pod), ((p.zip l).map (fun x => x.2)).Sublist l
  | [], l => by simp
  | _ :: _, [] => by simp
  | a :: p, x :: l => by
    rw [List.zip_cons_cons, List.map_cons]
    exact (zip_snd_sub p l).cons_cons x
theorem onK_sub (s : Snap) (p : List Int) (node : Int) (k : Nat) : (onK s p node k).Sublist s.pods := by
  have h1 := zip_snd_sub p s.pods
  exact (((List.filter_sublist).trans (List.take_sublist _ _)).map _).trans h1
theorem used_bound {s : Snap} (h : checkS s = 0) (p : List Int) (node : Int) (k j : Nat) (hj : j < 5) : 0 ≤ ((onK s p node k).map (fun y => at0 y.req j)).sum ∧ ((onK s p node k).map (fun y => at0 y.req j)).sum ≤ Qty := by
  obtain ⟨_, _, h3⟩ := checkS_ok h
  obtain ⟨h4, h5⟩ := plus_ok h3 j hj
  have hnn : ∀ x ∈ s.pods, 0 ≤ at0 x.req j := by
    intro x hx
    rw [List.any_eq_false] at h4
    have := h4 (at0 x.req j) (by simp only [reqs, List.map_map, List.mem_map]; exact ⟨x, hx, rfl⟩)
    simpa [negB] using this
  have h6 := filt_sum (f := fun y => at0 y.req j) hnn (onK_sub s p node k)
  have h7 : (s.pods.map (fun y => at0 y.req j)).sum ≤ Qty := by
    simpa [reqs, List.map_map, Function.comp_def] using h5
  omega
end Go.Dr
namespace Go.Dr
open Go.Proofs
set_option maxRecDepth 20000
set_option maxHeartbeats 2000000
set_option linter.unusedSimpArgs false
set_option linter.unusedVariables false
theorem p7_on {S : SHeap} {u v : Value} {s : Snap} {p : List Int} (node : Int) (hu : rSnap.V S u s) (hv : (rSlice 8 rI64).V S v p) (hr : Rng node) (hlen : p.length = s.pods.length) (hb : p.length ≤ 1000000) :
    FnR Tryz.prog 94 #[u, v, .int .i64 node] S (fun w S' => ∃ lb, w = .func (.func 139) #[] lb ∧ Iter Tryz.prog 139 lb rPod S' (onN s p node)) := by
  have hn : rI64.V S (.int .i64 node) node := V_i64.2 ⟨rfl, hr⟩
  obtain ⟨a, c, rfl, _⟩ := V_slice.1 hv
  (refine Fn.enter (args := [u, .slice a p.length c, .int .i64 node]) Tryz.func94 rfl Tryz.ntmps94 rfl ?_; intro w0)
  repeat (first | (refine Walk ?_; intros) | refine JC.block ?_ | (refine WBox ?_; intros))
  (refine JX.ret1 Tryz.results94 (ResV.tmp rfl) (List.nil_sublist _) ?_)
  exact ⟨rfl, _, rfl, p7_on1 hlen (by exact pta) (by exact pta) (by exact pta) hb⟩
theorem p7_owned {S : SHeap} {u v : Value} {s : Snap} {p : List Int} (o : Nat) (hu : rSnap.V S u s) (hv : (rSlice 8 rI64).V S v p) (ho : o < s.owners.length) (hos : s.owners.length ≤ 1000000) (hlen : p.length = s.pods.length) (hb : p.length ≤ 1000000) (hrg : ∀ x ∈ p, Rng x) :
    FnR Tryz.prog 177 #[u, v, .int .i64 o] S (fun w S' => ∃ lb, w = .func (.func 225) #[] lb ∧ Iter Tryz.prog 225 lb rI64 S' (ownedL s p o)) := by
  have hn : rI64.V S (.int .i64 (o : Int)) (o : Int) := V_i64.2 ⟨rfl, by unfold Rng; omega⟩
  obtain ⟨a, c, rfl, _⟩ := V_slice.1 hv
  (refine Fn.enter (args := [u, .slice a p.length c, .int .i64 o]) Tryz.func177 rfl Tryz.ntmps177 rfl ?_; intro w0)
  repeat (first | (refine Walk ?_; intros) | refine JC.block ?_ | (refine WBox ?_; intros))
  (refine JX.ret1 Tryz.results177 (ResV.tmp rfl) (List.nil_sublist _) ?_)
  exact ⟨rfl, _, rfl, p7_owned1 hlen ho (by exact pta) (by exact pta) (by exact pta) hb hrg⟩
theorem owned_len (s : Snap) (p : List Int) (o : Nat) : (ownedL s p o).length ≤ p.length := by
  unfold ownedL
  rw [List.length_map]
  refine Nat.le_trans (List.length_filter_le _ _) ?_
  rw [List.length_zip]
  exact Nat.min_le_left _ _
theorem ResV.cellI {C : Cx} {S : SHeap} {M : List MEnt} {e : Env} {p b : Nat} {T t : TypeId} {fr : Nat × Nat} {n : Int} (h : Env.get? e p = some (.pointer (some ⟨b, 0, none⟩))) (hM : MEnt.blk b (.cells (ints [n]) t fr) ∈ M) [ht : TyR C.P T rI64] : ResV C S M e (.cell p T) (.int .i64 n) :=
  ResV.cellM (rep := rI64) (mid := [.int .i64 n]) h hM rfl rfl
theorem placed_hyps {s : Snap} {p : List Int} (h : checkP s p = 0) : checkS s = 0 ∧ p.length = s.pods.length ∧ p.length ≤ 24 ∧ s.nodes.length ≤ 8 ∧ s.owners.length ≤ 8 ∧ (∀ x ∈ p, -1 ≤ x ∧ x < s.nodes.length) ∧ ∀ x ∈ p, Rng x := by
  obtain ⟨h1, h2, h3⟩ := checkP_ok h
  obtain ⟨h4, h5, h6⟩ := shaped_small (checkS_ok h1).1
  have h7 : ∀ x ∈ p, -1 ≤ x ∧ x < s.nodes.length := by
    intro x hx
    have := h3 x hx
    simp only [oddP, Bool.or_eq_false_iff, decide_eq_false_iff_not] at this
    omega
  exact ⟨h1, h2, by omega, h4, h6, h7, fun x hx => by have := h7 x hx; unfold Rng; omega⟩
theorem s108_L7y {P K : Prop} (k : K) (h : Goal K → P := by
  intro zk
  (first | refine Walk ?_ | refine JC.block ?_ | (refine JO.eff rfl rfl rfl (JEff.callV rfl (p7_asked _ (by exact vta) (by exact vta)) rfl ?_); intro zqa zqb) | (refine WBox ?_))
  (repeat (first | revert zqg | revert zqf | revert zqe | revert zqd | revert zqc | revert zqb | revert zqa))
  exact zk.k) : P := h ⟨k⟩
theorem p7_Placed {S : SHeap} {u v : Value} {s : Snap} {p : List Int} (o : Int) (hu : rSnap.V S u s) (hv : (rSlice 8 rI64).V S v p) :
    FnV Tryz.prog 108 #[u, v, .int .i64 o] S (.int .i64 (if z0 (checkP s p) && (decide (0 ≤ o) && decide (o < s.owners.length)) then placedN s p o.toNat else 0)) := by
  obtain ⟨a, c, rfl, _⟩ := V_slice.1 hv
  (refine Fn.enterM (args := [u, .slice a p.length c, .int .i64 o]) Tryz.func108 rfl Tryz.ntmps108 rfl ?_; intro w0)
  repeat (refine s108_L7y ?_; intros)
  (refine JO.eff rfl rfl rfl (JEff.alloc rfl ?_); intro b6 hb6)
  repeat (refine s108_L7y ?_; intros)
  cases hc : (z0 (checkP s p) && (decide (0 ≤ o) && decide (o < s.owners.length))) with
  | false =>
    repeat (refine s108_L7y ?_; intros)
    refine JO.eff rfl rfl rfl (JEff.storeI (i := 0) (xs := [0]) rfl rfl (by unfold Rng; omega) (List.Perm.refl _) (by decide) (by intro l hl; cases hl) ?_)
    repeat (refine s108_L7y ?_; intros)
    refine JX.retM0 Tryz.results108 (ResV.cellI (n := 0) rfl (by (first | exact List.mem_cons_self | exact List.mem_cons_of_mem _ List.mem_cons_self | exact List.mem_cons_of_mem _ (List.mem_cons_of_mem _ List.mem_cons_self)))) (List.nil_sublist _) ?_
    exact ⟨rfl, rfl⟩
  | true =>
    have hol := owned_len s p o.toNat
    simp only [Bool.and_eq_true, decide_eq_true_eq] at hc
    obtain ⟨c1, c2, c3⟩ := hc
    obtain ⟨o, rfl⟩ := Int.eq_ofNat_of_zero_le c2
    rw [Int.toNat_natCast] at hol
    obtain ⟨h1, h2, h3, h4, h5, h6, h7⟩ := placed_hyps (s := s) (p := p) (by simpa [z0] using c1)
    repeat (refine s108_L7y ?_; intros)
    (refine JO.eff rfl rfl rfl (JEff.callR rfl ((p7_owned o (by exact vta) (by exact vta) (by omega) (by omega) h2 (by omega) h7)) rfl ?_); intro w S2 hl2 hV)
    obtain ⟨lb, rfl, hit⟩ := hV
    repeat (refine s108_L7y ?_; intros)
    refine JC.rangeFunc (rep := rI64) (xs := ownedL s p o) (fun k S' M' => M' = [.blk b6 (.cells (ints [(k : Int)]) 3 (0, 0))]) rfl rfl inferInstance rfl hit rfl ?_ ?_
    · rintro w1 B1 K L Rc k y v S' M' hR hp hl hy hv rfl
      repeat (refine s108_L7y ?_; intros)
      have hk := (List.getElem?_eq_some_iff.1 hy).1
      have hkr : Rng (k : Int) := by unfold Rng; omega
      refine JX.begin rfl hR ?_
      repeat (refine s108_L7y ?_; intros)
      refine JO.pure rfl rfl rfl (JPure.loadMI (xs := [(k : Int)]) rfl (by (first | exact List.mem_cons_self | exact List.mem_cons_of_mem _ List.mem_cons_self | exact List.mem_cons_of_mem _ (List.mem_cons_of_mem _ List.mem_cons_self))) rfl hkr (.inl rfl) rfl ?_)
      repeat (refine s108_L7y ?_; intros)
      refine JO.eff rfl rfl rfl (JEff.storeI (i := 0) (xs := [(k : Int)]) (Mr := [.blk L (.loop { Rc with state := .busy }), .blk K (.deferred (some []))]) rfl rfl (by unfold Rng; omega) (List.perm_append_comm (l₁ := [_]) (l₂ := [_, _])) (by simp) (by intro l hl; cases hl) ?_)
      repeat (refine s108_L7y ?_; intros)
      refine JX.endRound hR hp (List.perm_append_comm (l₁ := [_, _]) (l₂ := [_])) ?_
      simp
    · rintro K S' M' hl rfl
      repeat (refine s108_L7y ?_; intros)
      have hkr : Rng (((ownedL s p o).length : Nat) : Int) := by unfold Rng; omega
      refine JO.pure rfl rfl rfl (JPure.loadMI (xs := [((ownedL s p o).length : Int)]) rfl (by (first | exact List.mem_cons_self | exact List.mem_cons_of_mem _ List.mem_cons_self | exact List.mem_cons_of_mem _ (List.mem_cons_of_mem _ List.mem_cons_self))) rfl hkr (.inl rfl) rfl ?_)
      repeat (refine s108_L7y ?_; intros)
      refine JO.eff rfl rfl rfl (JEff.storeI (i := 0) (xs := [((ownedL s p o).length : Int)]) (Mr := [.blk K (.deferred (some []))]) rfl rfl hkr (List.perm_append_comm (l₁ := [_]) (l₂ := [_])) (by simp) (by intro l hl; cases hl) ?_)
      repeat (refine s108_L7y ?_; intros)
      refine JX.retM1 Tryz.results108 (List.perm_append_comm (l₁ := [_]) (l₂ := [_])) (ResV.cellI (n := ((ownedL s p o).length : Int)) rfl (by (first | exact List.mem_cons_self | exact List.mem_cons_of_mem _ List.mem_cons_self | exact List.mem_cons_of_mem _ (List.mem_cons_of_mem _ List.mem_cons_self)))) (List.nil_sublist _) ?_
      exact ⟨rfl, rfl⟩
end Go.Dr
namespace Go.Dr
open Go.Proofs
set_option maxRecDepth 20000
set_option maxHeartbeats 2000000
set_option linter.unusedSimpArgs false
set_option linter.unusedVariables false
theorem onT_bound {s : Snap} {p : List Int} (h : checkS s = 0) (hl : p.length = s.pods.length) (node : Int) (k j : Nat) (hj : j < 5) :
    0 ≤ (((onN s p node).take k).map (fun y => at0 y.req j)).sum ∧ (((onN s p node).take k).map (fun y => at0 y.req j)).sum ≤ Qty := by
  obtain ⟨_, _, h3⟩ := checkS_ok h
  obtain ⟨h4, h5⟩ := plus_ok h3 j hj
  have hnn : ∀ x ∈ s.pods, 0 ≤ at0 x.req j := by
    intro x hx
    rw [List.any_eq_false] at h4
    have := h4 (at0 x.req j) (by simp only [reqs, List.map_map, List.mem_map]; exact ⟨x, hx, rfl⟩)
    simpa [negB] using this
  have hsub : ((onN s p node).take k).Sublist s.pods := by
    rw [← onK_all hl]
    exact (List.take_sublist _ _).trans (onK_sub s p node p.length)
  have h6 := filt_sum (f := fun y => at0 y.req j) hnn hsub
  have h7 : (s.pods.map (fun y => at0 y.req j)).sum ≤ Qty := by
    simpa [reqs, List.map_map, Function.comp_def] using h5
  omega
def usedP (s : Snap) (p : List Int) (node : Int) : List Int := if z0 (checkP s p) && (decide (0 ≤ node) && decide (node < s.nodes.length)) then usedV s p node else [0, 0, 0, 0, 0]
theorem s54_L7z {P K : Prop} (k : K) (h : Goal K → P := by
  intro zk
  (first | refine Walk ?_ | refine JC.block ?_ | (refine JO.eff rfl rfl rfl (JEff.callV rfl (p7_Check (by exact vta) (by exact vta)) rfl ?_); intro zqa zqb) | (refine JO.eff rfl rfl rfl (JEff.callV rfl (p7_there _ _) rfl ?_); intro zqa zqb) | (refine WBox ?_))
  (repeat (first | revert zqg | revert zqf | revert zqe | revert zqd | revert zqc | revert zqb | revert zqa))
  exact zk.k) : P := h ⟨k⟩
theorem p7_Used {S : SHeap} {u v : Value} {s : Snap} {p : List Int} (node : Int) (hu : rSnap.V S u s) (hv : (rSlice 8 rI64).V S v p) :
    FnV Tryz.prog 54 #[u, v, .int .i64 node] S (.agg (ints (usedP s p node))) := by
  obtain ⟨a, c, rfl, _⟩ := V_slice.1 hv
  (refine Fn.enterM (args := [u, .slice a p.length c, .int .i64 node]) Tryz.func54 rfl Tryz.ntmps54 rfl ?_; intro w0)
  repeat (refine s54_L7z ?_; intros)
  (refine JO.eff rfl rfl rfl (JEff.alloc rfl ?_); intro b6 hb6)
  repeat (refine s54_L7z ?_; intros)
  cases g1 : decide (checkP s p = 0) with
  | false =>
    refine JO.guard rfl rfl rfl rfl (fun _ => ?_) (fun g => Bool.noConfusion (g.symm.trans rfl))
    repeat (refine s54_L7z ?_; intros)
    refine JO.eff rfl rfl rfl (JEff.storeA (n := 5) (xs := [0, 0, 0, 0, 0]) (ys := [0, 0, 0, 0, 0]) rfl rfl rfl (by intro z hz; simp at hz; subst hz; unfold Rng; omega) (List.Perm.refl _) rfl (by intro l hl; cases hl) ?_)
    repeat (refine s54_L7z ?_; intros)
    refine JX.retM0 Tryz.results54 (ResV.cellA (n := 5) (xs := [0, 0, 0, 0, 0]) rfl (by (first | exact List.mem_cons_self | exact List.mem_cons_of_mem _ List.mem_cons_self | exact List.mem_cons_of_mem _ (List.mem_cons_of_mem _ List.mem_cons_self))) rfl) (List.nil_sublist _) ?_
    exact ⟨rfl, by rw [usedP, z0, g1]; rfl⟩
  | true =>
    refine JO.guard rfl rfl rfl rfl (fun g => Bool.noConfusion (g.symm.trans rfl)) (fun _ => ?_)
    repeat (refine s54_L7z ?_; intros)
    cases g2 : (decide (0 ≤ node) && decide (node < s.nodes.length)) with
    | false =>
      repeat (refine s54_L7z ?_; intros)
      refine JO.eff rfl rfl rfl (JEff.storeA (n := 5) (xs := [0, 0, 0, 0, 0]) (ys := [0, 0, 0, 0, 0]) rfl rfl rfl (by intro z hz; simp at hz; subst hz; unfold Rng; omega) (List.Perm.refl _) rfl (by intro l hl; cases hl) ?_)
      repeat (refine s54_L7z ?_; intros)
      refine JX.retM0 Tryz.results54 (ResV.cellA (n := 5) (xs := [0, 0, 0, 0, 0]) rfl (by (first | exact List.mem_cons_self | exact List.mem_cons_of_mem _ List.mem_cons_self | exact List.mem_cons_of_mem _ (List.mem_cons_of_mem _ List.mem_cons_self))) rfl) (List.nil_sublist _) ?_
      exact ⟨rfl, by rw [usedP, z0, g1, g2]; rfl⟩
    | true =>
      have hus : usedP s p node = usedV s p node := by rw [usedP, z0, g1, g2]; rfl
      rw [hus]
      obtain ⟨h1, h2, h3, h4, h5, h6, h7⟩ := placed_hyps (s := s) (p := p) (of_decide_eq_true g1)
      simp only [Bool.and_eq_true, decide_eq_true_eq] at g2
      repeat (refine s54_L7z ?_; intros)
      (refine JO.eff rfl rfl rfl (JEff.callR rfl ((p7_on node (by exact vta) (by exact vta) (by unfold Rng; omega) h2 (by omega))) rfl ?_); intro w S2 hl2 hV)
      obtain ⟨lb, rfl, hit⟩ := hV
      repeat (refine s54_L7z ?_; intros)
      refine JC.rangeFunc (rep := rPod) (xs := onN s p node) (fun k S' M' => M' = [.blk b6 (.cells (ints (colsOf ((onN s p node).take k) [] 0)) 30 (0, 0))]) rfl rfl inferInstance rfl hit rfl ?_ ?_
      · rintro w1 B1 K L Rc k y v S' M' hR hp hl hy hv rfl
        repeat (refine s54_L7z ?_; intros)
        (refine JO.eff rfl rfl rfl (JEff.alloc rfl ?_); intro b7 hb7); (repeat (first | (refine Walk ?_; intros) | refine JC.block ?_)); (refine JO.eff rfl rfl rfl (JEff.storeW rfl rfl (by exact vta) nna pma rfl (by intro l hl; cases hl) ?_)); (refine JO.freezeV (by exact vta) nna hb7 (by intro l hl; cases hl) ?_; intro S3 l3 hp7)
        repeat (refine s54_L7z ?_; intros)
        refine JX.begin rfl hR ?_
        repeat (refine s54_L7z ?_; intros)
        obtain ⟨hk, hky⟩ := List.getElem?_eq_some_iff.1 hy
        have htk : (onN s p node).take (k + 1) = (onN s p node).take k ++ [y] := by rw [List.take_add_one, hy]; rfl
        have hyl := (V_arr.1 (pod_req hv)).2
        obtain ⟨rfl, _, _⟩ := V_arr.1 ‹(rArr 5).V _ _ y.req›
        refine JC.loopF [(6, _), (29, _)] (fun (j : Nat) => [(30, .int .i64 j)]) (fun j => [.blk L (.loop { Rc with state := .busy }), .blk K (.deferred (some [])), .blk b6 (.cells (ints (colsOf ((onN s p node).take k) y.req j)) 30 (0, 0))]) (fun Sj j => j ≤ 5 ∧ (True)) (fun j => 5 - j) 0 (by exact sba) (by exact sba) rfl ⟨Nat.zero_le _, trivial⟩ ?_; intro Sj j hlj hij; obtain ⟨hj, hij⟩ := hij; (try dsimp only at hj hij); dsimp only [List.cons_append, List.nil_append]
        repeat (refine s54_L7z ?_; intros)
        refine JC.cond rfl (fun hc => ?_) (fun hc => ?_)
        · have hj' := dlt5 hc
          obtain ⟨z, hz⟩ : ∃ z, y.req[j]? = some z := ⟨_, List.getElem?_eq_getElem (by omega)⟩
          have hatz := at0_some hz
          have hub := onT_bound h1 h2 node k j hj'
          have hub2 := onT_bound h1 h2 node (k + 1) j hj'
          rw [htk] at hub2
          simp only [List.map_append, List.sum_append, List.map_cons, List.map_nil, List.sum_cons, List.sum_nil, hatz] at hub2
          unfold Qty at hub hub2
          repeat (refine s54_L7z ?_; intros)
          refine JO.pure rfl rfl rfl (JPure.indexV rfl rfl rfl (by omega) hyl.1 (by simpa using hz) ?_)
          repeat (refine s54_L7z ?_; intros)
          refine JO.pure rfl rfl rfl (JPure.indexBI rfl rfl rfl (by omega) (by omega) ?_)
          refine JO.pure rfl rfl rfl (JPure.loadMI rfl (by (first | exact List.mem_cons_self | exact List.mem_cons_of_mem _ List.mem_cons_self | exact List.mem_cons_of_mem _ (List.mem_cons_of_mem _ List.mem_cons_self))) (colsOf_at _ _ j hj') (by unfold Rng; omega) (.inl rfl) rfl ?_)
          repeat (refine s54_L7z ?_; intros)
          refine JO.pure rfl rfl rfl (JPure.indexBI rfl rfl rfl (by omega) (by omega) ?_)
          refine JO.eff rfl rfl rfl (JEff.storeI (i := j) (Mr := [.blk L (.loop { Rc with state := .busy }), .blk K (.deferred (some []))]) rfl rfl (by unfold Rng; omega) (List.perm_append_comm (l₁ := [_]) (l₂ := [_, _])) (by rw [colsOf_len]; omega) (by intro l hl; cases hl) ?_)
          rw [← hatz, colsOf_set _ _ j hj', hatz]
          repeat (refine s54_L7z ?_; intros)
          refine JX.perm (List.perm_append_comm (l₁ := [_, _]) (l₂ := [_])) ?_
          exact JX.roundF (j + 1) (by exact lea) ⟨by omega, (trivial)⟩ (by (try dsimp only); omega) rfl (by exact sba) (by exact sba)
        · have hj' := dnlt5 hc
          obtain rfl : j = 5 := by omega
          rw [colsOf_full _ _ [], ← htk]
          repeat (refine s54_L7z ?_; intros)
          refine JX.endRound hR hp (List.Perm.refl _) ?_
          rfl
      · rintro K S' M' hl rfl
        have hfin : colsOf ((onN s p node).take (onN s p node).length) [] 0 = usedV s p node := by rw [List.take_length]; simp [colsOf, usedV]
        have hrng : ∀ z ∈ usedV s p node, Rng z := by
          intro z hz
          obtain ⟨j, hj, rfl⟩ := List.mem_map.1 hz
          have := onT_bound h1 h2 node (onN s p node).length j (by simpa using hj)
          rw [List.take_length] at this
          unfold Qty at this; unfold Rng; omega
        rw [hfin]
        repeat (refine s54_L7z ?_; intros)
        refine JO.pure rfl rfl rfl (JPure.loadMA (n := 5) rfl (by (first | exact List.mem_cons_self | exact List.mem_cons_of_mem _ List.mem_cons_self | exact List.mem_cons_of_mem _ (List.mem_cons_of_mem _ List.mem_cons_self))) (by simp [usedV]) hrng (.inl rfl) rfl ?_)
        refine JO.eff rfl rfl rfl (JEff.storeA (n := 5) (Mr := [.blk K (.deferred (some []))]) rfl rfl (by simp [usedV]) hrng (List.Perm.swap _ _ _) (by simp [usedV]) (by intro l hl; cases hl) ?_)
        repeat (refine s54_L7z ?_; intros)
        refine JX.retM1 Tryz.results54 (List.Perm.swap _ _ _) (ResV.cellA (n := 5) rfl (by (first | exact List.mem_cons_self | exact List.mem_cons_of_mem _ List.mem_cons_self | exact List.mem_cons_of_mem _ (List.mem_cons_of_mem _ List.mem_cons_self))) (by simp [usedV])) (List.nil_sublist _) ?_
        exact ⟨rfl, rfl⟩
end Go.Dr
namespace Go.Dr
open Go.Proofs
set_option maxRecDepth 20000
set_option maxHeartbeats 2000000
set_option linter.unusedSimpArgs false
set_option linter.unusedVariables false
theorem nd_more {l : List Nat} {n : Nat} (hn : l.Nodup) (hb : ∀ i ∈ l, i < n) : ∃ t, (l ++ t).Perm (List.range n) := by
  refine ⟨(List.range n).filter (fun i => !decide (i ∈ l)), ?_⟩
  have h1 : (l ++ (List.range n).filter (fun i => !decide (i ∈ l))).Nodup := by
    rw [List.nodup_append]
    refine ⟨hn, List.nodup_range.filter _, ?_⟩
    intro a ha b hb he
    subst he
    simp at hb
    exact hb.2 ha
  rw [List.perm_ext_iff_of_nodup h1 List.nodup_range]
  intro a
  by_cases ha : a ∈ l
  · simp [ha, hb a ha]
  · simp [ha]
theorem nd_len {l : List Nat} {n : Nat} (hn : l.Nodup) (hb : ∀ i ∈ l, i < n) : l.length ≤ n := by
  obtain ⟨t, ht⟩ := nd_more hn hb
  have := ht.length_eq
  simp at this
  omega
def keyAt (l : List (ByteArray × Value)) (i : Nat) : ByteArray := ((l[i]?).map Prod.fst).getD noS
theorem keyAt_range (l : List (ByteArray × Value)) : (List.range l.length).map (keyAt l) = l.map Prod.fst := by
  apply List.ext_getElem?
  intro i
  rw [List.getElem?_map, List.getElem?_map]
  by_cases hi : i < l.length
  · rw [List.getElem?_range hi]
    simp [keyAt, List.getElem?_eq_getElem hi]
  · rw [List.getElem?_eq_none (by simpa using hi), List.getElem?_eq_none (by omega)]
    rfl
theorem p_Keys1 {S : SHeap} {b : Nat} {l : List (ByteArray × Value)} {q : Addr} (hq : PtrTo S q rVal (.map (some b))) (hS : S b = some (mapObj l)) (hk : ∀ p ∈ l, p.1.size ≤ big) :
    IterS Tryz.prog 255 #[.pointer (some q)] rStr S (fun xs => xs.Perm (l.map Prod.fst)) := by
  intro L J S1 M1 hl h0 hy
  have hq1 := hq.mono hl
  have hS1 := hl _ _ hS
  clear hq hS
  rw [show (#[.func (.yield L) #[] #[]] ++ #[.pointer (some q)] : Array Value) = #[.func (.yield L) #[] #[], .pointer (some q)] from rfl]
  (refine Fn.enter (args := [.func (.yield L) #[] #[], .pointer (some q)]) Tryz.func255 rfl Tryz.ntmps255 rfl ?_; intro w0)
  repeat (first | (refine Walk ?_; intros) | refine JC.block ?_)
  refine JO.eff rfl rfl rfl (JEff.rangeM rfl hS1 rfl ?_); intro r hr
  repeat (first | (refine Walk ?_; intros) | refine JC.block ?_)
  refine JC.loopF (σ := Array Nat × List MEnt) [(0, _), (5, _)] (fun q => []) (fun q => .blk r (.mapIter (some b) l.length q.1 l.length) :: q.2) (fun Si q => q.1.toList.Nodup ∧ (∀ j ∈ q.1.toList, j < l.length) ∧ J (q.1.toList.map (keyAt l)) Si q.2) (fun q => l.length - q.1.size) ((#[], M1)) (by exact sba) (by exact sba) rfl (⟨List.nodup_nil, (by intro j hj; cases hj), h0⟩) ?_; rintro Si ⟨seen, Mi⟩ hli hii; (try dsimp only at hii); dsimp only [List.cons_append, List.nil_append]
  obtain ⟨hi1, hi2, hi3⟩ := hii
  have hSi := hli _ _ hS1
  have hlen := nd_len hi1 hi2
  repeat (first | (refine Walk ?_; intros) | refine JC.block ?_)
  refine JO.eff rfl rfl rfl (JEff.nextM rfl hSi (List.Perm.refl _) (by intro l hl; cases hl) rfl (fun j p hj hjn => ?_) (fun hall => ?_))
  · have hjl := (List.getElem?_eq_some_iff.1 hj).1
    have hn2 : (seen.toList ++ [j]).Nodup := by
      rw [List.nodup_append]
      refine ⟨hi1, by simp, ?_⟩
      intro a ha c hc he
      simp at hc
      subst hc; subst he
      exact hjn (by simpa using ha)
    have hb2 : ∀ i ∈ seen.toList ++ [j], i < l.length := by
      intro i hi
      rcases List.mem_append.1 hi with h | h
      · exact hi2 i h
      · simp at h; subst h; exact hjl
    have hlen2 := nd_len hn2 hb2
    have hsz : (seen.push j).size = seen.size + 1 := by simp
    have hsl : seen.size + 1 ≤ l.length := by simpa using hlen2
    have hkj : keyAt l j = p.1 := by simp [keyAt, hj]
    have hpk := hk p (List.mem_of_getElem? hj)
    obtain ⟨t, ht⟩ := nd_more hn2 hb2
    repeat (first | (refine Walk ?_; intros) | refine JC.block ?_)
    refine JO.eff rfl rfl rfl (JEff.entryM rfl hSi (by (first | exact List.mem_cons_self | exact List.mem_cons_of_mem _ List.mem_cons_self | exact List.mem_cons_of_mem _ (List.mem_cons_of_mem _ List.mem_cons_self))) hj rfl ?_)
    repeat (first | (refine Walk ?_; intros) | refine JC.block ?_)
    have hpre : ∃ xs : List ByteArray, xs.Perm (l.map Prod.fst) ∧ seen.toList.map (keyAt l) ++ [p.1] <+: xs := by
      refine ⟨(seen.toList ++ [j] ++ t).map (keyAt l), ?_, ?_⟩
      · rw [← keyAt_range]; exact ht.map _
      · rw [List.map_append, List.map_append, List.map_singleton, hkj]; exact List.prefix_append _ _
    refine JO.eff rfl rfl rfl (JEff.yield (Mc := Mi) (Mr := [.blk r (.mapIter (some b) l.length (seen.push j) l.length)]) rfl rfl rfl List.perm_append_comm (by intro l hl; cases hl) (hy _ p.1 _ _ _ (by exact lea) hpre (V_str.2 ⟨rfl, hpk⟩) hi3) rfl ?_); intro S' M' hl' hJ'
    repeat (first | (refine Walk ?_; intros) | refine JC.block ?_)
    refine JX.perm List.perm_append_comm ?_
    exact JX.roundF (seen.push j, M') (by exact lea) (⟨by simpa using hn2, by simpa using hb2, by simpa [hkj] using hJ'⟩) (by (try dsimp only); omega) rfl (by exact sba) (by exact sba)
  · repeat (first | (refine Walk ?_; intros) | refine JC.block ?_)
    refine JX.end0 Tryz.results255 (List.sublist_cons_self _ _) ?_
    refine ⟨_, ?_, hi3⟩
    rw [← keyAt_range]
    refine List.Perm.map _ ((List.perm_ext_iff_of_nodup hi1 List.nodup_range).2 (fun a => ⟨fun h => by simpa using hi2 a h, fun h => by simpa using hall a (by simpa using h)⟩))
theorem p_Keys {S : SHeap} {b : Nat} {l : List (ByteArray × Value)} (hS : S b = some (mapObj l)) (hk : ∀ p ∈ l, p.1.size ≤ big) :
    FnR Tryz.prog 227 #[.map (some b)] S (fun w S' => ∃ lb, w = .func (.func 255) #[] lb ∧ IterS Tryz.prog 255 lb rStr S' (fun xs => xs.Perm (l.map Prod.fst))) := by
  (refine Fn.enter (args := [.map (some b)]) Tryz.func227 rfl Tryz.ntmps227 rfl ?_; intro w0)
  repeat (first | (refine Walk ?_; intros) | refine JC.block ?_ | (refine WBox ?_; intros))
  (refine JX.ret1 Tryz.results227 (ResV.tmp rfl) (List.nil_sublist _) ?_)
  exact ⟨rfl, _, rfl, p_Keys1 (by exact pta) (by first | exact hS | exact (by assumption : SHeap.le _ _) _ _ hS) hk⟩
end Go.Dr
namespace Go.Dr
open Go.RowKit
set_option linter.unusedSimpArgs false
set_option linter.unusedVariables false
theorem Wd.rowTurnB {B : Nat} {w0 w w' : World} {B0 : List Nat} {S0 S : SHeap} {M : List MEnt} {e : TypeId} {sz : Nat} {v v' : Value} {n n' : Nat} {xs xs' : List Value} (h : Wd w0 B0 S0 S (.row B e sz v n xs :: M) w)
    (hg : w.grownBy w' v.ownBlock) (hr : w'.ownsRow B e sz v' n' xs') (ho : v'.ownBlock = v.ownBlock ∨ v'.ownBlock = some w.heap.size) : Wd w0 B0 S0 S (.row B e sz v' n' xs' :: M) w' where
  os := hg.os.trans h.os
  tape := hg.tape.trans h.tape
  output := hg.output.trans h.output
  size := Nat.le_trans h.size hg.size
  keep := fun k hk hb => by
    refine (hg.block k (Nat.lt_of_lt_of_le hk h.size) fun e1 => ?_).trans (h.keep k hk hb)
    rcases (h.out (.row B e sz v n xs) (by simp) k e1.symm).2 with h1 | h1
    · omega
    · exact hb h1
  le := h.le
  new := h.new
  agree := fun k o hk => by
    have h1 := h.agree k o hk
    rw [hg.block k (Array.getElem?_eq_some_iff.1 h1).1 fun e1 => ?_]
    · exact h1
    · have := (h.out (.row B e sz v n xs) (by simp) k e1.symm).1
      rw [this] at hk; cases hk
  ok := fun m hm => by
    rcases List.mem_cons.1 hm with rfl | hm
    · exact hr
    · have h1 := h.ok m (List.mem_cons_of_mem _ hm)
      exact h1.keep fun k hk => hg.block k (h1.lt k hk) fun e1 => (List.pairwise_cons.1 h.sep).1 m hm k e1.symm hk
  sep := List.pairwise_cons.2 ⟨fun m hm k hk hk' => by
    rcases ho with ho | ho
    · exact (List.pairwise_cons.1 h.sep).1 m hm k ((show v.ownBlock = some k from ho.symm.trans hk)) hk'
    · have h1 := (h.ok m (List.mem_cons_of_mem _ hm)).lt k hk'
      have h2 : some w.heap.size = some k := ho.symm.trans hk
      cases h2; omega, (List.pairwise_cons.1 h.sep).2⟩
  out := fun m hm k hk => by
    rcases List.mem_cons.1 hm with rfl | hm
    · rcases ho with ho | ho
      · exact h.out (.row B e sz v n xs) (by simp) k ((show v.ownBlock = some k from ho.symm.trans hk))
      · have h2 : some w.heap.size = some k := ho.symm.trans hk
        cases h2
        exact ⟨h.fresh, .inl h.size⟩
    · exact h.out m (List.mem_cons_of_mem _ hm) k hk
section
variable {C : Cx} {R : Rg} {Q : Post} {S S' S1 : SHeap} {M M' : List MEnt} {e e' : Env} {rest : List Nat}
variable {d : Nat} {ty : TypeId} {pos : String} {aft : Array Edge} {g : Option (Nat × Bool)}
theorem JEff.appendLB {B : Nat} {α : Type} {T E : TypeId} {x y : Operand} {b n m bt : Nat} {v : Value} {xs : List Value} {cs : Array Value} {fr : Nat × Nat} {rep : Rp α} {z : Value} {Mr : List MEnt} (hB : B ≤ C.w0.heap.size) (hx : ev e x = some v) (hy : ev e y = some (.slice (some ⟨b, 0, none⟩) m m))
    [hu : Und C.P T (.slice E)] [ht : TyR C.P E rep] [hz : Zero C.P E z] (hzs : z.cells.size = rep.sz) [hby : Byt C.P E bt] (hsz : Nat.ble 1 rep.sz = true)
    (hM : (MEnt.row B E rep.sz v n xs :: .blk b (.cells cs E fr) :: Mr).Perm M) (hcs : cs.size = m * rep.sz) (h1 : ∀ c ∈ cs.toList, c.oneCell' = true) (hbig : (n + m) * bt ≤ big) (hbig1 : n + m ≤ big)
    (hT : ∀ l, R.T = some l → ∀ b, v.ownBlock = some b → b ∈ l) (hdN : Nat.blt d C.N = true)
    (k : ∀ a c, JO C R rest Q S (.row B E rep.sz (.slice a (n + m) c) (n + m) (xs ++ cs.toList) :: Mr) ((d, .slice a (n + m) c) :: e)) :
    JEff C R ⟨some d, .call { callee := .builtin .append, args := #[x, y], argTypes := #[T, T] }, ty, pos, aft, g⟩ rest Q S M e :=
  JEff.ofRun rfl rfl hdN fun a w hw => by
    have hwd := hw.wd.perm hM
    have hrow : w.ownsRow B E rep.sz v n xs := hwd.ok (.row B E rep.sz v n xs) (by simp)
    have hblk : w.heap[b]? = some (.cells cs E fr) := hwd.ok (.blk b (.cells cs E fr)) (by simp)
    obtain ⟨i, hi, hsi⟩ := ht.i
    obtain ⟨i', hi', hz'⟩ := Option.map_eq_some_iff.1 hz.h
    have e1 : i = i' := by rw [hi] at hi'; exact Option.some.inj hi'
    subst e1
    have hbt : i.bytes = bt := by have hby := hby.h; rw [hi] at hby; simpa using hby
    obtain ⟨v', w', hrun, hown, hg, _, ho⟩ := run_append_own_at (P := C.P) w B T ty E i z rep.sz bt hu.h hi hz' hsi hbt hzs (Nat.le_of_ble_eq_true hsz) v n xs hrow ⟨b, 0, none⟩ m m cs.toList (by simpa using hcs)
      (fun j u hj => by rw [add_plain]; simp only [World.cell?, hblk]; simpa using hj) h1 (by unfold big at hbig1; simp only [maxLen]; omega) hbig (Nat.le_trans hB hwd.size)
    obtain ⟨a', c', rfl⟩ := ownsRow_form hown
    refine ⟨_, w', ?_, subX_grown hg hT, hg.size, S, _, (hwd.rowTurnB hg hown ho).sub (List.Sublist.cons_cons _ (List.sublist_cons_self _ _)), SHeap.le.refl _, k a' c'⟩
    simp only [execOp, resolve, invoke, builtin, Sem.run_bind, Sem.run_pure, Result.andThen_ok, List.map_toArray, List.map_cons, List.map_nil, hw.env.eval hx, hw.env.eval hy, hrun]
theorem Wd.rowBase {w0 w : World} {B0 : List Nat} {S0 S : SHeap} {M : List MEnt} {B B' E sz n : Nat} {v : Value} {xs : List Value} (h : Wd w0 B0 S0 S (.row B E sz v n xs :: M) w) (hb : B' ≤ B) : Wd w0 B0 S0 S (.row B' E sz v n xs :: M) w :=
  { h with
    ok := fun m hm => by
      rcases List.mem_cons.1 hm with rfl | hm
      · have h1 : w.ownsRow B E sz v n xs := h.ok (.row B E sz v n xs) (by simp)
        refine ⟨h1.1, ?_⟩
        rcases h1.2 with h2 | ⟨g, cap, cur, hv, hg, hr⟩
        · exact .inl h2
        · exact .inr ⟨g, cap, cur, hv, Nat.le_trans hb hg, hr⟩
      · exact h.ok m (List.mem_cons_of_mem _ hm)
    sep := List.pairwise_cons.2 ⟨fun m hm k hk => (List.pairwise_cons.1 h.sep).1 m hm k hk, (List.pairwise_cons.1 h.sep).2⟩
    out := fun m hm k hk => by
      rcases List.mem_cons.1 hm with rfl | hm
      · exact h.out (.row B E sz v n xs) (by simp) k hk
      · exact h.out m (List.mem_cons_of_mem _ hm) k hk }
theorem JC.newRow0 {c : Code} (E : TypeId) (sz : Nat) (k : JC C c Q S (.row 0 E sz (.slice none 0 0) 0 [] :: M) e) : JC C c Q S M e := ⟨fun a w hw => k.run a w ⟨hw.env, hw.defers, (hw.wd.newRow E sz).rowBase (Nat.zero_le _)⟩⟩
end
end Go.Dr
namespace Go.Dr
open Go.Proofs
set_option maxRecDepth 20000
set_option maxHeartbeats 2000000
set_option linter.unusedSimpArgs false
set_option linter.unusedVariables false
theorem p_AppendSeq {S : SHeap} {gf : FuncId} {lb : Array Value} {Sx : List ByteArray → Prop} (hE : Ent Tryz.prog gf) (hit : IterS Tryz.prog gf lb rStr S Sx) (hlen : ∀ xs, Sx xs → xs.length ≤ 1000000) :
    Fn Tryz.prog 266 #[.slice none 0 0, .func (.func gf) #[] lb] S [] (fun v S' M' => ∃ xs a c vs, Sx xs ∧ v = .slice a xs.length c ∧ allV rStr S' vs xs ∧ M' = [.row 0 9 1 v xs.length (flatCells vs)]) := by
  haveI : TyR Tryz.prog 126 rVal := ⟨(inferInstance : TyR Tryz.prog 126 (rSlice 16 rStr)).b⟩
  (refine Fn.enterM (args := [.slice none 0 0, .func (.func gf) #[] lb]) Tryz.func266 rfl Tryz.ntmps266 rfl ?_; intro w0)
  repeat (first | (refine Walk ?_; intros) | refine JC.block ?_)
  refine JO.eff rfl rfl rfl (JEff.box rfl rfl ?_); intro b2 hb2
  repeat (first | (refine Walk ?_; intros) | refine JC.block ?_)
  refine JC.newRow0 9 1 ?_
  refine JC.rangeFuncS (rep := rStr) (Sx := Sx) (fun pre S' M' => ∃ a c vs, allV rStr S' vs pre ∧ M' = [.row 0 9 1 (.slice a pre.length c) pre.length (flatCells vs), .blk b2 (.cells (Value.slice a pre.length c).cells 126 (0, 0))]) rfl rfl hE rfl hit ⟨none, 0, [], trivial, rfl⟩ ?_ ?_
  · rintro w1 B1 K L Rc pre y v S' M' hR hp hl ⟨xs, hxs, hpx⟩ hv ⟨a, c, vs, hvs, rfl⟩
    have hpl := hpx.length_le
    have hxl := hlen xs hxs
    simp only [List.length_append, List.length_cons, List.length_nil] at hpl
    repeat (first | (refine Walk ?_; intros) | refine JC.block ?_)
    refine JX.begin rfl hR ?_
    refine JC.perm (List.perm_append_comm (l₁ := [_, _]) (l₂ := [_, _])) ?_
    repeat (first | (refine Walk ?_; intros) | refine JC.block ?_)
    dsimp only [List.cons_append, List.nil_append]
    obtain ⟨rfl, hys⟩ := V_str.1 hv
    refine JO.pure rfl rfl rfl (JPure.loadM (mid := [.slice a pre.length c]) (rep := rVal) rfl (List.mem_cons_of_mem _ List.mem_cons_self) rfl ⟨rfl, rfl⟩ (.inl rfl) rfl ?_)
    repeat (first | (refine Walk ?_; intros) | refine JC.block ?_)
    refine JO.eff rfl rfl rfl (JEff.build (rep := rStr) (ys := [y]) rfl rfl ⟨⟨V_str.2 ⟨rfl, hys⟩, nna⟩, trivial⟩ rfl rfl rfl rfl ?_); intro bb hbb hvv
    repeat (first | (refine Walk ?_; intros) | refine JC.block ?_)
    refine JO.eff rfl rfl rfl (JEff.appendLB (B := 0) (rep := rStr) (Nat.zero_le _) rfl rfl rfl rfl (List.Perm.swap _ _ _) (by exact hvv.flat) (by intro c hc; exact flat_one (fun v hv => (hvv.size v hv).2) c hc) (by first | omega | (unfold big; omega)) (by unfold big; omega) (by intro l hl; cases hl) rfl ?_); intro a2 c2
    repeat (first | (refine Walk ?_; intros) | refine JC.block ?_)
    refine JO.eff rfl rfl rfl (JEff.storeW (rep := rVal) rfl rfl (V_val.2 ⟨rfl, rfl⟩) nna (List.Perm.swap _ _ _) rfl (by intro l hl; cases hl) ?_)
    repeat (first | (refine Walk ?_; intros) | refine JC.block ?_)
    refine JX.endRound hR hp ((List.perm_append_comm (l₁ := [_, _]) (l₂ := [_, _])).trans (List.Perm.swap _ _ _)) ?_
    refine ⟨a2, c2, vs ++ [.string y], allV.append (us := [.string y]) (ys := [y]) ⟨⟨V_str.2 ⟨rfl, hys⟩, nna⟩, trivial⟩ hvs, ?_⟩
    rw [flat_append, List.length_append]
    rfl
  · rintro K xs S' M' hl hxs ⟨a, c, vs, hvs, rfl⟩
    repeat (first | (refine Walk ?_; intros) | refine JC.block ?_)
    refine JO.pure rfl rfl rfl (JPure.loadM (mid := [.slice a xs.length c]) (rep := rVal) rfl (List.mem_cons_of_mem _ (List.mem_cons_of_mem _ List.mem_cons_self)) rfl ⟨rfl, rfl⟩ (.inl rfl) rfl ?_)
    repeat (first | (refine Walk ?_; intros) | refine JC.block ?_)
    refine JX.retM1 Tryz.results266 (List.Perm.refl _) (ResV.tmp rfl) (List.Sublist.cons_cons _ (List.nil_sublist _)) ?_
    exact ⟨xs, a, c, vs, hxs, rfl, hvs, rfl⟩
theorem p_Collect {S : SHeap} {gf : FuncId} {lb : Array Value} {Sx : List ByteArray → Prop} (hE : Ent Tryz.prog gf) (hit : IterS Tryz.prog gf lb rStr S Sx) (hlen : ∀ xs, Sx xs → xs.length ≤ 1000000) :
    Fn Tryz.prog 253 #[.func (.func gf) #[] lb] S [] (fun v S' M' => ∃ xs a c vs, Sx xs ∧ v = .slice a xs.length c ∧ allV rStr S' vs xs ∧ M' = [.row 0 9 1 v xs.length (flatCells vs)]) := by
  (refine Fn.enter (args := [.func (.func gf) #[] lb]) Tryz.func253 rfl Tryz.ntmps253 rfl ?_; intro w0)
  repeat (first | (refine Walk ?_; intros) | refine JC.block ?_)
  refine JO.eff rfl rfl rfl (JEff.fn (Mc := []) (Mr := []) (sem_call rfl _ _ _ _ _) rfl rfl rfl (List.Perm.refl _) (by intro l hl m hm; cases hm) (p_AppendSeq hE hit hlen) ?_); rintro v S' M' hl ⟨xs, a, c, vs, hxs, rfl, hvs, rfl⟩
  repeat (first | (refine Walk ?_; intros) | refine JC.block ?_)
  refine JX.ret1 Tryz.results253 (ResV.tmp rfl) (List.Sublist.refl _) ?_
  exact ⟨xs, a, c, vs, hxs, rfl, hvs, by simp⟩
end Go.Dr
namespace Go.Proofs
open Go.Shelf
def Tryz.lays125_ren : Go.Shelf.Ren := ⟨fun | 125 => 104 | 128 => 153 | 129 => 154 | n => n, fun | 46 => 150 | 3 => 3 | 51 => 192 | 53 => 194 | 4 => 4 | 5 => 5 | 9 => 9 | n => n, fun | n => n⟩
theorem Tryz.lays125 : Go.Proofs.Lays.n125 Tryz.prog Tryz.lays125_ren := {
  mixed := by kernel_rfl
  f125 := Tryz.func104.trans (congrArg some (by kernel_rfl))
  f128 := Tryz.func153.trans (congrArg some (by kernel_rfl))
  f129 := Tryz.func154.trans (congrArg some (by kernel_rfl))
  t3 := Tryz.underlying3
  a3 := Tryz.isAgg3
  z3 := Tryz.sizeOf3
  v3 := Tryz.zeroValue3
  t4 := Tryz.underlying4
  a4 := Tryz.isAgg4
  z4 := Tryz.sizeOf4
  v4 := Tryz.zeroValue4
  t5 := Tryz.underlying5
  a5 := Tryz.isAgg5
  z5 := Tryz.sizeOf5
  v5 := Tryz.zeroValue5
  t9 := Tryz.underlying9
  a9 := Tryz.isAgg9
  z9 := Tryz.sizeOf9
  v9 := Tryz.zeroValue9
  t46 := Tryz.underlying150
  a46 := Tryz.isAgg150
  z46 := Tryz.sizeOf150
  v46 := Tryz.zeroValue150
  t51 := Tryz.underlying192
  a51 := Tryz.isAgg192
  z51 := Tryz.sizeOf192
  v51 := Tryz.zeroValue192
  t53 := Tryz.underlying194
  a53 := Tryz.isAgg194
  z53 := Tryz.sizeOf194
  v53 := Tryz.zeroValue194 }
def Tryz.lays190_ren : Go.Shelf.Ren := ⟨fun | 190 => 254 | 125 => 104 | 258 => 267 | 128 => 153 | 129 => 154 | 302 => 270 | 303 => 271 | 304 => 272 | 305 => 273 | 306 => 274 | 307 => 275 | 308 => 184 | 309 => 276 | 310 => 277 | 333 => 280 | 329 => 207 | 330 => 208 | 334 => 281 | 335 => 282 | 336 => 233 | 344 => 283 | n => n, fun | 31 => 126 | 9 => 9 | 3 => 3 | 46 => 150 | 0 => 0 | 51 => 192 | 53 => 194 | 4 => 4 | 183 => 186 | 182 => 185 | 131 => 65 | 5 => 5 | 218 => 229 | 222 => 233 | 228 => 253 | 229 => 254 | n => n, fun | n => n⟩
theorem Tryz.lays190 : Go.Proofs.Lays.n190 Tryz.prog Tryz.lays190_ren := {
  mixed := by kernel_rfl
  f125 := Tryz.func104.trans (congrArg some (by kernel_rfl))
  f128 := Tryz.func153.trans (congrArg some (by kernel_rfl))
  f129 := Tryz.func154.trans (congrArg some (by kernel_rfl))
  f190 := Tryz.func254.trans (congrArg some (by kernel_rfl))
  f258 := Tryz.func267.trans (congrArg some (by kernel_rfl))
  f302 := Tryz.func270.trans (congrArg some (by kernel_rfl))
  f303 := Tryz.func271.trans (congrArg some (by kernel_rfl))
  f304 := Tryz.func272.trans (congrArg some (by kernel_rfl))
  f305 := Tryz.func273.trans (congrArg some (by kernel_rfl))
  f306 := Tryz.func274.trans (congrArg some (by kernel_rfl))
  f307 := Tryz.func275.trans (congrArg some (by kernel_rfl))
  f308 := Tryz.func184.trans (congrArg some (by kernel_rfl))
  f309 := Tryz.func276.trans (congrArg some (by kernel_rfl))
  f310 := Tryz.func277.trans (congrArg some (by kernel_rfl))
  f329 := Tryz.func207.trans (congrArg some (by kernel_rfl))
  f330 := Tryz.func208.trans (congrArg some (by kernel_rfl))
  f333 := Tryz.func280.trans (congrArg some (by kernel_rfl))
  f334 := Tryz.func281.trans (congrArg some (by kernel_rfl))
  f335 := Tryz.func282.trans (congrArg some (by kernel_rfl))
  f336 := Tryz.func233.trans (congrArg some (by kernel_rfl))
  f344 := Tryz.func283.trans (congrArg some (by kernel_rfl))
  t0 := Tryz.underlying0
  a0 := Tryz.isAgg0
  z0 := Tryz.sizeOf0
  v0 := Tryz.zeroValue0
  t3 := Tryz.underlying3
  a3 := Tryz.isAgg3
  z3 := Tryz.sizeOf3
  v3 := Tryz.zeroValue3
  t4 := Tryz.underlying4
  a4 := Tryz.isAgg4
  z4 := Tryz.sizeOf4
  v4 := Tryz.zeroValue4
  t5 := Tryz.underlying5
  a5 := Tryz.isAgg5
  z5 := Tryz.sizeOf5
  v5 := Tryz.zeroValue5
  t9 := Tryz.underlying9
  a9 := Tryz.isAgg9
  z9 := Tryz.sizeOf9
  v9 := Tryz.zeroValue9
  t31 := Tryz.underlying126
  a31 := Tryz.isAgg126
  z31 := Tryz.sizeOf126
  v31 := Tryz.zeroValue126
  t46 := Tryz.underlying150
  a46 := Tryz.isAgg150
  z46 := Tryz.sizeOf150
  v46 := Tryz.zeroValue150
  t51 := Tryz.underlying192
  a51 := Tryz.isAgg192
  z51 := Tryz.sizeOf192
  v51 := Tryz.zeroValue192
  t53 := Tryz.underlying194
  a53 := Tryz.isAgg194
  z53 := Tryz.sizeOf194
  v53 := Tryz.zeroValue194
  t131 := Tryz.underlying65
  a131 := Tryz.isAgg65
  z131 := Tryz.sizeOf65
  v131 := Tryz.zeroValue65
  t182 := Tryz.underlying185
  a182 := Tryz.isAgg185
  z182 := Tryz.sizeOf185
  v182 := Tryz.zeroValue185
  t183 := Tryz.underlying186
  a183 := Tryz.isAgg186
  z183 := Tryz.sizeOf186
  v183 := Tryz.zeroValue186
  t218 := Tryz.underlying229
  a218 := Tryz.isAgg229
  z218 := Tryz.sizeOf229
  v218 := Tryz.zeroValue229
  t222 := Tryz.underlying233
  a222 := Tryz.isAgg233
  z222 := Tryz.sizeOf233
  v222 := Tryz.zeroValue233
  t228 := Tryz.underlying253
  a228 := Tryz.isAgg253
  z228 := Tryz.sizeOf253
  v228 := Tryz.zeroValue253
  t229 := Tryz.underlying254
  a229 := Tryz.isAgg254
  z229 := Tryz.sizeOf254
  v229 := Tryz.zeroValue254 }
theorem Tryz.bits_Len (x : Int) (w : World) (h0 : 0 ≤ x) (h1 : x ≤ 18446744073709551615) :
    Calls Tryz.prog 104 #[.int .u64 x] w fun e w' => e = .returned (.int .i64 (Lib.bitLen x.toNat)) ∧ w' = w := Any.bits_Len Tryz.lays125 x w h0 h1
theorem Tryz.slices_Sort_string_none (p : Option Addr) (cap : Nat) (w : World) :
    Calls Tryz.prog 254 #[.slice p 0 cap] w fun e w' => e = .returned (.tuple #[]) ∧ w' = w := Any.slices_Sort_string_none Tryz.lays190 p cap w
end Go.Proofs
namespace Go.Dr
open Go.Proofs
theorem p_bitsLen {S : SHeap} (x : Int) (h0 : 0 ≤ x) (h1 : x ≤ 18446744073709551615) : FnV Tryz.prog 104 #[.int .u64 x] S (.int .i64 (Lib.bitLen x.toNat)) := by
  intro w hg _ _ _
  refine (Tryz.bits_Len x w h0 h1).mono ?_
  rintro e w' ⟨rfl, rfl⟩
  exact ⟨_, S, [], rfl, Wd.start0 hg, rfl, rfl⟩
theorem p_Sort0 {S : SHeap} (p : Option Addr) (c : Nat) : FnV Tryz.prog 254 #[.slice p 0 c] S (.tuple #[]) := by
  intro w hg _ _ _
  refine (Tryz.slices_Sort_string_none p c w).mono ?_
  rintro e w' ⟨rfl, rfl⟩
  exact ⟨_, S, [], rfl, Wd.start0 hg, rfl, rfl⟩
end Go.Dr
namespace Go.Dr
open Go.Proofs
set_option maxRecDepth 20000
set_option maxHeartbeats 2000000
set_option linter.unusedSimpArgs false
set_option linter.unusedVariables false
def srt (xs : List ByteArray) (i : Nat) : Prop := ∀ k x y, k + 1 ≤ i → xs[k]? = some x → xs[k + 1]? = some y → ltS y x = false
def insI (xs : List ByteArray) (i j : Nat) : Prop :=
  j ≤ i ∧ (∀ k x y, k + 1 ≤ i → k + 1 ≠ j → xs[k]? = some x → xs[k + 1]? = some y → ltS y x = false) ∧ (∀ x y, 1 ≤ j → j < i → xs[j - 1]? = some x → xs[j + 1]? = some y → ltS y x = false)
theorem ltS_asymm {x y : ByteArray} (h : ltS y x = true) : ltS x y = false := by
  rw [ltS_total] at h
  simp only [Bool.and_eq_true, Bool.not_eq_true'] at h
  exact h.1
theorem insI_start {xs : List ByteArray} {i : Nat} (h : srt xs i) : insI xs (i + 1) (i + 1) :=
  ⟨Nat.le_refl _, fun k x y hk hne hx hy => h k x y (by omega) hx hy, fun x y _ h2 => by omega⟩
theorem insI_zero {xs : List ByteArray} {i : Nat} (h : insI xs i 0) : srt xs i := fun k x y hk hx hy => h.2.1 k x y hk (by omega) hx hy
theorem insI_stop {xs : List ByteArray} {i j : Nat} {x y : ByteArray} (h : insI xs i j) (hj : 1 ≤ j) (hx : xs[j - 1]? = some x) (hy : xs[j]? = some y) (hlt : ltS y x = false) : srt xs i := by
  intro k u v hk hu hv
  by_cases a : k + 1 = j
  · rw [show k = j - 1 by omega] at hu
    rw [a] at hv
    rw [hx] at hu; rw [hy] at hv
    cases hu; cases hv
    exact hlt
  · exact h.2.1 k u v hk a hu hv
theorem insI_swap {xs : List ByteArray} {i j : Nat} {x y : ByteArray} (h : insI xs i j) (hj : 1 ≤ j) (hx : xs[j - 1]? = some x) (hy : xs[j]? = some y) (hlt : ltS y x = true) : insI ((xs.set j x).set (j - 1) y) i (j - 1) := by
  obtain ⟨h0, h1, h2⟩ := h
  have hjl : j < xs.length := (List.getElem?_eq_some_iff.1 hy).1
  have g : ∀ k, ((xs.set j x).set (j - 1) y)[k]? = if k = j - 1 then some y else if k = j then some x else xs[k]? := by
    intro k
    rw [List.getElem?_set, List.getElem?_set, List.length_set]
    by_cases a : j - 1 = k
    · rw [if_pos a, if_pos (by omega), if_pos a.symm]
    · rw [if_neg a, if_neg (Ne.symm a)]
      by_cases b : j = k
      · rw [if_pos b, if_pos (by omega), if_pos b.symm]
      · rw [if_neg b, if_neg (Ne.symm b)]
  refine ⟨by omega, ?_, ?_⟩
  · intro k u v hk hne hu hv
    rw [g] at hu hv
    by_cases a : k = j - 1
    · rw [if_pos a] at hu
      rw [if_neg (by omega), if_pos (by omega)] at hv
      cases hu; cases hv
      exact ltS_asymm hlt
    · rw [if_neg a] at hu
      by_cases b : k = j
      · rw [if_pos b] at hu
        rw [if_neg (by omega), if_neg (by omega)] at hv
        cases hu
        exact h2 _ v hj (by omega) hx (by rw [← b]; exact hv)
      · rw [if_neg b] at hu
        rw [if_neg (by omega), if_neg (by omega)] at hv
        exact h1 k u v hk (by omega) hu hv
  · intro u v h3 h4 hu hv
    rw [g] at hu hv
    rw [if_neg (by omega), if_neg (by omega)] at hu
    rw [if_neg (by omega), if_pos (by omega)] at hv
    cases hv
    exact h1 (j - 1 - 1) u _ (by omega) (by omega) hu (by rw [show j - 1 - 1 + 1 = j - 1 by omega]; exact hx)
theorem swap_perm {xs : List ByteArray} {j : Nat} {x y : ByteArray} (hj : 1 ≤ j) (hx : xs[j - 1]? = some x) (hy : xs[j]? = some y) : ((xs.set j x).set (j - 1) y).Perm xs := by
  obtain ⟨A, B, rfl, hA⟩ : ∃ A B, xs = A ++ x :: y :: B ∧ A.length = j - 1 := by
    refine ⟨xs.take (j - 1), xs.drop (j + 1), ?_, ?_⟩
    · obtain ⟨h1, e1⟩ := List.getElem?_eq_some_iff.1 hx
      obtain ⟨h2, e2⟩ := List.getElem?_eq_some_iff.1 hy
      have d1 := List.drop_eq_getElem_cons h1
      have d2 := List.drop_eq_getElem_cons h2
      rw [show j - 1 + 1 = j by omega, d2, e1, e2] at d1
      rw [← d1, List.take_append_drop]
    · have := (List.getElem?_eq_some_iff.1 hx).1
      simp; omega
  have e : ((A ++ x :: y :: B).set j x).set (j - 1) y = A ++ y :: x :: B := by
    rw [List.set_append_right _ _ (by omega), show j - A.length = 1 by omega, List.set_append_right _ _ (by omega), show j - 1 - A.length = 0 by omega]
    rfl
  rw [e]
  exact List.Perm.append_left _ (List.Perm.swap _ _ _)
theorem JX.blkNew {C : Cx} {x : Exit} {Q : Post} {S : SHeap} {M : List MEnt} {e : Env} {b : Nat} {o : Obj} (h0 : C.B0 = []) (k : C.w0.heap.size ≤ b → JX C x Q S (.blk b o :: M) e) : JX C x Q S (.blk b o :: M) e := ⟨fun a w hw => by
  have := (hw.wd.out (.blk b o) (by simp) b rfl).2
  rw [h0] at this
  exact (k (this.resolve_right (by simp))).run a w hw⟩
theorem JX.end0r {S S0 : SHeap} {M M' : List MEnt} {e : Env} {fn : Func} {w0 : World} {B0 : List Nat} {PP : Value → SHeap → List MEnt → Prop} {P : Program} {r : Option Nat} {N : Nat} (hr : fn.results = #[]) (hM : M'.Sublist M) (hp : PP (.tuple #[]) S M') :
    JX ⟨P, r, N, [], w0, B0, S0⟩ .ret (bodyPost P fn (EndPost w0 B0 S0 PP)) S M e := ⟨fun a w hw => (JX.end0 hr hM hp).run a w hw⟩
theorem s270_L7m {P K : Prop} (k : K) (h : Goal K → P := by
  intro zk
  (first | refine Walk ?_ | refine JC.block ?_ | refine JC.drawN 4 rfl [0, 1, 2, 3, 4, 5, 6, 7, 8, 9, 10, 11, 12, 13, 14] [0, 1, 2, 3, 4, 5, 6, 7, 8, 9, 10, 11, 12, 14] Tryz_mixed (by decide +kernel) ?_ | refine JC.drawN 6 rfl [0, 1, 2, 3, 4, 5, 6, 7, 8, 9, 10, 11, 12, 13, 14, 15, 16, 17] [0, 1, 5, 6, 7, 8, 9, 10, 11, 12, 13, 14, 16] Tryz_mixed (by decide +kernel) ?_ | (refine JO.eff rfl rfl rfl (JEff.callV rfl (p_Less _ _) rfl ?_); intro zqa zqb))
  (repeat (first | revert zqg | revert zqf | revert zqe | revert zqd | revert zqc | revert zqb | revert zqa))
  exact zk.k) : P := h ⟨k⟩
theorem p_insertionSort {S : SHeap} {b n c : Nat} {vs tl : List Value} {xs : List ByteArray} (hv : allV rStr S vs xs) (hn : n = xs.length) (hb : n ≤ 1000) (hc : n ≤ c) :
    Fn Tryz.prog 270 #[.slice (some ⟨b, 0, none⟩) n c, .int .i64 0, .int .i64 n] S [.blk b (.cells (cellsR vs tl) 9 (0, 0))]
      (fun w S' M' => w = .tuple #[] ∧ ∃ vs' xs', allV rStr S' vs' xs' ∧ xs'.Perm xs ∧ srt xs' (n - 1) ∧ M' = [.blk b (.cells (cellsR vs' tl) 9 (0, 0))]) := by
  (refine Fn.enter (args := [.slice (some ⟨b, 0, none⟩) n c, .int .i64 0, .int .i64 n]) Tryz.func270 rfl Tryz.ntmps270 rfl ?_; intro w0)
  repeat (refine s270_L7m ?_; intros)
  refine JC.loopF (σ := Nat × List Value × List ByteArray) [(0, _), (1, _), (2, _)] (fun q => [(6, .int .i64 ((q.1 : Int) + 1))]) (fun q => [.blk b (.cells (cellsR q.2.1 tl) 9 (0, 0))]) (fun Si q => q.1 ≤ n ∧ allV rStr Si q.2.1 q.2.2 ∧ q.2.2.Perm xs ∧ srt q.2.2 q.1) (fun q => n - q.1) ((0, vs, xs)) (by exact sba) (by exact sba) rfl (⟨Nat.zero_le _, hv.mono (by exact lea), List.Perm.refl _, fun k x y hk => by omega⟩) ?_; rintro Si ⟨k, vs1, xs1⟩ hli hii; (try dsimp only at hii); dsimp only [List.cons_append, List.nil_append]
  obtain ⟨hk0, hv1, hp1, hs1⟩ := hii
  have hl1 := hp1.length_eq
  repeat (refine s270_L7m ?_; intros)
  refine JC.cond rfl (fun hc0 => ?_) (fun hc0 => ?_)
  · have hk' : k + 1 < n := by have := of_decide_eq_true hc0; omega
    repeat (refine s270_L7m ?_; intros)
    refine JC.loopF (σ := Nat × List Value × List ByteArray) [(0, _), (1, _), (2, _), (6, _)] (fun q => [(7, .int .i64 (q.1 : Int))]) (fun q => [.blk b (.cells (cellsR q.2.1 tl) 9 (0, 0))]) (fun Sj q => insI q.2.2 (k + 1) q.1 ∧ allV rStr Sj q.2.1 q.2.2 ∧ q.2.2.Perm xs) (fun q => q.1) ((k + 1, vs1, xs1)) (by exact sba) (by exact sba) rfl (⟨insI_start hs1, hv1.mono (by exact lea), hp1⟩) ?_; rintro Sj ⟨j, vs2, xs2⟩ hlj hij; (try dsimp only at hij); dsimp only [List.cons_append, List.nil_append]
    obtain ⟨hj1, hv2, hp2⟩ := hij
    have hl2 := hp2.length_eq
    have hj0 := hj1.1
    repeat (refine s270_L7m ?_; intros)
    cases hg : decide ((0 : Int) < (j : Int)) with
    | true =>
      have hj' : 1 ≤ j := by have := of_decide_eq_true hg; omega
      obtain ⟨y, hy⟩ : ∃ y, xs2[j]? = some y := ⟨_, List.getElem?_eq_getElem (by omega)⟩
      obtain ⟨x, hx⟩ : ∃ x, xs2[j - 1]? = some x := ⟨_, List.getElem?_eq_getElem (by omega)⟩
      refine JO.guard rfl rfl rfl rfl (fun _ => ?_) (fun g => Bool.noConfusion (g.symm.trans rfl))
      repeat (refine s270_L7m ?_; intros)
      refine JO.pure rfl rfl rfl (JPure.indexRR rStr rfl rfl rfl (by omega) (by omega) ?_)
      refine JO.pure rfl rfl rfl (JPure.loadRT (j := j) rfl (by show 0 + ((j : Int)).toNat * 1 = j; omega) (by (first | exact List.mem_cons_self | exact List.mem_cons_of_mem _ List.mem_cons_self | exact List.mem_cons_of_mem _ (List.mem_cons_of_mem _ List.mem_cons_self))) (hv2.mono (by exact lea)) hy (.inl rfl) rfl ?_); intro hys
      repeat (refine s270_L7m ?_; intros)
      refine JO.pure rfl rfl rfl (JPure.indexRR rStr rfl rfl rfl (by omega) (by omega) ?_)
      refine JO.pure rfl rfl rfl (JPure.loadRT (j := j - 1) rfl (by show 0 + ((j : Int) - 1).toNat * 1 = j - 1; omega) (by (first | exact List.mem_cons_self | exact List.mem_cons_of_mem _ List.mem_cons_self | exact List.mem_cons_of_mem _ (List.mem_cons_of_mem _ List.mem_cons_self))) (hv2.mono (by exact lea)) hx (.inl rfl) rfl ?_); intro hxs
      repeat (refine s270_L7m ?_; intros)
      cases hlt : ltS y x with
      | true =>
        repeat (refine s270_L7m ?_; intros)
        refine JO.pure rfl rfl rfl (JPure.indexRR rStr rfl rfl rfl (by omega) (by omega) ?_)
        refine JO.pure rfl rfl rfl (JPure.loadRT (j := j - 1) rfl (by show 0 + ((j : Int) - 1).toNat * 1 = j - 1; omega) (by (first | exact List.mem_cons_self | exact List.mem_cons_of_mem _ List.mem_cons_self | exact List.mem_cons_of_mem _ (List.mem_cons_of_mem _ List.mem_cons_self))) (hv2.mono (by exact lea)) hx (.inl rfl) rfl ?_); intro hxs3
        repeat (refine s270_L7m ?_; intros)
        refine JO.pure rfl rfl rfl (JPure.indexRR rStr rfl rfl rfl (by omega) (by omega) ?_)
        refine JO.pure rfl rfl rfl (JPure.loadRT (j := j) rfl (by show 0 + ((j : Int)).toNat * 1 = j; omega) (by (first | exact List.mem_cons_self | exact List.mem_cons_of_mem _ List.mem_cons_self | exact List.mem_cons_of_mem _ (List.mem_cons_of_mem _ List.mem_cons_self))) (hv2.mono (by exact lea)) hy (.inl rfl) rfl ?_); intro hys3
        repeat (refine s270_L7m ?_; intros)
        refine JO.pure rfl rfl rfl (JPure.indexRR rStr rfl rfl rfl (by omega) (by omega) ?_)
        repeat (refine s270_L7m ?_; intros)
        refine JO.eff rfl rfl rfl (JEff.storeRO (i := j) rfl (by show 0 + ((j : Int)).toNat * 1 = j * 1; omega) rfl (hv2.mono (by exact lea)) (V_str.2 ⟨rfl, hxs⟩) nna (List.Perm.refl _) (by omega) (by intro l hl; cases hl) ?_); intro hv3
        repeat (refine s270_L7m ?_; intros)
        refine JO.pure rfl rfl rfl (JPure.indexRR rStr rfl rfl rfl (by omega) (by omega) ?_)
        refine JO.eff rfl rfl rfl (JEff.storeRO (i := j - 1) rfl (by show 0 + ((j : Int) - 1).toNat * 1 = (j - 1) * 1; omega) rfl hv3 (V_str.2 ⟨rfl, hys⟩) nna (List.Perm.refl _) (by rw [List.length_set]; omega) (by intro l hl; cases hl) ?_); intro hv4
        repeat (refine s270_L7m ?_; intros)
        exact JX.roundF (j - 1, _, _) (by exact lea) (⟨insI_swap hj1 hj' hx hy hlt, hv4.mono (by exact lea), (swap_perm hj' hx hy).trans hp2⟩) (by (try dsimp only); omega) rfl (by (try dsimp only); rw [show ((j - 1 : Nat) : Int) = (j : Int) - 1 by omega]; exact sba) (by exact sba)
      | false =>
        have hs2 := insI_stop hj1 hj' hx hy hlt
        repeat (refine s270_L7m ?_; intros)
        exact JX.roundF (k + 1, vs2, xs2) (by exact lea) (⟨by (try dsimp only); omega, hv2.mono (by exact lea), hp2, hs2⟩) (by (try dsimp only); omega) rfl (by exact sba) (by exact sba)
    | false =>
      have hj' : j = 0 := by have := of_decide_eq_false hg; omega
      subst hj'
      have hs2 := insI_zero hj1
      refine JO.guard rfl rfl rfl rfl (fun g => Bool.noConfusion (g.symm.trans rfl)) (fun _ => ?_)
      repeat (refine s270_L7m ?_; intros)
      exact JX.roundF (k + 1, vs2, xs2) (by exact lea) (⟨by (try dsimp only); omega, hv2.mono (by exact lea), hp2, hs2⟩) (by (try dsimp only); omega) rfl (by exact sba) (by exact sba)
  · have hk' : n ≤ k + 1 := by have := of_decide_eq_false hc0; omega
    repeat (refine s270_L7m ?_; intros)
    refine JX.end0 Tryz.results270 (List.Sublist.refl _) ?_
    exact ⟨rfl, vs1, xs1, hv1.mono (by exact lea), hp1, fun j x y hj hx hy => hs1 j x y (by omega) hx hy, rfl⟩
theorem s267_L7m {P K : Prop} (k : K) (h : Goal K → P := by
  intro zk
  (first | refine Walk ?_ | refine JC.block ?_ | refine JC.drawN 17 rfl [0, 1, 2, 3, 4, 5, 6, 7, 8, 9, 10, 11, 12, 13, 14] [0, 1, 2, 3, 4, 5, 6, 7, 8, 9, 10, 11, 13, 14] Tryz_mixed (by decide +kernel) ?_ | (refine JO.eff rfl rfl rfl (JEff.callV rfl (p_Less _ _) rfl ?_); intro zqa zqb))
  (repeat (first | revert zqg | revert zqf | revert zqe | revert zqd | revert zqc | revert zqb | revert zqa))
  exact zk.k) : P := h ⟨k⟩
theorem p_pdqsort {S : SHeap} {b n c : Nat} {vs tl : List Value} {xs : List ByteArray} (lim : Int) (hv : allV rStr S vs xs) (hn : n = xs.length) (hb : n ≤ 12) (hc : n ≤ c) :
    Fn Tryz.prog 267 #[.slice (some ⟨b, 0, none⟩) n c, .int .i64 0, .int .i64 n, .int .i64 lim] S [.blk b (.cells (cellsR vs tl) 9 (0, 0))]
      (fun w S' M' => w = .tuple #[] ∧ ∃ vs' xs', allV rStr S' vs' xs' ∧ xs'.Perm xs ∧ srt xs' (n - 1) ∧ M' = [.blk b (.cells (cellsR vs' tl) 9 (0, 0))]) := by
  (refine Fn.enter (args := [.slice (some ⟨b, 0, none⟩) n c, .int .i64 0, .int .i64 n, .int .i64 lim]) Tryz.func267 rfl Tryz.ntmps267 rfl ?_; intro w0)
  repeat (refine s267_L7m ?_; intros)
  refine JC.loopF (σ := Unit) [(0, _)] (fun q => [(1, .int .i64 0), (2, .int .i64 n), (3, .int .i64 lim), (8, .bool true), (9, .bool true)]) (fun q => [.blk b (.cells (cellsR vs tl) 9 (0, 0))]) (fun Sz q => True) (fun q => 0) (()) (by exact sba) (by exact sba) rfl (trivial) ?_; rintro Sz z hlz hiz; (try dsimp only at hiz); dsimp only [List.cons_append, List.nil_append]
  repeat (refine s267_L7m ?_; intros)
  have h12 : decide ((n : Int) - 0 ≤ 12) = true := by simp; omega
  refine JC.cond rfl (fun hc0 => ?_) (fun hc0 => ?_)
  · repeat (refine s267_L7m ?_; intros)
    refine JO.eff rfl rfl rfl (JEff.fn (Mc := [_]) (Mr := []) (sem_call rfl _ _ _ _ _) rfl rfl rfl (List.Perm.refl _) (by intro l hl; cases hl) (p_insertionSort (hv.mono (by exact lea)) hn (by omega) hc) ?_); rintro v S' M' hl ⟨rfl, vs', xs', hv', hp', hs', rfl⟩
    repeat (refine s267_L7m ?_; intros)
    refine JX.end0r Tryz.results267 (List.Sublist.refl _) ?_
    exact ⟨rfl, vs', xs', hv', hp', hs', rfl⟩
  · rw [h12] at hc0; cases hc0
theorem s254_L7m {P K : Prop} (k : K) (h : Goal K → P := by
  intro zk
  (first | refine Walk ?_ | refine JC.block ?_ | (refine JO.eff rfl rfl rfl (JEff.callV rfl (p_bitsLen _ (by omega) (by omega)) rfl ?_); intro zqa zqb))
  (repeat (first | revert zqg | revert zqf | revert zqe | revert zqd | revert zqc | revert zqb | revert zqa))
  exact zk.k) : P := h ⟨k⟩
theorem p_Sort {S : SHeap} {b n c : Nat} {vs tl : List Value} {xs : List ByteArray} (hv : allV rStr S vs xs) (hn : n = xs.length) (hb : n ≤ 12) (hc : n ≤ c) :
    Fn Tryz.prog 254 #[.slice (some ⟨b, 0, none⟩) n c] S [.blk b (.cells (cellsR vs tl) 9 (0, 0))]
      (fun w S' M' => w = .tuple #[] ∧ ∃ vs' xs', allV rStr S' vs' xs' ∧ xs'.Perm xs ∧ srt xs' (n - 1) ∧ M' = [.blk b (.cells (cellsR vs' tl) 9 (0, 0))]) := by
  (refine Fn.enter (args := [.slice (some ⟨b, 0, none⟩) n c]) Tryz.func254 rfl Tryz.ntmps254 rfl ?_; intro w0)
  repeat (refine s254_L7m ?_; intros)
  have hw64 : IntKind.u64.wrap (n : Int) = (n : Int) := by simp [IntKind.wrap, IntKind.bits, IntKind.signed]; omega
  refine JO.pure rfl rfl rfl (JPure.conv rfl hw64 rfl ?_)
  repeat (refine s254_L7m ?_; intros)
  refine JO.eff rfl rfl rfl (JEff.fn (Mc := [_]) (Mr := []) (sem_call rfl _ _ _ _ _) rfl rfl rfl (List.Perm.refl _) (by intro l hl; cases hl) (p_pdqsort _ (hv.mono (by exact lea)) hn hb hc) ?_); rintro v S' M' hl ⟨rfl, vs', xs', hv', hp', hs', rfl⟩
  repeat (refine s254_L7m ?_; intros)
  refine JX.end0 Tryz.results254 (List.Sublist.refl _) ?_
  exact ⟨rfl, vs', xs', hv', hp', hs', rfl⟩
theorem p_Sorted {S : SHeap} {gf : FuncId} {lb : Array Value} {Sx : List ByteArray → Prop} (hE : Ent Tryz.prog gf) (hit : IterS Tryz.prog gf lb rStr S Sx) (hlen : ∀ xs, Sx xs → xs.length ≤ 12) :
    FnR Tryz.prog 226 #[.func (.func gf) #[] lb] S (fun w S' => ∃ xs xs', Sx xs ∧ xs'.Perm xs ∧ srt xs' (xs.length - 1) ∧ (rSlice 16 rStr).V S' w xs') := by
  (refine Fn.enter (args := [.func (.func gf) #[] lb]) Tryz.func226 rfl Tryz.ntmps226 rfl ?_; intro w0)
  repeat (first | (refine Walk ?_; intros) | refine JC.block ?_)
  refine JO.eff rfl rfl rfl (JEff.fn (Mc := []) (Mr := []) (sem_call rfl _ _ _ _ _) rfl rfl rfl (List.Perm.refl _) (by intro l hl m hm; cases hm) (p_Collect hE hit (fun xs h => by have := hlen xs h; omega)) ?_); rintro v S1 M1 hl ⟨xs, a, c, vs, hxs, rfl, hvs, rfl⟩
  have hxl := hlen xs hxs
  rw [List.append_nil]
  repeat (first | (refine Walk ?_; intros) | refine JC.block ?_)
  rcases Nat.eq_zero_or_pos xs.length with h0 | h0
  · have hx0 : xs = [] := List.length_eq_zero_iff.1 h0
    subst hx0
    refine JO.eff rfl rfl rfl (JEff.callV rfl (p_Sort0 _ _) rfl ?_); intro _ _
    repeat (first | (refine Walk ?_; intros) | refine JC.block ?_)
    refine JX.ret1 Tryz.results226 (ResV.tmp rfl) (List.nil_sublist _) ?_
    exact ⟨rfl, [], [], hxs, List.Perm.refl _, fun k x y _ hx _ => (by cases hx), V_slice.2 ⟨a, c, rfl, by simp, by simp, by simp, by simp⟩⟩
  · refine JO.rowBlkB h0 (fun b tl hab hnc hsz => ?_)
    subst hab
    refine JO.eff rfl rfl rfl (JEff.fn (Mc := [_]) (Mr := []) (sem_call rfl _ _ _ _ _) rfl rfl rfl (List.Perm.refl _) (by intro l hl; cases hl) (p_Sort (hvs.mono (by exact lea)) rfl hxl hnc) ?_); rintro v S2 M2 hl2 ⟨rfl, vs', xs', hv', hp', hs', rfl⟩
    rw [List.append_nil]
    repeat (first | (refine Walk ?_; intros) | refine JC.block ?_)
    refine JX.blkNew rfl (fun hb => ?_)
    refine JX.freezeR (bt := 16) hv' hp'.length_eq.symm hnc (by unfold big; omega) (by unfold big; omega) hb (fun S3 hl3 hV3 => ?_)
    refine JX.ret1 Tryz.results226 (ResV.tmp rfl) (List.nil_sublist _) ?_
    exact ⟨rfl, xs, xs', hxs, hp', hs', hV3⟩
end Go.Dr
namespace Go.Dr
open Go.Proofs
set_option maxRecDepth 20000
set_option maxHeartbeats 1000000
set_option linter.unusedSimpArgs false
set_option linter.unusedVariables false
def ownedK (s : Snap) (p : List Int) (o : Nat) (k : Nat) : List Int := (((p.zip s.pods).take k).filter (fun x => decide (0 ≤ x.1) && decide (x.2.owner = ownName s o))).map (fun x => x.1)
theorem ownedK_all {s : Snap} {p : List Int} {o : Nat} (h : p.length = s.pods.length) : ownedK s p o p.length = ownedL s p o := by
  unfold ownedK ownedL
  rw [List.take_of_length_le (by simp [h])]
theorem ownedK_len (s : Snap) (p : List Int) (o k : Nat) : (ownedK s p o k).length ≤ k := by
  unfold ownedK
  rw [List.length_map]
  exact Nat.le_trans (List.length_filter_le _ _) (by simp; omega)
end Go.Dr
namespace Go.Dr
open Go.Proofs
set_option maxRecDepth 20000
set_option maxHeartbeats 1000000
set_option linter.unusedSimpArgs false
set_option linter.unusedVariables false
end Go.Dr
namespace Go.Dr
open Go.Proofs
set_option maxRecDepth 20000
set_option maxHeartbeats 1000000
set_option linter.unusedSimpArgs false
set_option linter.unusedVariables false
theorem ptr_str {S : SHeap} {p : Addr} {s : ByteArray} (h : PtrTo S p rStr s) : s.size ≤ big := by
  obtain ⟨cs, h, _⟩ := h; exact h.2
theorem snap_val {S : SHeap} {p : Addr} {s : Snap} (h : PtrTo S p rSnap s) (key : ByteArray) : ∀ x ∈ s.nodes, (valB x key).1.size ≤ big := by
  intro x hx
  have h1 : PtrTo S (p.add 0) (rSlice 112 rNode) s.nodes := h.part (Fld.h (rep := rSnap) (off := 0))
  obtain ⟨q, hq⟩ := ptr_slice h1 x hx
  have h2 : PtrTo S (q.add 6) (rSlice 32 rLabel) x.labels := hq.part (Fld.h (rep := rNode) (off := 6))
  unfold valB getL
  split
  · exact Nat.zero_le _
  · split
    · rename_i l hl
      obtain ⟨q2, hq2⟩ := ptr_slice h2 l (List.mem_of_find?_eq_some hl)
      have h3 : PtrTo S (q2.add 1) rStr l.value := hq2.part (Fld.h (rep := rLabel) (off := 1))
      exact ptr_str h3
    · exact Nat.zero_le _
def domK (s : Snap) (key : ByteArray) (i : Nat) : List ByteArray := (s.nodes.take i).foldl (domStep key) []
theorem domK_step {s : Snap} {key : ByteArray} {i : Nat} {n : Node} (h : s.nodes[i]? = some n) : domK s key (i + 1) = domStep key (domK s key i) n := by
  unfold domK
  rw [List.take_add_one, h]; simp [List.foldl_append]
theorem domIns_len (v : ByteArray) (l : List ByteArray) : (domIns v l).length ≤ l.length + 1 := by
  have h : l.length = (l.takeWhile (fun x => ltS x v)).length + (l.dropWhile (fun x => ltS x v)).length := by
    rw [← List.length_append, List.takeWhile_append_dropWhile]
  unfold domIns
  rw [List.length_append, h]
  split
  · rename_i h1; rw [h1]; simp
  · rename_i h1; rw [h1]; split <;> simp <;> omega
theorem domK_len (s : Snap) (key : ByteArray) : ∀ i, (domK s key i).length ≤ i
  | 0 => by simp [domK]
  | i + 1 => by
    have ih := domK_len s key i
    cases h : s.nodes[i]? with
    | none =>
      have : domK s key (i + 1) = domK s key i := by
        unfold domK
        rw [List.take_add_one, h]; simp
      rw [this]; omega
    | some n =>
      rw [domK_step h, domStep]
      split
      · have := domIns_len (valB n key).1 (domK s key i); omega
      · omega
end Go.Dr
