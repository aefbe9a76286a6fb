/- Part 7 of the rules and of the walks that the proofs of this seat rest on; no condition. -/
import Derived.Test.YthlkghfkcbpacaaGreatA05
set_option linter.unusedVariables false
set_option linter.unusedSimpArgs false
namespace Go.Dr
open Go.Proofs
set_option maxRecDepth 20000
set_option maxHeartbeats 2000000
set_option linter.unusedSimpArgs false
set_option linter.unusedVariables false
def srt (xs : List ByteArray) (i : Nat) : Prop := ∀ k x y, k + 1 ≤ i → xs[k]? = some x → xs[k + 1]? = some y → ltS y x = false
def insI (xs : List ByteArray) (i j : Nat) : Prop :=
  j ≤ i ∧ (∀ k x y, k + 1 ≤ i → k + 1 ≠ j → xs[k]? = some x → xs[k + 1]? = some y → ltS y x = false) ∧ (∀ x y, 1 ≤ j → j < i → xs[j - 1]? = some x → xs[j + 1]? = some y → ltS y x = false)
theorem ltS_asymm {x y : ByteArray} (h : ltS y x = true) : ltS x y = false := by
  rw [ltS_total] at h
  simp only [Bool.and_eq_true, Bool.not_eq_true'] at h
  exact h.1
theorem insI_start {xs : List ByteArray} {i : Nat} (h : srt xs i) : insI xs (i + 1) (i + 1) :=
  ⟨Nat.le_refl _, fun k x y hk hne hx hy => h k x y (by omega) hx hy, fun x y _ h2 => by omega⟩
theorem insI_zero {xs : List ByteArray} {i : Nat} (h : insI xs i 0) : srt xs i := fun k x y hk hx hy => h.2.1 k x y hk (by omega) hx hy
theorem insI_stop {xs : List ByteArray} {i j : Nat} {x y : ByteArray} (h : insI xs i j) (hj : 1 ≤ j) (hx : xs[j - 1]? = some x) (hy : xs[j]? = some y) (hlt : ltS y x = false) : srt xs i := by
  intro k u v hk hu hv
  by_cases a : k + 1 = j
  · rw [show k = j - 1 by omega] at hu
    rw [a] at hv
    rw [hx] at hu; rw [hy] at hv
    cases hu; cases hv
    exact hlt
  · exact h.2.1 k u v hk a hu hv
theorem insI_swap {xs : List ByteArray} {i j : Nat} {x y : ByteArray} (h : insI xs i j) (hj : 1 ≤ j) (hx : xs[j - 1]? = some x) (hy : xs[j]? = some y) (hlt : ltS y x = true) : insI ((xs.set j x).set (j - 1) y) i (j - 1) := by
  obtain ⟨h0, h1, h2⟩ := h
  have hjl : j < xs.length := (List.getElem?_eq_some_iff.1 hy).1
  have g : ∀ k, ((xs.set j x).set (j - 1) y)[k]? = if k = j - 1 then some y else if k = j then some x else xs[k]? := by
    intro k
    rw [List.getElem?_set, List.getElem?_set, List.length_set]
    by_cases a : j - 1 = k
    · rw [if_pos a, if_pos (by omega), if_pos a.symm]
    · rw [if_neg a, if_neg (Ne.symm a)]
      by_cases b : j = k
      · rw [if_pos b, if_pos (by omega), if_pos b.symm]
      · rw [if_neg b, if_neg (Ne.symm b)]
  refine ⟨by omega, ?_, ?_⟩
  · intro k u v hk hne hu hv
    rw [g] at hu hv
    by_cases a : k = j - 1
    · rw [if_pos a] at hu
      rw [if_neg (by omega), if_pos (by omega)] at hv
      cases hu; cases hv
      exact ltS_asymm hlt
    · rw [if_neg a] at hu
      by_cases b : k = j
      · rw [if_pos b] at hu
        rw [if_neg (by omega), if_neg (by omega)] at hv
        cases hu
        exact h2 _ v hj (by omega) hx (by rw [← b]; exact hv)
      · rw [if_neg b] at hu
        rw [if_neg (by omega), if_neg (by omega)] at hv
        exact h1 k u v hk (by omega) hu hv
  · intro u v h3 h4 hu hv
    rw [g] at hu hv
    rw [if_neg (by omega), if_neg (by omega)] at hu
    rw [if_neg (by omega), if_pos (by omega)] at hv
    cases hv
    exact h1 (j - 1 - 1) u _ (by omega) (by omega) hu (by rw [show j - 1 - 1 + 1 = j - 1 by omega]; exact hx)
theorem swap_perm {xs : List ByteArray} {j : Nat} {x y : ByteArray} (hj : 1 ≤ j) (hx : xs[j - 1]? = some x) (hy : xs[j]? = some y) : ((xs.set j x).set (j - 1) y).Perm xs := by
  obtain ⟨A, B, rfl, hA⟩ : ∃ A B, xs = A ++ x :: y :: B ∧ A.length = j - 1 := by
    refine ⟨xs.take (j - 1), xs.drop (j + 1), ?_, ?_⟩
    · obtain ⟨h1, e1⟩ := List.getElem?_eq_some_iff.1 hx
      obtain ⟨h2, e2⟩ := List.getElem?_eq_some_iff.1 hy
      have d1 := List.drop_eq_getElem_cons h1
      have d2 := List.drop_eq_getElem_cons h2
      rw [show j - 1 + 1 = j by omega, d2, e1, e2] at d1
      rw [← d1, List.take_append_drop]
    · have := (List.getElem?_eq_some_iff.1 hx).1
      simp; omega
  have e : ((A ++ x :: y :: B).set j x).set (j - 1) y = A ++ y :: x :: B := by
    rw [List.set_append_right _ _ (by omega), show j - A.length = 1 by omega, List.set_append_right _ _ (by omega), show j - 1 - A.length = 0 by omega]
    rfl
  rw [e]
  exact List.Perm.append_left _ (List.Perm.swap _ _ _)
theorem JX.blkNew {C : Cx} {x : Exit} {Q : Post} {S : SHeap} {M : List MEnt} {e : Env} {b : Nat} {o : Obj} (h0 : C.B0 = []) (k : C.w0.heap.size ≤ b → JX C x Q S (.blk b o :: M) e) : JX C x Q S (.blk b o :: M) e := ⟨fun a w hw => by
  have := (hw.wd.out (.blk b o) (by simp) b rfl).2
  rw [h0] at this
  exact (k (this.resolve_right (by simp))).run a w hw⟩
theorem JX.end0r {S S0 : SHeap} {M M' : List MEnt} {e : Env} {fn : Func} {w0 : World} {B0 : List Nat} {PP : Value → SHeap → List MEnt → Prop} {P : Program} {r : Option Nat} {N : Nat} (hr : fn.results = #[]) (hM : M'.Sublist M) (hp : PP (.tuple #[]) S M') :
    JX ⟨P, r, N, [], w0, B0, S0⟩ .ret (bodyPost P fn (EndPost w0 B0 S0 PP)) S M e := ⟨fun a w hw => (JX.end0 hr hM hp).run a w hw⟩
theorem s270_L7m {P K : Prop} (k : K) (h : Goal K → P := by
  intro zk
  (first | refine Walk ?_ | refine JC.block ?_ | refine JC.drawN 4 rfl [0, 1, 2, 3, 4, 5, 6, 7, 8, 9, 10, 11, 12, 13, 14] [0, 1, 2, 3, 4, 5, 6, 7, 8, 9, 10, 11, 12, 14] Tryz_mixed (by decide +kernel) ?_ | refine JC.drawN 6 rfl [0, 1, 2, 3, 4, 5, 6, 7, 8, 9, 10, 11, 12, 13, 14, 15, 16, 17] [0, 1, 5, 6, 7, 8, 9, 10, 11, 12, 13, 14, 16] Tryz_mixed (by decide +kernel) ?_ | (refine JO.eff rfl rfl rfl (JEff.callV rfl (p_Less _ _) rfl ?_); intro zqa zqb))
  (repeat (first | revert zqg | revert zqf | revert zqe | revert zqd | revert zqc | revert zqb | revert zqa))
  exact zk.k) : P := h ⟨k⟩
theorem p_insertionSort {S : SHeap} {b n c : Nat} {vs tl : List Value} {xs : List ByteArray} (hv : allV rStr S vs xs) (hn : n = xs.length) (hb : n ≤ 1000) (hc : n ≤ c) :
    Fn Tryz.prog 270 #[.slice (some ⟨b, 0, none⟩) n c, .int .i64 0, .int .i64 n] S [.blk b (.cells (cellsR vs tl) 9 (0, 0))]
      (fun w S' M' => w = .tuple #[] ∧ ∃ vs' xs', allV rStr S' vs' xs' ∧ xs'.Perm xs ∧ srt xs' (n - 1) ∧ M' = [.blk b (.cells (cellsR vs' tl) 9 (0, 0))]) := by
  (refine Fn.enter (args := [.slice (some ⟨b, 0, none⟩) n c, .int .i64 0, .int .i64 n]) Tryz.func270 rfl Tryz.ntmps270 rfl ?_; intro w0)
  repeat (refine s270_L7m ?_; intros)
  refine JC.loopF (σ := Nat × List Value × List ByteArray) [(0, _), (1, _), (2, _)] (fun q => [(6, .int .i64 ((q.1 : Int) + 1))]) (fun q => [.blk b (.cells (cellsR q.2.1 tl) 9 (0, 0))]) (fun Si q => q.1 ≤ n ∧ allV rStr Si q.2.1 q.2.2 ∧ q.2.2.Perm xs ∧ srt q.2.2 q.1) (fun q => n - q.1) ((0, vs, xs)) (by exact sba) (by exact sba) rfl (⟨Nat.zero_le _, hv.mono (by exact lea), List.Perm.refl _, fun k x y hk => by omega⟩) ?_; rintro Si ⟨k, vs1, xs1⟩ hli hii; (try dsimp only at hii); dsimp only [List.cons_append, List.nil_append]
  obtain ⟨hk0, hv1, hp1, hs1⟩ := hii
  have hl1 := hp1.length_eq
  repeat (refine s270_L7m ?_; intros)
  refine JC.cond rfl (fun hc0 => ?_) (fun hc0 => ?_)
  · have hk' : k + 1 < n := by have := of_decide_eq_true hc0; omega
    repeat (refine s270_L7m ?_; intros)
    refine JC.loopF (σ := Nat × List Value × List ByteArray) [(0, _), (1, _), (2, _), (6, _)] (fun q => [(7, .int .i64 (q.1 : Int))]) (fun q => [.blk b (.cells (cellsR q.2.1 tl) 9 (0, 0))]) (fun Sj q => insI q.2.2 (k + 1) q.1 ∧ allV rStr Sj q.2.1 q.2.2 ∧ q.2.2.Perm xs) (fun q => q.1) ((k + 1, vs1, xs1)) (by exact sba) (by exact sba) rfl (⟨insI_start hs1, hv1.mono (by exact lea), hp1⟩) ?_; rintro Sj ⟨j, vs2, xs2⟩ hlj hij; (try dsimp only at hij); dsimp only [List.cons_append, List.nil_append]
    obtain ⟨hj1, hv2, hp2⟩ := hij
    have hl2 := hp2.length_eq
    have hj0 := hj1.1
    repeat (refine s270_L7m ?_; intros)
    cases hg : decide ((0 : Int) < (j : Int)) with
    | true =>
      have hj' : 1 ≤ j := by have := of_decide_eq_true hg; omega
      obtain ⟨y, hy⟩ : ∃ y, xs2[j]? = some y := ⟨_, List.getElem?_eq_getElem (by omega)⟩
      obtain ⟨x, hx⟩ : ∃ x, xs2[j - 1]? = some x := ⟨_, List.getElem?_eq_getElem (by omega)⟩
      refine JO.guard rfl rfl rfl rfl (fun _ => ?_) (fun g => Bool.noConfusion (g.symm.trans rfl))
      repeat (refine s270_L7m ?_; intros)
      refine JO.pure rfl rfl rfl (JPure.indexRR rStr rfl rfl rfl (by omega) (by omega) ?_)
      refine JO.pure rfl rfl rfl (JPure.loadRT (j := j) rfl (by show 0 + ((j : Int)).toNat * 1 = j; omega) (by (first | exact List.mem_cons_self | exact List.mem_cons_of_mem _ List.mem_cons_self | exact List.mem_cons_of_mem _ (List.mem_cons_of_mem _ List.mem_cons_self))) (hv2.mono (by exact lea)) hy (.inl rfl) rfl ?_); intro hys
      repeat (refine s270_L7m ?_; intros)
      refine JO.pure rfl rfl rfl (JPure.indexRR rStr rfl rfl rfl (by omega) (by omega) ?_)
      refine JO.pure rfl rfl rfl (JPure.loadRT (j := j - 1) rfl (by show 0 + ((j : Int) - 1).toNat * 1 = j - 1; omega) (by (first | exact List.mem_cons_self | exact List.mem_cons_of_mem _ List.mem_cons_self | exact List.mem_cons_of_mem _ (List.mem_cons_of_mem _ List.mem_cons_self))) (hv2.mono (by exact lea)) hx (.inl rfl) rfl ?_); intro hxs
      repeat (refine s270_L7m ?_; intros)
      cases hlt : ltS y x with
      | true =>
        repeat (refine s270_L7m ?_; intros)
        refine JO.pure rfl rfl rfl (JPure.indexRR rStr rfl rfl rfl (by omega) (by omega) ?_)
        refine JO.pure rfl rfl rfl (JPure.loadRT (j := j - 1) rfl (by show 0 + ((j : Int) - 1).toNat * 1 = j - 1; omega) (by (first | exact List.mem_cons_self | exact List.mem_cons_of_mem _ List.mem_cons_self | exact List.mem_cons_of_mem _ (List.mem_cons_of_mem _ List.mem_cons_self))) (hv2.mono (by exact lea)) hx (.inl rfl) rfl ?_); intro hxs3
        repeat (refine s270_L7m ?_; intros)
        refine JO.pure rfl rfl rfl (JPure.indexRR rStr rfl rfl rfl (by omega) (by omega) ?_)
        refine JO.pure rfl rfl rfl (JPure.loadRT (j := j) rfl (by show 0 + ((j : Int)).toNat * 1 = j; omega) (by (first | exact List.mem_cons_self | exact List.mem_cons_of_mem _ List.mem_cons_self | exact List.mem_cons_of_mem _ (List.mem_cons_of_mem _ List.mem_cons_self))) (hv2.mono (by exact lea)) hy (.inl rfl) rfl ?_); intro hys3
        repeat (refine s270_L7m ?_; intros)
        refine JO.pure rfl rfl rfl (JPure.indexRR rStr rfl rfl rfl (by omega) (by omega) ?_)
        repeat (refine s270_L7m ?_; intros)
        refine JO.eff rfl rfl rfl (JEff.storeRO (i := j) rfl (by show 0 + ((j : Int)).toNat * 1 = j * 1; omega) rfl (hv2.mono (by exact lea)) (V_str.2 ⟨rfl, hxs⟩) nna (List.Perm.refl _) (by omega) (by intro l hl; cases hl) ?_); intro hv3
        repeat (refine s270_L7m ?_; intros)
        refine JO.pure rfl rfl rfl (JPure.indexRR rStr rfl rfl rfl (by omega) (by omega) ?_)
        refine JO.eff rfl rfl rfl (JEff.storeRO (i := j - 1) rfl (by show 0 + ((j : Int) - 1).toNat * 1 = (j - 1) * 1; omega) rfl hv3 (V_str.2 ⟨rfl, hys⟩) nna (List.Perm.refl _) (by rw [List.length_set]; omega) (by intro l hl; cases hl) ?_); intro hv4
        repeat (refine s270_L7m ?_; intros)
        exact JX.roundF (j - 1, _, _) (by exact lea) (⟨insI_swap hj1 hj' hx hy hlt, hv4.mono (by exact lea), (swap_perm hj' hx hy).trans hp2⟩) (by (try dsimp only); omega) rfl (by (try dsimp only); rw [show ((j - 1 : Nat) : Int) = (j : Int) - 1 by omega]; exact sba) (by exact sba)
      | false =>
        have hs2 := insI_stop hj1 hj' hx hy hlt
        repeat (refine s270_L7m ?_; intros)
        exact JX.roundF (k + 1, vs2, xs2) (by exact lea) (⟨by (try dsimp only); omega, hv2.mono (by exact lea), hp2, hs2⟩) (by (try dsimp only); omega) rfl (by exact sba) (by exact sba)
    | false =>
      have hj' : j = 0 := by have := of_decide_eq_false hg; omega
      subst hj'
      have hs2 := insI_zero hj1
      refine JO.guard rfl rfl rfl rfl (fun g => Bool.noConfusion (g.symm.trans rfl)) (fun _ => ?_)
      repeat (refine s270_L7m ?_; intros)
      exact JX.roundF (k + 1, vs2, xs2) (by exact lea) (⟨by (try dsimp only); omega, hv2.mono (by exact lea), hp2, hs2⟩) (by (try dsimp only); omega) rfl (by exact sba) (by exact sba)
  · have hk' : n ≤ k + 1 := by have := of_decide_eq_false hc0; omega
    repeat (refine s270_L7m ?_; intros)
    refine JX.end0 Tryz.results270 (List.Sublist.refl _) ?_
    exact ⟨rfl, vs1, xs1, hv1.mono (by exact lea), hp1, fun j x y hj hx hy => hs1 j x y (by omega) hx hy, rfl⟩
theorem s267_L7m {P K : Prop} (k : K) (h : Goal K → P := by
  intro zk
  (first | refine Walk ?_ | refine JC.block ?_ | refine JC.drawN 17 rfl [0, 1, 2, 3, 4, 5, 6, 7, 8, 9, 10, 11, 12, 13, 14] [0, 1, 2, 3, 4, 5, 6, 7, 8, 9, 10, 11, 13, 14] Tryz_mixed (by decide +kernel) ?_ | (refine JO.eff rfl rfl rfl (JEff.callV rfl (p_Less _ _) rfl ?_); intro zqa zqb))
  (repeat (first | revert zqg | revert zqf | revert zqe | revert zqd | revert zqc | revert zqb | revert zqa))
  exact zk.k) : P := h ⟨k⟩
theorem p_pdqsort {S : SHeap} {b n c : Nat} {vs tl : List Value} {xs : List ByteArray} (lim : Int) (hv : allV rStr S vs xs) (hn : n = xs.length) (hb : n ≤ 12) (hc : n ≤ c) :
    Fn Tryz.prog 267 #[.slice (some ⟨b, 0, none⟩) n c, .int .i64 0, .int .i64 n, .int .i64 lim] S [.blk b (.cells (cellsR vs tl) 9 (0, 0))]
      (fun w S' M' => w = .tuple #[] ∧ ∃ vs' xs', allV rStr S' vs' xs' ∧ xs'.Perm xs ∧ srt xs' (n - 1) ∧ M' = [.blk b (.cells (cellsR vs' tl) 9 (0, 0))]) := by
  (refine Fn.enter (args := [.slice (some ⟨b, 0, none⟩) n c, .int .i64 0, .int .i64 n, .int .i64 lim]) Tryz.func267 rfl Tryz.ntmps267 rfl ?_; intro w0)
  repeat (refine s267_L7m ?_; intros)
  refine JC.loopF (σ := Unit) [(0, _)] (fun q => [(1, .int .i64 0), (2, .int .i64 n), (3, .int .i64 lim), (8, .bool true), (9, .bool true)]) (fun q => [.blk b (.cells (cellsR vs tl) 9 (0, 0))]) (fun Sz q => True) (fun q => 0) (()) (by exact sba) (by exact sba) rfl (trivial) ?_; rintro Sz z hlz hiz; (try dsimp only at hiz); dsimp only [List.cons_append, List.nil_append]
  repeat (refine s267_L7m ?_; intros)
  have h12 : decide ((n : Int) - 0 ≤ 12) = true := by simp; omega
  refine JC.cond rfl (fun hc0 => ?_) (fun hc0 => ?_)
  · repeat (refine s267_L7m ?_; intros)
    refine JO.eff rfl rfl rfl (JEff.fn (Mc := [_]) (Mr := []) (sem_call rfl _ _ _ _ _) rfl rfl rfl (List.Perm.refl _) (by intro l hl; cases hl) (p_insertionSort (hv.mono (by exact lea)) hn (by omega) hc) ?_); rintro v S' M' hl ⟨rfl, vs', xs', hv', hp', hs', rfl⟩
    repeat (refine s267_L7m ?_; intros)
    refine JX.end0r Tryz.results267 (List.Sublist.refl _) ?_
    exact ⟨rfl, vs', xs', hv', hp', hs', rfl⟩
  · rw [h12] at hc0; cases hc0
theorem s254_L7m {P K : Prop} (k : K) (h : Goal K → P := by
  intro zk
  (first | refine Walk ?_ | refine JC.block ?_ | (refine JO.eff rfl rfl rfl (JEff.callV rfl (p_bitsLen _ (by omega) (by omega)) rfl ?_); intro zqa zqb))
  (repeat (first | revert zqg | revert zqf | revert zqe | revert zqd | revert zqc | revert zqb | revert zqa))
  exact zk.k) : P := h ⟨k⟩
theorem p_Sort {S : SHeap} {b n c : Nat} {vs tl : List Value} {xs : List ByteArray} (hv : allV rStr S vs xs) (hn : n = xs.length) (hb : n ≤ 12) (hc : n ≤ c) :
    Fn Tryz.prog 254 #[.slice (some ⟨b, 0, none⟩) n c] S [.blk b (.cells (cellsR vs tl) 9 (0, 0))]
      (fun w S' M' => w = .tuple #[] ∧ ∃ vs' xs', allV rStr S' vs' xs' ∧ xs'.Perm xs ∧ srt xs' (n - 1) ∧ M' = [.blk b (.cells (cellsR vs' tl) 9 (0, 0))]) := by
  (refine Fn.enter (args := [.slice (some ⟨b, 0, none⟩) n c]) Tryz.func254 rfl Tryz.ntmps254 rfl ?_; intro w0)
  repeat (refine s254_L7m ?_; intros)
  have hw64 : IntKind.u64.wrap (n : Int) = (n : Int) := by simp [IntKind.wrap, IntKind.bits, IntKind.signed]; omega
  refine JO.pure rfl rfl rfl (JPure.conv rfl hw64 rfl ?_)
  repeat (refine s254_L7m ?_; intros)
  refine JO.eff rfl rfl rfl (JEff.fn (Mc := [_]) (Mr := []) (sem_call rfl _ _ _ _ _) rfl rfl rfl (List.Perm.refl _) (by intro l hl; cases hl) (p_pdqsort _ (hv.mono (by exact lea)) hn hb hc) ?_); rintro v S' M' hl ⟨rfl, vs', xs', hv', hp', hs', rfl⟩
  repeat (refine s254_L7m ?_; intros)
  refine JX.end0 Tryz.results254 (List.Sublist.refl _) ?_
  exact ⟨rfl, vs', xs', hv', hp', hs', rfl⟩
theorem p_Sorted {S : SHeap} {gf : FuncId} {lb : Array Value} {Sx : List ByteArray → Prop} (hE : Ent Tryz.prog gf) (hit : IterS Tryz.prog gf lb rStr S Sx) (hlen : ∀ xs, Sx xs → xs.length ≤ 12) :
    FnR Tryz.prog 226 #[.func (.func gf) #[] lb] S (fun w S' => ∃ xs xs', Sx xs ∧ xs'.Perm xs ∧ srt xs' (xs.length - 1) ∧ (rSlice 16 rStr).V S' w xs') := by
  (refine Fn.enter (args := [.func (.func gf) #[] lb]) Tryz.func226 rfl Tryz.ntmps226 rfl ?_; intro w0)
  repeat (first | (refine Walk ?_; intros) | refine JC.block ?_)
  refine JO.eff rfl rfl rfl (JEff.fn (Mc := []) (Mr := []) (sem_call rfl _ _ _ _ _) rfl rfl rfl (List.Perm.refl _) (by intro l hl m hm; cases hm) (p_Collect hE hit (fun xs h => by have := hlen xs h; omega)) ?_); rintro v S1 M1 hl ⟨xs, a, c, vs, hxs, rfl, hvs, rfl⟩
  have hxl := hlen xs hxs
  rw [List.append_nil]
  repeat (first | (refine Walk ?_; intros) | refine JC.block ?_)
  rcases Nat.eq_zero_or_pos xs.length with h0 | h0
  · have hx0 : xs = [] := List.length_eq_zero_iff.1 h0
    subst hx0
    refine JO.eff rfl rfl rfl (JEff.callV rfl (p_Sort0 _ _) rfl ?_); intro _ _
    repeat (first | (refine Walk ?_; intros) | refine JC.block ?_)
    refine JX.ret1 Tryz.results226 (ResV.tmp rfl) (List.nil_sublist _) ?_
    exact ⟨rfl, [], [], hxs, List.Perm.refl _, fun k x y _ hx _ => (by cases hx), V_slice.2 ⟨a, c, rfl, by simp, by simp, by simp, by simp⟩⟩
  · refine JO.rowBlkB h0 (fun b tl hab hnc hsz => ?_)
    subst hab
    refine JO.eff rfl rfl rfl (JEff.fn (Mc := [_]) (Mr := []) (sem_call rfl _ _ _ _ _) rfl rfl rfl (List.Perm.refl _) (by intro l hl; cases hl) (p_Sort (hvs.mono (by exact lea)) rfl hxl hnc) ?_); rintro v S2 M2 hl2 ⟨rfl, vs', xs', hv', hp', hs', rfl⟩
    rw [List.append_nil]
    repeat (first | (refine Walk ?_; intros) | refine JC.block ?_)
    refine JX.blkNew rfl (fun hb => ?_)
    refine JX.freezeR (bt := 16) hv' hp'.length_eq.symm hnc (by unfold big; omega) (by unfold big; omega) hb (fun S3 hl3 hV3 => ?_)
    refine JX.ret1 Tryz.results226 (ResV.tmp rfl) (List.nil_sublist _) ?_
    exact ⟨rfl, xs, xs', hxs, hp', hs', hV3⟩
end Go.Dr
namespace Go.Dr
open Go.Proofs
set_option maxRecDepth 20000
set_option maxHeartbeats 1000000
set_option linter.unusedSimpArgs false
set_option linter.unusedVariables false
def ownedK (s : Snap) (p : List Int) (o : Nat) (k : Nat) : List Int := (((p.zip s.pods).take k).filter (fun x => decide (0 ≤ x.1) && decide (x.2.owner = ownName s o))).map (fun x => x.1)
theorem ownedK_step {s : Snap} {p : List Int} {o k : Nat} {n : Int} {x : Pod} (hn : p[k]? = some n) (hx : s.pods[k]? = some x) : ownedK s p o (k + 1) = ownedK s p o k ++ (if (decide (0 ≤ n) && decide (x.owner = ownName s o)) = true then [n] else []) := by
  have hz : (p.zip s.pods)[k]? = some (n, x) := by rw [List.getElem?_zip_eq_some]; exact ⟨hn, hx⟩
  unfold ownedK
  rw [List.take_add_one, hz]
  simp only [Option.toList_some, List.filter_append, List.map_append]
  congr 1
  cases h : (decide (0 ≤ n) && decide (x.owner = ownName s o)) <;> simp [List.filter_cons, h]
theorem ownedK_all {s : Snap} {p : List Int} {o : Nat} (h : p.length = s.pods.length) : ownedK s p o p.length = ownedL s p o := by
  unfold ownedK ownedL
  rw [List.take_of_length_le (by simp [h])]
theorem ownedK_len (s : Snap) (p : List Int) (o k : Nat) : (ownedK s p o k).length ≤ k := by
  unfold ownedK
  rw [List.length_map]
  exact Nat.le_trans (List.length_filter_le _ _) (by simp; omega)
def cntL (N : Nat) (l : List Int) : List Int := (List.range N).map (fun (n : Nat) => ((l.filter (fun x => decide (x = (n : Int)))).length : Int))
theorem cntL_len (N : Nat) (l : List Int) : (cntL N l).length = N := by simp [cntL]
theorem cntL_at (N : Nat) (l : List Int) (i : Nat) (h : i < N) : (cntL N l)[i]? = some ((l.filter (fun x => decide (x = (i : Int)))).length : Int) := by simp [cntL, h]
theorem cntL_set (N : Nat) (l : List Int) (i : Nat) (h : i < N) : (cntL N l).set i (((l.filter (fun x => decide (x = (i : Int)))).length : Int) + 1) = cntL N (l ++ [(i : Int)]) := by
  apply List.ext_getElem?
  intro j
  rw [List.getElem?_set]
  by_cases hj : i = j
  · subst hj
    rw [if_pos rfl, cntL_len, if_pos h, cntL_at N _ i h]
    simp [List.filter_append]
  · rw [if_neg hj]
    rcases Nat.lt_or_ge j N with hlt | hge
    · rw [cntL_at N _ j hlt, cntL_at N _ j hlt]
      have : ¬ (i : Int) = (j : Int) := by omega
      simp [List.filter_append, List.filter_cons, this]
    · rw [List.getElem?_eq_none (by rw [cntL_len]; exact hge), List.getElem?_eq_none (by rw [cntL_len]; exact hge)]
theorem cntL_rng (N : Nat) (l : List Int) (h : l.length ≤ 1000000) : ∀ x ∈ cntL N l, Rng x := by
  intro x hx
  obtain ⟨n, _, rfl⟩ := List.mem_map.1 hx
  have := List.length_filter_le (fun x => decide (x = (n : Int))) l
  unfold Rng; omega
theorem r7_counts {S : SHeap} {u v : Value} {s : Snap} {p : List Int} (o : Nat) (ho : o < s.owners.length) (hok : checkP s p = 0) (hu : rSnap.V S u s) (hv : (rSlice 8 rI64).V S v p) : FnR Tryz.prog 245 #[u, v, .int .i64 o] S (fun w S' => (rSlice 8 rI64).V S' w (countsL s p o)) := by
  obtain ⟨hs, hlen, hodd⟩ := checkP_ok hok
  obtain ⟨hn8, hp24, ho8⟩ := shaped_small (checkS_ok hs).1
  obtain ⟨a, c, rfl, _, _, hb, _⟩ := V_slice.1 hv
  unfold big at hb
  obtain ⟨ow, how⟩ : ∃ ow, s.owners[o]? = some ow := ⟨_, List.getElem?_eq_getElem ho⟩
  have hname : ownName s o = ow.name := by simp [ownName, how]
  (refine Fn.enter (args := [u, .slice a p.length c, .int .i64 o]) Tryz.func245 rfl Tryz.ntmps245 rfl ?_; intro w0)
  repeat (first | (refine Walk ?_; intros) | refine JC.block ?_)
  (refine JO.eff rfl rfl rfl (JEff.boxS rfl (by exact vta) nna rfl ?_); intro S0 pa l0 hp)
  repeat (first | (refine Walk ?_; intros) | refine JC.block ?_)
  refine JO.eff rfl rfl rfl (JEff.makeInts (n := s.nodes.length) rfl rfl (by unfold big; omega) rfl ?_); intro b hbb
  repeat (first | (refine Walk ?_; intros) | refine JC.block ?_)
  refine JC.loop (σ := SHeap × Nat) (fun q => q.1) (fun q => [.blk b (.cells (ints (cntL s.nodes.length (ownedK s p o q.2))) 3 (0, 0))]) (fun q => [(1, .slice a p.length c), (2, .int .i64 o), (3, .pointer (some pa)), (7, .slice (some ⟨b, 0, none⟩) s.nodes.length s.nodes.length), (8, .int .i64 q.2)]) (fun q => S0.le q.1 ∧ q.2 ≤ p.length) (fun q => p.length - q.2) (S0, 0) ⟨SHeap.le.refl _, Nat.zero_le _⟩ (by dsimp only; congr 3; simp [cntL, ownedK, List.map_const']) rfl (by exact sba) ?_
  rintro ⟨S1, k⟩ ⟨hl1, hk⟩
  dsimp only at hl1 hk ⊢
  repeat (first | (refine Walk ?_; intros) | refine JC.block ?_)
  refine JC.cond rfl (fun hc => ?_) (fun hc => ?_)
  · have hk' := dlt hc
    obtain ⟨n, hn, hd⟩ := drop_at hk'
    obtain ⟨x, hx⟩ : ∃ x, s.pods[k]? = some x := ⟨_, List.getElem?_eq_getElem (by omega)⟩
    have hst := ownedK_step (o := o) hn hx
    have hno := hodd n (List.mem_of_getElem? hn)
    have hol := ownedK_len s p o k
    repeat (first | (refine Walk ?_; intros) | refine JC.block ?_)
    refine JC.drawT [0, 1, 2, 3, 4, 5, 6, 7, 8, 9, 10, 11, 12, 13, 14, 15, 16, 17, 18, 19] [0, 1, 2, 3, 4, 5, 6, 7, 8, 9, 10, 11, 12, 13, 14, 15, 16, 17, 18, 19] [] Tryz_mixed (by decide +kernel) (by simp [MEnt.own]) ?_
    repeat (first | (refine Walk ?_; intros) | refine JC.block ?_)
    rw [hname] at hst
    refine JO.guard rfl rfl rfl rfl (fun g1 => ?_) (fun g1 => ?_)
    · have g1' : 0 ≤ n := by simpa using g1
      have hlt : n < s.nodes.length := by
        simp only [oddP, Bool.or_eq_false_iff, decide_eq_false_iff_not] at hno; omega
      repeat (first | (refine Walk ?_; intros) | refine JC.block ?_)
      refine JC.cond rfl (fun g2 => ?_) (fun g2 => ?_)
      · rw [g1, g2, Bool.true_and, if_pos rfl] at hst
        obtain ⟨i, rfl⟩ := Int.eq_ofNat_of_zero_le g1'
        have hi : i < s.nodes.length := by omega
        have hcl := List.length_filter_le (fun x => decide (x = (i : Int))) (ownedK s p o k)
        repeat (first | (refine Walk ?_; intros) | refine JC.block ?_)
        refine JO.pure rfl rfl rfl (JPure.indexRI rfl rfl rfl (by omega) (by omega) ?_)
        refine JO.pure rfl rfl rfl (JPure.loadMI (off := i) rfl (by (first | exact List.mem_cons_self | exact List.mem_cons_of_mem _ List.mem_cons_self | exact List.mem_cons_of_mem _ (List.mem_cons_of_mem _ List.mem_cons_self))) (cntL_at _ _ i hi) (by unfold Rng; omega) (.inl rfl) rfl ?_)
        repeat (first | (refine Walk ?_; intros) | refine JC.block ?_)
        refine JO.pure rfl rfl rfl (JPure.indexRI rfl rfl rfl (by omega) (by omega) ?_)
        refine JO.eff rfl rfl rfl (JEff.storeI (i := i) rfl rfl (by unfold Rng; omega) (List.Perm.refl _) (by rw [cntL_len]; exact hi) (by intro l hl; cases hl) ?_)
        repeat (first | (refine Walk ?_; intros) | refine JC.block ?_)
        exact JX.round (_, k + 1) ⟨by exact lea, hk'⟩ (by dsimp only; omega) rfl (by dsimp only; rw [hst, ← cntL_set _ _ i hi]) (by exact sba)
      · rw [g1, g2] at hst
        simp only [Bool.and_false, Bool.false_eq_true, if_false, List.append_nil] at hst
        repeat (first | (refine Walk ?_; intros) | refine JC.block ?_)
        exact JX.round (_, k + 1) ⟨by exact lea, hk'⟩ (by dsimp only; omega) rfl (by dsimp only; rw [hst]) (by exact sba)
    · rw [g1] at hst
      simp only [Bool.false_and, Bool.false_eq_true, if_false, List.append_nil] at hst
      repeat (first | (refine Walk ?_; intros) | refine JC.block ?_)
      exact JX.round (_, k + 1) ⟨by exact lea, hk'⟩ (by dsimp only; omega) rfl (by dsimp only; rw [hst]) (by exact sba)
  · have hk' := dnlt hc
    obtain rfl : k = p.length := by omega
    have hol := ownedK_len s p o p.length
    rw [ownedK_all hlen] at hol ⊢
    repeat (first | (refine Walk ?_; intros) | refine JC.block ?_)
    refine JX.freezeInts (by rw [cntL_len]) (Nat.le_refl _) (by unfold big; omega) (cntL_rng _ _ (by omega)) hbb (fun S2 hl2 hV => ?_)
    refine JX.ret1 Tryz.results245 (ResV.tmp rfl) (List.nil_sublist _) ?_
    exact ⟨rfl, hV⟩
end Go.Dr
namespace Go.Dr
open Go.Proofs
set_option maxRecDepth 20000
set_option maxHeartbeats 1000000
set_option linter.unusedSimpArgs false
set_option linter.unusedVariables false
theorem sum_set : ∀ {xs : List Int} {i : Nat} {z v : Int}, xs[i]? = some z → (xs.set i v).sum = xs.sum - z + v
  | [], _, _, _, h => by simp at h
  | x :: xs, 0, z, v, h => by simp at h; subst h; simp; omega
  | x :: xs, i + 1, z, v, h => by
    have := sum_set (v := v) (show xs[i]? = some z by simpa using h)
    simp [this]; omega
theorem cnt_sum (N : Nat) (l : List Int) (h : ∀ x ∈ l, 0 ≤ x ∧ x < N) : ∀ k, (cntL N (l.take k)).sum = ((l.take k).length : Int)
  | 0 => by simp [cntL, List.map_const', List.sum_replicate_int]
  | k + 1 => by
    have ih := cnt_sum N l h k
    rw [List.take_add_one]
    cases hx : l[k]? with
    | none => simpa using ih
    | some x =>
      obtain ⟨h0, h1⟩ := h x (List.mem_of_getElem? hx)
      obtain ⟨i, rfl⟩ := Int.eq_ofNat_of_zero_le h0
      have hi : i < N := by omega
      simp only [Option.toList_some]
      have e := cntL_set N (l.take k) i hi
      rw [← e, sum_set (cntL_at N _ i hi), ih]
      simp; omega
theorem owned_in {s : Snap} {p : List Int} {o : Nat} (hodd : ∀ n ∈ p, oddP s n = false) : ∀ x ∈ ownedL s p o, 0 ≤ x ∧ x < s.nodes.length := by
  intro x hx
  unfold ownedL at hx
  obtain ⟨y, hy, rfl⟩ := List.mem_map.1 hx
  obtain ⟨hy1, hy2⟩ := List.mem_filter.1 hy
  have hm : y.1 ∈ p := (List.of_mem_zip (a := y.1) (b := y.2) hy1).1
  have h1 := hodd _ hm
  simp only [oddP, Bool.or_eq_false_iff, decide_eq_false_iff_not] at h1
  simp only [Bool.and_eq_true, decide_eq_true_eq] at hy2
  omega
theorem counts_sum {s : Snap} {p : List Int} {o : Nat} (hodd : ∀ n ∈ p, oddP s n = false) : (countsL s p o).sum = placedN s p o := by
  have := cnt_sum s.nodes.length (ownedL s p o) (owned_in hodd) (ownedL s p o).length
  rw [List.take_length] at this
  exact this
theorem counts_nn (s : Snap) (p : List Int) (o : Nat) : (countsL s p o).any negB = false := by
  rw [List.any_eq_false]
  intro x hx
  obtain ⟨n, _, rfl⟩ := List.mem_map.1 hx
  simp [negB]
theorem r7_PlacedOf {S : SHeap} {u v : Value} {s : Snap} {p : List Int} (o : Nat) (ho : o < s.owners.length) (hok : checkP s p = 0) (hu : rSnap.V S u s) (hv : (rSlice 8 rI64).V S v p) : FnV Tryz.prog 205 #[u, v, .int .i64 o] S (.int .i64 (placedN s p o)) := by
  obtain ⟨hs, hlen, hodd⟩ := checkP_ok hok
  obtain ⟨hn8, hp24, ho8⟩ := shaped_small (checkS_ok hs).1
  have hsum := counts_sum (o := o) hodd
  have hneg := counts_nn s p o
  have hple : placedN s p o ≤ 24 := by
    have : (ownedL s p o).length ≤ p.length := by rw [← ownedK_all hlen]; exact ownedK_len _ _ _ _
    unfold placedN; omega
  (refine Fn.enter (args := [u, v, .int .i64 o]) Tryz.func205 rfl Tryz.ntmps205 rfl ?_; intro w0)
  repeat (first | (refine Walk ?_; intros) | refine JC.block ?_)
  (refine JO.eff rfl rfl rfl (JEff.boxS rfl (by exact vta) nna rfl ?_); intro S0 pa l0 hp)
  repeat (first | (refine Walk ?_; intros) | refine JC.block ?_)
  (refine JO.eff rfl rfl rfl (JEff.callR rfl (r7_counts o ho hok (by exact vta) (by exact vta)) rfl ?_); intro w S2 hl2 hV)
  obtain ⟨a, c, rfl, _, _, hb, _⟩ := V_slice.1 hV
  unfold big at hb
  generalize hL : countsL s p o = L at *
  repeat (first | (refine Walk ?_; intros) | refine JC.block ?_)
  refine JC.loop (σ := SHeap × Nat) (fun q => q.1) (fun _ => []) (fun q => [(7, .int .i64 (L.take q.2).sum), (8, .slice a L.length c), (9, .int .i64 q.2)]) (fun q => S2.le q.1 ∧ q.2 ≤ L.length ∧ (True)) (fun q => L.length - q.2) (S2, 0) ⟨SHeap.le.refl _, Nat.zero_le _, trivial⟩ rfl rfl (by exact sba) ?_; rintro ⟨S1, k⟩ ⟨hl1, hk, hi⟩; dsimp only at hl1 hk hi ⊢
  repeat (first | (refine Walk ?_; intros) | refine JC.block ?_)
  refine JC.cond rfl (fun hc => ?_) (fun hc => ?_)
  · have hk' := dlt hc
    obtain ⟨x, hx, hd⟩ := drop_at hk'
    have h1 := sum_take_nn hneg k
    have h2 := take_at hx
    have h3 := sum_take hneg (k + 1)
    have h4 := at_nn hneg hx
    repeat (first | (refine Walk ?_; intros) | refine JC.block ?_)
    exact JX.round (_, k + 1) ⟨by exact lea, hk', trivial⟩ (by simp; omega) rfl rfl (by dsimp only; rw [h2]; exact sba)
  · have hk' := dnlt hc
    rw [List.take_of_length_le hk', hsum]
    repeat (first | (refine Walk ?_; intros) | refine JC.block ?_)
    refine JX.ret1 Tryz.results205 (ResV.tmp rfl) (List.nil_sublist _) ?_
    exact ⟨rfl, rfl⟩
end Go.Dr
namespace Go.Dr
open Go.Proofs
set_option maxRecDepth 20000
set_option maxHeartbeats 1000000
set_option linter.unusedSimpArgs false
set_option linter.unusedVariables false
theorem ptr_str {S : SHeap} {p : Addr} {s : ByteArray} (h : PtrTo S p rStr s) : s.size ≤ big := by
  obtain ⟨cs, h, _⟩ := h; exact h.2
theorem snap_val {S : SHeap} {p : Addr} {s : Snap} (h : PtrTo S p rSnap s) (key : ByteArray) : ∀ x ∈ s.nodes, (valB x key).1.size ≤ big := by
  intro x hx
  have h1 : PtrTo S (p.add 0) (rSlice 112 rNode) s.nodes := h.part (Fld.h (rep := rSnap) (off := 0))
  obtain ⟨q, hq⟩ := ptr_slice h1 x hx
  have h2 : PtrTo S (q.add 6) (rSlice 32 rLabel) x.labels := hq.part (Fld.h (rep := rNode) (off := 6))
  unfold valB getL
  split
  · exact Nat.zero_le _
  · split
    · rename_i l hl
      obtain ⟨q2, hq2⟩ := ptr_slice h2 l (List.mem_of_find?_eq_some hl)
      have h3 : PtrTo S (q2.add 1) rStr l.value := hq2.part (Fld.h (rep := rLabel) (off := 1))
      exact ptr_str h3
    · exact Nat.zero_le _
def domK (s : Snap) (key : ByteArray) (i : Nat) : List ByteArray := (s.nodes.take i).foldl (domStep key) []
theorem domK_step {s : Snap} {key : ByteArray} {i : Nat} {n : Node} (h : s.nodes[i]? = some n) : domK s key (i + 1) = domStep key (domK s key i) n := by
  unfold domK
  rw [List.take_add_one, h]; simp [List.foldl_append]
theorem domIns_len (v : ByteArray) (l : List ByteArray) : (domIns v l).length ≤ l.length + 1 := by
  have h : l.length = (l.takeWhile (fun x => ltS x v)).length + (l.dropWhile (fun x => ltS x v)).length := by
    rw [← List.length_append, List.takeWhile_append_dropWhile]
  unfold domIns
  rw [List.length_append, h]
  split
  · rename_i h1; rw [h1]; simp
  · rename_i h1; rw [h1]; split <;> simp <;> omega
theorem domK_len (s : Snap) (key : ByteArray) : ∀ i, (domK s key i).length ≤ i
  | 0 => by simp [domK]
  | i + 1 => by
    have ih := domK_len s key i
    cases h : s.nodes[i]? with
    | none =>
      have : domK s key (i + 1) = domK s key i := by
        unfold domK
        rw [List.take_add_one, h]; simp
      rw [this]; omega
    | some n =>
      rw [domK_step h, domStep]
      split
      · have := domIns_len (valB n key).1 (domK s key i); omega
      · omega
theorem s262_L7v {P K : Prop} (k : K) (h : Goal K → P := by
  intro zk
  (first | refine Walk ?_ | refine JC.blockX [2] rfl ?_ | (refine JO.eff rfl rfl rfl (JEff.callV rfl (r7_ValueOf _ (by exact vta)) rfl ?_); intro zqa zqb) | (refine WBox ?_))
  (repeat (first | revert zqg | revert zqf | revert zqe | revert zqd | revert zqc | revert zqb | revert zqa))
  exact zk.k) : P := h ⟨k⟩
theorem r7_domains {S : SHeap} {u : Value} {s : Snap} (key : ByteArray) (hu : rSnap.V S u s) (hn : s.nodes.length ≤ 1000) : FnL Tryz.prog 262 #[u, .string key] S 16 rStr (domL s key) := by
  (refine Fn.enter (args := [u, .string key]) Tryz.func262 rfl Tryz.ntmps262 rfl ?_; intro w0)
  repeat (refine s262_L7v ?_; intros)
  have hsv : ∀ x ∈ s.nodes, (valB x key).1.size ≤ big := snap_val (by assumption) key
  refine JC.loopF0 (σ := Nat × Option Addr × Nat) [(1, _), (2, _)] (fun q => [(5, .slice q.2.1 (domK s key q.1).length q.2.2), (6, .int .i64 q.1)]) (fun Sk q => q.1 ≤ s.nodes.length ∧ (rSlice 16 rStr).V Sk (.slice q.2.1 (domK s key q.1).length q.2.2) (domK s key q.1)) (fun q => s.nodes.length - q.1) ((0, none, 0)) (by exact sba) (by exact sba) (⟨Nat.zero_le _, V_nil⟩) ?_; rintro Sk ⟨i, ra, rc⟩ hlk hik; (try dsimp only at hik); dsimp only [List.cons_append, List.nil_append]
  obtain ⟨hi, hV⟩ := hik
  have hlen := domK_len s key i
  repeat (refine s262_L7v ?_; intros)
  refine JC.cond rfl (fun hc => ?_) (fun hc => ?_)
  · have hi' := dlt hc
    obtain ⟨x, hx, hd⟩ := drop_at hi'
    have hst := domK_step (key := key) hx
    repeat (refine s262_L7v ?_; intros)
    refine JC.cond rfl (fun hv => ?_) (fun hv => ?_)
    · rw [domStep, if_neg (by simpa using hv)] at hst
      repeat (refine s262_L7v ?_; intros)
      exact JX.roundF ((i + 1, ra, rc)) (by exact lea) (by dsimp only; rw [hst]; exact ⟨by omega, by exact vta⟩) (by (try dsimp only); omega) rfl (by (try dsimp only); rw [hst]; exact sba) (by exact sba)
    · rw [domStep, if_pos (by simpa using hv)] at hst
      generalize hL : domK s key i = L at *
      have hvs := hsv x (List.mem_of_getElem? hx)
      generalize hvv : (valB x key).1 = v at *
      repeat (refine s262_L7v ?_; intros)
      refine JC.partF0 (σ := Nat) [(1, _), (2, _), (5, _), (6, _), (7, _)] (fun j => [(9, .int .i64 j)]) (fun Sj j => j ≤ L.length ∧ (∀ y ∈ L.take j, ltS y v = true) ∧ (∀ y, L[j]? = some y → ltS y v = false)) ?_ (by exact sba) ?_; rotate_left; rintro Sj j hlj hij; (try dsimp only at hij); dsimp only [List.cons_append, List.nil_append]; rotate_left; refine JC.block ?_
      · repeat (refine s262_L7v ?_; intros)
        refine JC.loopF0 [(1, _), (2, _), (5, _), (6, _), (7, _)] (fun (j : Nat) => [(9, .int .i64 j)]) (fun Sj j => j ≤ L.length ∧ (∀ y ∈ L.take j, ltS y v = true)) (fun j => L.length - j) 0 (by exact sba) (by exact sba) ⟨Nat.zero_le _, by simp⟩ ?_; intro Sj j hlj hij; obtain ⟨hj, hij⟩ := hij; (try dsimp only at hj hij); dsimp only [List.cons_append, List.nil_append]
        repeat (refine s262_L7v ?_; intros)
        refine JO.guard rfl rfl rfl rfl (fun hc2 => ?_) (fun hc2 => ?_)
        · have hj' := dlt hc2
          obtain ⟨y, hy, hd2⟩ := drop_at hj'
          repeat (refine s262_L7v ?_; intros)
          refine JC.cond rfl (fun hc3 => ?_) (fun hc3 => ?_)
          · repeat (refine s262_L7v ?_; intros)
            exact JX.roundF (j + 1) (by exact lea) ⟨by omega, (by intro z hz; rw [List.take_add_one, hy] at hz; rcases List.mem_append.1 hz with hz | hz; exact hij z hz; simp at hz; subst hz; exact hc3)⟩ (by (try dsimp only); omega) rfl (by exact sba) (by exact sba)
          · repeat (refine s262_L7v ?_; intros)
            exact JX.partF (j) (by exact lea) (⟨by omega, hij, by intro z hz; rw [hy] at hz; cases hz; exact hc3⟩) rfl (by exact sba) (by exact sba)
        · have hj' := dnlt hc2
          repeat (refine s262_L7v ?_; intros)
          exact JX.partF (j) (by exact lea) (⟨by omega, hij, by intro z hz; rw [List.getElem?_eq_none hj'] at hz; cases hz⟩) rfl (by exact sba) (by exact sba)
      obtain ⟨hj, hlt, hge⟩ := hij
      obtain ⟨e1, e2⟩ := takeWhile_take (fun y => ltS y v) L j hlt hge
      repeat (refine s262_L7v ?_; intros)
      refine JO.guard rfl rfl rfl rfl (fun hc4 => ?_) (fun hc4 => ?_)
      · have hj' := dlt hc4
        obtain ⟨y, hy, hd2⟩ := drop_at hj'
        repeat (refine s262_L7v ?_; intros)
        refine JC.cond rfl (fun hc5 => ?_) (fun hc5 => ?_)
        · have hyv : y = v := by simpa using hc5
          have : domIns v L = L := by
            unfold domIns
            rw [e1, e2, hd2]; dsimp only; rw [if_pos hyv, ← hd2, List.take_append_drop]
          rw [this] at hst
          repeat (refine s262_L7v ?_; intros)
          exact JX.roundF ((i + 1, ra, rc)) (by exact lea) (by dsimp only; rw [hst]; exact ⟨by omega, by exact vta⟩) (by (try dsimp only); omega) rfl (by (try dsimp only); rw [hst]; exact sba) (by exact sba)
        · have hyv : ¬ y = v := by simpa using hc5
          have hins : domIns v L = L.take j ++ [v] ++ L.drop j := by
            unfold domIns
            rw [e1, e2, hd2]; dsimp only; rw [if_neg hyv]; simp
          repeat (refine s262_L7v ?_; intros)
          (first | refine JC.newRow 9 1 ?_ | refine JO.newRow 9 1 ?_ | refine JX.newRow 9 1 ?_)
          repeat (refine s262_L7v ?_; intros)
          refine JO.pure rfl rfl rfl (JPure.sliceS (xs := L) (rep := rStr) (bt := 16) rfl (by exact vta) rfl rfl rfl (by omega) (by omega) (by omega) ?_); intro a1 c1 ys1 hys1 hV1 hyl1 hyb1
          repeat (refine s262_L7v ?_; intros)
          (refine JO.eff rfl rfl rfl (JEff.appendS (rep := rStr) rfl rfl hV1 rfl rfl (List.Perm.refl _) (by unfold big; omega) (by unfold big; omega) (by intro l hl; cases hl) rfl ?_); intro a2 c2 us1 hus1)
          repeat (refine s262_L7v ?_; intros)
          (refine JO.eff rfl rfl rfl (JEff.build (rep := rStr) (ys := [v]) rfl rfl ⟨(⟨V_str.2 ⟨rfl, hvs⟩, fun _ _ h => by cases h⟩), trivial⟩ rfl rfl rfl rfl ?_); intro bb hbb hvv); (repeat (first | (refine Walk ?_; intros) | refine JC.block ?_)); (refine JO.eff rfl rfl rfl (JEff.appendL (rep := rStr) rfl rfl rfl rfl (List.Perm.swap _ _ _) (by exact hvv.flat) (by intro c hc; exact flat_one (fun v hv => (hvv.size v hv).2) c hc) (by first | omega | (unfold big; omega)) (by unfold big; omega) (by intro l hl; cases hl) rfl ?_); intro a3 c3; clear hvv hbb)
          repeat (refine s262_L7v ?_; intros)
          refine JO.pure rfl rfl rfl (JPure.sliceS (xs := L) (rep := rStr) (bt := 16) rfl (by exact vta) rfl rfl rfl (by omega) (by omega) (by omega) ?_); intro a4 c4 ys2 hys2 hV2 hyl2 hyb2
          repeat (refine s262_L7v ?_; intros)
          (refine JO.eff rfl rfl rfl (JEff.appendS (rep := rStr) rfl rfl hV2 rfl rfl (List.Perm.refl _) (by unfold big; omega) (by unfold big; omega) (by intro l hl; cases hl) rfl ?_); intro a5 c5 us2 hus2)
          repeat (refine s262_L7v ?_; intros)
          simp only [List.nil_append, List.toList_toArray, ← flat_append]
          have hlen2 := congrArg List.length hins
          simp only [List.length_append, List.length_cons, List.length_nil, List.length_take, List.length_drop] at hlen2
          have hys : ys1 ++ [v] ++ ys2 = domIns v L := by
            rw [hins, hys1, hys2, show ((j : Int) - 0).toNat = j by omega, show ((j : Int)).toNat = j by omega, show (Int.toNat 0) = 0 by rfl, List.drop_zero, List.take_of_length_le (l := L.drop j) (by rw [List.length_drop]; omega)]
          have hnn : 0 + ys1.length + 1 + ys2.length = (domIns v L).length := by rw [← hys]; simp; omega
          refine JX.freezeRow (rep := rStr) (bt := 16) (xs := domIns v L) (by rw [← hys]; exact allV_three (by exact lea) hus1 (V_str.2 ⟨rfl, hvs⟩) (fun _ _ h => by cases h) hus2) hnn (by unfold big; omega) (by unfold big; omega) (fun S9 hl9 hV9 => ?_)
          rw [hnn] at hV9 ⊢
          exact JX.roundF ((i + 1, a5, c5)) (by exact lea) (by dsimp only; rw [hst]; exact ⟨by omega, hV9⟩) (by (try dsimp only); omega) rfl (by (try dsimp only); rw [hst]; exact sba) (by exact sba)
      · have hj' := dnlt hc4
        have hins : domIns v L = L.take j ++ [v] ++ L.drop j := by
          unfold domIns
          rw [e1, e2, List.drop_eq_nil_of_le hj']; simp
        repeat (refine s262_L7v ?_; intros)
        (first | refine JC.newRow 9 1 ?_ | refine JO.newRow 9 1 ?_ | refine JX.newRow 9 1 ?_)
        repeat (refine s262_L7v ?_; intros)
        refine JO.pure rfl rfl rfl (JPure.sliceS (xs := L) (rep := rStr) (bt := 16) rfl (by exact vta) rfl rfl rfl (by omega) (by omega) (by omega) ?_); intro a1 c1 ys1 hys1 hV1 hyl1 hyb1
        repeat (refine s262_L7v ?_; intros)
        (refine JO.eff rfl rfl rfl (JEff.appendS (rep := rStr) rfl rfl hV1 rfl rfl (List.Perm.refl _) (by unfold big; omega) (by unfold big; omega) (by intro l hl; cases hl) rfl ?_); intro a2 c2 us1 hus1)
        repeat (refine s262_L7v ?_; intros)
        (refine JO.eff rfl rfl rfl (JEff.build (rep := rStr) (ys := [v]) rfl rfl ⟨(⟨V_str.2 ⟨rfl, hvs⟩, fun _ _ h => by cases h⟩), trivial⟩ rfl rfl rfl rfl ?_); intro bb hbb hvv); (repeat (first | (refine Walk ?_; intros) | refine JC.block ?_)); (refine JO.eff rfl rfl rfl (JEff.appendL (rep := rStr) rfl rfl rfl rfl (List.Perm.swap _ _ _) (by exact hvv.flat) (by intro c hc; exact flat_one (fun v hv => (hvv.size v hv).2) c hc) (by first | omega | (unfold big; omega)) (by unfold big; omega) (by intro l hl; cases hl) rfl ?_); intro a3 c3; clear hvv hbb)
        repeat (refine s262_L7v ?_; intros)
        refine JO.pure rfl rfl rfl (JPure.sliceS (xs := L) (rep := rStr) (bt := 16) rfl (by exact vta) rfl rfl rfl (by omega) (by omega) (by omega) ?_); intro a4 c4 ys2 hys2 hV2 hyl2 hyb2
        repeat (refine s262_L7v ?_; intros)
        (refine JO.eff rfl rfl rfl (JEff.appendS (rep := rStr) rfl rfl hV2 rfl rfl (List.Perm.refl _) (by unfold big; omega) (by unfold big; omega) (by intro l hl; cases hl) rfl ?_); intro a5 c5 us2 hus2)
        repeat (refine s262_L7v ?_; intros)
        simp only [List.nil_append, List.toList_toArray, ← flat_append]
        have hlen2 := congrArg List.length hins
        simp only [List.length_append, List.length_cons, List.length_nil, List.length_take, List.length_drop] at hlen2
        have hys : ys1 ++ [v] ++ ys2 = domIns v L := by
          rw [hins, hys1, hys2, show ((j : Int) - 0).toNat = j by omega, show ((j : Int)).toNat = j by omega, show (Int.toNat 0) = 0 by rfl, List.drop_zero, List.take_of_length_le (l := L.drop j) (by rw [List.length_drop]; omega)]
        have hnn : 0 + ys1.length + 1 + ys2.length = (domIns v L).length := by rw [← hys]; simp; omega
        refine JX.freezeRow (rep := rStr) (bt := 16) (xs := domIns v L) (by rw [← hys]; exact allV_three (by exact lea) hus1 (V_str.2 ⟨rfl, hvs⟩) (fun _ _ h => by cases h) hus2) hnn (by unfold big; omega) (by unfold big; omega) (fun S9 hl9 hV9 => ?_)
        rw [hnn] at hV9 ⊢
        exact JX.roundF ((i + 1, a5, c5)) (by exact lea) (by dsimp only; rw [hst]; exact ⟨by omega, hV9⟩) (by (try dsimp only); omega) rfl (by (try dsimp only); rw [hst]; exact sba) (by exact sba)
  · have hi' := dnlt hc
    have hfin : domK s key i = domL s key := by unfold domK domL; rw [List.take_of_length_le hi']
    rw [hfin] at hV
    repeat (refine s262_L7v ?_; intros)
    (refine JX.ret1 Tryz.results262 (ResV.tmp rfl) (List.nil_sublist _) ?_)
    rw [hfin]
    exact ⟨rfl, hV⟩
end Go.Dr
namespace Go.Dr
theorem bytesLess_trans : ∀ a b c : List UInt8, Op.bytesLess a b = true → Op.bytesLess b c = true → Op.bytesLess a c = true
  | [], [], _, h, _ => by simp [Op.bytesLess] at h
  | [], _ :: _, [], _, h => by simp [Op.bytesLess] at h
  | [], _ :: _, _ :: _, _, _ => by simp [Op.bytesLess]
  | _ :: _, [], _, h, _ => by simp [Op.bytesLess] at h
  | _ :: _, _ :: _, [], _, h => by simp [Op.bytesLess] at h
  | x :: a, y :: b, z :: c, h1, h2 => by
    have ih := bytesLess_trans a b c
    simp only [Op.bytesLess, Bool.or_eq_true, Bool.and_eq_true, decide_eq_true_eq, beq_iff_eq, UInt8.lt_iff_toNat_lt] at h1 h2 ⊢
    rcases h1 with h1 | ⟨rfl, h1⟩
    · rcases h2 with h2 | ⟨rfl, h2⟩
      · exact .inl (by omega)
      · exact .inl h1
    · rcases h2 with h2 | ⟨rfl, h2⟩
      · exact .inl h2
      · exact .inr ⟨rfl, ih h1 h2⟩
theorem ltS_trans {a b c : ByteArray} (h1 : ltS a b = true) (h2 : ltS b c = true) : ltS a c = true := bytesLess_trans _ _ _ h1 h2
theorem ltS_irr (a : ByteArray) : ltS a a = false := bytesLess_irr _
abbrev pwS (l : List ByteArray) : Prop := l.Pairwise (fun a b => ltS a b = true)
theorem chain_pw : ∀ {l : List ByteArray}, (∀ k x y, l[k]? = some x → l[k + 1]? = some y → ltS x y = true) → pwS l
  | [], _ => List.Pairwise.nil
  | [x], _ => by simp [pwS]
  | x :: y :: l, h => by
    have ih : pwS (y :: l) := chain_pw (fun k a b ha hb => h (k + 1) a b (by simpa using ha) (by simpa using hb))
    have hxy := h 0 x y rfl rfl
    refine List.pairwise_cons.2 ⟨fun z hz => ?_, ih⟩
    rcases List.mem_cons.1 hz with rfl | hz
    · exact hxy
    · exact ltS_trans hxy ((List.pairwise_cons.1 ih).1 z hz)
theorem pw_eq : ∀ {l m : List ByteArray}, pwS l → pwS m → (∀ x, x ∈ l ↔ x ∈ m) → l = m
  | [], [], _, _, _ => rfl
  | [], y :: m, _, _, h => by have := (h y).2 (by simp); cases this
  | x :: l, [], _, _, h => by have := (h x).1 (by simp); cases this
  | x :: l, y :: m, h1, h2, h => by
    obtain ⟨a1, a2⟩ := List.pairwise_cons.1 h1
    obtain ⟨b1, b2⟩ := List.pairwise_cons.1 h2
    have hxy : x = y := by
      rcases List.mem_cons.1 ((h x).1 (by simp)) with e | e
      · exact e
      · rcases List.mem_cons.1 ((h y).2 (by simp)) with e' | e'
        · exact e'.symm
        · have := ltS_trans (b1 x e) (a1 y e')
          rw [ltS_irr] at this; cases this
    subst hxy
    rw [pw_eq a2 b2 (fun z => ?_)]
    constructor
    · intro hz
      rcases List.mem_cons.1 ((h z).1 (by simp [hz])) with rfl | hz'
      · have := a1 z hz; rw [ltS_irr] at this; cases this
      · exact hz'
    · intro hz
      rcases List.mem_cons.1 ((h z).2 (by simp [hz])) with rfl | hz'
      · have := b1 z hz; rw [ltS_irr] at this; cases this
      · exact hz'
theorem lt_of_not {x v : ByteArray} (h : ltS x v = false) (hne : ¬ x = v) : ltS v x = true := by
  rw [ltS_total, h]; simp [hne]
theorem domIns_mem (v x : ByteArray) (out : List ByteArray) : x ∈ domIns v out ↔ x = v ∨ x ∈ out := by
  have h : out = out.takeWhile (fun x => ltS x v) ++ out.dropWhile (fun x => ltS x v) := (List.takeWhile_append_dropWhile).symm
  unfold domIns
  conv => rhs; rw [h]
  generalize out.takeWhile (fun x => ltS x v) = A
  generalize out.dropWhile (fun x => ltS x v) = B
  match B with
  | [] => simp [or_comm]
  | y :: r =>
    by_cases hy : y = v
    · subst hy
      simp only [if_true, List.mem_append, List.mem_cons]
      constructor
      · intro hh; exact .inr hh
      · rintro (rfl | hh)
        · exact .inr (.inl rfl)
        · exact hh
    · simp only [if_neg hy, List.mem_append, List.mem_cons]
      constructor
      · rintro (hh | hh | hh | hh)
        · exact .inr (.inl hh)
        · exact .inl hh
        · exact .inr (.inr (.inl hh))
        · exact .inr (.inr (.inr hh))
      · rintro (hh | hh | hh | hh)
        · exact .inr (.inl hh)
        · exact .inl hh
        · exact .inr (.inr (.inl hh))
        · exact .inr (.inr (.inr hh))
theorem takeWhile_all {f : ByteArray → Bool} : ∀ {l : List ByteArray} {x : ByteArray}, x ∈ l.takeWhile f → f x = true
  | [], _, h => by cases h
  | y :: l, x, h => by
    rw [List.takeWhile_cons] at h
    split at h
    · rename_i hy
      rcases List.mem_cons.1 h with rfl | h
      · exact hy
      · exact takeWhile_all h
    · cases h
theorem dropWhile_head {f : ByteArray → Bool} : ∀ {l : List ByteArray} {y : ByteArray} {r : List ByteArray}, l.dropWhile f = y :: r → f y = false
  | [], _, _, h => by cases h
  | z :: l, y, r, h => by
    rw [List.dropWhile_cons] at h
    split at h
    · exact dropWhile_head h
    · rename_i hz
      cases h
      simpa using hz
theorem domIns_pw {v : ByteArray} {out : List ByteArray} (h : pwS out) : pwS (domIns v out) := by
  have e : out = out.takeWhile (fun x => ltS x v) ++ out.dropWhile (fun x => ltS x v) := (List.takeWhile_append_dropWhile).symm
  have hA : ∀ x ∈ out.takeWhile (fun x => ltS x v), ltS x v = true := fun x hx => takeWhile_all (f := fun x => ltS x v) hx
  have hB : ∀ y r, out.dropWhile (fun x => ltS x v) = y :: r → ltS y v = false := fun y r hh => dropWhile_head (f := fun x => ltS x v) hh
  rw [e] at h
  unfold domIns
  generalize out.takeWhile (fun x => ltS x v) = A at *
  generalize out.dropWhile (fun x => ltS x v) = B at *
  obtain ⟨p1, p2, p3⟩ := List.pairwise_append.1 h
  match B, hB, p2, p3 with
  | [], _, _, _ => exact List.pairwise_append.2 ⟨p1, by simp, fun a ha b hb => by simp at hb; subst hb; exact hA a ha⟩
  | y :: r, hB, p2, p3 =>
    by_cases hy : y = v
    · simp only [if_pos hy]
      exact List.pairwise_append.2 ⟨p1, p2, p3⟩
    · simp only [if_neg hy]
      have hvy := lt_of_not (hB y r rfl) hy
      refine List.pairwise_append.2 ⟨p1, List.pairwise_cons.2 ⟨fun z hz => ?_, p2⟩, fun a ha b hb => ?_⟩
      · rcases List.mem_cons.1 hz with rfl | hz
        · exact hvy
        · exact ltS_trans hvy ((List.pairwise_cons.1 p2).1 z hz)
      · rcases List.mem_cons.1 hb with rfl | hb
        · exact hA a ha
        · exact p3 a ha b hb
def dkStep (key : ByteArray) (out : List ByteArray) (n : Node) : List ByteArray := if (valB n key).2 = true then (if out.any (fun x => decide (x = (valB n key).1)) = true then out else out ++ [(valB n key).1]) else out
def dkL (s : Snap) (key : ByteArray) (i : Nat) : List ByteArray := (s.nodes.take i).foldl (dkStep key) []
theorem dkL_step {s : Snap} {key : ByteArray} {i : Nat} {n : Node} (h : s.nodes[i]? = some n) : dkL s key (i + 1) = dkStep key (dkL s key i) n := by
  unfold dkL
  rw [List.take_add_one, h]; simp [List.foldl_append]
theorem dk_same (key : ByteArray) : ∀ (l : List Node) (a b : List ByteArray), (∀ x, x ∈ a ↔ x ∈ b) → ∀ x, x ∈ l.foldl (dkStep key) a ↔ x ∈ l.foldl (domStep key) b
  | [], _, _, h, x => h x
  | n :: l, a, b, h, x => by
    simp only [List.foldl_cons]
    refine dk_same key l _ _ (fun z => ?_) x
    unfold dkStep domStep
    split
    · rw [domIns_mem]
      split
      · rename_i hm
        have hm : (valB n key).1 ∈ a := by
          obtain ⟨w, hw, he⟩ := List.any_eq_true.1 hm
          rw [← of_decide_eq_true he]; exact hw
        constructor
        · intro hz; exact .inr ((h z).1 hz)
        · rintro (rfl | hz)
          · exact hm
          · exact (h z).2 hz
      · rw [List.mem_append, List.mem_singleton, h z, or_comm]
    · exact h z
theorem dom_pw (key : ByteArray) : ∀ (l : List Node) (b : List ByteArray), pwS b → pwS (l.foldl (domStep key) b)
  | [], _, h => h
  | n :: l, b, h => by
    simp only [List.foldl_cons]
    refine dom_pw key l _ ?_
    unfold domStep
    split
    · exact domIns_pw h
    · exact h
theorem dk_nodup (key : ByteArray) : ∀ (l : List Node) (b : List ByteArray), b.Nodup → (l.foldl (dkStep key) b).Nodup
  | [], _, h => h
  | n :: l, b, h => by
    simp only [List.foldl_cons]
    refine dk_nodup key l _ ?_
    unfold dkStep
    split
    · split
      · exact h
      · rename_i hm
        rw [List.nodup_append]
        refine ⟨h, by simp, ?_⟩
        intro a ha c hc he
        simp at hc
        subst hc; subst he
        exact hm (List.any_eq_true.2 ⟨_, ha, by simp⟩)
    · exact h
theorem dk_len (s : Snap) (key : ByteArray) : ∀ i, (dkL s key i).length ≤ i
  | 0 => by simp [dkL]
  | i + 1 => by
    have ih := dk_len s key i
    cases h : s.nodes[i]? with
    | none => unfold dkL at *; rw [List.take_add_one, h]; simpa using Nat.le_succ_of_le ih
    | some n =>
      rw [dkL_step h]
      unfold dkStep
      split
      · split
        · omega
        · simp; omega
      · omega
theorem srt_dom {s : Snap} {key : ByteArray} {xs : List ByteArray} (hp : xs.Perm (dkL s key s.nodes.length)) (hs : ∀ k x y, k + 1 ≤ xs.length - 1 → xs[k]? = some x → xs[k + 1]? = some y → ltS y x = false) : xs = domL s key := by
  have hfull : dkL s key s.nodes.length = s.nodes.foldl (dkStep key) [] := by unfold dkL; rw [List.take_length]
  have hnd : xs.Nodup := hp.nodup_iff.2 (by rw [hfull]; exact dk_nodup key _ _ List.nodup_nil)
  refine pw_eq (chain_pw (fun k x y hx hy => ?_)) (dom_pw key _ _ List.Pairwise.nil) (fun x => ?_)
  · have hl := (List.getElem?_eq_some_iff.1 hy).1
    have h1 := hs k x y (by omega) hx hy
    refine lt_of_not h1 (fun he => ?_)
    subst he
    obtain ⟨l1, e1⟩ := List.getElem?_eq_some_iff.1 hx
    obtain ⟨l2, e2⟩ := List.getElem?_eq_some_iff.1 hy
    exact List.pairwise_iff_getElem.1 hnd k (k + 1) l1 l2 (by omega) (by rw [e1, e2])
  · rw [hp.mem_iff, hfull]
    exact dk_same key _ _ _ (fun _ => Iff.rfl) x
end Go.Dr
namespace Go.Dr
open Go.Proofs
set_option maxRecDepth 20000
set_option maxHeartbeats 2000000
set_option linter.unusedSimpArgs false
set_option linter.unusedVariables false
def oneV (v : ByteArray) : ByteArray × Value := (v, .int .i64 1)
theorem set_same {l : List ByteArray} {j : Nat} {p : ByteArray × Value} {v : ByteArray} (h : (l.map oneV)[j]? = some p) (hv : p.1 = v) : (l.map oneV).set j (v, .int .i64 1) = l.map oneV := by
  rw [List.getElem?_map] at h
  cases hl : l[j]? with
  | none => rw [hl] at h; cases h
  | some x =>
    rw [hl] at h
    cases h
    have hx : x = v := hv
    subst hx
    apply List.ext_getElem?
    intro i
    rw [List.getElem?_set]
    by_cases hij : j = i
    · subst hij
      have := (List.getElem?_eq_some_iff.1 hl).1
      rw [if_pos rfl, if_pos (by simpa using this), List.getElem?_map, hl]; rfl
    · simp [hij]
theorem dk_big {key : ByteArray} : ∀ (l : List Node) (b : List ByteArray), (∀ v ∈ b, v.size ≤ big) → (∀ x ∈ l, (valB x key).1.size ≤ big) → ∀ v ∈ l.foldl (dkStep key) b, v.size ≤ big
  | [], _, h, _ => h
  | n :: l, b, h, hl => by
    simp only [List.foldl_cons]
    refine dk_big l _ ?_ (fun x hx => hl x (by simp [hx]))
    unfold dkStep
    split
    · split
      · exact h
      · intro v hv
        rcases List.mem_append.1 hv with hv | hv
        · exact h v hv
        · simp at hv; subst hv; exact hl n (by simp)
    · exact h
theorem keys_one (l : List ByteArray) : (l.map oneV).map Prod.fst = l := by
  rw [List.map_map]
  exact (List.map_congr_left (fun x _ => rfl)).trans (List.map_id' l)
theorem s178_L7n {P K : Prop} (k : K) (h : Goal K → P := by
  intro zk
  (first | refine Walk ?_ | refine JC.block ?_ | (refine JO.eff rfl rfl rfl (JEff.callV rfl (p5_Check (by exact vta)) rfl ?_); intro zqa zqb) | (refine JO.eff rfl rfl rfl (JEff.callV rfl (p7_value _ (by assumption) (by exact vta)) rfl ?_); intro zqa zqb) | (refine WBox ?_) | (refine WNew ?_) | (refine WPut ?_))
  (repeat (first | revert zqg | revert zqf | revert zqe | revert zqd | revert zqc | revert zqb | revert zqa))
  exact zk.k) : P := h ⟨k⟩
theorem p7_Domains {S : SHeap} {u : Value} {s : Snap} (key : ByteArray) (hk : key.size ≤ big) (hu : rSnap.V S u s) : FnL Tryz.prog 178 #[u, .string key] S 16 rStr (if z0 (checkS s) then domL s key else []) := by
  (refine Fn.enter (args := [u, .string key]) Tryz.func178 rfl Tryz.ntmps178 rfl ?_; intro w0)
  repeat (refine s178_L7n ?_; intros)
  cases h1 : decide (checkS s = 0) with
  | false =>
    repeat (refine s178_L7n ?_; intros)
    (refine JX.ret1 Tryz.results178 (ResV.tmp rfl) (List.nil_sublist _) ?_)
    refine ⟨rfl, ?_⟩
    rw [z0, h1]
    exact V_nil
  | true =>
    have hc : checkS s = 0 := of_decide_eq_true h1
    obtain ⟨hn, _, _⟩ := shaped_small (checkS_ok hc).1
    have hif : (if z0 (checkS s) then domL s key else []) = domL s key := by rw [z0, h1]; rfl
    rw [hif]
    repeat (refine s178_L7n ?_; intros)
    refine JO.eff rfl rfl rfl (JEff.makeMap rfl ?_); intro bm hbm
    repeat (refine s178_L7n ?_; intros)
    refine JC.loopF [(1, _), (5, _), (15, _), (16, _)] (fun (i : Nat) => [(17, .int .i64 i)]) (fun i => [.blk bm (mapObj ((dkL s key i).map oneV))]) (fun Si i => i ≤ s.nodes.length ∧ (True)) (fun i => s.nodes.length - i) 0 (by exact sba) (by exact sba) rfl ⟨Nat.zero_le _, trivial⟩ ?_; intro Si i hli hii; obtain ⟨hi, hii⟩ := hii; (try dsimp only at hi hii); dsimp only [List.cons_append, List.nil_append]
    repeat (refine s178_L7n ?_; intros)
    refine JC.cond rfl (fun hc0 => ?_) (fun hc0 => ?_)
    · have hi' := dlt hc0
      obtain ⟨n, hnd, _⟩ := drop_at hi'
      have hst := dkL_step (key := key) hnd
      repeat (refine s178_L7n ?_; intros)
      cases hv2 : (valB n key).2 with
      | true =>
        repeat (refine s178_L7n ?_; intros)
        refine JO.eff rfl rfl rfl (JEff.mapPut rfl rfl rfl (List.Perm.refl _) (by intro l hl; cases hl) (fun hno => ?_) (fun j p hj hp => ?_))
        · have e1 : (dkL s key i).map oneV ++ [((valB n key).1, .int .i64 1)] = (dkL s key (i + 1)).map oneV := by
            rw [hst, dkStep, if_pos hv2, if_neg]
            · simp [oneV]
            · intro hany
              obtain ⟨w, hw, he⟩ := List.any_eq_true.1 hany
              exact hno (oneV w) (List.mem_map.2 ⟨w, hw, rfl⟩) (of_decide_eq_true he)
          rw [e1]
          repeat (refine s178_L7n ?_; intros)
          exact JX.roundF (i + 1) (by exact lea) ⟨by omega, (trivial)⟩ (by (try dsimp only); omega) rfl (by exact sba) (by exact sba)
        · rw [set_same hj hp]
          have e2 : (dkL s key i).map oneV = (dkL s key (i + 1)).map oneV := by
            rw [hst, dkStep, if_pos hv2, if_pos]
            rw [List.getElem?_map] at hj
            cases hl : (dkL s key i)[j]? with
            | none => rw [hl] at hj; cases hj
            | some x =>
              rw [hl] at hj
              cases hj
              exact List.any_eq_true.2 ⟨x, List.mem_of_getElem? hl, decide_eq_true hp⟩
          rw [e2]
          repeat (refine s178_L7n ?_; intros)
          exact JX.roundF (i + 1) (by exact lea) ⟨by omega, (trivial)⟩ (by (try dsimp only); omega) rfl (by exact sba) (by exact sba)
      | false =>
        have e2 : (dkL s key i).map oneV = (dkL s key (i + 1)).map oneV := by
          rw [hst, dkStep, if_neg (by rw [hv2]; simp)]
        rw [e2]
        repeat (refine s178_L7n ?_; intros)
        exact JX.roundF (i + 1) (by exact lea) ⟨by omega, (trivial)⟩ (by (try dsimp only); omega) rfl (by exact sba) (by exact sba)
    · have hi' := dnlt hc0
      obtain rfl : i = s.nodes.length := by omega
      have hsz := snap_val (S := Si) (PtrTo.mono (by assumption) (by exact lea)) key
      repeat (refine s178_L7n ?_; intros)
      have hkb : ∀ p ∈ (dkL s key s.nodes.length).map oneV, p.1.size ≤ big := by
        intro p hp
        obtain ⟨v, hv, rfl⟩ := List.mem_map.1 hp
        have hfull : dkL s key s.nodes.length = s.nodes.foldl (dkStep key) [] := by unfold dkL; rw [List.take_length]
        rw [hfull] at hv
        exact dk_big s.nodes [] (by intro v hv; cases hv) hsz v hv
      refine JO.freeze hbm (by intro l hl; cases hl) (fun S2 hl2 hS2 => ?_)
      (refine JO.eff rfl rfl rfl (JEff.callR rfl ((p_Keys hS2 hkb)) rfl ?_); intro w3 S3 hl3 hV3)
      obtain ⟨lb, rfl, hit⟩ := hV3
      rw [keys_one] at hit
      repeat (refine s178_L7n ?_; intros)
      (refine JO.eff rfl rfl rfl (JEff.callR rfl ((p_Sorted inferInstance hit (fun xs hp => by have h1 := hp.length_eq; have h2 := dk_len s key s.nodes.length; omega))) rfl ?_); intro w4 S4 hl4 hV4)
      obtain ⟨xs, xs', hp, hp', hs', hV⟩ := hV4
      have hx : xs' = domL s key := srt_dom (hp'.trans hp) (by rw [hp'.length_eq]; exact hs')
      rw [hx] at hV
      repeat (refine s178_L7n ?_; intros)
      (refine JX.ret1 Tryz.results178 (ResV.tmp rfl) (List.nil_sublist _) ?_)
      exact ⟨rfl, hV⟩
end Go.Dr
namespace Go.Dr
open Go.Proofs
set_option maxRecDepth 20000
set_option maxHeartbeats 2000000
set_option linter.unusedSimpArgs false
set_option linter.unusedVariables false
def domainP (s : Snap) (node : Int) (key : ByteArray) : ByteArray × Bool :=
  if z0 (checkS s) && (decide (0 ≤ node) && decide (node < s.nodes.length)) then (match s.nodes[node.toNat]? with | some n => valB n key | none => (noS, false)) else (noS, false)
theorem s252_L7o {P K : Prop} (k : K) (h : Goal K → P := by
  intro zk
  (first | refine Walk ?_ | refine JC.block ?_ | (refine JO.eff rfl rfl rfl (JEff.callV rfl (p5_Check (by exact vta)) rfl ?_); intro zqa zqb) | (refine JO.eff rfl rfl rfl (JEff.callV rfl (p7_there _ _) rfl ?_); intro zqa zqb) | (refine JO.eff rfl rfl rfl (JEff.callV rfl (p7_value _ (by assumption) (by exact vta)) rfl ?_); intro zqa zqb) | (refine WBox ?_))
  (repeat (first | revert zqg | revert zqf | revert zqe | revert zqd | revert zqc | revert zqb | revert zqa))
  exact zk.k) : P := h ⟨k⟩
theorem p7_Domain {S : SHeap} {u : Value} {s : Snap} (node : Int) (key : ByteArray) (hk : key.size ≤ big) (hu : rSnap.V S u s) : FnV Tryz.prog 252 #[u, .int .i64 node, .string key] S (.tuple #[.string (domainP s node key).1, .bool (domainP s node key).2]) := by
  (refine Fn.enter (args := [u, .int .i64 node, .string key]) Tryz.func252 rfl Tryz.ntmps252 rfl ?_; intro w0)
  repeat (refine s252_L7o ?_; intros)
  cases h1 : decide (checkS s = 0) with
  | false =>
    refine JO.guard rfl rfl rfl rfl (fun _ => ?_) (fun g => Bool.noConfusion (g.symm.trans rfl))
    repeat (refine s252_L7o ?_; intros)
    (refine JX.ret2 Tryz.results252 (ResV.tmp rfl) (ResV.tmp rfl) (List.nil_sublist _) ?_)
    exact ⟨rfl, by rw [domainP, z0, h1]; rfl⟩
  | true =>
    refine JO.guard rfl rfl rfl rfl (fun g => Bool.noConfusion (g.symm.trans rfl)) (fun _ => ?_)
    repeat (refine s252_L7o ?_; intros)
    cases h2 : (decide (0 ≤ node) && decide (node < s.nodes.length)) with
    | false =>
      repeat (refine s252_L7o ?_; intros)
      (refine JX.ret2 Tryz.results252 (ResV.tmp rfl) (ResV.tmp rfl) (List.nil_sublist _) ?_)
      exact ⟨rfl, by rw [domainP, z0, h1, h2]; rfl⟩
    | true =>
      have h3 := h2
      simp only [Bool.and_eq_true, decide_eq_true_eq] at h3
      obtain ⟨h4, h5⟩ := h3
      obtain ⟨n, hnd, _⟩ := drop_at (l := s.nodes) (show node.toNat < s.nodes.length by omega)
      repeat (refine s252_L7o ?_; intros)
      (refine JX.ret2 Tryz.results252 (ResV.tmp rfl) (ResV.tmp rfl) (List.nil_sublist _) ?_)
      exact ⟨rfl, by rw [domainP, z0, h1, h2, hnd]; rfl⟩
end Go.Dr
namespace Go.Dr
open Go.Proofs
set_option maxRecDepth 20000
set_option maxHeartbeats 2000000
set_option linter.unusedSimpArgs false
set_option linter.unusedVariables false
theorem doms_at {s : Snap} {key : ByteArray} {a : Nat} {x : Node} (h : s.nodes[a]? = some x) : (doms s key)[((a : Int)).toNat]? = some (valB x key) := by
  have e : ((a : Int)).toNat = a := by omega
  rw [e, doms, List.getElem?_map, h]; rfl
def dmK (s : Snap) (key : ByteArray) (k : Nat) : List (ByteArray × Bool) := (doms s key).take k
theorem domainP_doms {s : Snap} {key : ByteArray} {k : Nat} {x : Node} (hok : checkS s = 0) (hx : s.nodes[k]? = some x) : domainP s k key = valB x key := by
  have hk := (List.getElem?_eq_some_iff.1 hx).1
  have e : ((k : Int)).toNat = k := by omega
  unfold domainP
  rw [e, hx]
  simp [z0, hok, hk]
theorem dmK_step {s : Snap} {key : ByteArray} {k : Nat} {x : Node} (hok : checkS s = 0) (hx : s.nodes[k]? = some x) : dmK s key (k + 1) = dmK s key k ++ [domainP s k key] := by
  unfold dmK
  rw [domainP_doms hok hx, List.take_add_one]
  simp [doms, hx]
theorem dmK_len (s : Snap) (key : ByteArray) (k : Nat) : (dmK s key k).length ≤ k := by unfold dmK; rw [List.length_take]; omega
theorem dmK_all (s : Snap) (key : ByteArray) : dmK s key s.nodes.length = doms s key := by unfold dmK; rw [List.take_of_length_le (by simp [doms])]
theorem s223_L8a {P K : Prop} (k : K) (h : Goal K → P := by
  intro zk
  (first | refine Walk ?_ | refine JC.block ?_ | refine JC.drawN 10 rfl [0, 1, 2, 3, 4, 5, 6, 7, 8, 9, 10, 11, 12, 13, 14, 15, 16, 17, 18, 19, 20, 21, 22, 23, 24, 25] [0, 1, 2, 3, 4, 5, 6, 7, 8, 9, 10, 11, 12, 13, 14, 15, 16, 17, 18, 19, 20, 21, 22, 23, 24, 25] Tryz_mixed (by decide +kernel) ?_ | (refine JO.eff rfl rfl rfl (JEff.callV rfl (p7_Domain _ _ (by assumption) (by exact vta)) rfl ?_); intro zqa zqb))
  (repeat (first | revert zqg | revert zqf | revert zqe | revert zqd | revert zqc | revert zqb | revert zqa))
  exact zk.k) : P := h ⟨k⟩
theorem p8_near {S : SHeap} {kp : Addr} {s : Snap} {p : List Int} {us : List (List Int)} {mb : Nat} {l : List (ByteArray × Value)} (a b : Nat) (key : ByteArray) (hkey : key.size ≤ big) (hok : checkS s = 0) (ha : a < s.nodes.length) (hb : b < s.nodes.length)
    (hL : PtrTo S kp rLook ⟨s, p, us, .map (some mb)⟩) (hco : Cache s S l) :
    FnC Tryz.prog 223 #[.pointer (some kp), .int .i64 a, .int .i64 b, .string key] S Value.string mb (Cache s) l (fun w _ => w = .bool (near8 s a b key)) := by
  obtain ⟨xa, hxa⟩ : ∃ x, s.nodes[a]? = some x := ⟨_, List.getElem?_eq_getElem ha⟩
  obtain ⟨xb, hxb⟩ : ∃ x, s.nodes[b]? = some x := ⟨_, List.getElem?_eq_getElem hb⟩
  have hda := doms_at (key := key) hxa
  have hdb := doms_at (key := key) hxb
  have hn8 := (shaped_small (checkS_ok hok).1).1
  have hsz := snap_val (PtrTo.part hL (Part.map Part.first)) key
  (refine Fn.enter (args := [.pointer (some kp), .int .i64 a, .int .i64 b, .string key]) Tryz.func223 rfl Tryz.ntmps223 rfl ?_; intro w0)
  repeat (refine s223_L8a ?_; intros)
  refine JO.pure rfl rfl rfl (JPure.lookM (s := key) rfl rfl (by (first | exact List.mem_cons_self | exact List.mem_cons_of_mem _ List.mem_cons_self | exact List.mem_cons_of_mem _ (List.mem_cons_of_mem _ List.mem_cons_self))) hco.1 (.inl rfl) rfl (fun hno => ?_) (fun j q hj hq => ?_))
  · repeat (refine s223_L8a ?_; intros)
    (first | refine JC.newRow 262 2 ?_ | refine JO.newRow 262 2 ?_ | refine JX.newRow 262 2 ?_)
    refine JC.loopF (σ := Nat × Option Addr × Nat × List Value) [(0, _), (1, _), (2, _), (3, _), (30, _)] (fun q => [(9, .slice q.2.1 ((fun k => dmK s key k) q.1).length q.2.2.1), (31, ((fun k => .int .i64 k) q.1))]) (fun q => [.row w0.heap.size 262 (Rp.sz rDom) (.slice q.2.1 ((fun k => dmK s key k) q.1).length q.2.2.1) ((fun k => dmK s key k) q.1).length (flatCells q.2.2.2), ((fun k => .blk mb (mapK Value.string l)) q.1)]) (fun Sk q => q.1 ≤ s.nodes.length ∧ allV rDom Sk q.2.2.2 ((fun k => dmK s key k) q.1) ∧ ((fun k => True) q.1)) (fun q => s.nodes.length - q.1) (0, none, 0, []) (by exact sba) (by exact sba) (by first | rfl | simp) (⟨Nat.zero_le _, trivial, trivial⟩) ?_; rintro Sk ⟨k, rak, rck, vsk⟩ hlk ⟨hk, hvk, hik⟩; (try dsimp only at hk hvk hik); dsimp only [List.cons_append, List.nil_append]
    have hfl := dmK_len s key k
    repeat (refine s223_L8a ?_; intros)
    refine JC.cond rfl (fun hc => ?_) (fun hc => ?_)
    · have hk' := dlt hc
      obtain ⟨x, hx, _⟩ := drop_at hk'
      have hst := dmK_step (key := key) hok hx
      have hvs : (domainP s k key).1.size ≤ big := by rw [domainP_doms hok hx]; exact hsz x (List.mem_of_getElem? hx)
      have hDV : ∀ S, rDom.V S (.agg (flatCells [.string (domainP s k key).1, .bool (domainP s k key).2]).toArray) (domainP s k key) := fun S => ⟨_, ⟨_, _, by simp [flatCells, Value.cells]; rfl, ⟨rfl, hvs⟩, rfl⟩, by rfl⟩
      repeat (refine s223_L8a ?_; intros)
      (refine JO.eff rfl rfl rfl (JEff.build (rep := rDom) (ys := [domainP s k key]) rfl rfl ⟨⟨(hDV _), nna⟩, trivial⟩ rfl rfl rfl rfl ?_); intro bb hbb hvv); (repeat (first | (refine Walk ?_; intros) | refine JC.block ?_)); (refine JO.eff rfl rfl rfl (JEff.appendL (rep := rDom) rfl rfl rfl rfl (List.Perm.swap _ _ _) (by exact hvv.flat) (by intro c hc; exact flat_one (fun v hv => (hvv.size v hv).2) c hc) (by first | omega | (unfold big; omega)) (by unfold big; omega) (by first | exact rowT_ok | (intro l hl; cases hl)) rfl ?_); intro a2 c2; clear hvv hbb)
      repeat (refine s223_L8a ?_; intros)
      exact JX.roundF (k + 1, a2, c2, vsk ++ [((.agg (flatCells [.string (domainP s k key).1, .bool (domainP s k key).2]).toArray))]) (by exact lea) ⟨by omega, by (try dsimp only); rw [hst]; exact allV_add (by exact lea) hvk (hDV _) nna, (trivial)⟩ (by (try dsimp only); omega) (by (try dsimp only); rw [hst]; (simp [flat_append] <;> omega)) (by (try dsimp only); rw [hst]; simp only [List.length_append, List.length_cons, List.length_nil]; exact sba) (by exact sba)
    · have hk' := dnlt hc
      obtain rfl : k = s.nodes.length := by omega
      rw [dmK_all] at hvk hfl
      rw [dmK_all]
      refine JC.freezeRow (rep := rDom) (bt := 24) hvk rfl (by unfold big; omega) (by unfold big; omega) (fun S9 hl9 hV9 => ?_)
      repeat (refine s223_L8a ?_; intros)
      refine JO.eff rfl rfl rfl (JEff.putK (kv := Value.string) (s := key) rfl rfl rfl (List.Perm.refl _) (by intro l hl; cases hl) (fun _ => ?_) (fun j q hj hq => absurd hq (hno q (List.mem_of_getElem? hj))))
      have hcoF : Cache s S9 (l ++ [(key, .slice rak (doms s key).length rck)]) := ⟨hco.1.snoc hno, fun q hq => by
        rcases List.mem_append.1 hq with h | h
        · exact (hco.2 q h).mono (by exact lea)
        · rw [List.mem_singleton] at h
          subst h
          exact hV9⟩
      repeat' (first | (refine s223_L8a ?_; intros) | (refine JO.guard rfl rfl rfl rfl ?_ ?_ <;> intro _) | (refine JC.cond rfl ?_ ?_ <;> intro _))
      all_goals
        refine JX.ret1 Tryz.results223 (ResV.tmp rfl) (List.Sublist.refl _) ?_
        refine ⟨?_, _, rfl, hcoF.mono (by exact lea)⟩
        simp only [near8, hxa, hxb]
        simp [*]
  · obtain ⟨qk, qv⟩ := q
    dsimp only at hq
    subst hq
    have hV := hco.2 _ (List.mem_of_getElem? hj)
    obtain ⟨a1, c1, hq2, _⟩ := V_slice.1 hV
    dsimp only at hq2
    subst hq2
    have hcoF := hco
    repeat' (first | (refine s223_L8a ?_; intros) | (refine JO.guard rfl rfl rfl rfl ?_ ?_ <;> intro _) | (refine JC.cond rfl ?_ ?_ <;> intro _))
    all_goals
      refine JX.ret1 Tryz.results223 (ResV.tmp rfl) (List.Sublist.refl _) ?_
      refine ⟨?_, _, rfl, hcoF.mono (by exact lea)⟩
      simp only [near8, hxa, hxb]
      simp [*]
end Go.Dr
namespace Go.Dr
open Go.Proofs
set_option maxRecDepth 20000
set_option maxHeartbeats 2000000
set_option linter.unusedSimpArgs false
set_option linter.unusedVariables false
def thereB (p : List Int) (F : Nat → Bool) (j : Nat) : Bool := decide (0 ≤ at0 p j) && F j
theorem p8_many {S : SHeap} {kp : Addr} {s : Snap} {p : List Int} {us : List (List Int)} {mb : Nat} {l : List (ByteArray × Value)} {f : FuncId} {fs cs : Array Value} (F : Nat → Bool) (hE : Ent Tryz.prog f) (hp : p.length ≤ 1000)
    (hL : PtrTo S kp rLook ⟨s, p, us, .map (some mb)⟩) (hco : Cache s S l)
    (hf : ∀ (S' : SHeap) (l' : List (ByteArray × Value)) (j : Nat) (n : Int), S.le S' → Cache s S' l' → p[j]? = some n → 0 ≤ n → FnC Tryz.prog f (fs.toList ++ [Value.int .i64 j] ++ cs.toList).toArray S' Value.string mb (Cache s) l' (fun w _ => w = .bool (F j))) :
    FnC Tryz.prog 174 #[.pointer (some kp), .func (.func f) fs cs] S Value.string mb (Cache s) l (fun w _ => w = .int .i64 (cntI p.length (thereB p F))) := by
  (refine Fn.enter (args := [.pointer (some kp), .func (.func f) fs cs]) Tryz.func174 rfl Tryz.ntmps174 rfl ?_; intro w0)
  repeat (first | (refine Walk ?_; intros) | refine JC.block ?_)
  refine JC.loopF (σ := Nat × List (ByteArray × Value)) [(1, _), (10, _), (11, _)] (fun q => [(4, .int .i64 (cntI q.1 (thereB p F))), (12, .int .i64 q.1)]) (fun q => [.blk mb (mapK Value.string q.2)]) (fun Sk q => q.1 ≤ p.length ∧ Cache s Sk q.2) (fun q => p.length - q.1) ((0, l)) (by exact sba) (by exact sba) rfl (⟨Nat.zero_le _, hco⟩) ?_; rintro Sk ⟨k, l1⟩ hlk hik; (try dsimp only at hik); dsimp only [List.cons_append, List.nil_append]
  obtain ⟨hk, hco1⟩ := hik
  have hrg := cntI_rng k (thereB p F)
  repeat (first | (refine Walk ?_; intros) | refine JC.block ?_)
  refine JC.cond rfl (fun hc => ?_) (fun hc => ?_)
  · have hk' := dlt hc
    obtain ⟨n, hn, _⟩ := drop_at hk'
    have hst := cntI_step k (thereB p F)
    have hG : thereB p F k = (decide (0 ≤ n) && F k) := by simp [thereB, at0_some hn]
    rw [hG] at hst
    repeat (first | (refine Walk ?_; intros) | refine JC.block ?_)
    refine JO.guard rfl rfl rfl rfl (fun h1 => ?_) (fun h1 => ?_)
    · have h1' : 0 ≤ n := by simpa using h1
      repeat (first | (refine Walk ?_; intros) | refine JC.block ?_)
      refine JO.eff rfl rfl rfl (JEff.dynC (kv := Value.string) rfl hE rfl (List.Perm.refl _) (by intro l hl; cases hl) (hf _ _ k n (by exact lea) hco1 hn h1') rfl ?_); intro w S2 l2 hl2 hw hco2; subst hw
      repeat (first | (refine Walk ?_; intros) | refine JC.block ?_)
      refine JC.cond rfl (fun h2 => ?_) (fun h2 => ?_)
      · have hst1 : cntI (k + 1) (thereB p F) = cntI k (thereB p F) + 1 := by rw [hst]; simp [h1', h2]
        repeat (first | (refine Walk ?_; intros) | refine JC.block ?_)
        exact JX.roundF ((k + 1, l2)) (by exact lea) (⟨by omega, hco2⟩) (by (try dsimp only); omega) rfl (by (try dsimp only); rw [hst1]; exact sba) (by exact sba)
      · have hst1 : cntI (k + 1) (thereB p F) = cntI k (thereB p F) := by rw [hst]; simp [h2]
        repeat (first | (refine Walk ?_; intros) | refine JC.block ?_)
        exact JX.roundF ((k + 1, l2)) (by exact lea) (⟨by omega, hco2⟩) (by (try dsimp only); omega) rfl (by (try dsimp only); rw [hst1]; exact sba) (by exact sba)
    · have h1' : ¬ 0 ≤ n := by simpa using h1
      have hst1 : cntI (k + 1) (thereB p F) = cntI k (thereB p F) := by rw [hst]; simp [h1']
      repeat (first | (refine Walk ?_; intros) | refine JC.block ?_)
      exact JX.roundF ((k + 1, l1)) (by exact lea) (⟨by omega, hco1⟩) (by (try dsimp only); omega) rfl (by (try dsimp only); rw [hst1]; exact sba) (by exact sba)
  · have hk' := dnlt hc
    obtain rfl : k = p.length := by omega
    repeat (first | (refine Walk ?_; intros) | refine JC.block ?_)
    refine JX.ret1 Tryz.results174 (ResV.tmp rfl) (List.Sublist.refl _) ?_
    exact ⟨rfl, _, rfl, hco1⟩
def aroundF (s : Snap) (p : List Int) (i : Nat) (x : Near) (self : Bool) (j : Nat) : Bool :=
  match p[j]?, s.pods[j]?, p[i]? with
  | some n, some q, some m => (self || !decide (j = i)) && near8 s n.toNat m.toNat x.topo && holdsB x.terms q.labels
  | _, _, _ => false
theorem around_about {s : Snap} {p : List Int} {i : Nat} {x : Near} {self : Bool} (hlen : p.length = s.pods.length) : cntI p.length (thereB p (aroundF s p i x self)) = about8 s p i x (!self) := by
  unfold about8
  refine cntI_congr fun j hj => ?_
  obtain ⟨n, hn⟩ : ∃ n, p[j]? = some n := ⟨_, List.getElem?_eq_getElem hj⟩
  unfold thereB aroundF aboutF
  rw [at0_some hn, hn]
  cases s.pods[j]? <;> cases p[i]? <;> simp
  cases self <;> cases decide (j = i) <;> simp [Bool.and_assoc]
theorem s222_L8b {P K : Prop} (k : K) (h : Goal K → P := by
  intro zk
  (first | refine Walk ?_ | refine JC.block ?_ | refine JC.drawN 1 rfl [0, 1, 2, 3, 4, 5, 6, 7, 8, 9, 10, 11, 12, 13, 14, 15, 16, 17, 18, 19, 20, 21, 22, 23, 24, 25, 26, 27, 28, 29, 30, 31, 32, 33, 34, 35, 36, 37, 38, 39, 40] [0, 1, 2, 3, 4, 5, 6, 7, 8, 9, 10, 11, 12, 13, 14, 15, 16, 17, 18, 19, 20, 21, 22, 23, 25, 26, 27, 28, 29, 30, 31, 32, 33, 34, 35, 36, 37, 39, 40] Tryz_mixed (by decide +kernel) ?_ | (refine JO.eff rfl rfl rfl (JEff.callV rfl (p3_Holds (by exact vta) (by exact vta)) rfl ?_); intro zqa zqb))
  (repeat (first | revert zqg | revert zqf | revert zqe | revert zqd | revert zqc | revert zqb | revert zqa))
  exact zk.k) : P := h ⟨k⟩
theorem p8_around1 {S : SHeap} {kp : Addr} {s : Snap} {p : List Int} {us : List (List Int)} {mb : Nat} {l : List (ByteArray × Value)} {qs qi qk qx : Addr} {self : Bool} {i : Nat} {x : Near} {j : Nat} {n m : Int} (hok : checkP s p = 0)
    (hL : PtrTo S kp rLook ⟨s, p, us, .map (some mb)⟩) (hco : Cache s S l) (h1 : PtrTo S qs rBool self) (h2 : PtrTo S qi rI64 (i : Int)) (h3 : PtrTo S qk rVal (.pointer (some kp))) (h4 : PtrTo S qx rNear x)
    (hj : p[j]? = some n) (hn : 0 ≤ n) (hi : p[i]? = some m) (hm : 0 ≤ m) :
    FnC Tryz.prog 222 #[.int .i64 j, .pointer (some qs), .pointer (some qi), .pointer (some qk), .pointer (some qx)] S Value.string mb (Cache s) l (fun w _ => w = .bool (aroundF s p i x self j)) := by
  obtain ⟨hs, hlen, hp24, hn8, ho8, hpr, hprn⟩ := placed_hyps hok
  have hj' := (List.getElem?_eq_some_iff.1 hj).1
  have hi' := (List.getElem?_eq_some_iff.1 hi).1
  obtain ⟨q, hq⟩ : ∃ q, s.pods[j]? = some q := ⟨_, List.getElem?_eq_getElem (by omega)⟩
  have hnr := hpr n (List.mem_of_getElem? hj)
  have hmr := hpr m (List.mem_of_getElem? hi)
  obtain ⟨n, rfl⟩ := Int.eq_ofNat_of_zero_le hn
  obtain ⟨m, rfl⟩ := Int.eq_ofNat_of_zero_le hm
  have haf : aroundF s p i x self j = ((self || !decide (j = i)) && near8 s n m x.topo && holdsB x.terms q.labels) := by simp [aroundF, hj, hq, hi]
  have hij : decide ((j : Int) = (i : Int)) = decide (j = i) := by rw [Bool.eq_iff_iff]; simp; omega
  have hjr : Rng (j : Int) := by unfold Rng; omega
  (refine Fn.enter (args := [.int .i64 j, .pointer (some qs), .pointer (some qi), .pointer (some qk), .pointer (some qx)]) Tryz.func222 rfl Tryz.ntmps222 rfl ?_; intro w0)
  cases self with
  | true =>
    repeat (refine s222_L8b ?_; intros)
    refine JO.eff rfl rfl rfl (JEff.callC (kv := Value.string) rfl (List.Perm.refl _) (by intro l hl; cases hl) (p8_near n m x.topo (by assumption) hs (by omega) (by omega) (by exact pta) (hco.mono (by exact lea))) rfl ?_); intro w S2 l2 hl2 hw hco2; subst hw
    repeat' (first | (refine s222_L8b ?_; intros) | (refine JO.guard rfl rfl rfl rfl ?_ ?_ <;> intro _) | (refine JC.cond rfl ?_ ?_ <;> intro _))
    all_goals
      refine JX.ret1 Tryz.results222 (ResV.tmp rfl) (List.Sublist.refl _) ?_
      refine ⟨?_, _, rfl, by first | assumption | (exact Cache.mono (by assumption) (by exact lea))⟩
      rw [haf]
      simp_all
  | false =>
    repeat (refine s222_L8b ?_; intros)
    refine JO.guard rfl rfl rfl rfl (fun g1 => ?_) (fun g1 => ?_)
    · repeat (refine s222_L8b ?_; intros)
      refine JO.eff rfl rfl rfl (JEff.callC (kv := Value.string) rfl (List.Perm.refl _) (by intro l hl; cases hl) (p8_near n m x.topo (by assumption) hs (by omega) (by omega) (by exact pta) (hco.mono (by exact lea))) rfl ?_); intro w S2 l2 hl2 hw hco2; subst hw
      repeat' (first | (refine s222_L8b ?_; intros) | (refine JO.guard rfl rfl rfl rfl ?_ ?_ <;> intro _) | (refine JC.cond rfl ?_ ?_ <;> intro _))
      all_goals
        refine JX.ret1 Tryz.results222 (ResV.tmp rfl) (List.Sublist.refl _) ?_
        refine ⟨?_, _, rfl, by first | assumption | (exact Cache.mono (by assumption) (by exact lea))⟩
        rw [haf]
        simp_all
    · repeat' (first | (refine s222_L8b ?_; intros) | (refine JO.guard rfl rfl rfl rfl ?_ ?_ <;> intro _) | (refine JC.cond rfl ?_ ?_ <;> intro _))
      all_goals
        refine JX.ret1 Tryz.results222 (ResV.tmp rfl) (List.Sublist.refl _) ?_
        refine ⟨?_, _, rfl, by first | assumption | (exact Cache.mono (by assumption) (by exact lea))⟩
        rw [haf]
        simp_all
end Go.Dr
namespace Go.Dr
open Go.Proofs
set_option maxRecDepth 20000
set_option maxHeartbeats 1000000
set_option linter.unusedSimpArgs false
set_option linter.unusedVariables false
theorem r8_near {S : SHeap} {u : Value} {s : Snap} (a b : Nat) (key : ByteArray) (ha : a < s.nodes.length) (hb : b < s.nodes.length) (hu : rSnap.V S u s) : FnV Tryz.prog 261 #[u, .int .i64 a, .int .i64 b, .string key] S (.bool (near8 s a b key)) := by
  obtain ⟨x, hx⟩ : ∃ x, s.nodes[a]? = some x := ⟨_, List.getElem?_eq_getElem ha⟩
  obtain ⟨y, hy⟩ : ∃ y, s.nodes[b]? = some y := ⟨_, List.getElem?_eq_getElem hb⟩
  (refine Fn.enter (args := [u, .int .i64 a, .int .i64 b, .string key]) Tryz.func261 rfl Tryz.ntmps261 rfl ?_; intro w0)
  repeat (first | (refine Walk ?_; intros) | refine JC.block ?_)
  (refine JO.eff rfl rfl rfl (JEff.boxS rfl (by exact vta) nna rfl ?_); intro S0 pa l0 hp)
  repeat (first | (refine Walk ?_; intros) | refine JC.block ?_)
  (refine JO.eff rfl rfl rfl (JEff.callV rfl (r7_ValueOf key (by exact vta)) rfl ?_); intro _ _)
  repeat (first | (refine Walk ?_; intros) | refine JC.block ?_)
  (refine JO.eff rfl rfl rfl (JEff.callV rfl (r7_ValueOf key (by exact vta)) rfl ?_); intro _ _)
  repeat' (first | (refine Walk ?_; intros) | refine JC.block ?_ | (refine JO.guard rfl rfl rfl rfl ?_ ?_ <;> intro _) | (refine JC.cond rfl ?_ ?_ <;> intro _))
  all_goals (refine JX.ret1 Tryz.results261 (ResV.tmp rfl) (List.nil_sublist _) ?_; refine ⟨rfl, ?_⟩; simp only [near8, hx, hy]; simp [*])
theorem r8_single {S : SHeap} {u : Value} {s : Snap} (name : ByteArray) (hu : rSnap.V S u s) : FnV Tryz.prog 242 #[u, .string name] S (.bool (single8 s name)) := by
  (refine Fn.enter (args := [u, .string name]) Tryz.func242 rfl Tryz.ntmps242 rfl ?_; intro w0)
  repeat (first | (refine Walk ?_; intros) | refine JC.block ?_)
  (refine JO.eff rfl rfl rfl (JEff.boxS rfl (by exact vta) nna rfl ?_); intro S0 pa l0 hp)
  repeat (first | (refine Walk ?_; intros) | refine JC.block ?_)
  refine JC.loop (σ := SHeap × Nat) (fun q => q.1) (fun _ => []) (fun q => [(1, .string name), (2, .pointer (some pa)), (5, .int .i64 q.2)]) (fun q => S0.le q.1 ∧ q.2 ≤ s.owners.length ∧ ((s.owners.drop q.2).find? (fun o => decide (o.name = name)) = s.owners.find? (fun o => decide (o.name = name)))) (fun q => s.owners.length - q.2) (S0, 0) ⟨SHeap.le.refl _, Nat.zero_le _, rfl⟩ rfl rfl (by exact sba) ?_; rintro ⟨S1, k⟩ ⟨hl1, hk, hi⟩; dsimp only at hl1 hk hi ⊢
  repeat (first | (refine Walk ?_; intros) | refine JC.block ?_)
  refine JC.cond rfl (fun hc => ?_) (fun hc => ?_)
  · have hk' := dlt hc
    obtain ⟨x, hx, hd⟩ := drop_at hk'
    rw [hd, List.find?_cons] at hi
    repeat (first | (refine Walk ?_; intros) | refine JC.block ?_)
    refine JC.cond rfl (fun h1 => ?_) (fun h1 => ?_)
    · rw [h1] at hi
      repeat (first | (refine Walk ?_; intros) | refine JC.block ?_)
      refine JX.ret1 Tryz.results242 (ResV.tmp rfl) (List.nil_sublist _) ?_
      exact ⟨rfl, by rw [single8, ← hi]⟩
    · rw [h1] at hi
      repeat (first | (refine Walk ?_; intros) | refine JC.block ?_)
      exact JX.round (_, k + 1) ⟨by exact lea, hk', hi⟩ (by simp; omega) rfl rfl (by exact sba)
  · have hk' := dnlt hc
    rw [List.drop_eq_nil_of_le hk'] at hi
    repeat (first | (refine Walk ?_; intros) | refine JC.block ?_)
    refine JX.ret1 Tryz.results242 (ResV.tmp rfl) (List.nil_sublist _) ?_
    exact ⟨rfl, by rw [single8, ← hi]; rfl⟩
theorem r8_terms {S : SHeap} {u v : Value} {l : List Term} {labels : List Label} (hu : (rSlice 40 rTerm).V S u l) (hv : (rSlice 32 rLabel).V S v labels) : FnV Tryz.prog 239 #[u, v] S (.int .i64 (termsN l labels)) := by
  obtain ⟨a, c, rfl, _, _, hb, _⟩ := V_slice.1 hu
  unfold big at hb
  (refine Fn.enter (args := [.slice a l.length c, v]) Tryz.func239 rfl Tryz.ntmps239 rfl ?_; intro w0)
  repeat (first | (refine Walk ?_; intros) | refine JC.block ?_)
  refine JC.loop (σ := SHeap × Nat) (fun q => q.1) (fun _ => []) (fun q => [(0, .slice a l.length c), (1, v), (5, .int .i64 ((l.take q.2).filter (fun t => !holdsB [t] labels)).length), (6, .int .i64 q.2)]) (fun q => S.le q.1 ∧ q.2 ≤ l.length ∧ (True)) (fun q => l.length - q.2) (S, 0) ⟨SHeap.le.refl _, Nat.zero_le _, trivial⟩ rfl rfl (by exact sba) ?_; rintro ⟨S1, k⟩ ⟨hl1, hk, hi⟩; dsimp only at hl1 hk hi ⊢
  repeat (first | (refine Walk ?_; intros) | refine JC.block ?_)
  refine JC.cond rfl (fun hc => ?_) (fun hc => ?_)
  · have hk' := dlt hc
    obtain ⟨x, hx, hd⟩ := drop_at hk'
    have hst := filt_take (f := fun t => !holdsB [t] labels) hx
    have hle := filt_le l (fun t => !holdsB [t] labels) k
    repeat (first | (refine Walk ?_; intros) | refine JC.block ?_)
    refine JO.pure rfl rfl rfl (JPure.sliceS (xs := l) (rep := rTerm) (bt := 40) rfl (by exact vta) rfl rfl rfl (by omega) (by omega) (by omega) ?_); intro a1 c1 ys hys hV hyl hyb
    rw [cut1 hx] at hys
    subst hys
    repeat (first | (refine Walk ?_; intros) | refine JC.block ?_)
    (refine JO.eff rfl rfl rfl (JEff.callV rfl (r3_Holds (by exact vta) (by exact vta)) rfl ?_); intro _ _)
    repeat (first | (refine Walk ?_; intros) | refine JC.block ?_)
    refine JC.cond rfl (fun h1 => ?_) (fun h1 => ?_)
    · rw [h1, if_pos rfl] at hst
      repeat (first | (refine Walk ?_; intros) | refine JC.block ?_)
      exact JX.round (_, k + 1) ⟨by exact lea, hk', trivial⟩ (by simp; omega) rfl rfl (by dsimp only; rw [hst]; exact sba)
    · rw [h1, if_neg (by simp), Int.add_zero] at hst
      repeat (first | (refine Walk ?_; intros) | refine JC.block ?_)
      exact JX.round (_, k + 1) ⟨by exact lea, hk', trivial⟩ (by simp; omega) rfl rfl (by dsimp only; rw [hst]; exact sba)
  · have hk' := dnlt hc
    rw [List.take_of_length_le hk']
    repeat (first | (refine Walk ?_; intros) | refine JC.block ?_)
    refine JX.ret1 Tryz.results239 (ResV.tmp rfl) (List.nil_sublist _) ?_
    exact ⟨rfl, rfl⟩
theorem r8_taints {S : SHeap} {u v : Value} {l bears : List Label} (hu : (rSlice 32 rLabel).V S u l) (hv : (rSlice 32 rLabel).V S v bears) : FnV Tryz.prog 240 #[u, v] S (.int .i64 (taintsN l bears)) := by
  obtain ⟨a, c, rfl, _, _, hb, _⟩ := V_slice.1 hu
  unfold big at hb
  (refine Fn.enter (args := [.slice a l.length c, v]) Tryz.func240 rfl Tryz.ntmps240 rfl ?_; intro w0)
  repeat (first | (refine Walk ?_; intros) | refine JC.block ?_)
  refine JC.loop (σ := SHeap × Nat) (fun q => q.1) (fun _ => []) (fun q => [(0, .slice a l.length c), (1, v), (5, .int .i64 ((l.take q.2).filter (fun t => !bearsB bears [t])).length), (6, .int .i64 q.2)]) (fun q => S.le q.1 ∧ q.2 ≤ l.length ∧ (True)) (fun q => l.length - q.2) (S, 0) ⟨SHeap.le.refl _, Nat.zero_le _, trivial⟩ rfl rfl (by exact sba) ?_; rintro ⟨S1, k⟩ ⟨hl1, hk, hi⟩; dsimp only at hl1 hk hi ⊢
  repeat (first | (refine Walk ?_; intros) | refine JC.block ?_)
  refine JC.cond rfl (fun hc => ?_) (fun hc => ?_)
  · have hk' := dlt hc
    obtain ⟨x, hx, hd⟩ := drop_at hk'
    have hst := filt_take (f := fun t => !bearsB bears [t]) hx
    have hle := filt_le l (fun t => !bearsB bears [t]) k
    repeat (first | (refine Walk ?_; intros) | refine JC.block ?_)
    refine JO.pure rfl rfl rfl (JPure.sliceS (xs := l) (rep := rLabel) (bt := 32) rfl (by exact vta) rfl rfl rfl (by omega) (by omega) (by omega) ?_); intro a1 c1 ys hys hV hyl hyb
    rw [cut1 hx] at hys
    subst hys
    repeat (first | (refine Walk ?_; intros) | refine JC.block ?_)
    (refine JO.eff rfl rfl rfl (JEff.callV rfl (r3_Bears (by exact vta) (by exact vta)) rfl ?_); intro _ _)
    repeat (first | (refine Walk ?_; intros) | refine JC.block ?_)
    refine JC.cond rfl (fun h1 => ?_) (fun h1 => ?_)
    · rw [h1, if_pos rfl] at hst
      repeat (first | (refine Walk ?_; intros) | refine JC.block ?_)
      exact JX.round (_, k + 1) ⟨by exact lea, hk', trivial⟩ (by simp; omega) rfl rfl (by dsimp only; rw [hst]; exact sba)
    · rw [h1, if_neg (by simp), Int.add_zero] at hst
      repeat (first | (refine Walk ?_; intros) | refine JC.block ?_)
      exact JX.round (_, k + 1) ⟨by exact lea, hk', trivial⟩ (by simp; omega) rfl rfl (by dsimp only; rw [hst]; exact sba)
  · have hk' := dnlt hc
    rw [List.take_of_length_le hk']
    repeat (first | (refine Walk ?_; intros) | refine JC.block ?_)
    refine JX.ret1 Tryz.results240 (ResV.tmp rfl) (List.nil_sublist _) ?_
    exact ⟨rfl, rfl⟩
end Go.Dr
namespace Go.Dr
open Go.Proofs
set_option maxRecDepth 20000
set_option maxHeartbeats 1000000
set_option linter.unusedSimpArgs false
set_option linter.unusedVariables false
def domSum (s : Snap) (key : ByteArray) (c : List Int) (v : ByteArray) (k : Nat) : Int := ((List.range k).map (fun n => if inDom s key v n = true then at0 c n else 0)).sum
theorem domSum_step (s : Snap) (key : ByteArray) (c : List Int) (v : ByteArray) (k : Nat) : domSum s key c v (k + 1) = domSum s key c v k + (if inDom s key v k = true then at0 c k else 0) := by
  unfold domSum
  rw [List.range_succ, List.map_append, List.sum_append]; simp
theorem domSum_rng {s : Snap} {key : ByteArray} {c : List Int} {v : ByteArray} (h : ∀ x ∈ c, 0 ≤ x ∧ x ≤ 1000) : ∀ k, 0 ≤ domSum s key c v k ∧ domSum s key c v k ≤ 1000 * k
  | 0 => by simp [domSum]
  | k + 1 => by
    have ih := domSum_rng (s := s) (key := key) (v := v) h k
    rw [domSum_step]
    have hk : 0 ≤ at0 c k ∧ at0 c k ≤ 1000 := by
      unfold at0
      rw [List.getD_eq_getElem?_getD]
      cases hc : c[k]? with
      | none => simp
      | some x => exact h x (List.mem_of_getElem? hc)
    split <;> omega
theorem counts_rng {s : Snap} {p : List Int} {o : Nat} (h : p.length ≤ 1000) (hlen : p.length = s.pods.length) : ∀ x ∈ countsL s p o, 0 ≤ x ∧ x ≤ 1000 := by
  intro x hx
  obtain ⟨n, _, rfl⟩ := List.mem_map.1 hx
  have h1 := List.length_filter_le (fun x => decide (x = (n : Int))) (ownedL s p o)
  have h2 : (ownedL s p o).length ≤ p.length := by rw [← ownedK_all hlen]; exact ownedK_len _ _ _ _
  omega
theorem countsL_len (s : Snap) (p : List Int) (o : Nat) : (countsL s p o).length = s.nodes.length := by simp [countsL]
theorem s244_L7w {P K : Prop} (k : K) (h : Goal K → P := by
  intro zk
  (first | refine Walk ?_ | refine JC.block ?_ | (refine JO.eff rfl rfl rfl (JEff.callL rfl (r7_counts _ (by assumption) (by assumption) (by exact vta) (by exact vta)) rfl ?_); intro zqa zqb zqc zqd zqe zqf) | (refine JO.eff rfl rfl rfl (JEff.callL rfl (r7_domains _ (by exact vta) (by omega)) rfl ?_); intro zqa zqb zqc zqd zqe zqf) | (refine JO.eff rfl rfl rfl (JEff.callV rfl (r7_ValueOf _ (by exact vta)) rfl ?_); intro zqa zqb) | (refine WBox ?_))
  (repeat (first | revert zqg | revert zqf | revert zqe | revert zqd | revert zqc | revert zqb | revert zqa))
  exact zk.k) : P := h ⟨k⟩
theorem r7_SpreadOf {S : SHeap} {u v : Value} {s : Snap} {p : List Int} (o : Nat) (ho : o < s.owners.length) (hok : checkP s p = 0) (hu : rSnap.V S u s) (hv : (rSlice 8 rI64).V S v p) : FnL Tryz.prog 244 #[u, v, .int .i64 o] S 8 rI64 (spreadL s p o) := by
  obtain ⟨hs, hlen, hodd⟩ := checkP_ok hok
  obtain ⟨hn8, hp24, ho8⟩ := shaped_small (checkS_ok hs).1
  obtain ⟨ow, how⟩ : ∃ ow, s.owners[o]? = some ow := ⟨_, List.getElem?_eq_getElem ho⟩
  have htp : topoOf s o = ow.topo := by simp [topoOf, how]
  have hcr := counts_rng (o := o) (by omega) hlen
  have hcl := countsL_len s p o
  have hdl := domK_len s ow.topo s.nodes.length
  have hsp : spreadL s p o = (domL s ow.topo).map (fun v => domSum s ow.topo (countsL s p o) v s.nodes.length) := by unfold spreadL; rw [htp]; apply List.map_congr_left; intro v _; unfold domCount domSum; rw [htp]
  have hdl : (domL s ow.topo).length ≤ s.nodes.length := by unfold domK at hdl; rw [List.take_length] at hdl; exact hdl
  rw [hsp]
  (refine Fn.enter (args := [u, v, .int .i64 o]) Tryz.func244 rfl Tryz.ntmps244 rfl ?_; intro w0)
  repeat (refine s244_L7w ?_; intros)
  generalize countsL s p o = c at *
  generalize domL s ow.topo = D at *
  (first | refine JC.newRow 3 1 ?_ | refine JO.newRow 3 1 ?_ | refine JX.newRow 3 1 ?_)
  refine JC.loopF (σ := Nat × Option Addr × Nat × List Value) [(3, _), (8, _), (9, _), (10, _)] (fun q => [(7, .slice q.2.1 ((fun i => (D.take i).map (fun v => domSum s ow.topo c v s.nodes.length)) q.1).length q.2.2.1), (11, ((fun i => .int .i64 i) q.1))]) (fun q => [.row w0.heap.size 3 (Rp.sz rI64) (.slice q.2.1 ((fun i => (D.take i).map (fun v => domSum s ow.topo c v s.nodes.length)) q.1).length q.2.2.1) ((fun i => (D.take i).map (fun v => domSum s ow.topo c v s.nodes.length)) q.1).length (flatCells q.2.2.2)]) (fun Si q => q.1 ≤ D.length ∧ allV rI64 Si q.2.2.2 ((fun i => (D.take i).map (fun v => domSum s ow.topo c v s.nodes.length)) q.1) ∧ ((fun i => True) q.1)) (fun q => D.length - q.1) (0, none, 0, []) (by exact sba) (by exact sba) (by first | rfl | simp) (⟨Nat.zero_le _, trivial, trivial⟩) ?_; rintro Si ⟨i, rai, rci, vsi⟩ hli ⟨hi, hvi, hii⟩; (try dsimp only at hi hvi hii); dsimp only [List.cons_append, List.nil_append]
  repeat (refine s244_L7w ?_; intros)
  refine JC.cond rfl (fun hc => ?_) (fun hc => ?_)
  · have hi' := dlt hc
    obtain ⟨d, hd, _⟩ := drop_at hi'
    have hst : (D.take (i + 1)).map (fun v => domSum s ow.topo c v s.nodes.length) = (D.take i).map (fun v => domSum s ow.topo c v s.nodes.length) ++ [domSum s ow.topo c d s.nodes.length] := by rw [List.take_add_one, hd]; simp
    have hrr := domSum_rng (s := s) (key := ow.topo) (v := d) hcr s.nodes.length
    have hln : ((D.take i).map (fun v => domSum s ow.topo c v s.nodes.length)).length ≤ 1000 := by rw [List.length_map, List.length_take]; omega
    repeat (refine s244_L7w ?_; intros)
    refine JC.loopF0 [(3, _), (7, _), (8, _), (9, _), (10, _), (11, _)] (fun (k : Nat) => [(12, .int .i64 (domSum s ow.topo c d k)), (13, .int .i64 k)]) (fun Sk k => k ≤ c.length ∧ (True)) (fun k => c.length - k) 0 (by exact sba) (by exact sba) ⟨Nat.zero_le _, trivial⟩ ?_; intro Sk k hlk hik; obtain ⟨hk, hik⟩ := hik; (try dsimp only at hk hik); dsimp only [List.cons_append, List.nil_append]
    repeat (refine s244_L7w ?_; intros)
    refine JC.cond rfl (fun hc2 => ?_) (fun hc2 => ?_)
    · have hk' := dlt hc2
      obtain ⟨y, hy, _⟩ := drop_at hk'
      obtain ⟨nd, hnd⟩ : ∃ nd, s.nodes[k]? = some nd := ⟨_, List.getElem?_eq_getElem (by omega)⟩
      have hs2 := domSum_step s ow.topo c d k
      have hr2 := domSum_rng (s := s) (key := ow.topo) (v := d) hcr k
      have hy2 := hcr y (List.mem_of_getElem? hy)
      have hin : inDom s ow.topo d k = ((valB nd ow.topo).2 && decide ((valB nd ow.topo).1 = d)) := by simp [inDom, hnd]
      rw [hin, at0_some hy] at hs2
      cases hb : ((valB nd ow.topo).2 && decide ((valB nd ow.topo).1 = d)) with
      | true =>
        rw [hb, if_pos rfl] at hs2
        repeat' (first | (refine s244_L7w ?_; intros) | (refine JO.guard rfl rfl rfl rfl ?_ ?_ <;> intro _) | (refine JC.cond rfl ?_ ?_ <;> intro _))
        all_goals first
          | (refine JX.roundF (k + 1) (by exact lea) ⟨by omega, (trivial)⟩ (by (try dsimp only); omega) rfl ?_ (by exact sba); (try dsimp only); rw [hs2]; exact sba; done)
          | (exfalso; clear hs2 hst; simp_all; done)
      | false =>
        rw [hb, if_neg (by simp), Int.add_zero] at hs2
        repeat' (first | (refine s244_L7w ?_; intros) | (refine JO.guard rfl rfl rfl rfl ?_ ?_ <;> intro _) | (refine JC.cond rfl ?_ ?_ <;> intro _))
        all_goals first
          | (refine JX.roundF (k + 1) (by exact lea) ⟨by omega, (trivial)⟩ (by (try dsimp only); omega) rfl ?_ (by exact sba); (try dsimp only); rw [hs2]; exact sba; done)
          | (exfalso; clear hs2 hst; simp_all; done)
    · have hk' := dnlt hc2
      obtain rfl : k = s.nodes.length := by omega
      repeat (refine s244_L7w ?_; intros)
      (refine JO.eff rfl rfl rfl (JEff.build (rep := rI64) (ys := [domSum s ow.topo c d s.nodes.length]) rfl rfl ⟨⟨(V_i64.2 ⟨rfl, by unfold Rng; omega⟩), nna⟩, trivial⟩ rfl rfl rfl rfl ?_); intro bb hbb hvv); (repeat (first | (refine Walk ?_; intros) | refine JC.block ?_)); (refine JO.eff rfl rfl rfl (JEff.appendL (rep := rI64) rfl rfl rfl rfl (List.Perm.swap _ _ _) (by exact hvv.flat) (by intro c hc; exact flat_one (fun v hv => (hvv.size v hv).2) c hc) (by first | omega | (unfold big; omega)) (by unfold big; omega) (by first | exact rowT_ok | (intro l hl; cases hl)) rfl ?_); intro a2 c2; clear hvv hbb)
      repeat (refine s244_L7w ?_; intros)
      exact JX.roundF (i + 1, a2, c2, vsi ++ [(.int .i64 (domSum s ow.topo c d s.nodes.length))]) (by exact lea) ⟨by omega, by (try dsimp only); rw [hst]; exact allV_add (by exact lea) hvi (V_i64.2 ⟨rfl, by unfold Rng; omega⟩) nna, (trivial)⟩ (by (try dsimp only); omega) (by (try dsimp only); rw [hst]; (simp [flat_append] <;> omega)) (by (try dsimp only); rw [hst]; simp only [List.length_append, List.length_cons, List.length_nil]; exact sba) (by exact sba)
  · have hi' := dnlt hc
    rw [List.take_of_length_le hi'] at hvi ⊢
    have hl9 : (D.map (fun v => domSum s ow.topo c v s.nodes.length)).length ≤ 1000 := by rw [List.length_map]; omega
    repeat (refine s244_L7w ?_; intros)
    refine JX.freezeRow (rep := rI64) (bt := 8) hvi rfl (by unfold big; omega) (by unfold big; omega) (fun S9 hl9 hV9 => ?_)
    (refine JX.ret1 Tryz.results244 (ResV.tmp rfl) (List.nil_sublist _) ?_)
    exact ⟨rfl, hV9⟩
end Go.Dr
namespace Go.Dr
open Go.Proofs
set_option maxRecDepth 20000
set_option maxHeartbeats 1000000
set_option linter.unusedSimpArgs false
set_option linter.unusedVariables false
theorem r8_doubles {S : SHeap} {u v : Value} {s : Snap} {p : List Int} (i : Nat) (hi : i < p.length) (hlen : p.length = s.pods.length) (hu : rSnap.V S u s) (hv : (rSlice 8 rI64).V S v p) : FnV Tryz.prog 243 #[u, v, .int .i64 i] S (.int .i64 (double8 s p i)) := by
  obtain ⟨a, c, rfl, _, _, hb, _⟩ := V_slice.1 hv
  unfold big at hb
  obtain ⟨m, hm⟩ : ∃ m, p[i]? = some m := ⟨_, List.getElem?_eq_getElem hi⟩
  obtain ⟨r, hr⟩ : ∃ r, s.pods[i]? = some r := ⟨_, List.getElem?_eq_getElem (by omega)⟩
  (refine Fn.enter (args := [u, .slice a p.length c, .int .i64 i]) Tryz.func243 rfl Tryz.ntmps243 rfl ?_; intro w0)
  repeat (first | (refine Walk ?_; intros) | refine JC.block ?_)
  (refine JO.eff rfl rfl rfl (JEff.boxS rfl (by exact vta) nna rfl ?_); intro S0 pa l0 hp)
  repeat (first | (refine Walk ?_; intros) | refine JC.block ?_)
  refine JC.loop (σ := SHeap × Nat) (fun q => q.1) (fun _ => []) (fun q => [(1, .slice a p.length c), (2, .int .i64 i), (3, .pointer (some pa)), (7, .int .i64 (cntI q.2 (doubleF s p i))), (8, .int .i64 q.2)]) (fun q => S0.le q.1 ∧ q.2 ≤ p.length ∧ (True)) (fun q => p.length - q.2) (S0, 0) ⟨SHeap.le.refl _, Nat.zero_le _, trivial⟩ rfl rfl (by exact sba) ?_; rintro ⟨S1, k⟩ ⟨hl1, hk, hi⟩; dsimp only at hl1 hk hi ⊢
  repeat (first | (refine Walk ?_; intros) | refine JC.block ?_)
  refine JC.cond rfl (fun hc => ?_) (fun hc => ?_)
  · have hk' := dlt hc
    obtain ⟨n, hn, hd⟩ := drop_at hk'
    obtain ⟨x, hx⟩ : ∃ x, s.pods[k]? = some x := ⟨_, List.getElem?_eq_getElem (by omega)⟩
    have hst := cntI_step k (doubleF s p i)
    have hrg := cntI_rng k (doubleF s p i)
    have hf : doubleF s p i k = (!decide (k = i) && decide (n = m) && decide (x.owner = r.owner)) := by simp [doubleF, hn, hx, hm, hr]
    have hki : decide ((k : Int) = (i : Int)) = decide (k = i) := by rw [Bool.eq_iff_iff]; simp; omega
    rw [hf] at hst
    clear hd hf
    repeat (first | (refine Walk ?_; intros) | refine JC.block ?_)
    refine JC.drawT [0, 1, 2, 3, 4, 5, 6, 7, 8, 9, 10, 11, 12, 13, 14, 15, 16, 17, 18, 19, 20, 21, 22, 23, 24, 25, 26, 27, 28] [0, 1, 2, 3, 4, 5, 6, 7, 8, 9, 10, 11, 12, 13, 14, 15, 16, 17, 18, 19, 20, 21, 22, 23, 24, 25, 26, 27, 28] [] Tryz_mixed (by decide +kernel) (by simp [MEnt.own]) ?_
    repeat' (first | (refine Walk ?_; intros) | refine JC.block ?_ | (refine JO.guard rfl rfl rfl rfl ?_ ?_ <;> intro _) | (refine JC.cond rfl ?_ ?_ <;> intro _))
    all_goals
      cases h9 : (!decide (k = i) && decide (n = m) && decide (x.owner = r.owner)) with
      | false =>
        rw [h9, if_neg (by simp), Int.add_zero] at hst
        first
          | (refine JX.round (_, k + 1) ⟨by exact lea, hk', trivial⟩ (by simp; omega) rfl rfl ?_; dsimp only; rw [hst]; exact sba; done)
          | (exfalso; clear hst; simp_all; done)
      | true =>
        rw [h9, if_pos rfl] at hst
        first
          | (refine JX.round (_, k + 1) ⟨by exact lea, hk', trivial⟩ (by simp; omega) rfl rfl ?_; dsimp only; rw [hst]; exact sba; done)
          | (exfalso; clear hst; simp_all; done)
  · have hk' := dnlt hc
    obtain rfl : k = p.length := by omega
    repeat (first | (refine Walk ?_; intros) | refine JC.block ?_)
    refine JX.ret1 Tryz.results243 (ResV.tmp rfl) (List.nil_sublist _) ?_
    exact ⟨rfl, rfl⟩
end Go.Dr
namespace Go.Dr
open Go.Proofs
set_option maxRecDepth 20000
set_option maxHeartbeats 1000000
set_option linter.unusedSimpArgs false
set_option linter.unusedVariables false
theorem owned_at {s : Snap} {p : List Int} (hodd : ∀ n ∈ p, oddP s n = false) {k : Nat} {n : Int} (hn : p[k]? = some n) : n < s.nodes.length := by
  have h1 := hodd n (List.mem_of_getElem? hn)
  simp only [oddP, Bool.or_eq_false_iff, decide_eq_false_iff_not] at h1
  omega
theorem r8_about {S : SHeap} {u v xv : Value} {s : Snap} {p : List Int} {x : Near} (i : Nat) (others : Bool) {m : Int} (hm : p[i]? = some m) (hm0 : 0 ≤ m) (hlen : p.length = s.pods.length) (hodd : ∀ n ∈ p, oddP s n = false) (hu : rSnap.V S u s) (hv : (rSlice 8 rI64).V S v p) (hx : rNear.V S xv x) :
    FnV Tryz.prog 241 #[u, v, .int .i64 i, xv, .bool others] S (.int .i64 (about8 s p i x others)) := by
  obtain ⟨a, c, rfl, _, _, hb, _⟩ := V_slice.1 hv
  unfold big at hb
  have hmlt := owned_at hodd hm
  obtain ⟨mn, rfl⟩ := Int.eq_ofNat_of_zero_le hm0
  have hmn : mn < s.nodes.length := by omega
  (refine Fn.enter (args := [u, .slice a p.length c, .int .i64 i, xv, .bool others]) Tryz.func241 rfl Tryz.ntmps241 rfl ?_; intro w0)
  repeat (first | (refine Walk ?_; intros) | refine JC.block ?_)
  (refine JO.eff rfl rfl rfl (JEff.boxS rfl (by exact vta) nna rfl ?_); intro S0 pa l0 hp)
  (refine JO.eff rfl rfl rfl (JEff.boxS rfl (by exact vta) nna rfl ?_); intro S2 pb l2 hpb)
  repeat (first | (refine Walk ?_; intros) | refine JC.block ?_)
  refine JC.loop (σ := SHeap × Nat) (fun q => q.1) (fun _ => []) (fun q => [(1, .slice a p.length c), (2, .int .i64 i), (4, .bool others), (5, .pointer (some pa)), (8, .pointer (some pb)), (11, .int .i64 (cntI q.2 (aboutF s p i x others))), (12, .int .i64 q.2)]) (fun q => S2.le q.1 ∧ q.2 ≤ p.length ∧ (True)) (fun q => p.length - q.2) (S2, 0) ⟨SHeap.le.refl _, Nat.zero_le _, trivial⟩ rfl rfl (by exact sba) ?_; rintro ⟨S1, k⟩ ⟨hl1, hk, hi⟩; dsimp only at hl1 hk hi ⊢
  repeat (first | (refine Walk ?_; intros) | refine JC.block ?_)
  refine JC.cond rfl (fun hc => ?_) (fun hc => ?_)
  · have hk' := dlt hc
    obtain ⟨n, hn, hd⟩ := drop_at hk'
    obtain ⟨y, hy⟩ : ∃ y, s.pods[k]? = some y := ⟨_, List.getElem?_eq_getElem (by omega)⟩
    have hst := cntI_step k (aboutF s p i x others)
    have hrg := cntI_rng k (aboutF s p i x others)
    have hf : aboutF s p i x others k = (decide (0 ≤ n) && !(others && decide (k = i)) && near8 s n.toNat mn x.topo && holdsB x.terms y.labels) := by simp [aboutF, hn, hy, hm]
    have hki : decide ((k : Int) = (i : Int)) = decide (k = i) := by rw [Bool.eq_iff_iff]; simp; omega
    rw [hf] at hst
    clear hd hf
    by_cases hneg : n < 0
    · have e1 : decide (n < 0) = true := by simp [hneg]
      have e2 : decide (0 ≤ n) = false := by simp; omega
      rw [e2] at hst
      simp only [Bool.false_and, Bool.false_eq_true, if_false, Int.add_zero] at hst
      repeat (first | (refine Walk ?_; intros) | refine JC.block ?_)
      refine JC.drawT [0, 1, 2, 3, 4, 5, 6, 7, 8, 9, 10, 11, 12, 13, 14, 15, 16, 17, 18, 19, 20, 21, 22, 23, 24, 25, 26, 27] [0, 1, 2, 3, 4, 5, 6, 7, 8, 9, 10, 11, 12, 13, 14, 15, 16, 17, 18, 19, 20, 21, 22, 23, 24, 26, 27] [] Tryz_mixed (by decide +kernel) (by simp [MEnt.own]) ?_
      repeat (first | (refine Walk ?_; intros) | refine JC.block ?_)
      refine JO.guard rfl rfl rfl rfl (fun g1 => ?_) (fun g1 => ?_)
      · repeat (first | (refine Walk ?_; intros) | refine JC.block ?_)
        (refine JX.round (_, k + 1) ⟨by exact lea, hk', trivial⟩ (by simp; omega) rfl rfl ?_; dsimp only; rw [hst]; exact sba; done)
      · rw [e1] at g1; cases g1
    · have h0 : 0 ≤ n := by omega
      have e1 : decide (n < 0) = false := by simp; omega
      have e2 : decide (0 ≤ n) = true := by simp; omega
      have hnlt := owned_at hodd hn
      obtain ⟨nn, rfl⟩ := Int.eq_ofNat_of_zero_le h0
      have hnn : nn < s.nodes.length := by omega
      have ecast : ((nn : Int)).toNat = nn := by omega
      rw [e2, Bool.true_and] at hst
      repeat (first | (refine Walk ?_; intros) | refine JC.block ?_)
      refine JC.drawT [0, 1, 2, 3, 4, 5, 6, 7, 8, 9, 10, 11, 12, 13, 14, 15, 16, 17, 18, 19, 20, 21, 22, 23, 24, 25, 26, 27] [0, 1, 2, 3, 4, 5, 6, 7, 8, 9, 10, 11, 12, 13, 14, 15, 16, 17, 18, 19, 20, 21, 22, 23, 24, 26, 27] [] Tryz_mixed (by decide +kernel) (by simp [MEnt.own]) ?_
      cases hoth : (others && decide (k = i)) with
      | true =>
        rw [hoth] at hst
        simp only [Bool.not_true, Bool.false_and, Bool.false_eq_true, if_false, Int.add_zero] at hst
        have ho1 : others = true := by simp at hoth; exact hoth.1
        have ho2 : decide ((k : Int) = (i : Int)) = true := by rw [hki]; simp at hoth; simp [hoth.2]
        subst ho1
        repeat (first | (refine Walk ?_; intros) | refine JC.block ?_)
        refine JO.guard rfl rfl rfl rfl (fun g2 => ?_) (fun g2 => ?_)
        · repeat (first | (refine Walk ?_; intros) | refine JC.block ?_)
          (refine JX.round (_, k + 1) ⟨by exact lea, hk', trivial⟩ (by simp; omega) rfl rfl ?_; dsimp only; rw [hst]; exact sba; done)
        · rw [ho2] at g2; cases g2
      | false =>
        rw [hoth, Bool.not_false, Bool.true_and, show ((nn : Int)).toNat = nn from ecast] at hst
        have hrun : others = false ∨ (others = true ∧ decide ((k : Int) = (i : Int)) = false) := by
          cases others with
          | false => exact .inl rfl
          | true => right; refine ⟨rfl, ?_⟩; rw [hki]; simpa using hoth
        clear hoth
        cases hnr : near8 s nn mn x.topo with
        | false =>
          rw [hnr] at hst
          simp only [Bool.false_and, Bool.false_eq_true, if_false, Int.add_zero] at hst
          rcases hrun with rfl | ⟨rfl, hkf⟩
          all_goals repeat' (first | (refine Walk ?_; intros) | refine JC.block ?_ | (refine JO.eff rfl rfl rfl (JEff.callV rfl (r8_near nn mn x.topo hnn hmn (by exact vta)) rfl ?_); intro _ _) | (refine JO.guard rfl rfl rfl rfl ?_ ?_ <;> intro _) | (refine JC.cond rfl ?_ ?_ <;> intro _))
          all_goals first
            | (refine JX.round (_, k + 1) ⟨by exact lea, hk', trivial⟩ (by simp; omega) rfl rfl ?_; dsimp only; rw [hst]; exact sba; done)
            | (exfalso; simp_all; done)
        | true =>
          rw [hnr, Bool.true_and] at hst
          rcases hrun with rfl | ⟨rfl, hkf⟩
          all_goals repeat' (first | (refine Walk ?_; intros) | refine JC.block ?_ | (refine JO.eff rfl rfl rfl (JEff.callV rfl (r8_near nn mn x.topo hnn hmn (by exact vta)) rfl ?_); intro _ _) | (refine JO.guard rfl rfl rfl rfl ?_ ?_ <;> intro _) | (refine JC.cond rfl ?_ ?_ <;> intro _))
          all_goals first
            | (exfalso; simp_all; done)
            | skip
          all_goals
            refine JC.drawT [0, 1, 2, 3, 4, 5, 6, 7, 8] [0, 1, 2, 3, 4, 5, 6, 7] [] Tryz_mixed (by decide +kernel) (by simp [MEnt.own]) ?_
            repeat (first | (refine Walk ?_; intros) | refine JC.block ?_)
            (refine JO.eff rfl rfl rfl (JEff.callV rfl (r3_Holds (by exact vta) (by exact vta)) rfl ?_); intro _ _)
            repeat (first | (refine Walk ?_; intros) | refine JC.block ?_)
            refine JC.cond rfl (fun h1 => ?_) (fun h1 => ?_)
            · rw [h1, if_pos rfl] at hst
              repeat (first | (refine Walk ?_; intros) | refine JC.block ?_)
              (refine JX.round (_, k + 1) ⟨by exact lea, hk', trivial⟩ (by simp; omega) rfl rfl ?_; dsimp only; rw [hst]; exact sba; done)
            · rw [h1, if_neg (by simp), Int.add_zero] at hst
              repeat (first | (refine Walk ?_; intros) | refine JC.block ?_)
              (refine JX.round (_, k + 1) ⟨by exact lea, hk', trivial⟩ (by simp; omega) rfl rfl ?_; dsimp only; rw [hst]; exact sba; done)
  · have hk' := dnlt hc
    obtain rfl : k = p.length := by omega
    repeat (first | (refine Walk ?_; intros) | refine JC.block ?_)
    refine JX.ret1 Tryz.results241 (ResV.tmp rfl) (List.nil_sublist _) ?_
    exact ⟨rfl, rfl⟩
end Go.Dr
namespace Go.Dr
open Go.Proofs
set_option maxRecDepth 20000
set_option maxHeartbeats 1000000
set_option linter.unusedSimpArgs false
set_option linter.unusedVariables false
theorem spread_rng {s : Snap} {p : List Int} {o : Nat} (h : p.length ≤ 1000) (hlen : p.length = s.pods.length) (hn : s.nodes.length ≤ 1000) : ∀ x ∈ spreadL s p o, 0 ≤ x ∧ x ≤ 1000000 := by
  intro x hx
  obtain ⟨v, _, rfl⟩ := List.mem_map.1 hx
  have := domSum_rng (s := s) (key := topoOf s o) (v := v) (counts_rng (o := o) h hlen) s.nodes.length
  unfold domCount
  unfold domSum at this
  omega
theorem shaped_owner {s : Snap} (h : shapedB s = true) : ∀ o ∈ s.owners, 0 ≤ o.min ∧ o.min ≤ 24 ∧ 0 ≤ o.skew ∧ o.skew ≤ 24 := by
  intro o ho
  unfold shapedB at h
  simp only [Bool.and_eq_true, List.all_eq_true] at h
  have h1 := h.2.2 o ho
  unfold ownerB at h1
  simp only [Bool.and_eq_true, decide_eq_true_eq] at h1
  obtain ⟨⟨h1, h2⟩, h3⟩ := h1
  split at h1
  · have := of_decide_eq_true h1; omega
  · simp only [Bool.and_eq_true, decide_eq_true_eq] at h1; omega
theorem s204_L8u {P K : Prop} (k : K) (h : Goal K → P := by
  intro zk
  (first | refine Walk ?_ | refine JC.block ?_ | refine JC.drawN 4 rfl [0, 1, 2, 3, 4, 5, 6, 7] [0, 1, 2, 3, 4, 5, 6, 7] Tryz_mixed (by decide +kernel) ?_ | (refine JO.eff rfl rfl rfl (JEff.callL rfl (r7_SpreadOf _ (by assumption) (by assumption) (by exact vta) (by exact vta)) rfl ?_); intro zqa zqb zqc zqd zqe zqf) | (refine WBox ?_))
  (repeat (first | revert zqg | revert zqf | revert zqe | revert zqd | revert zqc | revert zqb | revert zqa))
  exact zk.k) : P := h ⟨k⟩
theorem r8_skew {S : SHeap} {u v : Value} {s : Snap} {p : List Int} (o : Nat) (ho : o < s.owners.length) (hok : checkP s p = 0) (hu : rSnap.V S u s) (hv : (rSlice 8 rI64).V S v p) : FnV Tryz.prog 204 #[u, v, .int .i64 o] S (.int .i64 (skewV s p o)) := by
  obtain ⟨hs, hlen, hodd⟩ := checkP_ok hok
  obtain ⟨hn8, hp24, ho8⟩ := shaped_small (checkS_ok hs).1
  obtain ⟨ow, how⟩ : ∃ ow, s.owners[o]? = some ow := ⟨_, List.getElem?_eq_getElem ho⟩
  have hsk : skewOf s o = ow.skew := by simp [skewOf, how]
  have hsr := shaped_owner (checkS_ok hs).1 ow (List.mem_of_getElem? how)
  have hspr := spread_rng (o := o) (by omega) hlen (by omega)
  (refine Fn.enter (args := [u, v, .int .i64 o]) Tryz.func204 rfl Tryz.ntmps204 rfl ?_; intro w0)
  repeat (refine s204_L8u ?_; intros)
  unfold skewV
  rw [hsk]
  generalize spreadL s p o = L at *
  refine JC.cond rfl (fun h0 => ?_) (fun h0 => ?_)
  · have h0 : L.length = 0 := by have := of_decide_eq_true h0; omega
    repeat (refine s204_L8u ?_; intros)
    (refine JX.ret1 Tryz.results204 (ResV.tmp rfl) (List.nil_sublist _) ?_)
    rw [if_pos h0]
    exact ⟨rfl, rfl⟩
  · have h0 : ¬ L.length = 0 := by have := of_decide_eq_false h0; omega
    rw [if_neg h0]
    obtain ⟨x, L', rfl⟩ : ∃ x L', L = x :: L' := by cases L with | nil => simp at h0 | cons x L' => exact ⟨x, L', rfl⟩
    have hx0 : (x :: L')[0]? = some x := rfl
    repeat (refine s204_L8u ?_; intros)
    refine JC.loopF0 [(2, _), (3, _), (7, _)] (fun (k : Nat) => [(8, .int .i64 (((x :: L').take k).foldl min x)), (9, .int .i64 (((x :: L').take k).foldl max x)), (10, .int .i64 k)]) (fun Sk k => k ≤ (x :: L').length ∧ (True)) (fun k => (x :: L').length - k) 0 (by exact sba) (by exact sba) ⟨Nat.zero_le _, trivial⟩ ?_; intro Sk k hlk hik; obtain ⟨hk, hik⟩ := hik; (try dsimp only at hk hik); dsimp only [List.cons_append, List.nil_append]
    repeat (refine s204_L8u ?_; intros)
    refine JC.cond rfl (fun hc => ?_) (fun hc => ?_)
    · have hk' := dlt hc
      obtain ⟨y, hy, hd⟩ := drop_at hk'
      have e1 := fold_take (f := min) (z := x) hy
      have e2 := fold_take (f := max) (z := x) hy
      repeat (refine s204_L8u ?_; intros)
      (refine JX.roundF (k + 1) (by exact lea) ⟨by omega, (trivial)⟩ (by (try dsimp only); omega) rfl ?_ (by exact sba); (try dsimp only); rw [e1, e2]; exact sba; done)
    · have hk' := dnlt hc
      rw [List.take_of_length_le hk'] at *
      have m1 : (x :: L').foldl min x = minL (x :: L') := by simp [minL]
      have m2 : (x :: L').foldl max x = maxL (x :: L') := by simp [maxL]
      have r1 := fold_rng min_or (lo := 0) (hi := 1000000) (l := x :: L') (z := x) (hspr x (by simp)).1 (hspr x (by simp)).2 hspr
      have r2 := fold_rng max_or (lo := 0) (hi := 1000000) (l := x :: L') (z := x) (hspr x (by simp)).1 (hspr x (by simp)).2 hspr
      rw [m1] at *
      rw [m2] at *
      repeat (refine s204_L8u ?_; intros)
      (refine JX.ret1 Tryz.results204 (ResV.tmp rfl) (List.nil_sublist _) ?_)
      exact ⟨rfl, rfl⟩
theorem alike_step {α : Type} {xs ys : List α} {k : Nat} {x y : α} (hx : xs[k]? = some x) (hy : ys[k]? = some y) (h : xs.take k = ys.take k) (hxy : x = y) : xs.take (k + 1) = ys.take (k + 1) := by
  rw [List.take_add_one, List.take_add_one, hx, hy, h, hxy]
theorem alike_not {α : Type} {xs ys : List α} {k : Nat} {x y : α} (hx : xs[k]? = some x) (hy : ys[k]? = some y) (hxy : ¬ x = y) : ¬ xs = ys := by
  rintro rfl; rw [hx] at hy; exact hxy (Option.some.inj hy)
theorem s17_L8u {P K : Prop} (k : K) (h : Goal K → P := by
  intro zk
  (first | refine Walk ?_ | refine JC.block ?_ | refine JC.drawN 6 rfl [0, 1, 2, 3, 4, 5, 6, 7, 8] [0, 1, 2, 3, 4, 5, 6, 7, 8] Tryz_mixed (by decide +kernel) ?_)
  (repeat (first | revert zqg | revert zqf | revert zqe | revert zqd | revert zqc | revert zqb | revert zqa))
  exact zk.k) : P := h ⟨k⟩
theorem r0_EqInts {S : SHeap} {u v : Value} {xs ys : List Int} (hu : (rSlice 8 rI64).V S u xs) (hv : (rSlice 8 rI64).V S v ys) : FnV Tryz.prog 17 #[u, v] S (.bool (decide (xs = ys))) := by
  obtain ⟨a, c, rfl, _, _, hb, _⟩ := V_slice.1 hu
  obtain ⟨a2, c2, rfl, _, _, hb2, _⟩ := V_slice.1 hv
  unfold big at hb hb2
  (refine Fn.enter (args := [.slice a xs.length c, .slice a2 ys.length c2]) Tryz.func17 rfl Tryz.ntmps17 rfl ?_; intro w0)
  repeat (refine s17_L8u ?_; intros)
  refine JC.cond rfl (fun h0 => ?_) (fun h0 => ?_)
  · have h0 : ¬ xs.length = ys.length := by simp at h0; omega
    repeat (refine s17_L8u ?_; intros)
    (refine JX.ret1 Tryz.results17 (ResV.tmp rfl) (List.nil_sublist _) ?_)
    refine ⟨rfl, ?_⟩
    congr 1
    exact (decide_eq_false (fun h => h0 (by rw [h]))).symm
  · have h0 : xs.length = ys.length := by simp at h0; omega
    repeat (refine s17_L8u ?_; intros)
    refine JC.loopF0 [(0, _), (1, _)] (fun (k : Nat) => [(5, .int .i64 k)]) (fun Sk k => k ≤ xs.length ∧ (xs.take k = ys.take k)) (fun k => xs.length - k) 0 (by exact sba) (by exact sba) ⟨Nat.zero_le _, by simp⟩ ?_; intro Sk k hlk hik; obtain ⟨hk, hik⟩ := hik; (try dsimp only at hk hik); dsimp only [List.cons_append, List.nil_append]
    repeat (refine s17_L8u ?_; intros)
    refine JC.cond rfl (fun hc => ?_) (fun hc => ?_)
    · have hk' := dlt hc
      obtain ⟨x, hx, _⟩ := drop_at hk'
      obtain ⟨y, hy, _⟩ := drop_at (l := ys) (show k < ys.length by omega)
      repeat (refine s17_L8u ?_; intros)
      refine JC.cond rfl (fun hxy => ?_) (fun hxy => ?_)
      · have hxy : ¬ x = y := by simpa using hxy
        repeat (refine s17_L8u ?_; intros)
        (refine JX.ret1 Tryz.results17 (ResV.tmp rfl) (List.nil_sublist _) ?_)
        refine ⟨rfl, ?_⟩
        congr 1
        exact (decide_eq_false (alike_not hx hy hxy)).symm
      · have hxy : x = y := by simpa using hxy
        repeat (refine s17_L8u ?_; intros)
        exact JX.roundF (k + 1) (by exact lea) ⟨by omega, (alike_step hx hy hik hxy)⟩ (by (try dsimp only); omega) rfl (by exact sba) (by exact sba)
    · have hk' := dnlt hc
      rw [List.take_of_length_le hk', List.take_of_length_le (by omega)] at hik
      repeat (refine s17_L8u ?_; intros)
      (refine JX.ret1 Tryz.results17 (ResV.tmp rfl) (List.nil_sublist _) ?_)
      refine ⟨rfl, ?_⟩
      congr 1
      exact (decide_eq_true hik).symm
theorem r0_CopyInts {S : SHeap} {u : Value} {xs : List Int} (hu : (rSlice 8 rI64).V S u xs) : FnL Tryz.prog 28 #[u] S 8 rI64 xs := by
  obtain ⟨a, c, rfl, _, hb8, hb, _⟩ := V_slice.1 hu
  unfold big at hb8 hb
  (refine Fn.enter (args := [.slice a xs.length c]) Tryz.func28 rfl Tryz.ntmps28 rfl ?_; intro w0)
  (first | refine JC.newRow 3 1 ?_ | refine JO.newRow 3 1 ?_ | refine JX.newRow 3 1 ?_)
  repeat (first | (refine Walk ?_; intros) | refine JC.block ?_)
  (refine JO.eff rfl rfl rfl (JEff.appendS (rep := rI64) rfl rfl hu rfl rfl (List.Perm.refl _) (by unfold big; omega) (by unfold big; omega) (by intro l hl; cases hl) rfl ?_); intro a2 c2 us1 hus1)
  repeat (first | (refine Walk ?_; intros) | refine JC.block ?_)
  rw [List.nil_append]
  refine JX.freezeRow (rep := rI64) (bt := 8) (xs := xs) hus1 (by omega) (by unfold big; omega) (by unfold big; omega) (fun S9 hl9 hV9 => ?_)
  rw [Nat.zero_add] at hV9
  (refine JX.ret1 Tryz.results28 (ResV.tmp rfl) (List.nil_sublist _) ?_)
  rw [Nat.zero_add]
  exact ⟨rfl, hV9⟩
end Go.Dr
namespace Go.Dr
open Go.Proofs
set_option maxRecDepth 20000
set_option maxHeartbeats 1000000
set_option linter.unusedSimpArgs false
set_option linter.unusedVariables false
theorem used_fine {s : Snap} (h : checkS s = 0) {p : List Int} (hlen : p.length = s.pods.length) (n : Int) : (usedV s p n).length = 5 ∧ (∀ x ∈ usedV s p n, 0 ≤ x ∧ x ≤ Qty) := by
  refine ⟨by simp [usedV], fun z hz => ?_⟩
  obtain ⟨j, hj, rfl⟩ := List.mem_map.1 hz
  have := used_bound h p n p.length j (by simpa using hj)
  rwa [onK_all hlen] at this
theorem check_vec {v : List Int} (h : z0 (checkV v) = true) : ∀ x ∈ v, 0 ≤ x ∧ x ≤ Qty := by
  intro x hx
  unfold z0 checkV at h
  split at h
  · cases h
  · rename_i h1
    split at h
    · cases h
    · rename_i h2
      have h1 := (List.any_eq_false.1 (by simpa using h1)) x hx
      have h2 := (List.any_eq_false.1 (by simpa using h2)) x hx
      simp only [negB, overB, decide_eq_true_eq] at h1 h2
      omega
theorem shaped_cap {s : Snap} (h : shapedB s = true) : ∀ n ∈ s.nodes, ∀ x ∈ n.cap, 0 ≤ x ∧ x ≤ Qty := by
  intro n hn
  unfold shapedB at h
  simp only [Bool.and_eq_true, List.all_eq_true] at h
  have h1 := h.2.1.1 n hn
  unfold nodeB at h1
  simp only [Bool.and_eq_true] at h1
  exact check_vec h1.1.1
theorem s202_L8v {P K : Prop} (k : K) (h : Goal K → P := by
  intro zk
  (first | refine Walk ?_ | refine JC.block ?_ | refine JC.drawN 9 rfl [0, 1, 2, 3, 4, 5, 6, 7, 8, 9, 10, 11, 12, 13, 14, 15, 16, 17, 18, 19] [1, 2, 3, 4, 5, 6, 7, 8, 9, 10, 11, 12, 13, 14, 15, 16, 19] Tryz_mixed (by decide +kernel) ?_ | (refine JO.eff rfl rfl rfl (JEff.callV rfl (r7_UsedOf _ (by assumption) (by assumption) (by exact vta) (by exact vta)) rfl ?_); intro zqa zqb) | (refine WBox ?_) | (refine WNew ?_) | (refine WPut ?_))
  (repeat (first | revert zqg | revert zqf | revert zqe | revert zqd | revert zqc | revert zqb | revert zqa))
  exact zk.k) : P := h ⟨k⟩
theorem r8_caps {S : SHeap} {u v : Value} {s : Snap} {p : List Int} (hu : rSnap.V S u s) (hv : (rSlice 8 rI64).V S v p) (hok : checkP s p = 0) : FnRow Tryz.prog 202 #[u, v] S 35 rClause (capsC s p) := by
  obtain ⟨hs, hlen, hodd⟩ := checkP_ok hok
  obtain ⟨hn8, hp24, ho8⟩ := shaped_small (checkS_ok hs).1
  (refine FnRow.enter (args := [u, v]) Tryz.func202 rfl Tryz.ntmps202 rfl ?_; intro w0)
  repeat (refine s202_L8v ?_; intros)
  have hcl := snap_caps (by assumption : PtrTo _ _ rSnap s)
  (first | refine JC.newRow 35 (Rp.sz rClause) ?_ | refine JO.newRow 35 (Rp.sz rClause) ?_ | refine JX.newRow 35 (Rp.sz rClause) ?_)
  refine JC.loopF (σ := Nat × Option Addr × Nat × List Value) [(1, _), (2, _)] (fun q => [(5, .slice q.2.1 ((fun n => capTo s p n 0) q.1).length q.2.2.1), (6, ((fun n => .int .i64 n) q.1))]) (fun q => [.row w0.heap.size 35 (Rp.sz rClause) (.slice q.2.1 ((fun n => capTo s p n 0) q.1).length q.2.2.1) ((fun n => capTo s p n 0) q.1).length (flatCells q.2.2.2)]) (fun Sn q => q.1 ≤ s.nodes.length ∧ allV rClause Sn q.2.2.2 ((fun n => capTo s p n 0) q.1) ∧ ((fun n => True) q.1)) (fun q => s.nodes.length - q.1) (0, none, 0, []) (by exact sba) (by exact sba) (by first | rfl | simp) (⟨Nat.zero_le _, trivial, trivial⟩) ?_; rintro Sn ⟨n, ran, rcn, vsn⟩ hln ⟨hn, hvn, hin⟩; (try dsimp only at hn hvn hin); dsimp only [List.cons_append, List.nil_append]
  repeat (refine s202_L8v ?_; intros)
  refine JC.cond rfl (fun hc => ?_) (fun hc => ?_)
  · have hn' := dlt hc
    obtain ⟨x, hx, _⟩ := drop_at hn'
    have hxm := List.mem_of_getElem? hx
    have hxl := (hcl x hxm).1
    have hxr := shaped_cap (checkS_ok hs).1 x hxm
    obtain ⟨hul, hur⟩ := used_fine hs hlen n
    have hU : (rArr 5).V Sn (.agg (ints (usedV s p n))) (usedV s p n) := V_arr.2 ⟨rfl, hul, fun z hz => by have := hur z hz; unfold Qty at this; unfold Rng; omega⟩
    have hcap : capOf s n = x.cap := by simp [capOf, hx]
    repeat (refine s202_L8v ?_; intros)
    refine JC.loopF (σ := Nat × Option Addr × Nat × List Value) [(1, _), (2, _), (6, _), (7, _)] (fun q => [(5, .slice q.2.1 ((fun k => capTo s p n k) q.1).length q.2.2.1), (8, ((fun k => .int .i64 k) q.1))]) (fun q => [.row w0.heap.size 35 (Rp.sz rClause) (.slice q.2.1 ((fun k => capTo s p n k) q.1).length q.2.2.1) ((fun k => capTo s p n k) q.1).length (flatCells q.2.2.2)]) (fun Sk q => q.1 ≤ 5 ∧ allV rClause Sk q.2.2.2 ((fun k => capTo s p n k) q.1) ∧ ((fun k => True) q.1)) (fun q => 5 - q.1) (0, ran, rcn, vsn) (by exact sba) (by exact sba) (by first | rfl | simp) (⟨Nat.zero_le _, hvn.mono (by exact lea), trivial⟩) ?_; rintro Sk ⟨k, rak, rck, vsk⟩ hlk ⟨hk, hvk, hik⟩; (try dsimp only at hk hvk hik); dsimp only [List.cons_append, List.nil_append]
    repeat (refine s202_L8v ?_; intros)
    refine JC.cond rfl (fun hc2 => ?_) (fun hc2 => ?_)
    · have hk' := dlt5 hc2
      obtain ⟨z, hz⟩ : ∃ z, (usedV s p n)[k]? = some z := ⟨_, List.getElem?_eq_getElem (by omega)⟩
      obtain ⟨y, hy⟩ : ∃ y, x.cap[k]? = some y := ⟨_, List.getElem?_eq_getElem (by omega)⟩
      have hzr := hur z (List.mem_of_getElem? hz)
      have hyr := hxr y (List.mem_of_getElem? hy)
      have hz0 := at0_some hz
      have hy0 := at0_some hy
      have hst := capTo_step s p n k
      have hcl := capTo_len s p n k
      unfold Qty at hzr hyr
      have hV : rClause.V Sk (.agg (flatCells [.int .i64 1, .int .i64 n, .int .i64 k, .int .i64 (max 0 (z - y))]).toArray) (capN s p n k) := V_clause.2 ⟨by simp [flatCells, Value.cells, capN, hcap, hz0, hy0], by unfold Rng capN; dsimp only; omega, by unfold Rng capN; dsimp only; omega, by unfold Rng capN; dsimp only; omega, by unfold Rng capN; dsimp only; rw [hcap, hz0, hy0]; omega⟩
      repeat (refine s202_L8v ?_; intros)
      (refine JO.eff rfl rfl rfl (JEff.build (rep := rClause) (ys := [capN s p n k]) rfl rfl ⟨⟨(hV), nna⟩, trivial⟩ rfl rfl rfl rfl ?_); intro bb hbb hvv); (repeat (first | (refine Walk ?_; intros) | refine JC.block ?_)); (refine JO.eff rfl rfl rfl (JEff.appendL (rep := rClause) rfl rfl rfl rfl (List.Perm.swap _ _ _) (by exact hvv.flat) (by intro c hc; exact flat_one (fun v hv => (hvv.size v hv).2) c hc) (by first | omega | (unfold big; omega)) (by unfold big; omega) (by first | exact rowT_ok | (intro l hl; cases hl)) rfl ?_); intro a2 c2; clear hvv hbb)
      repeat (refine s202_L8v ?_; intros)
      exact JX.roundF (k + 1, a2, c2, vsk ++ [((.agg (flatCells [.int .i64 1, .int .i64 n, .int .i64 k, .int .i64 (max 0 (z - y))]).toArray))]) (by exact lea) ⟨by omega, by (try dsimp only); rw [hst]; exact allV_add (by exact lea) hvk (hV.mono (by exact lea)) nna, (trivial)⟩ (by (try dsimp only); omega) (by (try dsimp only); rw [hst]; (simp [flat_append] <;> omega)) (by (try dsimp only); rw [hst]; simp only [List.length_append, List.length_cons, List.length_nil]; exact sba) (by exact sba)
    · have hk' := dnlt5 hc2
      obtain rfl : k = 5 := by omega
      rw [capTo_full] at hvk ⊢
      repeat (refine s202_L8v ?_; intros)
      exact JX.roundF (n + 1, rak, rck, vsk) (by exact lea) ⟨by omega, hvk.mono (by exact lea), trivial⟩ (by (try dsimp only); omega) rfl (by exact sba) (by exact sba)
  · have hn' := dnlt hc
    obtain rfl : n = s.nodes.length := by omega
    repeat (refine s202_L8v ?_; intros)
    exact JX.retRow Tryz.results202 (ResV.tmp rfl) rfl hvn
end Go.Dr
namespace Go.Dr
open Go.Proofs
set_option maxRecDepth 20000
set_option maxHeartbeats 1000000
set_option linter.unusedSimpArgs false
set_option linter.unusedVariables false
theorem s203_L8w {P K : Prop} (k : K) (h : Goal K → P := by
  intro zk
  (first | refine Walk ?_ | refine JC.blockX [0] rfl ?_ | (refine JO.eff rfl rfl rfl (JEff.callV rfl (r8_terms (by exact vta) (by exact vta)) rfl ?_); intro zqa zqb) | (refine JO.eff rfl rfl rfl (JEff.callV rfl (r8_taints (by exact vta) (by exact vta)) rfl ?_); intro zqa zqb) | (refine JO.eff rfl rfl rfl (JEff.callV rfl (r8_about _ _ (by assumption) (by assumption) (by assumption) (by assumption) (by exact vta) (by exact vta) (by exact vta)) rfl ?_); intro zqa zqb) | (refine JO.eff rfl rfl rfl (JEff.callV rfl (r8_single _ (by exact vta)) rfl ?_); intro zqa zqb) | (refine JO.eff rfl rfl rfl (JEff.callV rfl (r8_doubles _ (by assumption) (by assumption) (by exact vta) (by exact vta)) rfl ?_); intro zqa zqb) | (refine WBox ?_) | (refine WNew ?_) | (refine WPut ?_))
  (repeat (first | revert zqg | revert zqf | revert zqe | revert zqd | revert zqc | revert zqb | revert zqa))
  exact zk.k) : P := h ⟨k⟩
theorem r8_of {S : SHeap} {u v : Value} {s : Snap} {p : List Int} (kind : Int) (i : Nat) (hu : rSnap.V S u s) (hv : (rSlice 8 rI64).V S v p) (hok : checkP s p = 0) (hi : i < p.length) :
    FnV Tryz.prog 203 #[u, v, .int .i64 kind, .int .i64 i] S (.tuple #[.int .i64 (of8 s p kind i).1, .bool (of8 s p kind i).2]) := by
  obtain ⟨hs, hlen, hodd⟩ := checkP_ok hok
  obtain ⟨hn8, hp24, ho8⟩ := shaped_small (checkS_ok hs).1
  obtain ⟨m, hm, _⟩ := drop_at hi
  obtain ⟨x, hx, _⟩ := drop_at (l := s.pods) (show i < s.pods.length by omega)
  have hmlt := owned_at hodd hm
  have ecast : ((i : Int)).toNat = i := by omega
  have hm' : p[((i : Int)).toNat]? = some m := by rw [ecast]; exact hm
  have hx' : s.pods[((i : Int)).toNat]? = some x := by rw [ecast]; exact hx
  (refine Fn.enter (args := [u, v, .int .i64 kind, .int .i64 i]) Tryz.func203 rfl Tryz.ntmps203 rfl ?_; intro w0)
  repeat (refine s203_L8w ?_; intros)
  refine JC.cond rfl (fun hneg => ?_) (fun hneg => ?_)
  · have hof : of8 s p kind i = (0, false) := by
      have := of_decide_eq_true hneg
      simp only [of8, hm, hx]; rw [if_pos this]
    repeat (refine s203_L8w ?_; intros)
    (refine JX.ret2 Tryz.results203 (ResV.tmp rfl) (ResV.tmp rfl) (List.nil_sublist _) ?_)
    rw [hof]; exact ⟨rfl, rfl⟩
  · have hneg := of_decide_eq_false hneg
    have hm0 : 0 ≤ m := by omega
    obtain ⟨nd, hnd⟩ : ∃ nd, s.nodes[m.toNat]? = some nd := ⟨_, List.getElem?_eq_getElem (by omega)⟩
    have hab := about8 s p i x.with_ false
    have hof : of8 s p kind i = (if kind = 2 then (termsN x.wher nd.labels, true)
      else if kind = 3 then (taintsN nd.taints x.bears, true)
      else if kind = 4 then (if x.with_.topo = noS then (0, false) else (max 0 (1 - about8 s p i x.with_ false), true))
      else if kind = 5 then (if x.apart.topo = noS then (0, false) else (about8 s p i x.apart true, true))
      else if x.owner = noS then (0, false) else if !single8 s x.owner then (0, false) else (double8 s p i, true)) := by
      simp only [of8, hm, hx, hnd]; rw [if_neg hneg]
    rw [hof]
    have hr1 : 0 ≤ about8 s p i x.with_ false ∧ about8 s p i x.with_ false ≤ p.length := cntI_rng _ _
    repeat (refine s203_L8w ?_; intros)
    refine JC.partF0 (σ := Addr × Addr) [(1, _), (2, _), (3, _), (4, _)] (fun q => [(10, .pointer (some q.1)), (11, .pointer (some q.2))]) (fun SA q => PtrTo SA q.1 rPod x ∧ PtrTo SA q.2 rNode nd) ?_ (by exact sba) ?_; rotate_left; rintro SA ⟨qa, qb⟩ hlA hiA; (try dsimp only at hiA); dsimp only [List.cons_append, List.nil_append]; rotate_left
    · refine JC.drawTree 3 rfl [] [0, 1, 2, 3, 4, 5, 6, 7, 8, 9, 10, 11, 12] (.alt (ofL [13, 14, 15, 16] .nil) (ofL [14, 13, 15, 16] .nil)) Tryz_mixed (by decide +kernel) ?_
      repeat (refine s203_L8w ?_; intros)
      refine JO.alt ?_ ?_
      · repeat (refine s203_L8w ?_; intros)
        exact JX.partF ((_, _)) (by exact lea) (⟨by exact pta, by exact pta⟩) rfl (by exact sba) (by exact sba)
      · repeat (refine s203_L8w ?_; intros)
        exact JX.partF ((_, _)) (by exact lea) (⟨by exact pta, by exact pta⟩) rfl (by exact sba) (by exact sba)
    obtain ⟨hpa, hpb⟩ := hiA
    repeat (refine s203_L8w ?_; intros)
    refine JC.partF0 (σ := Unit) [(1, _), (3, _), (4, _), (10, _)] (fun q => []) (fun SB q => ¬ kind = 2 ∧ ¬ kind = 3 ∧ ¬ kind = 4 ∧ ¬ kind = 5) ?_ (by exact sba) ?_; rotate_left; rintro SB _ hlB hiB; (try dsimp only at hiB); dsimp only [List.cons_append, List.nil_append]; rotate_left; refine JC.block ?_
    · repeat (refine s203_L8w ?_; intros)
      refine JC.cond rfl (fun k2 => ?_) (fun k2 => ?_)
      · have k2 := of_decide_eq_true k2
        rw [if_pos k2]
        repeat (refine s203_L8w ?_; intros)
        (refine JX.ret2 Tryz.results203 (ResV.tmp rfl) (ResV.tmp rfl) (List.nil_sublist _) ?_)
        exact ⟨rfl, rfl⟩
      have k2 := of_decide_eq_false k2
      repeat (refine s203_L8w ?_; intros)
      refine JC.cond rfl (fun k3 => ?_) (fun k3 => ?_)
      · have k3 := of_decide_eq_true k3
        rw [if_neg k2, if_pos k3]
        repeat (refine s203_L8w ?_; intros)
        (refine JX.ret2 Tryz.results203 (ResV.tmp rfl) (ResV.tmp rfl) (List.nil_sublist _) ?_)
        exact ⟨rfl, rfl⟩
      have k3 := of_decide_eq_false k3
      repeat (refine s203_L8w ?_; intros)
      refine JC.cond rfl (fun k4 => ?_) (fun k4 => ?_)
      · have k4 := of_decide_eq_true k4
        rw [if_neg k2, if_neg k3, if_pos k4]
        repeat (refine s203_L8w ?_; intros)
        refine JC.cond rfl (fun k6 => ?_) (fun k6 => ?_)
        · have k6 : x.with_.topo = noS := of_decide_eq_true k6
          rw [if_pos k6]
          repeat (refine s203_L8w ?_; intros)
          (refine JX.ret2 Tryz.results203 (ResV.tmp rfl) (ResV.tmp rfl) (List.nil_sublist _) ?_)
          exact ⟨rfl, rfl⟩
        · have k6 : ¬ x.with_.topo = noS := of_decide_eq_false k6
          rw [if_neg k6]
          repeat (refine s203_L8w ?_; intros)
          (refine JX.ret2 Tryz.results203 (ResV.tmp rfl) (ResV.tmp rfl) (List.nil_sublist _) ?_)
          exact ⟨rfl, rfl⟩
      have k4 := of_decide_eq_false k4
      repeat (refine s203_L8w ?_; intros)
      refine JC.cond rfl (fun k5 => ?_) (fun k5 => ?_)
      · have k5 := of_decide_eq_true k5
        rw [if_neg k2, if_neg k3, if_neg k4, if_pos k5]
        repeat (refine s203_L8w ?_; intros)
        refine JC.cond rfl (fun k6 => ?_) (fun k6 => ?_)
        · have k6 : x.apart.topo = noS := of_decide_eq_true k6
          rw [if_pos k6]
          repeat (refine s203_L8w ?_; intros)
          (refine JX.ret2 Tryz.results203 (ResV.tmp rfl) (ResV.tmp rfl) (List.nil_sublist _) ?_)
          exact ⟨rfl, rfl⟩
        · have k6 : ¬ x.apart.topo = noS := of_decide_eq_false k6
          rw [if_neg k6]
          repeat (refine s203_L8w ?_; intros)
          (refine JX.ret2 Tryz.results203 (ResV.tmp rfl) (ResV.tmp rfl) (List.nil_sublist _) ?_)
          exact ⟨rfl, rfl⟩
      have k5 := of_decide_eq_false k5
      repeat (refine s203_L8w ?_; intros)
      exact JX.partF (()) (by exact lea) (⟨k2, k3, k4, k5⟩) rfl (by exact sba) (by exact sba)
    obtain ⟨k2, k3, k4, k5⟩ := hiB
    rw [if_neg k2, if_neg k3, if_neg k4, if_neg k5]
    repeat' (first | (refine s203_L8w ?_; intros) | (refine JO.guard rfl rfl rfl rfl ?_ ?_ <;> intro _) | (refine JC.cond rfl ?_ ?_ <;> intro _))
    all_goals first
      | ((refine JX.ret2 Tryz.results203 (ResV.tmp rfl) (ResV.tmp rfl) (List.nil_sublist _) ?_); refine ⟨rfl, ?_⟩; simp_all [noS]; done)
      | (exfalso; simp_all; done)
end Go.Dr
