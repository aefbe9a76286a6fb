/- Part 6 of the rules and of the walks that the proofs of this seat rest on; no condition. -/
import Derived.Test.YthlkghfkcbpacaaGreatA04
import Derived.Shelf.Small.Bits
import Derived.Shelf.Sort.Plain
import Derived.Shelf.Slices.In.SortNone
set_option linter.unusedVariables false
set_option linter.unusedSimpArgs false
namespace Go.Dr
open Go.Proofs
set_option maxRecDepth 20000
set_option linter.unusedSimpArgs false
set_option linter.unusedVariables false
def prevL {α : Type} (l : List α) (k : Nat) : Option α := if k = 0 then none else l[k - 1]?
theorem r3_row {S : SHeap} {u : Value} {l : List Label} (star : Bool) (hu : (rSlice 32 rLabel).V S u l) : FnV Tryz.prog 249 #[u, .bool star] S (.int .i64 (checkL star l)) := by
  obtain ⟨a, c, rfl, _, _, hb, _⟩ := V_slice.1 hu
  unfold big at hb
  (refine Fn.enter (args := [.slice a l.length c, .bool star]) Tryz.func249 rfl Tryz.ntmps249 rfl ?_; intro w0)
  repeat (first | (refine Walk ?_; intros) | refine JC.block ?_)
  refine JC.cond rfl (fun h6 => ?_) (fun h6 => ?_)
  · repeat (first | (refine Walk ?_; intros) | refine JC.block ?_)
    refine JX.ret1 Tryz.results249 (ResV.tmp rfl) (List.nil_sublist _) ?_
    have h6 : ¬ l.length ≤ 6 := by simp at h6; omega
    exact ⟨rfl, by simp [checkL, h6]⟩
  have h6 : l.length ≤ 6 := by simp at h6; omega
  repeat (first | (refine Walk ?_; intros) | refine JC.block ?_)
  refine JC.loop (σ := SHeap × Nat) (fun q => q.1) (fun _ => []) (fun q => [(0, .slice a l.length c), (1, .bool star), (5, .int .i64 q.2)]) (fun q => S.le q.1 ∧ q.2 ≤ l.length ∧ rowL star (prevL l q.2) (l.drop q.2) = rowL star none l) (fun q => l.length - q.2) (S, 0) ⟨SHeap.le.refl _, Nat.zero_le _, rfl⟩ rfl rfl (by exact sba) ?_
  rintro ⟨S1, k⟩ ⟨hl1, hk, hi⟩
  dsimp only at hl1 hk hi ⊢
  repeat (first | (refine Walk ?_; intros) | refine JC.block ?_)
  refine JC.cond rfl (fun hc => ?_) (fun hc => ?_)
  · have hk' := dlt hc
    obtain ⟨x, hx, hd⟩ := drop_at hk'
    rw [hd] at hi; simp only [rowL] at hi
    have hnext : prevL l (k + 1) = some x := by simp [prevL, hx]
    repeat' (first | (refine Walk ?_; intros) | refine JC.block ?_ | (refine JO.eff rfl rfl rfl (JEff.callV rfl (r3_Name _ (by assumption)) rfl ?_); intro _ _) | (refine JO.eff rfl rfl rfl (JEff.callV rfl (r3_Value _ (by assumption)) rfl ?_); intro _ _) | (refine JO.guard rfl rfl rfl rfl ?_ ?_ <;> intro _) | (refine JC.cond rfl ?_ ?_ <;> intro _))
    all_goals first
      | (refine JX.ret1 Tryz.results249 (ResV.tmp rfl) (List.nil_sublist _) ?_; refine ⟨rfl, ?_⟩; have h1 : oneL star x = false := (by (first | ((simp only [oneL, starS, *, Bool.and_true, Bool.true_and, Bool.false_and, Bool.and_false, Bool.or_true, Bool.true_or, Bool.false_or, Bool.or_false, Bool.not_true, Bool.not_false]) <;> rfl) | (simp only [oneL, starS, *, Bool.and_true, Bool.true_and, Bool.false_and, Bool.and_false, Bool.or_true, Bool.true_or, Bool.false_or, Bool.or_false, Bool.not_true, Bool.not_false]; done) | (simp [oneL, starS, *]; done) | (simp_all [oneL, starS]; done) | (simp_all [oneL, starS]; intros; omega) | (simp_all [oneL, starS]; omega))); rw [h1, Bool.false_and, Bool.false_and] at hi; simp [checkL, ← hi]; done)
      | skip
    all_goals
      have h1 : oneL star x = true := by (first | ((simp only [oneL, starS, *, Bool.and_true, Bool.true_and, Bool.false_and, Bool.and_false, Bool.or_true, Bool.true_or, Bool.false_or, Bool.or_false, Bool.not_true, Bool.not_false]) <;> rfl) | (simp only [oneL, starS, *, Bool.and_true, Bool.true_and, Bool.false_and, Bool.and_false, Bool.or_true, Bool.true_or, Bool.false_or, Bool.or_false, Bool.not_true, Bool.not_false]; done) | (simp [oneL, starS, *]; done) | (simp_all [oneL, starS]; done) | (simp_all [oneL, starS]; intros; omega) | (simp_all [oneL, starS]; omega))
      rw [h1, Bool.true_and] at hi
      refine JC.drawT [0, 1, 2, 3, 4, 5, 6, 7, 8, 9, 10, 11, 12, 13, 14, 15] [0, 1, 2, 3, 4, 5, 6, 7, 8, 9, 10, 11, 12, 14, 15] [] Tryz_mixed (by decide +kernel) (by simp [MEnt.own]) ?_
      rcases Nat.eq_zero_or_pos k with h0 | h0
      · subst h0
        repeat (first | (refine Walk ?_; intros) | refine JC.block ?_)
        simp only [prevL, if_true, Bool.true_and] at hi
        exact JX.round (_, 0 + 1) ⟨by exact lea, hk', by rw [hnext]; exact hi⟩ (by simp; omega) rfl rfl (by exact sba)
      · obtain ⟨y, hy⟩ : ∃ y, l[((k : Int) - 1).toNat]? = some y := by
          have : ((k : Int) - 1).toNat < l.length := by omega
          exact ⟨_, List.getElem?_eq_getElem this⟩
        have hp : prevL l k = some y := by
          rw [prevL, if_neg (by omega), ← hy]; congr 1; omega
        rw [hp] at hi
        repeat (first | (refine Walk ?_; intros) | refine JC.block ?_)
        refine JO.guard rfl rfl rfl rfl (fun hg => ?_) (fun hg => ?_)
        · repeat (first | (refine Walk ?_; intros) | refine JC.block ?_)
          (refine JO.eff rfl rfl rfl (JEff.callV rfl (r3_rises star (by exact vta) (by exact vta)) rfl ?_); intro _ _)
          repeat (first | (refine Walk ?_; intros) | refine JC.block ?_)
          refine JC.cond rfl (fun h2 => ?_) (fun h2 => ?_)
          · have h2 : riseL y x star = false := by simpa using h2
            repeat (first | (refine Walk ?_; intros) | refine JC.block ?_)
            refine JX.ret1 Tryz.results249 (ResV.tmp rfl) (List.nil_sublist _) ?_
            simp only [h2, Bool.false_and] at hi
            exact ⟨rfl, by simp [checkL, ← hi]⟩
          · have h2 : riseL y x star = true := by simpa using h2
            repeat (first | (refine Walk ?_; intros) | refine JC.block ?_)
            simp only [h2, Bool.true_and] at hi
            exact JX.round (_, k + 1) ⟨by exact lea, hk', by rw [hnext]; exact hi⟩ (by simp; omega) rfl rfl (by exact sba)
        · exact absurd hg (by simp; omega)
  · have hk' := dnlt hc
    rw [List.drop_eq_nil_of_le hk'] at hi
    repeat (first | (refine Walk ?_; intros) | refine JC.block ?_)
    refine JX.ret1 Tryz.results249 (ResV.tmp rfl) (List.nil_sublist _) ?_
    exact ⟨rfl, by simp only [rowL] at hi; simp [checkL, ← hi, h6]⟩
theorem r3_Check {S : SHeap} {u : Value} {l : List Label} (hu : (rSlice 32 rLabel).V S u l) : FnV Tryz.prog 213 #[u] S (.int .i64 (checkL false l)) := by
  (refine Fn.enter (args := [u]) Tryz.func213 rfl Tryz.ntmps213 rfl ?_; intro w0)
  repeat' (first | (refine Walk ?_; intros) | refine JC.block ?_ | (refine JO.eff rfl rfl rfl (JEff.callV rfl (r3_row false (by exact vta)) rfl ?_); intro _ _) | (refine JO.guard rfl rfl rfl rfl ?_ ?_ <;> intro _) | (refine JC.cond rfl ?_ ?_ <;> intro _))
  refine JX.ret1 Tryz.results213 (ResV.tmp rfl) (List.nil_sublist _) ?_
  exact ⟨rfl, rfl⟩
theorem r3_CheckBears {S : SHeap} {u : Value} {l : List Label} (hu : (rSlice 32 rLabel).V S u l) : FnV Tryz.prog 217 #[u] S (.int .i64 (checkL true l)) := by
  (refine Fn.enter (args := [u]) Tryz.func217 rfl Tryz.ntmps217 rfl ?_; intro w0)
  repeat' (first | (refine Walk ?_; intros) | refine JC.block ?_ | (refine JO.eff rfl rfl rfl (JEff.callV rfl (r3_row true (by exact vta)) rfl ?_); intro _ _) | (refine JO.guard rfl rfl rfl rfl ?_ ?_ <;> intro _) | (refine JC.cond rfl ?_ ?_ <;> intro _))
  refine JX.ret1 Tryz.results217 (ResV.tmp rfl) (List.nil_sublist _) ?_
  exact ⟨rfl, rfl⟩
theorem r3_Bears {S : SHeap} {u v : Value} {l ts : List Label} (hu : (rSlice 32 rLabel).V S u l) (hv : (rSlice 32 rLabel).V S v ts) : FnV Tryz.prog 260 #[u, v] S (.bool (bearsB l ts)) := by
  obtain ⟨a, c, rfl, _, _, hb, _⟩ := V_slice.1 hu
  obtain ⟨a2, c2, rfl, _, _, hb2, _⟩ := V_slice.1 hv
  unfold big at hb hb2
  (refine Fn.enter (args := [.slice a l.length c, .slice a2 ts.length c2]) Tryz.func260 rfl Tryz.ntmps260 rfl ?_; intro w0)
  repeat (first | (refine Walk ?_; intros) | refine JC.block ?_)
  refine JC.loop (σ := Nat) (fun _ => S) (fun _ => []) (fun k => [(0, .slice a l.length c), (1, .slice a2 ts.length c2), (5, .int .i64 k)]) (fun k => k ≤ ts.length ∧ (ts.drop k).all (fun t => l.any (bears1 t)) = ts.all (fun t => l.any (bears1 t))) (fun k => ts.length - k) 0 ⟨Nat.zero_le _, rfl⟩ rfl rfl (by exact sba) ?_
  rintro k ⟨hk, hi⟩
  repeat (first | (refine Walk ?_; intros) | refine JC.block ?_)
  refine JC.cond rfl (fun hc => ?_) (fun hc => ?_)
  · have hk' := dlt hc
    obtain ⟨t, ht, hd⟩ := drop_at hk'
    rw [hd, List.all_cons] at hi
    repeat (first | (refine Walk ?_; intros) | refine JC.block ?_)
    refine JC.loop (σ := Nat × Bool) (fun _ => S) (fun _ => []) (fun q => [(0, .slice a l.length c), (1, .slice a2 ts.length c2), (5, .int .i64 k), (6, .bool q.2), (7, .int .i64 q.1)]) (fun q => q.1 ≤ l.length ∧ (q.2 || (l.drop q.1).any (bears1 t)) = l.any (bears1 t)) (fun q => l.length - q.1) (0, false) ⟨Nat.zero_le _, by simp⟩ rfl rfl (by exact sba) ?_
    rintro ⟨j, is⟩ ⟨hj, hij⟩
    dsimp only at hj hij ⊢
    repeat (first | (refine Walk ?_; intros) | refine JC.block ?_)
    refine JC.cond rfl (fun hc2 => ?_) (fun hc2 => ?_)
    · have hj' := dlt hc2
      obtain ⟨b, hb', hd2⟩ := drop_at hj'
      rw [hd2, List.any_cons] at hij
      repeat (first | (refine Walk ?_; intros) | refine JC.block ?_)
      refine JC.drawT [0, 1, 2, 3, 4, 5, 6, 7, 8, 9, 10, 11, 12, 13, 14, 15, 16, 17, 18, 19, 20, 21, 22, 23, 24, 25, 26, 27, 28, 29, 30, 31, 32, 33, 34, 35] [0, 1, 2, 3, 4, 5, 6, 7, 8, 9, 10, 11, 12, 13, 14, 15, 16, 17, 18, 19, 20, 21, 22, 23, 24, 25, 26, 27, 28, 29, 30, 31, 32, 33, 34, 35] [] Tryz_mixed (by decide +kernel) (by simp [MEnt.own]) ?_
      repeat' (first | (refine Walk ?_; intros) | refine JC.block ?_ | (refine JO.guard rfl rfl rfl rfl ?_ ?_ <;> intro _) | (refine JC.cond rfl ?_ ?_ <;> intro _))
      all_goals (refine JX.round (j + 1, is || bears1 t b) ⟨hj', by rw [← hij, Bool.or_assoc]⟩ (by simp; omega) rfl rfl ?_; refine ⟨rfl, rfl, rfl, ?_, rfl, trivial⟩; simp only [Env.get?, cond]; congr 2; clear hi hij; (first | ((simp only [bears1, starS, *, Bool.and_true, Bool.true_and, Bool.false_and, Bool.and_false, Bool.or_true, Bool.true_or, Bool.false_or, Bool.or_false, Bool.not_true, Bool.not_false]) <;> rfl) | (simp only [bears1, starS, *, Bool.and_true, Bool.true_and, Bool.false_and, Bool.and_false, Bool.or_true, Bool.true_or, Bool.false_or, Bool.or_false, Bool.not_true, Bool.not_false]; done) | (simp [bears1, starS, *]; done) | (simp_all [bears1, starS]; done) | (simp_all [bears1, starS]; intros; omega) | (simp_all [bears1, starS]; omega)))
    · have hj' := dnlt hc2
      rw [List.drop_eq_nil_of_le hj', List.any_nil, Bool.or_false] at hij
      subst hij
      repeat (first | (refine Walk ?_; intros) | refine JC.block ?_)
      refine JC.cond rfl (fun h1 => ?_) (fun h1 => ?_)
      · have h1 : l.any (bears1 t) = false := by simpa using h1
        rw [h1, Bool.false_and] at hi
        repeat (first | (refine Walk ?_; intros) | refine JC.block ?_)
        refine JX.ret1 Tryz.results260 (ResV.tmp rfl) (List.nil_sublist _) ?_
        exact ⟨rfl, by simp [bearsB, ← hi]⟩
      · have h1 : l.any (bears1 t) = true := by simpa using h1
        rw [h1, Bool.true_and] at hi
        repeat (first | (refine Walk ?_; intros) | refine JC.block ?_)
        exact JX.round (k + 1) ⟨hk', hi⟩ (by omega) rfl rfl (by exact sba)
  · have hk' := dnlt hc
    rw [List.drop_eq_nil_of_le hk'] at hi
    repeat (first | (refine Walk ?_; intros) | refine JC.block ?_)
    refine JX.ret1 Tryz.results260 (ResV.tmp rfl) (List.nil_sublist _) ?_
    exact ⟨rfl, by simp [bearsB, ← hi]⟩
end Go.Dr
namespace Go.Dr
open Go.Proofs
set_option maxRecDepth 20000
set_option linter.unusedSimpArgs false
set_option linter.unusedVariables false
theorem r1_Add {S : SHeap} {u : Value} {l : List Int} (hu : (rSlice 8 rI64).V S u l) : FnV Tryz.prog 160 #[u] S (.tuple #[.int .i64 (addQ l).1, .int .i64 (addQ l).2]) := by
  obtain ⟨a, c, rfl, _, _, hb, _⟩ := V_slice.1 hu
  unfold big at hb
  (refine Fn.enter (args := [.slice a l.length c]) Tryz.func160 rfl Tryz.ntmps160 rfl ?_; intro w0)
  repeat (first | (refine Walk ?_; intros) | refine JC.block ?_)
  refine JC.loop (σ := SHeap × Nat) (fun q => q.1) (fun _ => []) (fun q => [(0, .slice a l.length c), (4, .int .i64 q.2)]) (fun q => S.le q.1 ∧ q.2 ≤ l.length ∧ ((l.drop q.2).any negB = l.any negB)) (fun q => l.length - q.2) (S, 0) ⟨SHeap.le.refl _, Nat.zero_le _, rfl⟩ rfl rfl (by exact sba) ?_; rintro ⟨S1, k⟩ ⟨hl1, hk, hi⟩; dsimp only at hl1 hk hi ⊢
  repeat (first | (refine Walk ?_; intros) | refine JC.block ?_)
  refine JC.cond rfl (fun hc => ?_) (fun hc => ?_)
  · have hk' := dlt hc
    obtain ⟨x, hx, hd⟩ := drop_at hk'
    rw [hd, List.any_cons] at hi
    repeat (first | (refine Walk ?_; intros) | refine JC.block ?_)
    refine JC.cond rfl (fun h1 => ?_) (fun h1 => ?_)
    · rw [show negB x = true from h1, Bool.true_or] at hi
      repeat (first | (refine Walk ?_; intros) | refine JC.block ?_)
      refine JX.ret2 Tryz.results160 (ResV.tmp rfl) (ResV.tmp rfl) (List.nil_sublist _) ?_
      exact ⟨rfl, by rw [addQ, ← hi]; rfl⟩
    · rw [show negB x = false from h1, Bool.false_or] at hi
      repeat (first | (refine Walk ?_; intros) | refine JC.block ?_)
      exact JX.round (_, k + 1) ⟨by exact lea, hk', hi⟩ (by simp; omega) rfl rfl (by exact sba)
  have hk' := dnlt hc
  rw [List.drop_eq_nil_of_le hk', List.any_nil] at hi
  have hneg := hi.symm
  clear hi hk hk' hc
  repeat (first | (refine Walk ?_; intros) | refine JC.block ?_)
  refine JC.loop (σ := Nat) (fun _ => S1) (fun _ => []) (fun k => [(0, .slice a l.length c), (5, .int .i64 (l.take k).sum), (6, .int .i64 k)]) (fun k => k ≤ l.length ∧ (l.take k).sum ≤ Qty) (fun k => l.length - k) 0 ⟨Nat.zero_le _, by simp [Qty]⟩ rfl rfl (by exact sba) ?_
  rintro k ⟨hk, hi⟩
  have hnn := sum_take_nn hneg k
  repeat (first | (refine Walk ?_; intros) | refine JC.block ?_)
  refine JC.cond rfl (fun hc => ?_) (fun hc => ?_)
  · have hk' := dlt hc
    obtain ⟨x, hx, hd⟩ := drop_at hk'
    have hx0 := at_nn hneg hx
    have hts := take_at hx
    have hle := sum_take hneg (k + 1)
    unfold Qty at hi
    repeat (first | (refine Walk ?_; intros) | refine JC.block ?_)
    refine JO.guard rfl rfl rfl rfl (fun h1 => ?_) (fun h1 => ?_)
    · have h1 : Qty < x := by simpa [Qty] using h1
      repeat (first | (refine Walk ?_; intros) | refine JC.block ?_)
      refine JX.ret2 Tryz.results160 (ResV.tmp rfl) (ResV.tmp rfl) (List.nil_sublist _) ?_
      unfold Qty at h1
      exact ⟨rfl, by rw [addQ, hneg, if_neg (by simp), if_pos (by unfold Qty; omega)]⟩
    · have h1 : x ≤ Qty := by simpa [Qty] using h1
      unfold Qty at h1
      repeat (first | (refine Walk ?_; intros) | refine JC.block ?_)
      refine JC.cond rfl (fun h2 => ?_) (fun h2 => ?_)
      · have h2 : Qty < (l.take k).sum + x := by simpa [Qty] using h2
        unfold Qty at h2
        repeat (first | (refine Walk ?_; intros) | refine JC.block ?_)
        refine JX.ret2 Tryz.results160 (ResV.tmp rfl) (ResV.tmp rfl) (List.nil_sublist _) ?_
        exact ⟨rfl, by rw [addQ, hneg, if_neg (by simp), if_pos (by unfold Qty; omega)]⟩
      · have h2 : (l.take k).sum + x ≤ Qty := by simpa [Qty] using h2
        unfold Qty at h2
        repeat (first | (refine Walk ?_; intros) | refine JC.block ?_)
        exact JX.round (k + 1) ⟨hk', by unfold Qty; omega⟩ (by omega) rfl rfl (by rw [hts]; exact sba)
  · have hk' := dnlt hc
    have hall : l.take k = l := List.take_of_length_le hk'
    rw [hall] at hi ⊢
    repeat (first | (refine Walk ?_; intros) | refine JC.block ?_)
    refine JX.ret2 Tryz.results160 (ResV.tmp rfl) (ResV.tmp rfl) (List.nil_sublist _) ?_
    exact ⟨rfl, by rw [addQ, hneg, if_neg (by simp), if_neg (by omega)]⟩
theorem r2_Check {S : SHeap} {u : Value} {xs : List Int} (hu : (rArr 5).V S u xs) : FnV Tryz.prog 212 #[u] S (.int .i64 (checkV xs)) := by
  have hl := (V_arr.1 hu).2.1
  (refine Fn.enter (args := [u]) Tryz.func212 rfl Tryz.ntmps212 rfl ?_; intro w0)
  repeat (first | (refine Walk ?_; intros) | refine JC.block ?_)
  (refine JO.eff rfl rfl rfl (JEff.boxS rfl (by exact vta) nna rfl ?_); intro S0 p l0 hp)
  repeat (first | (refine Walk ?_; intros) | refine JC.block ?_)
  refine JC.loop (σ := SHeap × Nat) (fun q => q.1) (fun _ => []) (fun q => [(1, .pointer (some p)), (3, .int .i64 q.2)]) (fun q => S0.le q.1 ∧ q.2 ≤ 5 ∧ ((xs.drop q.2).any negB = xs.any negB)) (fun q => 5 - q.2) (S0, 0) ⟨SHeap.le.refl _, Nat.zero_le _, rfl⟩ rfl rfl (by exact sba) ?_; rintro ⟨S1, k⟩ ⟨hl1, hk, hi⟩; dsimp only at hl1 hk hi ⊢
  repeat (first | (refine Walk ?_; intros) | refine JC.block ?_)
  refine JC.cond rfl (fun hc => ?_) (fun hc => ?_)
  · have hk' := dlt5 hc
    obtain ⟨x, hx, hd⟩ := drop_at (show k < xs.length by omega)
    rw [hd, List.any_cons] at hi
    repeat (first | (refine Walk ?_; intros) | refine JC.block ?_)
    refine JC.cond rfl (fun h1 => ?_) (fun h1 => ?_)
    · rw [show negB x = true from h1, Bool.true_or] at hi
      repeat (first | (refine Walk ?_; intros) | refine JC.block ?_)
      refine JX.ret1 Tryz.results212 (ResV.tmp rfl) (List.nil_sublist _) ?_
      exact ⟨rfl, by rw [checkV, ← hi]; rfl⟩
    · rw [show negB x = false from h1, Bool.false_or] at hi
      repeat (first | (refine Walk ?_; intros) | refine JC.block ?_)
      exact JX.round (_, k + 1) ⟨by exact lea, hk', hi⟩ (by simp; omega) rfl rfl (by exact sba)
  have hk' := dnlt5 hc
  rw [List.drop_eq_nil_of_le (by omega), List.any_nil] at hi
  have hneg := hi.symm
  clear hi hk hk' hc
  repeat (first | (refine Walk ?_; intros) | refine JC.block ?_)
  refine JC.loop (σ := Nat) (fun _ => S1) (fun _ => []) (fun k => [(1, .pointer (some p)), (4, .int .i64 k)]) (fun k => k ≤ 5 ∧ (xs.drop k).any overB = xs.any overB) (fun k => 5 - k) 0 ⟨Nat.zero_le _, rfl⟩ rfl rfl (by exact sba) ?_
  rintro k ⟨hk, hi⟩
  repeat (first | (refine Walk ?_; intros) | refine JC.block ?_)
  refine JC.cond rfl (fun hc => ?_) (fun hc => ?_)
  · have hk' := dlt5 hc
    obtain ⟨x, hx, hd⟩ := drop_at (show k < xs.length by omega)
    rw [hd, List.any_cons] at hi
    repeat (first | (refine Walk ?_; intros) | refine JC.block ?_)
    refine JC.cond rfl (fun h1 => ?_) (fun h1 => ?_)
    · rw [show overB x = true from h1, Bool.true_or] at hi
      repeat (first | (refine Walk ?_; intros) | refine JC.block ?_)
      refine JX.ret1 Tryz.results212 (ResV.tmp rfl) (List.nil_sublist _) ?_
      exact ⟨rfl, by rw [checkV, hneg, ← hi]; rfl⟩
    · rw [show overB x = false from h1, Bool.false_or] at hi
      repeat (first | (refine Walk ?_; intros) | refine JC.block ?_)
      exact JX.round (k + 1) ⟨hk', hi⟩ (by omega) rfl rfl (by exact sba)
  · have hk' := dnlt5 hc
    rw [List.drop_eq_nil_of_le (by omega), List.any_nil] at hi
    repeat (first | (refine Walk ?_; intros) | refine JC.block ?_)
    refine JX.ret1 Tryz.results212 (ResV.tmp rfl) (List.nil_sublist _) ?_
    exact ⟨rfl, by rw [checkV, hneg, ← hi]; rfl⟩
theorem vecs_fine {S : SHeap} {u : Value} {l : List (List Int)} (hu : (rSlice 40 (rArr 5)).V S u l) : ∀ v ∈ l, v.length = 5 ∧ ∀ x ∈ v, Rng x := by
  obtain ⟨a, c, rfl, _, _, _, hp⟩ := V_slice.1 hu
  intro v hv
  obtain ⟨i, hi⟩ := List.getElem?_of_mem hv
  obtain ⟨_, _, cs, h, _⟩ := hp i v hi
  exact ⟨h.1, h.2.2⟩
theorem col_rng {l : List (List Int)} (h : ∀ v ∈ l, v.length = 5 ∧ ∀ x ∈ v, Rng x) (i : Nat) : ∀ x ∈ l.map (fun v => at0 v i), Rng x := by
  intro x hx
  obtain ⟨v, hv, rfl⟩ := List.mem_map.1 hx
  unfold at0
  cases hg : v[i]? with
  | none => rw [List.getD_eq_getElem?_getD, hg]; unfold Rng; simp
  | some y => rw [List.getD_eq_getElem?_getD, hg]; exact (h v hv).2 y (List.mem_of_getElem? hg)
theorem r2_Plus {S : SHeap} {u : Value} {l : List (List Int)} (hu : (rSlice 40 (rArr 5)).V S u l) : FnV Tryz.prog 106 #[u] S (.tuple #[.agg (ints (plusV l).1), .int .i64 (plusV l).2]) := by
  have hfine := vecs_fine hu
  obtain ⟨a, c, rfl, _, hb40, hb, _⟩ := V_slice.1 hu
  unfold big at hb hb40
  (refine Fn.enter (args := [.slice a l.length c]) Tryz.func106 rfl Tryz.ntmps106 rfl ?_; intro w0)
  repeat (first | (refine Walk ?_; intros) | refine JC.block ?_)
  (refine JO.eff rfl rfl rfl (JEff.alloc rfl ?_); intro b2 hb2)
  repeat (first | (refine Walk ?_; intros) | refine JC.block ?_)
  (refine JO.eff rfl rfl rfl (JEff.alloc rfl ?_); intro b4 hb4)
  repeat (first | (refine Walk ?_; intros) | refine JC.block ?_)
  refine JC.loop (σ := SHeap × Nat) (fun q => q.1) (fun q => [.blk b4 (.cells (ints (colsTo l q.2)) 30 (0, 0)), .blk b2 (.cells (ints [0, 0, 0, 0, 0]) 30 (0, 0))]) (fun q => [(0, .slice a l.length c), (2, .pointer (some ⟨b2, 0, none⟩)), (4, .pointer (some ⟨b4, 0, none⟩)), (5, .int .i64 q.2)]) (fun q => S.le q.1 ∧ q.2 ≤ 5 ∧ okTo l q.2) (fun q => 5 - q.2) (S, 0) ⟨SHeap.le.refl _, Nat.zero_le _, fun i h => absurd h (Nat.not_lt_zero _)⟩ rfl rfl (by exact sba) ?_
  rintro ⟨S1, k⟩ ⟨hl1, hk, hi⟩
  dsimp only at hl1 hk hi ⊢
  repeat (first | (refine Walk ?_; intros) | refine JC.block ?_)
  refine JC.cond rfl (fun hc => ?_) (fun hc => ?_)
  · have hk' := dlt5 hc
    repeat (first | (refine Walk ?_; intros) | refine JC.block ?_)
    refine JC.newRow 3 1 ?_
    refine JC.loop (σ := Nat × Option Addr × Nat) (fun _ => S1) (fun q => [.row w0.heap.size 3 1 (.slice q.2.1 q.1 q.2.2) q.1 (((l.take q.1).map (fun v => at0 v k)).map (fun x => Value.int .i64 x)), .blk b4 (.cells (ints (colsTo l k)) 30 (0, 0)), .blk b2 (.cells (ints [0, 0, 0, 0, 0]) 30 (0, 0))]) (fun q => [(0, .slice a l.length c), (2, .pointer (some ⟨b2, 0, none⟩)), (4, .pointer (some ⟨b4, 0, none⟩)), (5, .int .i64 k), (6, .slice q.2.1 q.1 q.2.2), (7, .int .i64 q.1)]) (fun q => q.1 ≤ l.length) (fun q => l.length - q.1) (0, none, 0) (Nat.zero_le _) rfl rfl (by exact sba) ?_
    rintro ⟨j, ra, rc⟩ hj
    dsimp only at hj ⊢
    repeat (first | (refine Walk ?_; intros) | refine JC.block ?_)
    refine JC.cond rfl (fun hc2 => ?_) (fun hc2 => ?_)
    · have hj' := dlt hc2
      obtain ⟨v, hv, hd⟩ := drop_at hj'
      have hvf := hfine v (List.mem_of_getElem? hv)
      obtain ⟨z, hz⟩ : ∃ z, v[k]? = some z := ⟨_, List.getElem?_eq_getElem (by omega)⟩
      repeat (first | (refine Walk ?_; intros) | refine JC.block ?_)
      (refine JO.eff rfl rfl rfl (JEff.build (rep := rI64) (ys := [z]) rfl rfl ⟨(⟨V_i64.2 ⟨rfl, by assumption⟩, fun _ _ h => by cases h⟩), trivial⟩ rfl rfl rfl rfl ?_); intro bb hbb hvv); (repeat (first | (refine Walk ?_; intros) | refine JC.block ?_)); (refine JO.eff rfl rfl rfl (JEff.appendL (rep := rI64) rfl rfl rfl rfl (List.Perm.swap _ _ _) (by exact hvv.flat) (by intro c hc; exact flat_one (fun v hv => (hvv.size v hv).2) c hc) (by first | omega | (unfold big; omega)) (by unfold big; omega) (by intro l hl; cases hl) rfl ?_); intro ra2 rc2; clear hvv hbb)
      repeat (first | (refine Walk ?_; intros) | refine JC.block ?_)
      exact JX.round (j + 1, ra2, rc2) hj' (by dsimp only; omega) rfl (by rw [List.take_add_one, hv]; simp [at0_some hz, flatCells, Value.cells]; rfl) (by exact sba)
    · have hj' := dnlt hc2
      rw [List.take_of_length_le hj']
      have hjl : j = l.length := by omega
      subst hjl
      repeat (first | (refine Walk ?_; intros) | refine JC.block ?_)
      refine JO.freezeRowI (n := l.length) (col_rng hfine k) (by simp) (by unfold big; omega) (by intro l hl; cases hl) (fun S2 hl2 hrow => ?_)
      repeat (first | (refine Walk ?_; intros) | refine JC.block ?_)
      (refine JO.eff rfl rfl rfl (JEff.callV rfl (r1_Add hrow) rfl ?_); intro _ _)
      repeat (first | (refine Walk ?_; intros) | refine JC.block ?_)
      refine JC.cond rfl (fun h9 => ?_) (fun h9 => ?_)
      · have h9 : ¬ (colQ l k).2 = 0 := by simpa [colQ] using h9
        repeat (first | (refine Walk ?_; intros) | refine JC.block ?_)
        refine JO.eff rfl rfl rfl (JEff.storeA (n := 5) (xs := [0, 0, 0, 0, 0]) (ys := [0, 0, 0, 0, 0]) rfl rfl rfl (by unfold Rng; simp) (List.Perm.swap _ _ _) rfl (by intro l hl; cases hl) ?_)
        repeat (first | (refine Walk ?_; intros) | refine JC.block ?_)
        refine JX.ret2 Tryz.results106 (ResV.cellA (n := 5) (xs := [0, 0, 0, 0, 0]) rfl (by (first | exact List.mem_cons_self | exact List.mem_cons_of_mem _ List.mem_cons_self | exact List.mem_cons_of_mem _ (List.mem_cons_of_mem _ List.mem_cons_self))) rfl) (ResV.tmp rfl) (List.nil_sublist _) ?_
        rw [plus_bad hi hk' h9]
        exact ⟨rfl, rfl⟩
      · have h9 : (colQ l k).2 = 0 := by simpa [colQ] using h9
        repeat (first | (refine Walk ?_; intros) | refine JC.block ?_)
        refine JO.pure rfl rfl rfl (JPure.indexBI rfl rfl rfl (by omega) (by omega) ?_)
        refine JO.eff rfl rfl rfl (JEff.storeI (i := k) rfl rfl (addQ_rng _).1 (List.Perm.refl _) (by rw [colsTo_len l (by omega)]; omega) (by intro l hl; cases hl) ?_)
        repeat (first | (refine Walk ?_; intros) | refine JC.block ?_)
        exact JX.round (_, k + 1) ⟨by exact lea, hk', okTo_step hi h9⟩ (by dsimp only; omega) rfl (by dsimp only; rw [← colsTo_set l hk']; rfl) (by exact sba)
  · have hk' := dnlt5 hc
    have hk5 : k = 5 := by omega
    subst hk5
    repeat (first | (refine Walk ?_; intros) | refine JC.block ?_)
    refine JO.pure rfl rfl rfl (JPure.loadMA (n := 5) rfl (by (first | exact List.mem_cons_self | exact List.mem_cons_of_mem _ List.mem_cons_self | exact List.mem_cons_of_mem _ (List.mem_cons_of_mem _ List.mem_cons_self))) (colsTo_len l (by omega)) (colsTo_rng l 5) (.inl rfl) rfl ?_)
    refine JO.eff rfl rfl rfl (JEff.storeA (n := 5) (xs := [0, 0, 0, 0, 0]) rfl rfl (colsTo_len l (by omega)) (colsTo_rng l 5) (List.Perm.swap _ _ _) rfl (by intro l hl; cases hl) ?_)
    repeat (first | (refine Walk ?_; intros) | refine JC.block ?_)
    refine JX.ret2 Tryz.results106 (ResV.cellA (n := 5) rfl (by (first | exact List.mem_cons_self | exact List.mem_cons_of_mem _ List.mem_cons_self | exact List.mem_cons_of_mem _ (List.mem_cons_of_mem _ List.mem_cons_self))) (colsTo_len l (by omega))) (ResV.tmp rfl) (List.nil_sublist _) ?_
    rw [plus_good hi]
    exact ⟨rfl, rfl⟩
end Go.Dr
namespace Go.Dr
open Go.Proofs
set_option maxRecDepth 20000
set_option linter.unusedSimpArgs false
set_option linter.unusedVariables false
theorem r5_near {S : SHeap} {u : Value} {n : Near} (hu : rNear.V S u n) : FnV Tryz.prog 218 #[u] S (.bool (nearB n)) := by
  (refine Fn.enter (args := [u]) Tryz.func218 rfl Tryz.ntmps218 rfl ?_; intro w0)
  repeat (first | (refine Walk ?_; intros) | refine JC.block ?_)
  (refine JO.eff rfl rfl rfl (JEff.boxS rfl (by exact vta) nna rfl ?_); intro S0 p l0 hp)
  repeat (first | (refine Walk ?_; intros) | refine JC.block ?_)
  refine JC.cond rfl (fun h1 => ?_) (fun h1 => ?_)
  · repeat (first | (refine Walk ?_; intros) | refine JC.block ?_)
    refine JX.ret1 Tryz.results218 (ResV.tmp rfl) (List.nil_sublist _) ?_
    have h1 : n.topo = noS := by simpa [noS] using h1
    exact ⟨rfl, by simp [nearB, h1]⟩
  · have h1 : ¬ n.topo = noS := by simpa [noS] using h1
    repeat' (first | (refine Walk ?_; intros) | refine JC.block ?_ | (refine JO.eff rfl rfl rfl (JEff.callV rfl (r3_Name _ (by assumption)) rfl ?_); intro _ _) | (refine JO.eff rfl rfl rfl (JEff.callV rfl (r3_CheckTerms (by exact vta)) rfl ?_); intro _ _) | (refine JO.guard rfl rfl rfl rfl ?_ ?_ <;> intro _) | (refine JC.cond rfl ?_ ?_ <;> intro _))
    all_goals (refine JX.ret1 Tryz.results218 (ResV.tmp rfl) (List.nil_sublist _) ?_; exact ⟨rfl, by rw [nearB, if_neg h1]; (first | ((simp only [z0, *, Bool.and_true, Bool.true_and, Bool.false_and, Bool.and_false, Bool.or_true, Bool.true_or, Bool.false_or, Bool.or_false, Bool.not_true, Bool.not_false]) <;> rfl) | (simp only [z0, *, Bool.and_true, Bool.true_and, Bool.false_and, Bool.and_false, Bool.or_true, Bool.true_or, Bool.false_or, Bool.or_false, Bool.not_true, Bool.not_false]; done) | (simp [z0, *]; done) | (simp_all [z0]; done) | (simp_all [z0]; intros; omega) | (simp_all [z0]; omega))⟩)
theorem r5_node {S : SHeap} {u : Value} {n : Node} (hu : rNode.V S u n) : FnV Tryz.prog 157 #[u] S (.bool (nodeB n)) := by
  (refine Fn.enter (args := [u]) Tryz.func157 rfl Tryz.ntmps157 rfl ?_; intro w0)
  repeat (first | (refine Walk ?_; intros) | refine JC.block ?_)
  (refine JO.eff rfl rfl rfl (JEff.boxS rfl (by exact vta) nna rfl ?_); intro S0 p l0 hp)
  repeat' (first | (refine Walk ?_; intros) | refine JC.block ?_ | (refine JO.eff rfl rfl rfl (JEff.callV rfl (r2_Check (by exact vta)) rfl ?_); intro _ _) | (refine JO.eff rfl rfl rfl (JEff.callV rfl (r3_Check (by exact vta)) rfl ?_); intro _ _) | (refine JO.guard rfl rfl rfl rfl ?_ ?_ <;> intro _) | (refine JC.cond rfl ?_ ?_ <;> intro _))
  all_goals (refine JX.ret1 Tryz.results157 (ResV.tmp rfl) (List.nil_sublist _) ?_; exact ⟨rfl, by (first | ((simp only [nodeB, z0, *, Bool.and_true, Bool.true_and, Bool.false_and, Bool.and_false, Bool.or_true, Bool.true_or, Bool.false_or, Bool.or_false, Bool.not_true, Bool.not_false]) <;> rfl) | (simp only [nodeB, z0, *, Bool.and_true, Bool.true_and, Bool.false_and, Bool.and_false, Bool.or_true, Bool.true_or, Bool.false_or, Bool.or_false, Bool.not_true, Bool.not_false]; done) | (simp [nodeB, z0, *]; done) | (simp_all [nodeB, z0]; done) | (simp_all [nodeB, z0]; intros; omega) | (simp_all [nodeB, z0]; omega))⟩)
theorem r5_owner {S : SHeap} {u : Value} {o : Owner} (hu : rOwner.V S u o) : FnV Tryz.prog 159 #[u] S (.bool (ownerB o)) := by
  (refine Fn.enter (args := [u]) Tryz.func159 rfl Tryz.ntmps159 rfl ?_; intro w0)
  repeat (first | (refine Walk ?_; intros) | refine JC.block ?_)
  (refine JO.eff rfl rfl rfl (JEff.boxS rfl (by exact vta) nna rfl ?_); intro S0 p l0 hp)
  repeat' (first | (refine Walk ?_; intros) | refine JC.block ?_ | (refine JO.eff rfl rfl rfl (JEff.callV rfl (r3_Name _ (by assumption)) rfl ?_); intro _ _) | (refine JO.guard rfl rfl rfl rfl ?_ ?_ <;> intro _) | (refine JC.cond rfl ?_ ?_ <;> intro _))
  all_goals (refine JX.ret1 Tryz.results159 (ResV.tmp rfl) (List.nil_sublist _) ?_; refine ⟨rfl, ?_⟩; by_cases hn : o.topo = noS)
  all_goals first
    | ((first | ((simp only [ownerB, noS, *, Bool.and_true, Bool.true_and, Bool.false_and, Bool.and_false, Bool.or_true, Bool.true_or, Bool.false_or, Bool.or_false, Bool.not_true, Bool.not_false]) <;> rfl) | (simp only [ownerB, noS, *, Bool.and_true, Bool.true_and, Bool.false_and, Bool.and_false, Bool.or_true, Bool.true_or, Bool.false_or, Bool.or_false, Bool.not_true, Bool.not_false]; done) | (simp [ownerB, noS, *]; done) | (simp_all [ownerB, noS]; done) | (simp_all [ownerB, noS]; intros; omega) | (simp_all [ownerB, noS]; omega)))
    | (simp_all [ownerB, noS]; omega)
    | (simp_all [ownerB, noS])
theorem r5_Node {S : SHeap} {u : Value} {s : Snap} (name : ByteArray) (hu : rSnap.V S u s) : FnV Tryz.prog 215 #[u, .string name] S (.int .i64 (idxS (nNames s) name)) := by
  (refine Fn.enter (args := [u, .string name]) Tryz.func215 rfl Tryz.ntmps215 rfl ?_; intro w0)
  repeat (first | (refine Walk ?_; intros) | refine JC.block ?_)
  (refine JO.eff rfl rfl rfl (JEff.boxS rfl (by exact vta) nna rfl ?_); intro S0 p l0 hp)
  repeat (first | (refine Walk ?_; intros) | refine JC.block ?_)
  rw [nNames, idxS_map]
  refine JC.loop (σ := SHeap × Nat) (fun q => q.1) (fun _ => []) (fun q => [(1, .string name), (2, .pointer (some p)), (5, .int .i64 q.2)]) (fun q => S0.le q.1 ∧ q.2 ≤ s.nodes.length ∧ (s.nodes.findIdx? (fun x => decide (x.name = name)) = ((s.nodes.drop q.2).findIdx? (fun x => decide (x.name = name))).map (· + q.2))) (fun q => s.nodes.length - q.2) (S0, 0) ⟨SHeap.le.refl _, Nat.zero_le _, by simp⟩ rfl rfl (by exact sba) ?_; rintro ⟨S1, k⟩ ⟨hl1, hk, hi⟩; dsimp only at hl1 hk hi ⊢
  repeat (first | (refine Walk ?_; intros) | refine JC.block ?_)
  refine JC.cond rfl (fun hc => ?_) (fun hc => ?_)
  · have hk' := dlt hc
    obtain ⟨x, hx, hd⟩ := drop_at hk'
    repeat (first | (refine Walk ?_; intros) | refine JC.block ?_)
    refine JC.cond rfl (fun h1 => ?_) (fun h1 => ?_)
    · repeat (first | (refine Walk ?_; intros) | refine JC.block ?_)
      refine JX.ret1 Tryz.results215 (ResV.tmp rfl) (List.nil_sublist _) ?_
      exact ⟨rfl, by rw [idx_hit hd h1 hi]⟩
    · repeat (first | (refine Walk ?_; intros) | refine JC.block ?_)
      exact JX.round (_, k + 1) ⟨by exact lea, hk', (idx_step hd h1 hi)⟩ (by simp; omega) rfl rfl (by exact sba)
  · have hk' := dnlt hc
    repeat (first | (refine Walk ?_; intros) | refine JC.block ?_)
    refine JX.ret1 Tryz.results215 (ResV.tmp rfl) (List.nil_sublist _) ?_
    exact ⟨rfl, by rw [idx_miss (List.drop_eq_nil_of_le hk') hi]⟩
theorem r5_Owner {S : SHeap} {u : Value} {s : Snap} (name : ByteArray) (hu : rSnap.V S u s) : FnV Tryz.prog 214 #[u, .string name] S (.int .i64 (idxS (oNames s) name)) := by
  (refine Fn.enter (args := [u, .string name]) Tryz.func214 rfl Tryz.ntmps214 rfl ?_; intro w0)
  repeat (first | (refine Walk ?_; intros) | refine JC.block ?_)
  (refine JO.eff rfl rfl rfl (JEff.boxS rfl (by exact vta) nna rfl ?_); intro S0 p l0 hp)
  repeat (first | (refine Walk ?_; intros) | refine JC.block ?_)
  rw [oNames, idxS_map]
  refine JC.loop (σ := SHeap × Nat) (fun q => q.1) (fun _ => []) (fun q => [(1, .string name), (2, .pointer (some p)), (5, .int .i64 q.2)]) (fun q => S0.le q.1 ∧ q.2 ≤ s.owners.length ∧ (s.owners.findIdx? (fun x => decide (x.name = name)) = ((s.owners.drop q.2).findIdx? (fun x => decide (x.name = name))).map (· + q.2))) (fun q => s.owners.length - q.2) (S0, 0) ⟨SHeap.le.refl _, Nat.zero_le _, by simp⟩ rfl rfl (by exact sba) ?_; rintro ⟨S1, k⟩ ⟨hl1, hk, hi⟩; dsimp only at hl1 hk hi ⊢
  repeat (first | (refine Walk ?_; intros) | refine JC.block ?_)
  refine JC.cond rfl (fun hc => ?_) (fun hc => ?_)
  · have hk' := dlt hc
    obtain ⟨x, hx, hd⟩ := drop_at hk'
    repeat (first | (refine Walk ?_; intros) | refine JC.block ?_)
    refine JC.cond rfl (fun h1 => ?_) (fun h1 => ?_)
    · repeat (first | (refine Walk ?_; intros) | refine JC.block ?_)
      refine JX.ret1 Tryz.results214 (ResV.tmp rfl) (List.nil_sublist _) ?_
      exact ⟨rfl, by rw [idx_hit hd h1 hi]⟩
    · repeat (first | (refine Walk ?_; intros) | refine JC.block ?_)
      exact JX.round (_, k + 1) ⟨by exact lea, hk', (idx_step hd h1 hi)⟩ (by simp; omega) rfl rfl (by exact sba)
  · have hk' := dnlt hc
    repeat (first | (refine Walk ?_; intros) | refine JC.block ?_)
    refine JX.ret1 Tryz.results214 (ResV.tmp rfl) (List.nil_sublist _) ?_
    exact ⟨rfl, by rw [idx_miss (List.drop_eq_nil_of_le hk') hi]⟩
theorem r5_rise {S : SHeap} {u : Value} {l : List ByteArray} (hu : (rSlice 16 rStr).V S u l) : FnV Tryz.prog 156 #[u] S (.bool (riseN none l)) := by
  obtain ⟨a, c, rfl, _, _, hb, _⟩ := V_slice.1 hu
  unfold big at hb
  (refine Fn.enter (args := [.slice a l.length c]) Tryz.func156 rfl Tryz.ntmps156 rfl ?_; intro w0)
  repeat (first | (refine Walk ?_; intros) | refine JC.block ?_)
  refine JC.loop (σ := SHeap × Nat) (fun q => q.1) (fun _ => []) (fun q => [(0, .slice a l.length c), (3, .int .i64 q.2)]) (fun q => S.le q.1 ∧ q.2 ≤ l.length ∧ (riseN (prevN l q.2) (l.drop q.2) = riseN none l)) (fun q => l.length - q.2) (S, 0) ⟨SHeap.le.refl _, Nat.zero_le _, rfl⟩ rfl rfl (by exact sba) ?_; rintro ⟨S1, k⟩ ⟨hl1, hk, hi⟩; dsimp only at hl1 hk hi ⊢
  repeat (first | (refine Walk ?_; intros) | refine JC.block ?_)
  refine JC.cond rfl (fun hc => ?_) (fun hc => ?_)
  · have hk' := dlt hc
    obtain ⟨x, hx, hd⟩ := drop_at hk'
    rw [hd] at hi; simp only [riseN] at hi
    have hnext : prevN l (k + 1) = some x := by simp [prevN, hx]
    repeat (first | (refine Walk ?_; intros) | refine JC.block ?_)
    refine JC.drawT [0, 1, 2, 3, 4, 5, 6, 7, 8, 9, 10, 11, 12, 13, 14, 15, 16, 17, 18, 19, 20, 21] [0, 1, 2, 3, 5, 6, 7, 8, 9, 10, 11, 12, 13, 14, 15, 16, 17, 18, 19, 20, 21] [] Tryz_mixed (by decide +kernel) (by simp [MEnt.own]) ?_
    repeat (first | (refine Walk ?_; intros) | refine JC.block ?_)
    rcases Nat.eq_zero_or_pos k with h0 | h0
    · subst h0
      repeat' (first | (refine Walk ?_; intros) | refine JC.block ?_ | (refine JO.eff rfl rfl rfl (JEff.callV rfl (r3_Name _ (by assumption)) rfl ?_); intro _ _) | (refine JO.guard rfl rfl rfl rfl ?_ ?_ <;> intro _) | (refine JC.cond rfl ?_ ?_ <;> intro _))
      all_goals simp only [prevN, if_true, Bool.true_and, Bool.and_true] at hi
      all_goals first
        | (refine JX.ret1 Tryz.results156 (ResV.tmp rfl) (List.nil_sublist _) ?_; refine ⟨rfl, ?_⟩; have h1 : nameB x = false := (by clear hi hd; simp_all); rw [h1, Bool.false_and] at hi; simp [← hi]; done)
        | (have h1 : nameB x = true := (by clear hi hd; simp_all); rw [h1, Bool.true_and] at hi; exact JX.round (_, 0 + 1) ⟨by exact lea, hk', by rw [hnext]; exact hi⟩ (by simp; omega) rfl rfl (by exact sba))
        | (exfalso; clear hd; simp_all; done)
        | skip
    · obtain ⟨y, hy⟩ : ∃ y, l[((k : Int) - 1).toNat]? = some y := by
        have : ((k : Int) - 1).toNat < l.length := by omega
        exact ⟨_, List.getElem?_eq_getElem this⟩
      have hpv : prevN l k = some y := by
        rw [prevN, if_neg (by omega), ← hy]; congr 1; omega
      rw [hpv] at hi
      have hkp : decide ((0 : Int) < (k : Int)) = true := by simp; omega
      repeat' (first | (refine Walk ?_; intros) | refine JC.block ?_ | (refine JO.eff rfl rfl rfl (JEff.callV rfl (r3_Name _ (by assumption)) rfl ?_); intro _ _) | (refine JO.guard rfl rfl rfl rfl ?_ ?_ <;> intro _) | (refine JC.cond rfl ?_ ?_ <;> intro _))
      all_goals first
        | (refine JX.ret1 Tryz.results156 (ResV.tmp rfl) (List.nil_sublist _) ?_; refine ⟨rfl, ?_⟩; have h1 : (nameB x && ltS y x) = false := (by clear hi hd; simp_all [ltS]); rw [h1, Bool.false_and] at hi; simp [← hi]; done)
        | (have h1 : (nameB x && ltS y x) = true := (by clear hi hd; simp_all [ltS]); rw [h1, Bool.true_and] at hi; exact JX.round (_, k + 1) ⟨by exact lea, hk', by rw [hnext]; exact hi⟩ (by simp; omega) rfl rfl (by exact sba))
        | (exfalso; clear hd; simp_all; done)
        | skip
  · have hk' := dnlt hc
    rw [List.drop_eq_nil_of_le hk'] at hi
    repeat (first | (refine Walk ?_; intros) | refine JC.block ?_)
    refine JX.ret1 Tryz.results156 (ResV.tmp rfl) (List.nil_sublist _) ?_
    exact ⟨rfl, by rw [← hi]; rfl⟩
end Go.Dr
namespace Go.Dr
open Go.Proofs
set_option maxRecDepth 20000
set_option maxHeartbeats 1000000
set_option linter.unusedSimpArgs false
set_option linter.unusedVariables false
def NamesP (s : Snap) (v : Value) (S : SHeap) : Prop := ∃ a b c, v = .tuple #[a, b, c] ∧ (rSlice 16 rStr).V S a (nNames s) ∧ (rSlice 16 rStr).V S b (pNames s) ∧ (rSlice 16 rStr).V S c (oNames s)
theorem r5_names {S : SHeap} {u : Value} {s : Snap} (hn : s.nodes.length ≤ 8) (hpn : s.pods.length ≤ 24) (ho : s.owners.length ≤ 8) (hu : rSnap.V S u s) : FnR Tryz.prog 155 #[u] S (NamesP s) := by
  (refine Fn.enter (args := [u]) Tryz.func155 rfl Tryz.ntmps155 rfl ?_; intro w0)
  repeat (first | (refine Walk ?_; intros) | refine JC.block ?_)
  (refine JO.eff rfl rfl rfl (JEff.boxS rfl (by exact vta) nna rfl ?_); intro S0 p l0 hp)
  repeat (first | (refine Walk ?_; intros) | refine JC.block ?_)
  refine JC.newRow 9 1 ?_
  refine JC.loop (σ := SHeap × Nat × Option Addr × Nat × List Value) (fun q => q.1) (fun q => .row w0.heap.size 9 1 (.slice q.2.2.1 q.2.1 q.2.2.2.1) q.2.1 (flatCells q.2.2.2.2) :: []) (fun q => [(5, .slice q.2.2.1 q.2.1 q.2.2.2.1), (8, .int .i64 q.2.1), (1, .pointer (some p)), (6, .slice none 0 0), (7, .slice none 0 0)]) (fun q => S0.le q.1 ∧ q.2.1 ≤ s.nodes.length ∧ allV rStr q.1 q.2.2.2.2 (List.take q.2.1 (nNames s))) (fun q => s.nodes.length - q.2.1) (S0, 0, none, 0, []) ⟨SHeap.le.refl _, Nat.zero_le _, trivial⟩ rfl rfl (by exact sba) ?_; rintro ⟨S1, k, ra, rc, vs⟩ ⟨hl1, hk, hv⟩; dsimp only at hl1 hk hv ⊢
  repeat (first | (refine Walk ?_; intros) | refine JC.block ?_)
  refine JC.cond rfl (fun hc => ?_) (fun hc => ?_)
  · have hk' := dlt hc
    obtain ⟨x, hx, hd⟩ := drop_at hk'
    have hx2 : (nNames s)[k]? = some x.name := by simp [nNames, hx]
    repeat (first | (refine Walk ?_; intros) | refine JC.block ?_)
    (refine JO.eff rfl rfl rfl (JEff.build (rep := rStr) (ys := [x.name]) rfl rfl ⟨(⟨V_str.2 ⟨rfl, by assumption⟩, fun _ _ h => by cases h⟩), trivial⟩ rfl rfl rfl rfl ?_); intro bb hbb hvv); (repeat (first | (refine Walk ?_; intros) | refine JC.block ?_)); (refine JO.eff rfl rfl rfl (JEff.appendL (rep := rStr) rfl rfl rfl rfl (List.Perm.swap _ _ _) (by exact hvv.flat) (by intro c hc; exact flat_one (fun v hv => (hvv.size v hv).2) c hc) (by first | omega | (unfold big; omega)) (by unfold big; omega) (by intro l hl; cases hl) rfl ?_); intro ra2 rc2; clear hvv hbb)
    repeat (first | (refine Walk ?_; intros) | refine JC.block ?_)
    exact JX.round (_, k + 1, ra2, rc2, vs ++ [.string x.name]) ⟨by exact lea, hk', allV_snoc (SHeap.le.refl _) hv hx2 (V_str.2 ⟨rfl, by assumption⟩) (fun _ _ h => by cases h)⟩ (by dsimp only; omega) rfl (by simp [flat_append]; rfl) (by exact sba)
  have hk' := dnlt hc
  obtain rfl : k = s.nodes.length := by omega
  rw [List.take_of_length_le (by simp [nNames])] at hv
  repeat (first | (refine Walk ?_; intros) | refine JC.block ?_)
  refine JC.freezeRow (bt := 16) (rep := rStr) hv (by simp [nNames]) (by unfold big; omega) (by unfold big; omega) (fun S2 hl2 hv1 => ?_)
  clear hv hk' hk hc
  refine JC.newRow 9 1 ?_
  refine JC.loop (σ := SHeap × Nat × Option Addr × Nat × List Value) (fun q => q.1) (fun q => .row w0.heap.size 9 1 (.slice q.2.2.1 q.2.1 q.2.2.2.1) q.2.1 (flatCells q.2.2.2.2) :: []) (fun q => [(6, .slice q.2.2.1 q.2.1 q.2.2.2.1), (9, .int .i64 q.2.1), (1, .pointer (some p)), (5, .slice ra s.nodes.length rc), (7, .slice none 0 0)]) (fun q => S2.le q.1 ∧ q.2.1 ≤ s.pods.length ∧ allV rStr q.1 q.2.2.2.2 (List.take q.2.1 (pNames s))) (fun q => s.pods.length - q.2.1) (S2, 0, none, 0, []) ⟨SHeap.le.refl _, Nat.zero_le _, trivial⟩ rfl rfl (by exact sba) ?_; rintro ⟨S1b, k, rab, rcb, vs⟩ ⟨hl1, hk, hv⟩; dsimp only at hl1 hk hv ⊢
  repeat (first | (refine Walk ?_; intros) | refine JC.block ?_)
  refine JC.cond rfl (fun hc => ?_) (fun hc => ?_)
  · have hk' := dlt hc
    obtain ⟨x, hx, hd⟩ := drop_at hk'
    have hx2 : (pNames s)[k]? = some x.name := by simp [pNames, hx]
    repeat (first | (refine Walk ?_; intros) | refine JC.block ?_)
    (refine JO.eff rfl rfl rfl (JEff.build (rep := rStr) (ys := [x.name]) rfl rfl ⟨(⟨V_str.2 ⟨rfl, by assumption⟩, fun _ _ h => by cases h⟩), trivial⟩ rfl rfl rfl rfl ?_); intro bb hbb hvv); (repeat (first | (refine Walk ?_; intros) | refine JC.block ?_)); (refine JO.eff rfl rfl rfl (JEff.appendL (rep := rStr) rfl rfl rfl rfl (List.Perm.swap _ _ _) (by exact hvv.flat) (by intro c hc; exact flat_one (fun v hv => (hvv.size v hv).2) c hc) (by first | omega | (unfold big; omega)) (by unfold big; omega) (by intro l hl; cases hl) rfl ?_); intro ra2 rc2; clear hvv hbb)
    repeat (first | (refine Walk ?_; intros) | refine JC.block ?_)
    exact JX.round (_, k + 1, ra2, rc2, vs ++ [.string x.name]) ⟨by exact lea, hk', allV_snoc (SHeap.le.refl _) hv hx2 (V_str.2 ⟨rfl, by assumption⟩) (fun _ _ h => by cases h)⟩ (by dsimp only; omega) rfl (by simp [flat_append]; rfl) (by exact sba)
  have hk' := dnlt hc
  obtain rfl : k = s.pods.length := by omega
  rw [List.take_of_length_le (by simp [pNames])] at hv
  repeat (first | (refine Walk ?_; intros) | refine JC.block ?_)
  refine JC.freezeRow (bt := 16) (rep := rStr) hv (by simp [pNames]) (by unfold big; omega) (by unfold big; omega) (fun S3 hl3 hv2 => ?_)
  clear hv hk' hk hc
  refine JC.newRow 9 1 ?_
  refine JC.loop (σ := SHeap × Nat × Option Addr × Nat × List Value) (fun q => q.1) (fun q => .row w0.heap.size 9 1 (.slice q.2.2.1 q.2.1 q.2.2.2.1) q.2.1 (flatCells q.2.2.2.2) :: []) (fun q => [(7, .slice q.2.2.1 q.2.1 q.2.2.2.1), (10, .int .i64 q.2.1), (1, .pointer (some p)), (5, .slice ra s.nodes.length rc), (6, .slice rab s.pods.length rcb)]) (fun q => S3.le q.1 ∧ q.2.1 ≤ s.owners.length ∧ allV rStr q.1 q.2.2.2.2 (List.take q.2.1 (oNames s))) (fun q => s.owners.length - q.2.1) (S3, 0, none, 0, []) ⟨SHeap.le.refl _, Nat.zero_le _, trivial⟩ rfl rfl (by exact sba) ?_; rintro ⟨S1c, k, rac, rcc, vs⟩ ⟨hl1, hk, hv⟩; dsimp only at hl1 hk hv ⊢
  repeat (first | (refine Walk ?_; intros) | refine JC.block ?_)
  refine JC.cond rfl (fun hc => ?_) (fun hc => ?_)
  · have hk' := dlt hc
    obtain ⟨x, hx, hd⟩ := drop_at hk'
    have hx2 : (oNames s)[k]? = some x.name := by simp [oNames, hx]
    repeat (first | (refine Walk ?_; intros) | refine JC.block ?_)
    (refine JO.eff rfl rfl rfl (JEff.build (rep := rStr) (ys := [x.name]) rfl rfl ⟨(⟨V_str.2 ⟨rfl, by assumption⟩, fun _ _ h => by cases h⟩), trivial⟩ rfl rfl rfl rfl ?_); intro bb hbb hvv); (repeat (first | (refine Walk ?_; intros) | refine JC.block ?_)); (refine JO.eff rfl rfl rfl (JEff.appendL (rep := rStr) rfl rfl rfl rfl (List.Perm.swap _ _ _) (by exact hvv.flat) (by intro c hc; exact flat_one (fun v hv => (hvv.size v hv).2) c hc) (by first | omega | (unfold big; omega)) (by unfold big; omega) (by intro l hl; cases hl) rfl ?_); intro ra2 rc2; clear hvv hbb)
    repeat (first | (refine Walk ?_; intros) | refine JC.block ?_)
    exact JX.round (_, k + 1, ra2, rc2, vs ++ [.string x.name]) ⟨by exact lea, hk', allV_snoc (SHeap.le.refl _) hv hx2 (V_str.2 ⟨rfl, by assumption⟩) (fun _ _ h => by cases h)⟩ (by dsimp only; omega) rfl (by simp [flat_append]; rfl) (by exact sba)
  have hk' := dnlt hc
  obtain rfl : k = s.owners.length := by omega
  rw [List.take_of_length_le (by simp [oNames])] at hv
  repeat (first | (refine Walk ?_; intros) | refine JC.block ?_)
  refine JX.freezeRow (bt := 16) (rep := rStr) hv (by simp [oNames]) (by unfold big; omega) (by unfold big; omega) (fun S4 hl4 hv3 => ?_)
  refine JX.ret3 Tryz.results155 (ResV.tmp rfl) (ResV.tmp rfl) (ResV.tmp rfl) (List.nil_sublist _) ?_
  exact ⟨rfl, _, _, _, rfl, by exact vta, by exact vta, by exact vta⟩
theorem r5_pod {S : SHeap} {u v : Value} {s : Snap} {p : Pod} (hu : rSnap.V S u s) (hv : rPod.V S v p) : FnV Tryz.prog 158 #[u, v] S (.bool (podB s p)) := by
  (refine Fn.enter (args := [u, v]) Tryz.func158 rfl Tryz.ntmps158 rfl ?_; intro w0)
  repeat (first | (refine Walk ?_; intros) | refine JC.block ?_)
  (refine JO.eff rfl rfl rfl (JEff.boxS rfl (by exact vta) nna rfl ?_); intro S0 pa l0 hq)
  (refine JO.eff rfl rfl rfl (JEff.boxS rfl (by exact vta) nna rfl ?_); intro S2 pb l2 hq2)
  have hlost : ∀ n : Node, s.nodes[(idxS (nNames s) p.on).toNat]? = some n → lostAt s (idxS (nNames s) p.on) = n.lost := fun n h => by simp [lostAt, h]
  have hget : 0 ≤ idxS (nNames s) p.on → ∃ n, s.nodes[(idxS (nNames s) p.on).toNat]? = some n := fun h => by
    have h2 := idxF_lt (fun x => decide (x = p.on)) (nNames s)
    have h3 : (idxS (nNames s) p.on).toNat < s.nodes.length := by
      unfold idxS at h ⊢; simp only [nNames, List.length_map] at h2 h ⊢; omega
    exact ⟨_, List.getElem?_eq_getElem h3⟩
  repeat (first | refine JC.skip ?_ | refine JX.then_ ?_ | refine JX.then_exit ?_ | refine JX.then_ret ?_ | refine JX.blk ?_ | refine JX.blk_exit ?_ | refine JX.blk_other rfl ?_ | refine JX.blk_ret ?_ | refine JX.partR ?_ | refine JX.partE ?_ | refine JX.partFR ?_ | refine JX.partFE ?_ | (refine WOps ?_; intros))
  refine JC.seq ?_
  refine JC.seq ?_
  refine JC.part (σ := SHeap) (fun q => q) (fun _ => []) (fun q => [(15, .bool (!(decide (p.owner = noS) || decide (0 ≤ idxS (oNames s) p.owner)))), (2, .pointer (some pa)), (3, .pointer (some pb))]) (fun q => S2.le q) ?_ (fun S3 hlS3 => ?_)
  · have hneq : ∀ x : Int, decide (x < 0) = !decide (0 ≤ x) := fun x => by rw [Bool.eq_iff_iff]; simp
    repeat' (first | (refine Walk ?_; intros) | refine JC.block ?_ | (refine JO.eff rfl rfl rfl (JEff.callV rfl (r5_Owner _ (by exact vta)) rfl ?_); intro _ _) | (refine JO.guard rfl rfl rfl rfl ?_ ?_ <;> intro _) | (refine JC.cond rfl ?_ ?_ <;> intro _))
    all_goals (refine JX.partN _ (by exact lea) rfl rfl (subE_bool rfl ?_ (by exact sba)); clear hget hlost; simp_all [noS])
  repeat (first | (refine Walk ?_; intros) | refine JC.block ?_)
  refine JC.cond rfl (fun ho => ?_) (fun ho => ?_)
  · repeat (first | (refine Walk ?_; intros) | refine JC.block ?_)
    refine JX.ret1 Tryz.results158 (ResV.tmp rfl) (List.nil_sublist _) ?_
    refine ⟨rfl, ?_⟩
    rw [podB]
    generalize (decide (p.owner = noS) || decide (0 ≤ idxS (oNames s) p.owner)) = b at ho ⊢
    cases b <;> simp_all
  have ho2 : (decide (p.owner = noS) || decide (0 ≤ idxS (oNames s) p.owner)) = true := by
    generalize (decide (p.owner = noS) || decide (0 ≤ idxS (oNames s) p.owner)) = b at ho ⊢
    cases b <;> simp_all
  clear ho
  repeat (first | refine JC.skip ?_ | refine JX.then_ ?_ | refine JX.then_exit ?_ | refine JX.then_ret ?_ | refine JX.blk ?_ | refine JX.blk_exit ?_ | refine JX.blk_other rfl ?_ | refine JX.blk_ret ?_ | refine JX.partR ?_ | refine JX.partE ?_ | refine JX.partFR ?_ | refine JX.partFE ?_ | (refine WOps ?_; intros))
  refine JC.seq ?_
  refine JC.part (σ := SHeap) (fun q => q) (fun _ => []) (fun _ => [(2, .pointer (some pa)), (3, .pointer (some pb))]) (fun q => S3.le q ∧ (decide (p.on = noS) || (decide (0 ≤ idxS (nNames s) p.on) && !lostAt s (idxS (nNames s) p.on))) = true) ?_ (fun S4 hS4 => ?_)
  · repeat (first | (refine Walk ?_; intros) | refine JC.block ?_)
    refine JC.cond rfl (fun hon => ?_) (fun hon => ?_)
    · have hon : decide (p.on = noS) = false := by simp at hon; simp [noS, hon]
      repeat (first | (refine Walk ?_; intros) | refine JC.block ?_)
      (refine JO.eff rfl rfl rfl (JEff.callV rfl (r5_Node _ (by exact vta)) rfl ?_); intro _ _)
      by_cases hneg : idxS (nNames s) p.on < 0
      · have hneg' : decide (0 ≤ idxS (nNames s) p.on) = false := by simp; omega
        have hneg2 : decide (idxS (nNames s) p.on < 0) = true := by simp; omega
        repeat (first | (refine Walk ?_; intros) | refine JC.block ?_)
        refine JO.guard rfl rfl rfl rfl (fun h5 => ?_) (fun h5 => ?_)
        · repeat (first | (refine Walk ?_; intros) | refine JC.block ?_)
          refine JX.ret1 Tryz.results158 (ResV.tmp rfl) (List.nil_sublist _) ?_
          refine ⟨rfl, ?_⟩; rw [podB, hon, hneg', ho2]; rfl
        · rw [hneg2] at h5; cases h5
      · have hpos : 0 ≤ idxS (nNames s) p.on := by omega
        obtain ⟨n, hn⟩ := hget hpos
        have hl := hlost n hn
        have hpos' : decide (0 ≤ idxS (nNames s) p.on) = true := by simp; omega
        have hpos2 : decide (idxS (nNames s) p.on < 0) = false := by simp; omega
        repeat (first | (refine Walk ?_; intros) | refine JC.block ?_)
        refine JO.guard rfl rfl rfl rfl (fun h5 => ?_) (fun h5 => ?_)
        · rw [hpos2] at h5; cases h5
        · repeat (first | (refine Walk ?_; intros) | refine JC.block ?_)
          refine JC.cond rfl (fun h6 => ?_) (fun h6 => ?_)
          · repeat (first | (refine Walk ?_; intros) | refine JC.block ?_)
            refine JX.ret1 Tryz.results158 (ResV.tmp rfl) (List.nil_sublist _) ?_
            refine ⟨rfl, ?_⟩; rw [podB, hon, hpos', ho2, hl, h6]; rfl
          · repeat (first | (refine Walk ?_; intros) | refine JC.block ?_)
            exact JX.partN _ ⟨by exact lea, by rw [hon, hpos', hl, h6]; rfl⟩ rfl rfl (by exact sba)
    · have hon : decide (p.on = noS) = true := by simp at hon; simp [noS, hon]
      repeat (first | (refine Walk ?_; intros) | refine JC.block ?_)
      exact JX.partN _ ⟨by exact lea, by rw [hon]; rfl⟩ rfl rfl (by exact sba)
  obtain ⟨hl4, hon2⟩ := hS4
  clear hget hlost
  repeat' (first | (refine Walk ?_; intros) | refine JC.block ?_ | (refine JO.eff rfl rfl rfl (JEff.callV rfl (r2_Check (by exact vta)) rfl ?_); intro _ _) | (refine JO.eff rfl rfl rfl (JEff.callV rfl (r3_Check (by exact vta)) rfl ?_); intro _ _) | (refine JO.eff rfl rfl rfl (JEff.callV rfl (r3_CheckTerms (by exact vta)) rfl ?_); intro _ _) | (refine JO.eff rfl rfl rfl (JEff.callV rfl (r3_CheckBears (by exact vta)) rfl ?_); intro _ _) | (refine JO.eff rfl rfl rfl (JEff.callV rfl (r5_near (by exact vta)) rfl ?_); intro _ _) | (refine JO.guard rfl rfl rfl rfl ?_ ?_ <;> intro _) | (refine JC.cond rfl ?_ ?_ <;> intro _))
  all_goals (refine JX.ret1 Tryz.results158 (ResV.tmp rfl) (List.nil_sublist _) ?_; refine ⟨rfl, ?_⟩; rw [podB, ho2, hon2]; clear ho2 hon2; (first | ((simp only [z0, *, Bool.and_true, Bool.true_and, Bool.false_and, Bool.and_false, Bool.or_true, Bool.true_or, Bool.false_or, Bool.or_false, Bool.not_true, Bool.not_false]) <;> rfl) | (simp only [z0, *, Bool.and_true, Bool.true_and, Bool.false_and, Bool.and_false, Bool.or_true, Bool.true_or, Bool.false_or, Bool.or_false, Bool.not_true, Bool.not_false]; done) | (simp [z0, *]; done) | (simp_all [z0]; done) | (simp_all [z0]; intros; omega) | (simp_all [z0]; omega)))
end Go.Dr
namespace Go.Dr
open Go.Proofs
set_option maxRecDepth 20000
set_option maxHeartbeats 1000000
set_option linter.unusedSimpArgs false
set_option linter.unusedVariables false
theorem r5_shaped {S : SHeap} {u : Value} {s : Snap} (hu : rSnap.V S u s) : FnV Tryz.prog 105 #[u] S (.bool (shapedB s)) := by
  (refine Fn.enter (args := [u]) Tryz.func105 rfl Tryz.ntmps105 rfl ?_; intro w0)
  repeat (first | (refine Walk ?_; intros) | refine JC.block ?_)
  (refine JO.eff rfl rfl rfl (JEff.boxS rfl (by exact vta) nna rfl ?_); intro S0 p l0 hp)
  have hmain : ∀ (hm : manyB s = false) (S1 : SHeap) (hl1 : S0.le S1), riseN none (nNames s) && riseN none (pNames s) && riseN none (oNames s) = true → shapedB s = (s.nodes.all nodeB && s.pods.all (podB s) && s.owners.all ownerB) := by
    intro hm S1 hl1 h
    rw [shapedB, hm]
    simp only [Bool.not_false, Bool.true_and]
    simp only [Bool.and_eq_true, decide_eq_true_eq] at h
    simp [h]
  repeat' (first | (refine Walk ?_; intros) | refine JC.block ?_ | (refine JO.guard rfl rfl rfl rfl ?_ ?_ <;> intro _) | (refine JC.cond rfl ?_ ?_ <;> intro _))
  all_goals first
    | (refine JX.ret1 Tryz.results105 (ResV.tmp rfl) (List.nil_sublist _) ?_; refine ⟨rfl, ?_⟩; have h1 : manyB s = true := (by simp_all [manyB]); rw [shapedB, h1]; rfl)
    | skip
  have hm : manyB s = false := (by simp_all [manyB])
  have hm2 : s.nodes.length ≤ 8 ∧ s.pods.length ≤ 24 ∧ s.owners.length ≤ 8 := by
    simp only [manyB, Bool.or_eq_false_iff, decide_eq_false_iff_not] at hm; omega
  (refine JO.eff rfl rfl rfl (JEff.callR rfl (r5_names hm2.1 hm2.2.1 hm2.2.2 (by exact vta)) rfl ?_); intro v S2 hl2 hP)
  obtain ⟨a, b, c, rfl, ha, hb, hc⟩ := hP
  repeat' (first | (refine Walk ?_; intros) | refine JC.block ?_ | (refine JO.eff rfl rfl rfl (JEff.callV rfl (r5_rise (by exact vta)) rfl ?_); intro _ _) | (refine JO.guard rfl rfl rfl rfl ?_ ?_ <;> intro _) | (refine JC.cond rfl ?_ ?_ <;> intro _))
  all_goals first
    | (refine JX.ret1 Tryz.results105 (ResV.tmp rfl) (List.nil_sublist _) ?_; refine ⟨rfl, ?_⟩; have h3 : (riseN none (nNames s) && riseN none (pNames s) && riseN none (oNames s)) = false := (by clear hmain; simp_all); rw [shapedB, h3]; simp; done)
    | skip
  have h3 : (riseN none (nNames s) && riseN none (pNames s) && riseN none (oNames s)) = true := by clear hmain; simp_all
  have hsh : shapedB s = (s.nodes.all nodeB && s.pods.all (podB s) && s.owners.all ownerB) := by rw [shapedB, hm, h3]; rfl
  clear hmain h3
  rw [hsh]
  have hl02 : S0.le S2 := by exact lea
  refine JC.loop (σ := SHeap × Nat) (fun q => q.1) (fun _ => []) (fun q => [(1, .pointer (some p)), (6, .int .i64 q.2)]) (fun q => S0.le q.1 ∧ q.2 ≤ s.nodes.length ∧ (s.nodes.drop q.2).all nodeB = s.nodes.all nodeB) (fun q => s.nodes.length - q.2) (_, 0) ⟨by exact lea, Nat.zero_le _, rfl⟩ rfl rfl (by exact sba) ?_; rintro ⟨S5, k⟩ ⟨hl5, hk, hi⟩; dsimp only at hl5 hk hi ⊢
  repeat (first | (refine Walk ?_; intros) | refine JC.block ?_)
  refine JC.cond rfl (fun hc => ?_) (fun hc => ?_)
  · have hk' := dlt hc
    obtain ⟨x, hx, hd⟩ := drop_at hk'
    rw [hd, List.all_cons] at hi
    repeat (first | (refine Walk ?_; intros) | refine JC.block ?_)
    (refine JO.eff rfl rfl rfl (JEff.callV rfl (r5_node (by exact vta)) rfl ?_); intro _ _)
    repeat (first | (refine Walk ?_; intros) | refine JC.block ?_)
    refine JC.cond rfl (fun h1 => ?_) (fun h1 => ?_)
    · have h1 : nodeB x = false := by simpa using h1
      rw [h1, Bool.false_and] at hi
      repeat (first | (refine Walk ?_; intros) | refine JC.block ?_)
      refine JX.ret1 Tryz.results105 (ResV.tmp rfl) (List.nil_sublist _) ?_
      exact ⟨rfl, by rw [← hi]; rfl⟩
    · have h1 : nodeB x = true := by simpa using h1
      rw [h1, Bool.true_and] at hi
      repeat (first | (refine Walk ?_; intros) | refine JC.block ?_)
      exact JX.round (_, k + 1) ⟨by exact lea, hk', hi⟩ (by simp; omega) rfl rfl (by exact sba)
  have hk' := dnlt hc
  rw [List.drop_eq_nil_of_le hk', List.all_nil] at hi
  rw [← hi, Bool.true_and]
  clear hi hk hk' hc
  repeat (first | (refine Walk ?_; intros) | refine JC.block ?_)
  refine JC.loop (σ := SHeap × Nat) (fun q => q.1) (fun _ => []) (fun q => [(1, .pointer (some p)), (7, .int .i64 q.2)]) (fun q => S0.le q.1 ∧ q.2 ≤ s.pods.length ∧ (s.pods.drop q.2).all (podB s) = s.pods.all (podB s)) (fun q => s.pods.length - q.2) (_, 0) ⟨by exact lea, Nat.zero_le _, rfl⟩ rfl rfl (by exact sba) ?_; rintro ⟨S6, k⟩ ⟨hl6, hk, hi⟩; dsimp only at hl6 hk hi ⊢
  repeat (first | (refine Walk ?_; intros) | refine JC.block ?_)
  refine JC.cond rfl (fun hc => ?_) (fun hc => ?_)
  · have hk' := dlt hc
    obtain ⟨x, hx, hd⟩ := drop_at hk'
    rw [hd, List.all_cons] at hi
    repeat (first | (refine Walk ?_; intros) | refine JC.block ?_)
    refine JC.drawT [0, 1, 2, 3, 4, 5, 6, 7] [0, 1, 2, 3, 4, 5, 7] [] Tryz_mixed (by decide +kernel) (by simp [MEnt.own]) ?_
    repeat (first | (refine Walk ?_; intros) | refine JC.block ?_)
    (refine JO.eff rfl rfl rfl (JEff.callV rfl (r5_pod (by exact vta) (by exact vta)) rfl ?_); intro _ _)
    repeat (first | (refine Walk ?_; intros) | refine JC.block ?_)
    refine JC.cond rfl (fun h1 => ?_) (fun h1 => ?_)
    · have h1 : podB s x = false := by simpa using h1
      rw [h1, Bool.false_and] at hi
      repeat (first | (refine Walk ?_; intros) | refine JC.block ?_)
      refine JX.ret1 Tryz.results105 (ResV.tmp rfl) (List.nil_sublist _) ?_
      exact ⟨rfl, by rw [← hi]; rfl⟩
    · have h1 : podB s x = true := by simpa using h1
      rw [h1, Bool.true_and] at hi
      repeat (first | (refine Walk ?_; intros) | refine JC.block ?_)
      exact JX.round (_, k + 1) ⟨by exact lea, hk', hi⟩ (by simp; omega) rfl rfl (by exact sba)
  have hk' := dnlt hc
  rw [List.drop_eq_nil_of_le hk', List.all_nil] at hi
  rw [← hi, Bool.true_and]
  clear hi hk hk' hc
  repeat (first | (refine Walk ?_; intros) | refine JC.block ?_)
  refine JC.loop (σ := SHeap × Nat) (fun q => q.1) (fun _ => []) (fun q => [(1, .pointer (some p)), (8, .int .i64 q.2)]) (fun q => S0.le q.1 ∧ q.2 ≤ s.owners.length ∧ (s.owners.drop q.2).all ownerB = s.owners.all ownerB) (fun q => s.owners.length - q.2) (_, 0) ⟨by exact lea, Nat.zero_le _, rfl⟩ rfl rfl (by exact sba) ?_; rintro ⟨S7, k⟩ ⟨hl7, hk, hi⟩; dsimp only at hl7 hk hi ⊢
  repeat (first | (refine Walk ?_; intros) | refine JC.block ?_)
  refine JC.cond rfl (fun hc => ?_) (fun hc => ?_)
  · have hk' := dlt hc
    obtain ⟨x, hx, hd⟩ := drop_at hk'
    rw [hd, List.all_cons] at hi
    repeat (first | (refine Walk ?_; intros) | refine JC.block ?_)
    (refine JO.eff rfl rfl rfl (JEff.callV rfl (r5_owner (by exact vta)) rfl ?_); intro _ _)
    repeat (first | (refine Walk ?_; intros) | refine JC.block ?_)
    refine JC.cond rfl (fun h1 => ?_) (fun h1 => ?_)
    · have h1 : ownerB x = false := by simpa using h1
      rw [h1, Bool.false_and] at hi
      repeat (first | (refine Walk ?_; intros) | refine JC.block ?_)
      refine JX.ret1 Tryz.results105 (ResV.tmp rfl) (List.nil_sublist _) ?_
      exact ⟨rfl, by rw [← hi]⟩
    · have h1 : ownerB x = true := by simpa using h1
      rw [h1, Bool.true_and] at hi
      repeat (first | (refine Walk ?_; intros) | refine JC.block ?_)
      exact JX.round (_, k + 1) ⟨by exact lea, hk', hi⟩ (by simp; omega) rfl rfl (by exact sba)
  have hk' := dnlt hc
  rw [List.drop_eq_nil_of_le hk', List.all_nil] at hi
  repeat (first | (refine Walk ?_; intros) | refine JC.block ?_)
  refine JX.ret1 Tryz.results105 (ResV.tmp rfl) (List.nil_sublist _) ?_
  exact ⟨rfl, by rw [← hi]⟩
end Go.Dr
namespace Go.Dr
open Go.Proofs
set_option maxRecDepth 20000
set_option maxHeartbeats 1000000
set_option linter.unusedSimpArgs false
set_option linter.unusedVariables false
theorem shaped_small {s : Snap} (h : shapedB s = true) : s.nodes.length ≤ 8 ∧ s.pods.length ≤ 24 ∧ s.owners.length ≤ 8 := by
  have hm : manyB s = false := by
    cases hm : manyB s with
    | false => rfl
    | true => rw [shapedB, hm] at h; simp at h
  simp only [manyB, Bool.or_eq_false_iff, decide_eq_false_iff_not] at hm; omega
theorem r5_Check {S : SHeap} {u : Value} {s : Snap} (hu : rSnap.V S u s) : FnV Tryz.prog 66 #[u] S (.int .i64 (checkS s)) := by
  (refine Fn.enter (args := [u]) Tryz.func66 rfl Tryz.ntmps66 rfl ?_; intro w0)
  repeat (first | (refine Walk ?_; intros) | refine JC.block ?_)
  (refine JO.eff rfl rfl rfl (JEff.boxS rfl (by exact vta) nna rfl ?_); intro S0 p l0 hp)
  repeat (first | (refine Walk ?_; intros) | refine JC.block ?_)
  (refine JO.eff rfl rfl rfl (JEff.callV rfl (r5_shaped (by exact vta)) rfl ?_); intro _ _)
  repeat (first | (refine Walk ?_; intros) | refine JC.block ?_)
  refine JC.cond rfl (fun h1 => ?_) (fun h1 => ?_)
  · have h1 : shapedB s = false := by simpa using h1
    repeat (first | (refine Walk ?_; intros) | refine JC.block ?_)
    refine JX.ret1 Tryz.results66 (ResV.tmp rfl) (List.nil_sublist _) ?_
    exact ⟨rfl, by rw [checkS, h1]; rfl⟩
  have h1 : shapedB s = true := by simpa using h1
  obtain ⟨hn, hpn, ho⟩ := shaped_small h1
  repeat (first | (refine Walk ?_; intros) | refine JC.block ?_)
  rename_i S9 hl9 _
  refine JC.newRow 30 5 ?_
  refine JC.loop (σ := SHeap × Nat × Option Addr × Nat × List Value) (fun q => q.1) (fun q => .row w0.heap.size 30 5 (.slice q.2.2.1 q.2.1 q.2.2.2.1) q.2.1 (flatCells q.2.2.2.2) :: []) (fun q => [(3, .slice q.2.2.1 q.2.1 q.2.2.2.1), (5, .int .i64 q.2.1), (1, .pointer (some p)), (4, .slice none 0 0)]) (fun q => S9.le q.1 ∧ q.2.1 ≤ s.nodes.length ∧ allV (rArr 5) q.1 q.2.2.2.2 (List.take q.2.1 (caps s))) (fun q => s.nodes.length - q.2.1) (S9, 0, none, 0, []) ⟨SHeap.le.refl _, Nat.zero_le _, trivial⟩ rfl rfl (by exact sba) ?_; rintro ⟨S1, k, ra, rc, vs⟩ ⟨hl1, hk, hv⟩; dsimp only at hl1 hk hv ⊢
  repeat (first | (refine Walk ?_; intros) | refine JC.block ?_)
  refine JC.cond rfl (fun hc => ?_) (fun hc => ?_)
  · have hk' := dlt hc
    obtain ⟨x, hx, hd⟩ := drop_at hk'
    have hx2 : (caps s)[k]? = some x.cap := by simp [caps, hx]
    repeat (first | (refine Walk ?_; intros) | refine JC.block ?_)
    rename_i vv hvv0
    (refine JO.eff rfl rfl rfl (JEff.build (rep := (rArr 5)) (ys := [x.cap]) rfl rfl ⟨(⟨hvv0, fun h => by cases h⟩), trivial⟩ rfl rfl rfl rfl ?_); intro bb hbb hvv); (repeat (first | (refine Walk ?_; intros) | refine JC.block ?_)); (refine JO.eff rfl rfl rfl (JEff.appendL (rep := (rArr 5)) rfl rfl rfl rfl (List.Perm.swap _ _ _) (by exact hvv.flat) (by intro c hc; exact flat_one (fun v hv => (hvv.size v hv).2) c hc) (by first | omega | (unfold big; omega)) (by unfold big; omega) (by intro l hl; cases hl) rfl ?_); intro ra2 rc2; clear hvv hbb)
    repeat (first | (refine Walk ?_; intros) | refine JC.block ?_)
    exact JX.round (_, k + 1, ra2, rc2, vs ++ [vv]) ⟨by exact lea, hk', allV_snoc (SHeap.le.refl _) hv hx2 hvv0 (fun h => by cases h)⟩ (by dsimp only; omega) rfl (by simp [flat_append]; rfl) (by exact sba)
  have hk' := dnlt hc
  obtain rfl : k = s.nodes.length := by omega
  rw [List.take_of_length_le (by simp [caps])] at hv
  repeat (first | (refine Walk ?_; intros) | refine JC.block ?_)
  refine JC.freezeRow (bt := 40) (rep := rArr 5) hv (by simp [caps]) (by unfold big; omega) (by unfold big; omega) (fun S2 hl2 hv1 => ?_)
  clear hv hk' hk hc
  refine JC.newRow 30 5 ?_
  refine JC.loop (σ := SHeap × Nat × Option Addr × Nat × List Value) (fun q => q.1) (fun q => .row w0.heap.size 30 5 (.slice q.2.2.1 q.2.1 q.2.2.2.1) q.2.1 (flatCells q.2.2.2.2) :: []) (fun q => [(4, .slice q.2.2.1 q.2.1 q.2.2.2.1), (6, .int .i64 q.2.1), (1, .pointer (some p)), (3, .slice ra s.nodes.length rc)]) (fun q => S2.le q.1 ∧ q.2.1 ≤ s.pods.length ∧ allV (rArr 5) q.1 q.2.2.2.2 (List.take q.2.1 (reqs s))) (fun q => s.pods.length - q.2.1) (S2, 0, none, 0, []) ⟨SHeap.le.refl _, Nat.zero_le _, trivial⟩ rfl rfl (by exact sba) ?_; rintro ⟨S1b, k, rab, rcb, vs⟩ ⟨hl1, hk, hv⟩; dsimp only at hl1 hk hv ⊢
  repeat (first | (refine Walk ?_; intros) | refine JC.block ?_)
  refine JC.cond rfl (fun hc => ?_) (fun hc => ?_)
  · have hk' := dlt hc
    obtain ⟨x, hx, hd⟩ := drop_at hk'
    have hx2 : (reqs s)[k]? = some x.req := by simp [reqs, hx]
    repeat (first | (refine Walk ?_; intros) | refine JC.block ?_)
    rename_i vv hvv0
    (refine JO.eff rfl rfl rfl (JEff.build (rep := (rArr 5)) (ys := [x.req]) rfl rfl ⟨(⟨hvv0, fun h => by cases h⟩), trivial⟩ rfl rfl rfl rfl ?_); intro bb hbb hvv); (repeat (first | (refine Walk ?_; intros) | refine JC.block ?_)); (refine JO.eff rfl rfl rfl (JEff.appendL (rep := (rArr 5)) rfl rfl rfl rfl (List.Perm.swap _ _ _) (by exact hvv.flat) (by intro c hc; exact flat_one (fun v hv => (hvv.size v hv).2) c hc) (by first | omega | (unfold big; omega)) (by unfold big; omega) (by intro l hl; cases hl) rfl ?_); intro ra2 rc2; clear hvv hbb)
    repeat (first | (refine Walk ?_; intros) | refine JC.block ?_)
    exact JX.round (_, k + 1, ra2, rc2, vs ++ [vv]) ⟨by exact lea, hk', allV_snoc (SHeap.le.refl _) hv hx2 hvv0 (fun h => by cases h)⟩ (by dsimp only; omega) rfl (by simp [flat_append]; rfl) (by exact sba)
  have hk' := dnlt hc
  obtain rfl : k = s.pods.length := by omega
  rw [List.take_of_length_le (by simp [reqs])] at hv
  repeat (first | refine JC.skip ?_ | refine JX.then_ ?_ | refine JX.then_exit ?_ | refine JX.then_ret ?_ | refine JX.blk ?_ | refine JX.blk_exit ?_ | refine JX.blk_other rfl ?_ | refine JX.blk_ret ?_ | refine JX.partR ?_ | refine JX.partE ?_ | refine JX.partFR ?_ | refine JX.partFE ?_ | (refine WOps ?_; intros))
  refine JC.freezeRow (bt := 40) (rep := rArr 5) hv (by simp [reqs]) (by unfold big; omega) (by unfold big; omega) (fun S3 hl3 hv2 => ?_)
  repeat (first | (refine Walk ?_; intros) | refine JC.block ?_)
  (refine JO.eff rfl rfl rfl (JEff.callV rfl (r2_Plus (by exact vta)) rfl ?_); intro _ _)
  repeat (first | (refine Walk ?_; intros) | refine JC.block ?_)
  (refine JO.eff rfl rfl rfl (JEff.alloc rfl ?_); intro b7 hb7)
  refine JO.eff rfl rfl rfl (JEff.storeW (rep := rArr 5) rfl rfl (V_arr.2 ⟨rfl, plusV_fine _⟩) (fun h => by cases h) (List.Perm.refl _) rfl (by intro l hl; cases hl) ?_)
  repeat (first | (refine Walk ?_; intros) | refine JC.block ?_)
  (refine JO.eff rfl rfl rfl (JEff.callV rfl (r2_Plus (by exact vta)) rfl ?_); intro _ _)
  repeat (first | (refine Walk ?_; intros) | refine JC.block ?_)
  (refine JO.eff rfl rfl rfl (JEff.alloc rfl ?_); intro b9 hb9)
  refine JO.eff rfl rfl rfl (JEff.storeW (rep := rArr 5) rfl rfl (V_arr.2 ⟨rfl, plusV_fine _⟩) (fun h => by cases h) (List.Perm.refl _) rfl (by intro l hl; cases hl) ?_)
  repeat' (first | (refine Walk ?_; intros) | refine JC.block ?_ | (refine JO.guard rfl rfl rfl rfl ?_ ?_ <;> intro _) | (refine JC.cond rfl ?_ ?_ <;> intro _))
  all_goals (refine JX.ret1 Tryz.results66 (ResV.tmp rfl) (List.nil_sublist _) ?_; refine ⟨rfl, ?_⟩; rw [checkS, h1]; simp_all [z0])
end Go.Dr
namespace Go.Dr
open Go.Proofs
set_option maxRecDepth 20000
set_option maxHeartbeats 1000000
set_option linter.unusedSimpArgs false
set_option linter.unusedVariables false
theorem r7_ValueOf {S : SHeap} {u : Value} {n : Node} (key : ByteArray) (hu : rNode.V S u n) : FnV Tryz.prog 263 #[u, .string key] S (.tuple #[.string (valB n key).1, .bool (valB n key).2]) := by
  (refine Fn.enter (args := [u, .string key]) Tryz.func263 rfl Tryz.ntmps263 rfl ?_; intro w0)
  repeat (first | (refine Walk ?_; intros) | refine JC.block ?_)
  (refine JO.eff rfl rfl rfl (JEff.boxS rfl (by exact vta) nna rfl ?_); intro S0 p l0 hp)
  repeat (first | (refine Walk ?_; intros) | refine JC.block ?_)
  refine JC.loop (σ := SHeap × Nat) (fun q => q.1) (fun _ => []) (fun q => [(1, .string key), (2, .pointer (some p)), (6, .int .i64 q.2)]) (fun q => S0.le q.1 ∧ q.2 ≤ n.labels.length ∧ (n.lost = true ∨ (n.labels.drop q.2).find? (keyIs key) = n.labels.find? (keyIs key))) (fun q => n.labels.length - q.2) (S0, 0) ⟨SHeap.le.refl _, Nat.zero_le _, .inr rfl⟩ rfl rfl (by exact sba) ?_; rintro ⟨S1, k⟩ ⟨hl1, hk, hi⟩; dsimp only at hl1 hk hi ⊢
  repeat (first | (refine Walk ?_; intros) | refine JC.block ?_)
  refine JC.cond rfl (fun hc => ?_) (fun hc => ?_)
  · have hk' := dlt hc
    obtain ⟨x, hx, hd⟩ := drop_at hk'
    rw [hd, List.find?_cons] at hi
    repeat (first | (refine Walk ?_; intros) | refine JC.block ?_)
    cases hl : n.lost with
    | true =>
      repeat' (first | (refine Walk ?_; intros) | refine JC.block ?_ | (refine JO.guard rfl rfl rfl rfl ?_ ?_ <;> intro _) | (refine JC.cond rfl ?_ ?_ <;> intro _))
      all_goals first
        | (exfalso; simp_all; done)
        | (exact JX.round (_, k + 1) ⟨by exact lea, hk', .inl rfl⟩ (by simp; omega) rfl rfl (by exact sba))
        | (exact JX.round (_, k + 1) ⟨by exact lea, hk', .inl hl⟩ (by simp; omega) rfl rfl (by exact sba))
    | false =>
      have hi : (match keyIs key x with | true => some x | false => List.find? (keyIs key) (List.drop (k + 1) n.labels)) = n.labels.find? (keyIs key) := by
        rcases hi with h | h
        · rw [hl] at h; cases h
        · exact h
      refine JO.guard rfl rfl rfl rfl (fun hg => ?_) (fun hg => ?_)
      · rw [show keyIs key x = true from hg] at hi
        repeat (first | (refine Walk ?_; intros) | refine JC.block ?_)
        refine JC.cond rfl (fun hl2 => ?_) (fun hl2 => ?_)
        · repeat (first | (refine Walk ?_; intros) | refine JC.block ?_)
          refine JX.ret2 Tryz.results263 (ResV.tmp rfl) (ResV.tmp rfl) (List.nil_sublist _) ?_
          refine ⟨rfl, ?_⟩
          rw [valB, hl, getL, ← hi]; rfl
        · rw [hl] at hl2; cases hl2
      · rw [show keyIs key x = false from hg] at hi
        repeat (first | (refine Walk ?_; intros) | refine JC.block ?_)
        exact JX.round (_, k + 1) ⟨by exact lea, hk', .inr hi⟩ (by simp; omega) rfl rfl (by exact sba)
  · have hk' := dnlt hc
    rw [List.drop_eq_nil_of_le hk'] at hi
    repeat (first | (refine Walk ?_; intros) | refine JC.block ?_)
    refine JX.ret2 Tryz.results263 (ResV.tmp rfl) (ResV.tmp rfl) (List.nil_sublist _) ?_
    refine ⟨rfl, ?_⟩
    rw [valB]
    cases hl : n.lost with
    | true => rfl
    | false =>
      rw [hl] at hi
      simp only [Bool.false_eq_true, List.find?_nil, false_or] at hi
      rw [getL, ← hi]; rfl
theorem r7_Check {S : SHeap} {u v : Value} {s : Snap} {p : List Int} (hu : rSnap.V S u s) (hv : (rSlice 8 rI64).V S v p) : FnV Tryz.prog 55 #[u, v] S (.int .i64 (checkP s p)) := by
  obtain ⟨a, c, rfl, _, _, hb, _⟩ := V_slice.1 hv
  unfold big at hb
  (refine Fn.enter (args := [u, .slice a p.length c]) Tryz.func55 rfl Tryz.ntmps55 rfl ?_; intro w0)
  repeat (first | (refine Walk ?_; intros) | refine JC.block ?_)
  (refine JO.eff rfl rfl rfl (JEff.boxS rfl (by exact vta) nna rfl ?_); intro S0 pa l0 hp)
  repeat (first | (refine Walk ?_; intros) | refine JC.block ?_)
  (refine JO.eff rfl rfl rfl (JEff.callV rfl (r5_Check (by exact vta)) rfl ?_); intro _ _)
  repeat (first | (refine Walk ?_; intros) | refine JC.block ?_)
  refine JC.cond rfl (fun h1 => ?_) (fun h1 => ?_)
  · have h1 : z0 (checkS s) = false := by simpa [z0] using h1
    repeat (first | (refine Walk ?_; intros) | refine JC.block ?_)
    refine JX.ret1 Tryz.results55 (ResV.tmp rfl) (List.nil_sublist _) ?_
    exact ⟨rfl, by rw [checkP, h1]; rfl⟩
  have h1 : z0 (checkS s) = true := by simpa [z0] using h1
  repeat (first | (refine Walk ?_; intros) | refine JC.block ?_)
  refine JC.cond rfl (fun h2 => ?_) (fun h2 => ?_)
  · have h2 : decide (p.length = s.pods.length) = false := by simp at h2; simp; omega
    repeat (first | (refine Walk ?_; intros) | refine JC.block ?_)
    refine JX.ret1 Tryz.results55 (ResV.tmp rfl) (List.nil_sublist _) ?_
    exact ⟨rfl, by rw [checkP, h1, h2]; rfl⟩
  have h2 : decide (p.length = s.pods.length) = true := by simp at h2; simp; omega
  have hodd : checkP s p = if p.any (oddP s) then 2 else 0 := by rw [checkP, h1, h2]; rfl
  rw [hodd]
  repeat (first | (refine Walk ?_; intros) | refine JC.block ?_)
  refine JC.loop (σ := SHeap × Nat) (fun q => q.1) (fun _ => []) (fun q => [(1, .slice a p.length c), (2, .pointer (some pa)), (6, .int .i64 q.2)]) (fun q => S0.le q.1 ∧ q.2 ≤ p.length ∧ (p.drop q.2).any (oddP s) = p.any (oddP s)) (fun q => p.length - q.2) (_, 0) ⟨by exact lea, Nat.zero_le _, rfl⟩ rfl rfl (by exact sba) ?_; rintro ⟨S5, k⟩ ⟨hl5, hk, hi⟩; dsimp only at hl5 hk hi ⊢
  repeat (first | (refine Walk ?_; intros) | refine JC.block ?_)
  refine JC.cond rfl (fun hc => ?_) (fun hc => ?_)
  · have hk' := dlt hc
    obtain ⟨x, hx, hd⟩ := drop_at hk'
    rw [hd, List.any_cons] at hi
    repeat (first | (refine Walk ?_; intros) | refine JC.block ?_)
    refine JC.drawT [0, 1, 2, 3, 4, 5, 6, 7, 8, 9, 10, 11, 12, 13, 14, 15, 16, 17, 18, 19, 20, 21, 22, 23, 24, 25, 26, 27, 28, 29, 30, 31, 32] [0, 1, 2, 3, 4, 5, 6, 7, 8, 9, 10, 11, 12, 13, 14, 15, 16, 17, 18, 19, 20, 21, 22, 23, 24, 25, 26, 27, 28, 29, 30, 31, 32] [] Tryz_mixed (by decide +kernel) (by simp [MEnt.own]) ?_
    by_cases hr : 0 ≤ x ∧ x < s.nodes.length
    · obtain ⟨nd, hnd⟩ : ∃ nd, s.nodes[x.toNat]? = some nd := ⟨_, List.getElem?_eq_getElem (by omega)⟩
      have hr0 := hr.1
      have hlo : lostAt s x = nd.lost := by simp [lostAt, hnd]
      have e1 : decide (x < -1) = false := by simp; omega
      have e2 : decide ((s.nodes.length : Int) ≤ x) = false := by simp; omega
      have e3 : decide (0 ≤ x) = true := by simp; omega
      have ho : oddP s x = nd.lost := by rw [oddP, e1, e2, e3, hlo]; rfl
      rw [ho] at hi
      repeat (first | (refine Walk ?_; intros) | refine JC.block ?_)
      refine JO.guard rfl rfl rfl rfl (fun g1 => ?_) (fun g1 => ?_)
      · rw [e1] at g1; cases g1
      repeat (first | (refine Walk ?_; intros) | refine JC.block ?_)
      refine JO.guard rfl rfl rfl rfl (fun g2 => ?_) (fun g2 => ?_)
      · rw [e2] at g2; cases g2
      repeat (first | (refine Walk ?_; intros) | refine JC.block ?_)
      refine JO.guard rfl rfl rfl rfl (fun g3 => ?_) (fun g3 => ?_)
      · repeat (first | (refine Walk ?_; intros) | refine JC.block ?_)
        refine JC.cond rfl (fun h9 => ?_) (fun h9 => ?_)
        · rw [h9, Bool.true_or] at hi
          repeat (first | (refine Walk ?_; intros) | refine JC.block ?_)
          refine JX.ret1 Tryz.results55 (ResV.tmp rfl) (List.nil_sublist _) ?_
          exact ⟨rfl, by rw [← hi]; rfl⟩
        · rw [h9, Bool.false_or] at hi
          repeat (first | (refine Walk ?_; intros) | refine JC.block ?_)
          exact JX.round (_, k + 1) ⟨by exact lea, hk', hi⟩ (by simp; omega) rfl rfl (by exact sba)
      · rw [e3] at g3; cases g3
    · have hb2 : oddP s x = true ∨ (x = -1 ∧ oddP s x = false) := by
        by_cases hx1 : x = -1
        · right; refine ⟨hx1, ?_⟩; subst hx1; simp [oddP]; omega
        · left
          have : x < -1 ∨ (s.nodes.length : Int) ≤ x := by omega
          rcases this with h | h <;> simp [oddP, h]
      rcases hb2 with ho | ⟨rfl, ho⟩
      · rw [ho, Bool.true_or] at hi
        repeat (first | (refine Walk ?_; intros) | refine JC.block ?_)
        refine JO.guard rfl rfl rfl rfl (fun g1 => ?_) (fun g1 => ?_)
        · repeat (first | (refine Walk ?_; intros) | refine JC.block ?_)
          refine JX.ret1 Tryz.results55 (ResV.tmp rfl) (List.nil_sublist _) ?_
          exact ⟨rfl, by rw [← hi]; rfl⟩
        · have g1 : ¬ x < -1 := by simpa using g1
          repeat (first | (refine Walk ?_; intros) | refine JC.block ?_)
          refine JO.guard rfl rfl rfl rfl (fun g2 => ?_) (fun g2 => ?_)
          · repeat (first | (refine Walk ?_; intros) | refine JC.block ?_)
            refine JX.ret1 Tryz.results55 (ResV.tmp rfl) (List.nil_sublist _) ?_
            exact ⟨rfl, by rw [← hi]; rfl⟩
          · exfalso
            have g2 : ¬ (s.nodes.length : Int) ≤ x := by simpa using g2
            have : x = -1 := by omega
            subst this
            simp [oddP] at ho; omega
      · rw [ho, Bool.false_or] at hi
        have e2 : decide ((s.nodes.length : Int) ≤ -1) = false := by simp; omega
        repeat (first | (refine Walk ?_; intros) | refine JC.block ?_)
        refine JO.guard rfl rfl rfl rfl (fun g2 => ?_) (fun g2 => ?_)
        · rw [e2] at g2; cases g2
        repeat (first | (refine Walk ?_; intros) | refine JC.block ?_)
        exact JX.round (_, k + 1) ⟨by exact lea, hk', hi⟩ (by simp; omega) rfl rfl (by exact sba)
  · have hk' := dnlt hc
    rw [List.drop_eq_nil_of_le hk'] at hi
    repeat (first | (refine Walk ?_; intros) | refine JC.block ?_)
    refine JX.ret1 Tryz.results55 (ResV.tmp rfl) (List.nil_sublist _) ?_
    exact ⟨rfl, by rw [← hi]; rfl⟩
end Go.Dr
namespace Go.Dr
open Go.Proofs
set_option maxRecDepth 20000
set_option maxHeartbeats 1000000
set_option linter.unusedSimpArgs false
set_option linter.unusedVariables false
theorem ptr_arr {S : SHeap} {p : Addr} {n : Nat} {xs : List Int} (h : PtrTo S p (rArr n) xs) : xs.length = n ∧ ∀ x ∈ xs, Rng x := by
  obtain ⟨cs, h, _⟩ := h; exact ⟨h.1, h.2.2⟩
theorem ptr_slice {α : Type} {S : SHeap} {p : Addr} {bt : Nat} {rep : Rp α} {xs : List α} (h : PtrTo S p (rSlice bt rep) xs) : ∀ x ∈ xs, ∃ q, PtrTo S q rep x := by
  obtain ⟨cs, ⟨a, n, c, _, _, _, _, _, hh⟩, _⟩ := h
  intro x hx
  obtain ⟨i, hi⟩ := List.getElem?_of_mem hx
  obtain ⟨ad, _, hp⟩ := hh i x hi
  exact ⟨_, hp⟩
theorem snap_reqs {S : SHeap} {p : Addr} {s : Snap} (h : PtrTo S p rSnap s) : ∀ x ∈ s.pods, x.req.length = 5 ∧ ∀ y ∈ x.req, Rng y := by
  intro x hx
  have h1 : PtrTo S (p.add 1) (rSlice 240 rPod) s.pods := h.part (Fld.h (rep := rSnap) (off := 1))
  obtain ⟨q, hq⟩ := ptr_slice h1 x hx
  have h2 : PtrTo S (q.add 2) (rArr 5) x.req := hq.part (Fld.h (rep := rPod) (off := 2))
  exact ptr_arr h2
theorem snap_caps {S : SHeap} {p : Addr} {s : Snap} (h : PtrTo S p rSnap s) : ∀ x ∈ s.nodes, x.cap.length = 5 ∧ ∀ y ∈ x.cap, Rng y := by
  intro x hx
  have h1 : PtrTo S (p.add 0) (rSlice 112 rNode) s.nodes := h.part (Fld.h (rep := rSnap) (off := 0))
  obtain ⟨q, hq⟩ := ptr_slice h1 x hx
  have h2 : PtrTo S (q.add 1) (rArr 5) x.cap := hq.part (Fld.h (rep := rNode) (off := 1))
  exact ptr_arr h2
theorem plus_ok {l : List (List Int)} (h : (plusV l).2 = 0) (j : Nat) (hj : j < 5) : (l.map (fun v => at0 v j)).any negB = false ∧ (l.map (fun v => at0 v j)).sum ≤ Qty := by
  have hc : (colQ l j).2 = 0 := by
    unfold plusV at h
    split at h
    · rename_i i hi
      rw [List.find?_range_eq_some] at hi
      have := hi.1
      simp only [Bool.not_eq_true', decide_eq_false_iff_not] at this
      exact absurd h this
    · rename_i hi
      rw [List.find?_range_eq_none] at hi
      have := hi j hj
      simpa using this
  unfold colQ addQ at hc
  cases hn : (l.map (fun v => at0 v j)).any negB with
  | true => rw [hn] at hc; simp at hc
  | false =>
    rw [hn] at hc
    refine ⟨rfl, ?_⟩
    simp only [Bool.false_eq_true, if_false] at hc
    split at hc
    · simp at hc
    · rename_i h; omega
theorem checkS_ok {s : Snap} (h : checkS s = 0) : shapedB s = true ∧ (plusV (caps s)).2 = 0 ∧ (plusV (reqs s)).2 = 0 := by
  unfold checkS at h
  cases h1 : shapedB s with
  | false => rw [h1] at h; simp at h
  | true =>
    rw [h1] at h
    simp only [if_true] at h
    split at h
    · rename_i h2
      simp only [Bool.and_eq_true, z0, decide_eq_true_eq] at h2
      exact ⟨rfl, h2⟩
    · cases h
def colsOf (l : List Pod) (x : List Int) (j : Nat) : List Int := (List.range 5).map (fun i => (l.map (fun y => at0 y.req i)).sum + if i < j then at0 x i else 0)
theorem colsOf_len (l : List Pod) (x : List Int) (j : Nat) : (colsOf l x j).length = 5 := by simp [colsOf]
theorem colsOf_zero (l : List Pod) (x x' : List Int) : colsOf l x 0 = colsOf l x' 0 := by simp [colsOf]
theorem colsOf_at (l : List Pod) (x : List Int) (j : Nat) (hj : j < 5) : (colsOf l x j)[j]? = some ((l.map (fun y => at0 y.req j)).sum) := by
  simp [colsOf, hj]
theorem colsOf_set (l : List Pod) (x : List Int) (j : Nat) (hj : j < 5) : (colsOf l x j).set j ((l.map (fun y => at0 y.req j)).sum + at0 x j) = colsOf l x (j + 1) := by
  apply List.ext_getElem?
  intro i
  rw [List.getElem?_set]
  simp only [colsOf, List.length_map, List.length_range, List.getElem?_map]
  by_cases h : j = i
  · subst h; simp [hj]
  · rw [if_neg h]
    cases hr : (List.range 5)[i]? with
    | none => rfl
    | some i' =>
      have : i' = i := by
        rw [List.getElem?_range] at hr
        · simpa using hr.symm
        · exact Nat.lt_of_not_le fun hle => by rw [List.getElem?_eq_none (by simpa using hle)] at hr; cases hr
      subst this
      simp only [Option.map_some]
      have : (i' < j) = (i' < j + 1) := by simp; omega
      simp [this]
theorem colsOf_full (l : List Pod) (x : Pod) (y : List Int) : colsOf l x.req 5 = colsOf (l ++ [x]) y 0 := by
  unfold colsOf
  apply List.map_congr_left
  intro i hi
  have : i < 5 := by simpa using hi
  simp [this]
def onK (s : Snap) (p : List Int) (node : Int) (k : Nat) : List Pod := (((p.zip s.pods).take k).filter (fun x => decide (x.1 = node))).map (fun x => x.2)
theorem onK_step {s : Snap} {p : List Int} {node : Int} {k : Nat} {n : Int} {x : Pod} (hn : p[k]? = some n) (hx : s.pods[k]? = some x) : onK s p node (k + 1) = onK s p node k ++ (if n = node then [x] else []) := by
  have hz : (p.zip s.pods)[k]? = some (n, x) := by rw [List.getElem?_zip_eq_some]; exact ⟨hn, hx⟩
  unfold onK
  rw [List.take_add_one, hz]
  simp only [Option.toList_some, List.filter_append, List.map_append]
  congr 1
  by_cases h : n = node <;> simp [h]
theorem onK_all {s : Snap} {p : List Int} {node : Int} (h : p.length = s.pods.length) : onK s p node p.length = onN s p node := by
  unfold onK onN
  rw [List.take_of_length_le (by simp [h])]
theorem filt_sum {l : List Pod} {f : Pod → Int} (h : ∀ x ∈ l, 0 ≤ f x) : ∀ {m : List Pod}, m.Sublist l → (m.map f).sum ≤ (l.map f).sum ∧ 0 ≤ (m.map f).sum := by
  intro m hm
  induction hm with
  | slnil => simp
  | cons a hs ih =>
    have := ih (fun x hx => h x (by simp [hx]))
    have := h a (by simp)
    simp only [List.map_cons, List.sum_cons]; omega
  | cons_cons a hs ih =>
    have := ih (fun x hx => h x (by simp [hx]))
    have := h a (by simp)
    simp only [List.map_cons, List.sum_cons]; omega
theorem zip_snd_sub : ∀ (p : List Int) (l : List Pod), ((p.zip l).map (fun x => x.2)).Sublist l
  | [], l => by simp
  | _ :: _, [] => by simp
  | a :: p, x :: l => by
    rw [List.zip_cons_cons, List.map_cons]
    exact (zip_snd_sub p l).cons_cons x
theorem onK_sub (s : Snap) (p : List Int) (node : Int) (k : Nat) : (onK s p node k).Sublist s.pods := by
  have h1 := zip_snd_sub p s.pods
  exact (((List.filter_sublist).trans (List.take_sublist _ _)).map _).trans h1
theorem used_bound {s : Snap} (h : checkS s = 0) (p : List Int) (node : Int) (k j : Nat) (hj : j < 5) : 0 ≤ ((onK s p node k).map (fun y => at0 y.req j)).sum ∧ ((onK s p node k).map (fun y => at0 y.req j)).sum ≤ Qty := by
  obtain ⟨_, _, h3⟩ := checkS_ok h
  obtain ⟨h4, h5⟩ := plus_ok h3 j hj
  have hnn : ∀ x ∈ s.pods, 0 ≤ at0 x.req j := by
    intro x hx
    rw [List.any_eq_false] at h4
    have := h4 (at0 x.req j) (by simp only [reqs, List.map_map, List.mem_map]; exact ⟨x, hx, rfl⟩)
    simpa [negB] using this
  have h6 := filt_sum (f := fun y => at0 y.req j) hnn (onK_sub s p node k)
  have h7 : (s.pods.map (fun y => at0 y.req j)).sum ≤ Qty := by
    simpa [reqs, List.map_map, Function.comp_def] using h5
  omega
theorem r7_UsedOf {S : SHeap} {u v : Value} {s : Snap} {p : List Int} (node : Int) (hok : checkS s = 0) (hlen : p.length = s.pods.length) (hu : rSnap.V S u s) (hv : (rSlice 8 rI64).V S v p) : FnV Tryz.prog 95 #[u, v, .int .i64 node] S (.agg (ints (usedV s p node))) := by
  obtain ⟨a, c, rfl, _, _, hb, _⟩ := V_slice.1 hv
  unfold big at hb
  (refine Fn.enter (args := [u, .slice a p.length c, .int .i64 node]) Tryz.func95 rfl Tryz.ntmps95 rfl ?_; intro w0)
  repeat (first | (refine Walk ?_; intros) | refine JC.block ?_)
  (refine JO.eff rfl rfl rfl (JEff.boxS rfl (by exact vta) nna rfl ?_); intro S0 pa l0 hp)
  repeat (first | (refine Walk ?_; intros) | refine JC.block ?_)
  (refine JO.eff rfl rfl rfl (JEff.alloc rfl ?_); intro b6 hb6)
  repeat (first | (refine Walk ?_; intros) | refine JC.block ?_)
  (refine JO.eff rfl rfl rfl (JEff.alloc rfl ?_); intro b7 hb7)
  repeat (first | (refine Walk ?_; intros) | refine JC.block ?_)
  have hreq := snap_reqs hp
  refine JC.loop (σ := SHeap × Nat) (fun q => q.1) (fun q => [.blk b7 (.cells (ints (colsOf (onK s p node q.2) [] 0)) 30 (0, 0)), .blk b6 (.cells (ints [0, 0, 0, 0, 0]) 30 (0, 0))]) (fun q => [(1, .slice a p.length c), (2, .int .i64 node), (3, .pointer (some pa)), (6, .pointer (some ⟨b6, 0, none⟩)), (7, .pointer (some ⟨b7, 0, none⟩)), (8, .int .i64 q.2)]) (fun q => S0.le q.1 ∧ q.2 ≤ p.length) (fun q => p.length - q.2) (S0, 0) ⟨SHeap.le.refl _, Nat.zero_le _⟩ rfl rfl (by exact sba) ?_
  rintro ⟨S1, k⟩ ⟨hl1, hk⟩
  dsimp only at hl1 hk ⊢
  repeat (first | (refine Walk ?_; intros) | refine JC.block ?_)
  refine JC.cond rfl (fun hc => ?_) (fun hc => ?_)
  · have hk' := dlt hc
    obtain ⟨n, hn, hd⟩ := drop_at hk'
    obtain ⟨x, hx⟩ : ∃ x, s.pods[k]? = some x := ⟨_, List.getElem?_eq_getElem (by omega)⟩
    have hst := onK_step (node := node) hn hx
    have hxr := hreq x (List.mem_of_getElem? hx)
    repeat (first | (refine Walk ?_; intros) | refine JC.block ?_)
    by_cases hnode : n = node
    · rw [if_pos hnode] at hst
      refine JC.loop (σ := SHeap × Nat) (fun q => q.1) (fun q => [.blk b7 (.cells (ints (colsOf (onK s p node k) x.req q.2)) 30 (0, 0)), .blk b6 (.cells (ints [0, 0, 0, 0, 0]) 30 (0, 0))]) (fun q => [(1, .slice a p.length c), (2, .int .i64 node), (3, .pointer (some pa)), (6, .pointer (some ⟨b6, 0, none⟩)), (7, .pointer (some ⟨b7, 0, none⟩)), (8, .int .i64 k), (9, .int .i64 q.2)]) (fun q => S0.le q.1 ∧ q.2 ≤ 5) (fun q => 5 - q.2) (S1, 0) ⟨hl1, Nat.zero_le _⟩ (by dsimp only; rw [colsOf_zero _ x.req []]) rfl (by exact sba) ?_
      rintro ⟨S2, j⟩ ⟨hl2, hj⟩
      dsimp only at hl2 hj ⊢
      rcases Nat.lt_or_ge j 5 with hj' | hj'
      · have e1 : decide ((j : Int) < 5) = true := by simp; omega
        have e2 : decide (n = node) = true := by simp [hnode]
        obtain ⟨z, hz⟩ : ∃ z, x.req[j]? = some z := ⟨_, List.getElem?_eq_getElem (by omega)⟩
        have hub := used_bound hok p node k j hj'
        have hub2 := used_bound hok p node (k + 1) j hj'
        have hatz := at0_some hz
        rw [hst] at hub2
        simp only [List.map_append, List.sum_append, List.map_cons, List.map_nil, List.sum_cons, List.sum_nil, hatz] at hub2
        unfold Qty at hub hub2
        repeat (first | (refine Walk ?_; intros) | refine JC.block ?_)
        refine JO.guard rfl rfl rfl rfl (fun g1 => ?_) (fun g1 => ?_)
        · repeat (first | (refine Walk ?_; intros) | refine JC.block ?_)
          refine JC.cond rfl (fun g2 => ?_) (fun g2 => ?_)
          · repeat (first | (refine Walk ?_; intros) | refine JC.block ?_)
            refine JC.drawT [0, 1, 2, 3, 4, 5, 6, 7, 8, 9, 10, 11, 12, 13, 14] [0, 1, 2, 3, 4, 5, 6, 7, 8, 9, 10, 11, 12, 13] [b7] Tryz_mixed (by decide +kernel) (by simp [MEnt.own]) ?_
            repeat (first | (refine Walk ?_; intros) | refine JC.block ?_)
            refine JO.pure rfl rfl rfl (JPure.indexBI rfl rfl rfl (by omega) (by omega) ?_)
            refine JO.pure rfl rfl rfl (JPure.loadMI rfl (by (first | exact List.mem_cons_self | exact List.mem_cons_of_mem _ List.mem_cons_self | exact List.mem_cons_of_mem _ (List.mem_cons_of_mem _ List.mem_cons_self))) (colsOf_at _ _ j hj') (by unfold Rng; omega) (.inl rfl) rfl ?_)
            repeat (first | (refine Walk ?_; intros) | refine JC.block ?_)
            refine JO.pure rfl rfl rfl (JPure.indexBI rfl rfl rfl (by omega) (by omega) ?_)
            refine JO.eff rfl rfl rfl (JEff.storeI (i := j) rfl rfl (by unfold Rng; omega) (List.Perm.refl _) (by rw [colsOf_len]; omega) (by intro l hl; cases hl; exact List.mem_cons_self) ?_)
            repeat (first | (refine Walk ?_; intros) | refine JC.block ?_)
            exact JX.round (_, j + 1) ⟨by exact lea, hj'⟩ (by dsimp only; omega) rfl (by dsimp only; rw [← colsOf_set _ _ j hj', hatz]) (by exact sba)
          · rw [e2] at g2; cases g2
        · rw [e1] at g1; cases g1
      · obtain rfl : j = 5 := by omega
        rw [colsOf_full _ _ [], ← hst]
        repeat (first | (refine Walk ?_; intros) | refine JC.block ?_)
        exact JX.round (_, k + 1) ⟨by exact lea, hk'⟩ (by dsimp only; omega) rfl rfl (by exact sba)
    · rw [if_neg hnode, List.append_nil] at hst
      refine JC.loop (σ := SHeap) (fun q => q) (fun q => [.blk b7 (.cells (ints (colsOf (onK s p node k) [] 0)) 30 (0, 0)), .blk b6 (.cells (ints [0, 0, 0, 0, 0]) 30 (0, 0))]) (fun q => [(1, .slice a p.length c), (2, .int .i64 node), (3, .pointer (some pa)), (6, .pointer (some ⟨b6, 0, none⟩)), (7, .pointer (some ⟨b7, 0, none⟩)), (8, .int .i64 k), (9, .int .i64 0)]) (fun q => S0.le q) (fun q => 0) S1 hl1 rfl rfl (by exact sba) ?_
      intro S2 hl2
      have e2 : decide (n = node) = false := by simp [hnode]
      repeat (first | (refine Walk ?_; intros) | refine JC.block ?_)
      refine JC.cond rfl (fun g2 => ?_) (fun g2 => ?_)
      · rw [e2] at g2; cases g2
      · repeat (first | (refine Walk ?_; intros) | refine JC.block ?_)
        exact JX.round (_, k + 1) ⟨by exact lea, hk'⟩ (by dsimp only; omega) rfl (by dsimp only; rw [hst]) (by exact sba)
  · have hk' := dnlt hc
    obtain rfl : k = p.length := by omega
    rw [onK_all hlen]
    have hfin : colsOf (onN s p node) [] 0 = usedV s p node := by simp [colsOf, usedV]
    have hrng : ∀ z ∈ usedV s p node, Rng z := by
      intro z hz
      obtain ⟨j, hj, rfl⟩ := List.mem_map.1 hz
      have := used_bound hok p node p.length j (by simpa using hj)
      rw [onK_all hlen] at this
      unfold Qty at this; unfold Rng; omega
    rw [hfin]
    repeat (first | (refine Walk ?_; intros) | refine JC.block ?_)
    refine JO.pure rfl rfl rfl (JPure.loadMA (n := 5) rfl (by (first | exact List.mem_cons_self | exact List.mem_cons_of_mem _ List.mem_cons_self | exact List.mem_cons_of_mem _ (List.mem_cons_of_mem _ List.mem_cons_self))) (by simp [usedV]) hrng (.inl rfl) rfl ?_)
    refine JO.eff rfl rfl rfl (JEff.storeA (n := 5) (xs := [0, 0, 0, 0, 0]) rfl rfl (by simp [usedV]) hrng (List.Perm.swap _ _ _) rfl (by intro l hl; cases hl) ?_)
    repeat (first | (refine Walk ?_; intros) | refine JC.block ?_)
    refine JX.ret1 Tryz.results95 (ResV.cellA (n := 5) rfl (by (first | exact List.mem_cons_self | exact List.mem_cons_of_mem _ List.mem_cons_self | exact List.mem_cons_of_mem _ (List.mem_cons_of_mem _ List.mem_cons_self))) (by simp [usedV])) (List.nil_sublist _) ?_
    exact ⟨rfl, rfl⟩
end Go.Dr
namespace Go.Dr
open Go.Proofs
set_option maxRecDepth 20000
set_option maxHeartbeats 2000000
set_option linter.unusedSimpArgs false
set_option linter.unusedVariables false
theorem p7_on {S : SHeap} {u v : Value} {s : Snap} {p : List Int} (node : Int) (hu : rSnap.V S u s) (hv : (rSlice 8 rI64).V S v p) (hr : Rng node) (hlen : p.length = s.pods.length) (hb : p.length ≤ 1000000) :
    FnR Tryz.prog 94 #[u, v, .int .i64 node] S (fun w S' => ∃ lb, w = .func (.func 139) #[] lb ∧ Iter Tryz.prog 139 lb rPod S' (onN s p node)) := by
  have hn : rI64.V S (.int .i64 node) node := V_i64.2 ⟨rfl, hr⟩
  obtain ⟨a, c, rfl, _⟩ := V_slice.1 hv
  (refine Fn.enter (args := [u, .slice a p.length c, .int .i64 node]) Tryz.func94 rfl Tryz.ntmps94 rfl ?_; intro w0)
  repeat (first | (refine Walk ?_; intros) | refine JC.block ?_ | (refine WBox ?_; intros))
  (refine JX.ret1 Tryz.results94 (ResV.tmp rfl) (List.nil_sublist _) ?_)
  exact ⟨rfl, _, rfl, p7_on1 hlen (by exact pta) (by exact pta) (by exact pta) hb⟩
theorem p7_owned {S : SHeap} {u v : Value} {s : Snap} {p : List Int} (o : Nat) (hu : rSnap.V S u s) (hv : (rSlice 8 rI64).V S v p) (ho : o < s.owners.length) (hos : s.owners.length ≤ 1000000) (hlen : p.length = s.pods.length) (hb : p.length ≤ 1000000) (hrg : ∀ x ∈ p, Rng x) :
    FnR Tryz.prog 177 #[u, v, .int .i64 o] S (fun w S' => ∃ lb, w = .func (.func 225) #[] lb ∧ Iter Tryz.prog 225 lb rI64 S' (ownedL s p o)) := by
  have hn : rI64.V S (.int .i64 (o : Int)) (o : Int) := V_i64.2 ⟨rfl, by unfold Rng; omega⟩
  obtain ⟨a, c, rfl, _⟩ := V_slice.1 hv
  (refine Fn.enter (args := [u, .slice a p.length c, .int .i64 o]) Tryz.func177 rfl Tryz.ntmps177 rfl ?_; intro w0)
  repeat (first | (refine Walk ?_; intros) | refine JC.block ?_ | (refine WBox ?_; intros))
  (refine JX.ret1 Tryz.results177 (ResV.tmp rfl) (List.nil_sublist _) ?_)
  exact ⟨rfl, _, rfl, p7_owned1 hlen ho (by exact pta) (by exact pta) (by exact pta) hb hrg⟩
theorem owned_len (s : Snap) (p : List Int) (o : Nat) : (ownedL s p o).length ≤ p.length := by
  unfold ownedL
  rw [List.length_map]
  refine Nat.le_trans (List.length_filter_le _ _) ?_
  rw [List.length_zip]
  exact Nat.min_le_left _ _
theorem ResV.cellI {C : Cx} {S : SHeap} {M : List MEnt} {e : Env} {p b : Nat} {T t : TypeId} {fr : Nat × Nat} {n : Int} (h : Env.get? e p = some (.pointer (some ⟨b, 0, none⟩))) (hM : MEnt.blk b (.cells (ints [n]) t fr) ∈ M) [ht : TyR C.P T rI64] : ResV C S M e (.cell p T) (.int .i64 n) :=
  ResV.cellM (rep := rI64) (mid := [.int .i64 n]) h hM rfl rfl
theorem placed_hyps {s : Snap} {p : List Int} (h : checkP s p = 0) : checkS s = 0 ∧ p.length = s.pods.length ∧ p.length ≤ 24 ∧ s.nodes.length ≤ 8 ∧ s.owners.length ≤ 8 ∧ (∀ x ∈ p, -1 ≤ x ∧ x < s.nodes.length) ∧ ∀ x ∈ p, Rng x := by
  obtain ⟨h1, h2, h3⟩ := checkP_ok h
  obtain ⟨h4, h5, h6⟩ := shaped_small (checkS_ok h1).1
  have h7 : ∀ x ∈ p, -1 ≤ x ∧ x < s.nodes.length := by
    intro x hx
    have := h3 x hx
    simp only [oddP, Bool.or_eq_false_iff, decide_eq_false_iff_not] at this
    omega
  exact ⟨h1, h2, by omega, h4, h6, h7, fun x hx => by have := h7 x hx; unfold Rng; omega⟩
theorem s108_L7y {P K : Prop} (k : K) (h : Goal K → P := by
  intro zk
  (first | refine Walk ?_ | refine JC.block ?_ | (refine JO.eff rfl rfl rfl (JEff.callV rfl (p7_asked _ (by exact vta) (by exact vta)) rfl ?_); intro zqa zqb) | (refine WBox ?_))
  (repeat (first | revert zqg | revert zqf | revert zqe | revert zqd | revert zqc | revert zqb | revert zqa))
  exact zk.k) : P := h ⟨k⟩
theorem p7_Placed {S : SHeap} {u v : Value} {s : Snap} {p : List Int} (o : Int) (hu : rSnap.V S u s) (hv : (rSlice 8 rI64).V S v p) :
    FnV Tryz.prog 108 #[u, v, .int .i64 o] S (.int .i64 (if z0 (checkP s p) && (decide (0 ≤ o) && decide (o < s.owners.length)) then placedN s p o.toNat else 0)) := by
  obtain ⟨a, c, rfl, _⟩ := V_slice.1 hv
  (refine Fn.enterM (args := [u, .slice a p.length c, .int .i64 o]) Tryz.func108 rfl Tryz.ntmps108 rfl ?_; intro w0)
  repeat (refine s108_L7y ?_; intros)
  (refine JO.eff rfl rfl rfl (JEff.alloc rfl ?_); intro b6 hb6)
  repeat (refine s108_L7y ?_; intros)
  cases hc : (z0 (checkP s p) && (decide (0 ≤ o) && decide (o < s.owners.length))) with
  | false =>
    repeat (refine s108_L7y ?_; intros)
    refine JO.eff rfl rfl rfl (JEff.storeI (i := 0) (xs := [0]) rfl rfl (by unfold Rng; omega) (List.Perm.refl _) (by decide) (by intro l hl; cases hl) ?_)
    repeat (refine s108_L7y ?_; intros)
    refine JX.retM0 Tryz.results108 (ResV.cellI (n := 0) rfl (by (first | exact List.mem_cons_self | exact List.mem_cons_of_mem _ List.mem_cons_self | exact List.mem_cons_of_mem _ (List.mem_cons_of_mem _ List.mem_cons_self)))) (List.nil_sublist _) ?_
    exact ⟨rfl, rfl⟩
  | true =>
    have hol := owned_len s p o.toNat
    simp only [Bool.and_eq_true, decide_eq_true_eq] at hc
    obtain ⟨c1, c2, c3⟩ := hc
    obtain ⟨o, rfl⟩ := Int.eq_ofNat_of_zero_le c2
    rw [Int.toNat_natCast] at hol
    obtain ⟨h1, h2, h3, h4, h5, h6, h7⟩ := placed_hyps (s := s) (p := p) (by simpa [z0] using c1)
    repeat (refine s108_L7y ?_; intros)
    (refine JO.eff rfl rfl rfl (JEff.callR rfl ((p7_owned o (by exact vta) (by exact vta) (by omega) (by omega) h2 (by omega) h7)) rfl ?_); intro w S2 hl2 hV)
    obtain ⟨lb, rfl, hit⟩ := hV
    repeat (refine s108_L7y ?_; intros)
    refine JC.rangeFunc (rep := rI64) (xs := ownedL s p o) (fun k S' M' => M' = [.blk b6 (.cells (ints [(k : Int)]) 3 (0, 0))]) rfl rfl inferInstance rfl hit rfl ?_ ?_
    · rintro w1 B1 K L Rc k y v S' M' hR hp hl hy hv rfl
      repeat (refine s108_L7y ?_; intros)
      have hk := (List.getElem?_eq_some_iff.1 hy).1
      have hkr : Rng (k : Int) := by unfold Rng; omega
      refine JX.begin rfl hR ?_
      repeat (refine s108_L7y ?_; intros)
      refine JO.pure rfl rfl rfl (JPure.loadMI (xs := [(k : Int)]) rfl (by (first | exact List.mem_cons_self | exact List.mem_cons_of_mem _ List.mem_cons_self | exact List.mem_cons_of_mem _ (List.mem_cons_of_mem _ List.mem_cons_self))) rfl hkr (.inl rfl) rfl ?_)
      repeat (refine s108_L7y ?_; intros)
      refine JO.eff rfl rfl rfl (JEff.storeI (i := 0) (xs := [(k : Int)]) (Mr := [.blk L (.loop { Rc with state := .busy }), .blk K (.deferred (some []))]) rfl rfl (by unfold Rng; omega) (List.perm_append_comm (l₁ := [_]) (l₂ := [_, _])) (by simp) (by intro l hl; cases hl) ?_)
      repeat (refine s108_L7y ?_; intros)
      refine JX.endRound hR hp (List.perm_append_comm (l₁ := [_, _]) (l₂ := [_])) ?_
      simp
    · rintro K S' M' hl rfl
      repeat (refine s108_L7y ?_; intros)
      have hkr : Rng (((ownedL s p o).length : Nat) : Int) := by unfold Rng; omega
      refine JO.pure rfl rfl rfl (JPure.loadMI (xs := [((ownedL s p o).length : Int)]) rfl (by (first | exact List.mem_cons_self | exact List.mem_cons_of_mem _ List.mem_cons_self | exact List.mem_cons_of_mem _ (List.mem_cons_of_mem _ List.mem_cons_self))) rfl hkr (.inl rfl) rfl ?_)
      repeat (refine s108_L7y ?_; intros)
      refine JO.eff rfl rfl rfl (JEff.storeI (i := 0) (xs := [((ownedL s p o).length : Int)]) (Mr := [.blk K (.deferred (some []))]) rfl rfl hkr (List.perm_append_comm (l₁ := [_]) (l₂ := [_])) (by simp) (by intro l hl; cases hl) ?_)
      repeat (refine s108_L7y ?_; intros)
      refine JX.retM1 Tryz.results108 (List.perm_append_comm (l₁ := [_]) (l₂ := [_])) (ResV.cellI (n := ((ownedL s p o).length : Int)) rfl (by (first | exact List.mem_cons_self | exact List.mem_cons_of_mem _ List.mem_cons_self | exact List.mem_cons_of_mem _ (List.mem_cons_of_mem _ List.mem_cons_self)))) (List.nil_sublist _) ?_
      exact ⟨rfl, rfl⟩
end Go.Dr
namespace Go.Dr
open Go.Proofs
set_option maxRecDepth 20000
set_option maxHeartbeats 2000000
set_option linter.unusedSimpArgs false
set_option linter.unusedVariables false
theorem onT_bound {s : Snap} {p : List Int} (h : checkS s = 0) (hl : p.length = s.pods.length) (node : Int) (k j : Nat) (hj : j < 5) :
    0 ≤ (((onN s p node).take k).map (fun y => at0 y.req j)).sum ∧ (((onN s p node).take k).map (fun y => at0 y.req j)).sum ≤ Qty := by
  obtain ⟨_, _, h3⟩ := checkS_ok h
  obtain ⟨h4, h5⟩ := plus_ok h3 j hj
  have hnn : ∀ x ∈ s.pods, 0 ≤ at0 x.req j := by
    intro x hx
    rw [List.any_eq_false] at h4
    have := h4 (at0 x.req j) (by simp only [reqs, List.map_map, List.mem_map]; exact ⟨x, hx, rfl⟩)
    simpa [negB] using this
  have hsub : ((onN s p node).take k).Sublist s.pods := by
    rw [← onK_all hl]
    exact (List.take_sublist _ _).trans (onK_sub s p node p.length)
  have h6 := filt_sum (f := fun y => at0 y.req j) hnn hsub
  have h7 : (s.pods.map (fun y => at0 y.req j)).sum ≤ Qty := by
    simpa [reqs, List.map_map, Function.comp_def] using h5
  omega
def usedP (s : Snap) (p : List Int) (node : Int) : List Int := if z0 (checkP s p) && (decide (0 ≤ node) && decide (node < s.nodes.length)) then usedV s p node else [0, 0, 0, 0, 0]
theorem s54_L7z {P K : Prop} (k : K) (h : Goal K → P := by
  intro zk
  (first | refine Walk ?_ | refine JC.block ?_ | (refine JO.eff rfl rfl rfl (JEff.callV rfl (p7_Check (by exact vta) (by exact vta)) rfl ?_); intro zqa zqb) | (refine JO.eff rfl rfl rfl (JEff.callV rfl (p7_there _ _) rfl ?_); intro zqa zqb) | (refine WBox ?_))
  (repeat (first | revert zqg | revert zqf | revert zqe | revert zqd | revert zqc | revert zqb | revert zqa))
  exact zk.k) : P := h ⟨k⟩
theorem p7_Used {S : SHeap} {u v : Value} {s : Snap} {p : List Int} (node : Int) (hu : rSnap.V S u s) (hv : (rSlice 8 rI64).V S v p) :
    FnV Tryz.prog 54 #[u, v, .int .i64 node] S (.agg (ints (usedP s p node))) := by
  obtain ⟨a, c, rfl, _⟩ := V_slice.1 hv
  (refine Fn.enterM (args := [u, .slice a p.length c, .int .i64 node]) Tryz.func54 rfl Tryz.ntmps54 rfl ?_; intro w0)
  repeat (refine s54_L7z ?_; intros)
  (refine JO.eff rfl rfl rfl (JEff.alloc rfl ?_); intro b6 hb6)
  repeat (refine s54_L7z ?_; intros)
  cases g1 : decide (checkP s p = 0) with
  | false =>
    refine JO.guard rfl rfl rfl rfl (fun _ => ?_) (fun g => Bool.noConfusion (g.symm.trans rfl))
    repeat (refine s54_L7z ?_; intros)
    refine JO.eff rfl rfl rfl (JEff.storeA (n := 5) (xs := [0, 0, 0, 0, 0]) (ys := [0, 0, 0, 0, 0]) rfl rfl rfl (by intro z hz; simp at hz; subst hz; unfold Rng; omega) (List.Perm.refl _) rfl (by intro l hl; cases hl) ?_)
    repeat (refine s54_L7z ?_; intros)
    refine JX.retM0 Tryz.results54 (ResV.cellA (n := 5) (xs := [0, 0, 0, 0, 0]) rfl (by (first | exact List.mem_cons_self | exact List.mem_cons_of_mem _ List.mem_cons_self | exact List.mem_cons_of_mem _ (List.mem_cons_of_mem _ List.mem_cons_self))) rfl) (List.nil_sublist _) ?_
    exact ⟨rfl, by rw [usedP, z0, g1]; rfl⟩
  | true =>
    refine JO.guard rfl rfl rfl rfl (fun g => Bool.noConfusion (g.symm.trans rfl)) (fun _ => ?_)
    repeat (refine s54_L7z ?_; intros)
    cases g2 : (decide (0 ≤ node) && decide (node < s.nodes.length)) with
    | false =>
      repeat (refine s54_L7z ?_; intros)
      refine JO.eff rfl rfl rfl (JEff.storeA (n := 5) (xs := [0, 0, 0, 0, 0]) (ys := [0, 0, 0, 0, 0]) rfl rfl rfl (by intro z hz; simp at hz; subst hz; unfold Rng; omega) (List.Perm.refl _) rfl (by intro l hl; cases hl) ?_)
      repeat (refine s54_L7z ?_; intros)
      refine JX.retM0 Tryz.results54 (ResV.cellA (n := 5) (xs := [0, 0, 0, 0, 0]) rfl (by (first | exact List.mem_cons_self | exact List.mem_cons_of_mem _ List.mem_cons_self | exact List.mem_cons_of_mem _ (List.mem_cons_of_mem _ List.mem_cons_self))) rfl) (List.nil_sublist _) ?_
      exact ⟨rfl, by rw [usedP, z0, g1, g2]; rfl⟩
    | true =>
      have hus : usedP s p node = usedV s p node := by rw [usedP, z0, g1, g2]; rfl
      rw [hus]
      obtain ⟨h1, h2, h3, h4, h5, h6, h7⟩ := placed_hyps (s := s) (p := p) (of_decide_eq_true g1)
      simp only [Bool.and_eq_true, decide_eq_true_eq] at g2
      repeat (refine s54_L7z ?_; intros)
      (refine JO.eff rfl rfl rfl (JEff.callR rfl ((p7_on node (by exact vta) (by exact vta) (by unfold Rng; omega) h2 (by omega))) rfl ?_); intro w S2 hl2 hV)
      obtain ⟨lb, rfl, hit⟩ := hV
      repeat (refine s54_L7z ?_; intros)
      refine JC.rangeFunc (rep := rPod) (xs := onN s p node) (fun k S' M' => M' = [.blk b6 (.cells (ints (colsOf ((onN s p node).take k) [] 0)) 30 (0, 0))]) rfl rfl inferInstance rfl hit rfl ?_ ?_
      · rintro w1 B1 K L Rc k y v S' M' hR hp hl hy hv rfl
        repeat (refine s54_L7z ?_; intros)
        (refine JO.eff rfl rfl rfl (JEff.alloc rfl ?_); intro b7 hb7); (repeat (first | (refine Walk ?_; intros) | refine JC.block ?_)); (refine JO.eff rfl rfl rfl (JEff.storeW rfl rfl (by exact vta) nna pma rfl (by intro l hl; cases hl) ?_)); (refine JO.freezeV (by exact vta) nna hb7 (by intro l hl; cases hl) ?_; intro S3 l3 hp7)
        repeat (refine s54_L7z ?_; intros)
        refine JX.begin rfl hR ?_
        repeat (refine s54_L7z ?_; intros)
        obtain ⟨hk, hky⟩ := List.getElem?_eq_some_iff.1 hy
        have htk : (onN s p node).take (k + 1) = (onN s p node).take k ++ [y] := by rw [List.take_add_one, hy]; rfl
        have hyl := (V_arr.1 (pod_req hv)).2
        obtain ⟨rfl, _, _⟩ := V_arr.1 ‹(rArr 5).V _ _ y.req›
        refine JC.loopF [(6, _), (29, _)] (fun (j : Nat) => [(30, .int .i64 j)]) (fun j => [.blk L (.loop { Rc with state := .busy }), .blk K (.deferred (some [])), .blk b6 (.cells (ints (colsOf ((onN s p node).take k) y.req j)) 30 (0, 0))]) (fun Sj j => j ≤ 5 ∧ (True)) (fun j => 5 - j) 0 (by exact sba) (by exact sba) rfl ⟨Nat.zero_le _, trivial⟩ ?_; intro Sj j hlj hij; obtain ⟨hj, hij⟩ := hij; (try dsimp only at hj hij); dsimp only [List.cons_append, List.nil_append]
        repeat (refine s54_L7z ?_; intros)
        refine JC.cond rfl (fun hc => ?_) (fun hc => ?_)
        · have hj' := dlt5 hc
          obtain ⟨z, hz⟩ : ∃ z, y.req[j]? = some z := ⟨_, List.getElem?_eq_getElem (by omega)⟩
          have hatz := at0_some hz
          have hub := onT_bound h1 h2 node k j hj'
          have hub2 := onT_bound h1 h2 node (k + 1) j hj'
          rw [htk] at hub2
          simp only [List.map_append, List.sum_append, List.map_cons, List.map_nil, List.sum_cons, List.sum_nil, hatz] at hub2
          unfold Qty at hub hub2
          repeat (refine s54_L7z ?_; intros)
          refine JO.pure rfl rfl rfl (JPure.indexV rfl rfl rfl (by omega) hyl.1 (by simpa using hz) ?_)
          repeat (refine s54_L7z ?_; intros)
          refine JO.pure rfl rfl rfl (JPure.indexBI rfl rfl rfl (by omega) (by omega) ?_)
          refine JO.pure rfl rfl rfl (JPure.loadMI rfl (by (first | exact List.mem_cons_self | exact List.mem_cons_of_mem _ List.mem_cons_self | exact List.mem_cons_of_mem _ (List.mem_cons_of_mem _ List.mem_cons_self))) (colsOf_at _ _ j hj') (by unfold Rng; omega) (.inl rfl) rfl ?_)
          repeat (refine s54_L7z ?_; intros)
          refine JO.pure rfl rfl rfl (JPure.indexBI rfl rfl rfl (by omega) (by omega) ?_)
          refine JO.eff rfl rfl rfl (JEff.storeI (i := j) (Mr := [.blk L (.loop { Rc with state := .busy }), .blk K (.deferred (some []))]) rfl rfl (by unfold Rng; omega) (List.perm_append_comm (l₁ := [_]) (l₂ := [_, _])) (by rw [colsOf_len]; omega) (by intro l hl; cases hl) ?_)
          rw [← hatz, colsOf_set _ _ j hj', hatz]
          repeat (refine s54_L7z ?_; intros)
          refine JX.perm (List.perm_append_comm (l₁ := [_, _]) (l₂ := [_])) ?_
          exact JX.roundF (j + 1) (by exact lea) ⟨by omega, (trivial)⟩ (by (try dsimp only); omega) rfl (by exact sba) (by exact sba)
        · have hj' := dnlt5 hc
          obtain rfl : j = 5 := by omega
          rw [colsOf_full _ _ [], ← htk]
          repeat (refine s54_L7z ?_; intros)
          refine JX.endRound hR hp (List.Perm.refl _) ?_
          rfl
      · rintro K S' M' hl rfl
        have hfin : colsOf ((onN s p node).take (onN s p node).length) [] 0 = usedV s p node := by rw [List.take_length]; simp [colsOf, usedV]
        have hrng : ∀ z ∈ usedV s p node, Rng z := by
          intro z hz
          obtain ⟨j, hj, rfl⟩ := List.mem_map.1 hz
          have := onT_bound h1 h2 node (onN s p node).length j (by simpa using hj)
          rw [List.take_length] at this
          unfold Qty at this; unfold Rng; omega
        rw [hfin]
        repeat (refine s54_L7z ?_; intros)
        refine JO.pure rfl rfl rfl (JPure.loadMA (n := 5) rfl (by (first | exact List.mem_cons_self | exact List.mem_cons_of_mem _ List.mem_cons_self | exact List.mem_cons_of_mem _ (List.mem_cons_of_mem _ List.mem_cons_self))) (by simp [usedV]) hrng (.inl rfl) rfl ?_)
        refine JO.eff rfl rfl rfl (JEff.storeA (n := 5) (Mr := [.blk K (.deferred (some []))]) rfl rfl (by simp [usedV]) hrng (List.Perm.swap _ _ _) (by simp [usedV]) (by intro l hl; cases hl) ?_)
        repeat (refine s54_L7z ?_; intros)
        refine JX.retM1 Tryz.results54 (List.Perm.swap _ _ _) (ResV.cellA (n := 5) rfl (by (first | exact List.mem_cons_self | exact List.mem_cons_of_mem _ List.mem_cons_self | exact List.mem_cons_of_mem _ (List.mem_cons_of_mem _ List.mem_cons_self))) (by simp [usedV])) (List.nil_sublist _) ?_
        exact ⟨rfl, rfl⟩
end Go.Dr
namespace Go.Dr
open Go.Proofs
set_option maxRecDepth 20000
set_option maxHeartbeats 2000000
set_option linter.unusedSimpArgs false
set_option linter.unusedVariables false
theorem nd_more {l : List Nat} {n : Nat} (hn : l.Nodup) (hb : ∀ i ∈ l, i < n) : ∃ t, (l ++ t).Perm (List.range n) := by
  refine ⟨(List.range n).filter (fun i => !decide (i ∈ l)), ?_⟩
  have h1 : (l ++ (List.range n).filter (fun i => !decide (i ∈ l))).Nodup := by
    rw [List.nodup_append]
    refine ⟨hn, List.nodup_range.filter _, ?_⟩
    intro a ha b hb he
    subst he
    simp at hb
    exact hb.2 ha
  rw [List.perm_ext_iff_of_nodup h1 List.nodup_range]
  intro a
  by_cases ha : a ∈ l
  · simp [ha, hb a ha]
  · simp [ha]
theorem nd_len {l : List Nat} {n : Nat} (hn : l.Nodup) (hb : ∀ i ∈ l, i < n) : l.length ≤ n := by
  obtain ⟨t, ht⟩ := nd_more hn hb
  have := ht.length_eq
  simp at this
  omega
def keyAt (l : List (ByteArray × Value)) (i : Nat) : ByteArray := ((l[i]?).map Prod.fst).getD noS
theorem keyAt_range (l : List (ByteArray × Value)) : (List.range l.length).map (keyAt l) = l.map Prod.fst := by
  apply List.ext_getElem?
  intro i
  rw [List.getElem?_map, List.getElem?_map]
  by_cases hi : i < l.length
  · rw [List.getElem?_range hi]
    simp [keyAt, List.getElem?_eq_getElem hi]
  · rw [List.getElem?_eq_none (by simpa using hi), List.getElem?_eq_none (by omega)]
    rfl
theorem p_Keys1 {S : SHeap} {b : Nat} {l : List (ByteArray × Value)} {q : Addr} (hq : PtrTo S q rVal (.map (some b))) (hS : S b = some (mapObj l)) (hk : ∀ p ∈ l, p.1.size ≤ big) :
    IterS Tryz.prog 255 #[.pointer (some q)] rStr S (fun xs => xs.Perm (l.map Prod.fst)) := by
  intro L J S1 M1 hl h0 hy
  have hq1 := hq.mono hl
  have hS1 := hl _ _ hS
  clear hq hS
  rw [show (#[.func (.yield L) #[] #[]] ++ #[.pointer (some q)] : Array Value) = #[.func (.yield L) #[] #[], .pointer (some q)] from rfl]
  (refine Fn.enter (args := [.func (.yield L) #[] #[], .pointer (some q)]) Tryz.func255 rfl Tryz.ntmps255 rfl ?_; intro w0)
  repeat (first | (refine Walk ?_; intros) | refine JC.block ?_)
  refine JO.eff rfl rfl rfl (JEff.rangeM rfl hS1 rfl ?_); intro r hr
  repeat (first | (refine Walk ?_; intros) | refine JC.block ?_)
  refine JC.loopF (σ := Array Nat × List MEnt) [(0, _), (5, _)] (fun q => []) (fun q => .blk r (.mapIter (some b) l.length q.1 l.length) :: q.2) (fun Si q => q.1.toList.Nodup ∧ (∀ j ∈ q.1.toList, j < l.length) ∧ J (q.1.toList.map (keyAt l)) Si q.2) (fun q => l.length - q.1.size) ((#[], M1)) (by exact sba) (by exact sba) rfl (⟨List.nodup_nil, (by intro j hj; cases hj), h0⟩) ?_; rintro Si ⟨seen, Mi⟩ hli hii; (try dsimp only at hii); dsimp only [List.cons_append, List.nil_append]
  obtain ⟨hi1, hi2, hi3⟩ := hii
  have hSi := hli _ _ hS1
  have hlen := nd_len hi1 hi2
  repeat (first | (refine Walk ?_; intros) | refine JC.block ?_)
  refine JO.eff rfl rfl rfl (JEff.nextM rfl hSi (List.Perm.refl _) (by intro l hl; cases hl) rfl (fun j p hj hjn => ?_) (fun hall => ?_))
  · have hjl := (List.getElem?_eq_some_iff.1 hj).1
    have hn2 : (seen.toList ++ [j]).Nodup := by
      rw [List.nodup_append]
      refine ⟨hi1, by simp, ?_⟩
      intro a ha c hc he
      simp at hc
      subst hc; subst he
      exact hjn (by simpa using ha)
    have hb2 : ∀ i ∈ seen.toList ++ [j], i < l.length := by
      intro i hi
      rcases List.mem_append.1 hi with h | h
      · exact hi2 i h
      · simp at h; subst h; exact hjl
    have hlen2 := nd_len hn2 hb2
    have hsz : (seen.push j).size = seen.size + 1 := by simp
    have hsl : seen.size + 1 ≤ l.length := by simpa using hlen2
    have hkj : keyAt l j = p.1 := by simp [keyAt, hj]
    have hpk := hk p (List.mem_of_getElem? hj)
    obtain ⟨t, ht⟩ := nd_more hn2 hb2
    repeat (first | (refine Walk ?_; intros) | refine JC.block ?_)
    refine JO.eff rfl rfl rfl (JEff.entryM rfl hSi (by (first | exact List.mem_cons_self | exact List.mem_cons_of_mem _ List.mem_cons_self | exact List.mem_cons_of_mem _ (List.mem_cons_of_mem _ List.mem_cons_self))) hj rfl ?_)
    repeat (first | (refine Walk ?_; intros) | refine JC.block ?_)
    have hpre : ∃ xs : List ByteArray, xs.Perm (l.map Prod.fst) ∧ seen.toList.map (keyAt l) ++ [p.1] <+: xs := by
      refine ⟨(seen.toList ++ [j] ++ t).map (keyAt l), ?_, ?_⟩
      · rw [← keyAt_range]; exact ht.map _
      · rw [List.map_append, List.map_append, List.map_singleton, hkj]; exact List.prefix_append _ _
    refine JO.eff rfl rfl rfl (JEff.yield (Mc := Mi) (Mr := [.blk r (.mapIter (some b) l.length (seen.push j) l.length)]) rfl rfl rfl List.perm_append_comm (by intro l hl; cases hl) (hy _ p.1 _ _ _ (by exact lea) hpre (V_str.2 ⟨rfl, hpk⟩) hi3) rfl ?_); intro S' M' hl' hJ'
    repeat (first | (refine Walk ?_; intros) | refine JC.block ?_)
    refine JX.perm List.perm_append_comm ?_
    exact JX.roundF (seen.push j, M') (by exact lea) (⟨by simpa using hn2, by simpa using hb2, by simpa [hkj] using hJ'⟩) (by (try dsimp only); omega) rfl (by exact sba) (by exact sba)
  · repeat (first | (refine Walk ?_; intros) | refine JC.block ?_)
    refine JX.end0 Tryz.results255 (List.sublist_cons_self _ _) ?_
    refine ⟨_, ?_, hi3⟩
    rw [← keyAt_range]
    refine List.Perm.map _ ((List.perm_ext_iff_of_nodup hi1 List.nodup_range).2 (fun a => ⟨fun h => by simpa using hi2 a h, fun h => by simpa using hall a (by simpa using h)⟩))
theorem p_Keys {S : SHeap} {b : Nat} {l : List (ByteArray × Value)} (hS : S b = some (mapObj l)) (hk : ∀ p ∈ l, p.1.size ≤ big) :
    FnR Tryz.prog 227 #[.map (some b)] S (fun w S' => ∃ lb, w = .func (.func 255) #[] lb ∧ IterS Tryz.prog 255 lb rStr S' (fun xs => xs.Perm (l.map Prod.fst))) := by
  (refine Fn.enter (args := [.map (some b)]) Tryz.func227 rfl Tryz.ntmps227 rfl ?_; intro w0)
  repeat (first | (refine Walk ?_; intros) | refine JC.block ?_ | (refine WBox ?_; intros))
  (refine JX.ret1 Tryz.results227 (ResV.tmp rfl) (List.nil_sublist _) ?_)
  exact ⟨rfl, _, rfl, p_Keys1 (by exact pta) (by first | exact hS | exact (by assumption : SHeap.le _ _) _ _ hS) hk⟩
end Go.Dr
namespace Go.Dr
open Go.RowKit
set_option linter.unusedSimpArgs false
set_option linter.unusedVariables false
theorem Wd.rowTurnB {B : Nat} {w0 w w' : World} {B0 : List Nat} {S0 S : SHeap} {M : List MEnt} {e : TypeId} {sz : Nat} {v v' : Value} {n n' : Nat} {xs xs' : List Value} (h : Wd w0 B0 S0 S (.row B e sz v n xs :: M) w)
    (hg : w.grownBy w' v.ownBlock) (hd : w.drawn ≤ w'.drawn) (hr : w'.ownsRow B e sz v' n' xs') (ho : v'.ownBlock = v.ownBlock ∨ v'.ownBlock = some w.heap.size) : Wd w0 B0 S0 S (.row B e sz v' n' xs' :: M) w' where
  os := hg.os.trans h.os
  tape := hg.tape.trans h.tape
  output := hg.output.trans h.output
  size := Nat.le_trans h.size hg.size
  drawn := Nat.le_trans h.drawn hd
  keep := fun k hk hb => by
    refine (hg.block k (Nat.lt_of_lt_of_le hk h.size) fun e1 => ?_).trans (h.keep k hk hb)
    rcases (h.out (.row B e sz v n xs) (by simp) k e1.symm).2 with h1 | h1
    · omega
    · exact hb h1
  le := h.le
  new := h.new
  agree := fun k o hk => by
    have h1 := h.agree k o hk
    rw [hg.block k (Array.getElem?_eq_some_iff.1 h1).1 fun e1 => ?_]
    · exact h1
    · have := (h.out (.row B e sz v n xs) (by simp) k e1.symm).1
      rw [this] at hk; cases hk
  ok := fun m hm => by
    rcases List.mem_cons.1 hm with rfl | hm
    · exact hr
    · have h1 := h.ok m (List.mem_cons_of_mem _ hm)
      exact h1.keep fun k hk => hg.block k (h1.lt k hk) fun e1 => (List.pairwise_cons.1 h.sep).1 m hm k e1.symm hk
  sep := List.pairwise_cons.2 ⟨fun m hm k hk hk' => by
    rcases ho with ho | ho
    · exact (List.pairwise_cons.1 h.sep).1 m hm k ((show v.ownBlock = some k from ho.symm.trans hk)) hk'
    · have h1 := (h.ok m (List.mem_cons_of_mem _ hm)).lt k hk'
      have h2 : some w.heap.size = some k := ho.symm.trans hk
      cases h2; omega, (List.pairwise_cons.1 h.sep).2⟩
  out := fun m hm k hk => by
    rcases List.mem_cons.1 hm with rfl | hm
    · rcases ho with ho | ho
      · exact h.out (.row B e sz v n xs) (by simp) k ((show v.ownBlock = some k from ho.symm.trans hk))
      · have h2 : some w.heap.size = some k := ho.symm.trans hk
        cases h2
        exact ⟨h.fresh, .inl h.size⟩
    · exact h.out m (List.mem_cons_of_mem _ hm) k hk
section
variable {C : Cx} {R : Rg} {Q : Post} {S S' S1 : SHeap} {M M' : List MEnt} {e e' : Env} {rest : List Nat}
variable {d : Nat} {ty : TypeId} {pos : String} {aft : Array Edge} {g : Option (Nat × Bool)}
theorem JEff.appendLB {B : Nat} {α : Type} {T E : TypeId} {x y : Operand} {b n m bt : Nat} {v : Value} {xs : List Value} {cs : Array Value} {fr : Nat × Nat} {rep : Rp α} {z : Value} {Mr : List MEnt} (hB : B ≤ C.w0.heap.size) (hx : ev e x = some v) (hy : ev e y = some (.slice (some ⟨b, 0, none⟩) m m))
    [hu : Und C.P T (.slice E)] [ht : TyR C.P E rep] [hz : Zero C.P E z] (hzs : z.cells.size = rep.sz) [hby : Byt C.P E bt] (hsz : Nat.ble 1 rep.sz = true)
    (hM : (MEnt.row B E rep.sz v n xs :: .blk b (.cells cs E fr) :: Mr).Perm M) (hcs : cs.size = m * rep.sz) (h1 : ∀ c ∈ cs.toList, c.oneCell' = true) (hbig : (n + m) * bt ≤ big) (hbig1 : n + m ≤ big)
    (hT : ∀ l, R.T = some l → ∀ b, v.ownBlock = some b → b ∈ l) (hdN : Nat.blt d C.N = true)
    (k : ∀ a c, JO C R rest Q S (.row B E rep.sz (.slice a (n + m) c) (n + m) (xs ++ cs.toList) :: Mr) ((d, .slice a (n + m) c) :: e)) :
    JEff C R ⟨some d, .call { callee := .builtin .append, args := #[x, y], argTypes := #[T, T] }, ty, pos, aft, g⟩ rest Q S M e :=
  JEff.ofRun rfl rfl hdN fun a w hw => by
    have hwd := hw.wd.perm hM
    have hrow : w.ownsRow B E rep.sz v n xs := hwd.ok (.row B E rep.sz v n xs) (by simp)
    have hblk : w.heap[b]? = some (.cells cs E fr) := hwd.ok (.blk b (.cells cs E fr)) (by simp)
    obtain ⟨i, hi, hsi⟩ := ht.i
    obtain ⟨i', hi', hz'⟩ := Option.map_eq_some_iff.1 hz.h
    have e1 : i = i' := by rw [hi] at hi'; exact Option.some.inj hi'
    subst e1
    have hbt : i.bytes = bt := by have hby := hby.h; rw [hi] at hby; simpa using hby
    obtain ⟨v', w', hrun, hown, hg, _, ho, hdr⟩ := run_append_d (P := C.P) w B T ty E i z rep.sz bt hu.h hi hz' hsi hbt hzs (Nat.le_of_ble_eq_true hsz) v n xs hrow ⟨b, 0, none⟩ m m cs.toList (by simpa using hcs)
      (fun j u hj => by rw [add_plain]; simp only [World.cell?, hblk]; simpa using hj) h1 (by unfold big at hbig1; simp only [maxLen]; omega) hbig (Nat.le_trans hB hwd.size)
    obtain ⟨a', c', rfl⟩ := ownsRow_form hown
    refine ⟨_, w', ?_, subX_grown hg hT, hg.size, S, _, (hwd.rowTurnB hg hdr hown ho).sub (List.Sublist.cons_cons _ (List.sublist_cons_self _ _)), SHeap.le.refl _, k a' c'⟩
    simp only [execOp, resolve, invoke, builtin, Sem.run_bind, Sem.run_pure, Result.andThen_ok, List.map_toArray, List.map_cons, List.map_nil, hw.env.eval hx, hw.env.eval hy, hrun]
theorem Wd.rowBase {w0 w : World} {B0 : List Nat} {S0 S : SHeap} {M : List MEnt} {B B' E sz n : Nat} {v : Value} {xs : List Value} (h : Wd w0 B0 S0 S (.row B E sz v n xs :: M) w) (hb : B' ≤ B) : Wd w0 B0 S0 S (.row B' E sz v n xs :: M) w :=
  { h with
    ok := fun m hm => by
      rcases List.mem_cons.1 hm with rfl | hm
      · have h1 : w.ownsRow B E sz v n xs := h.ok (.row B E sz v n xs) (by simp)
        refine ⟨h1.1, ?_⟩
        rcases h1.2 with h2 | ⟨g, cap, cur, hv, hg, hr⟩
        · exact .inl h2
        · exact .inr ⟨g, cap, cur, hv, Nat.le_trans hb hg, hr⟩
      · exact h.ok m (List.mem_cons_of_mem _ hm)
    sep := List.pairwise_cons.2 ⟨fun m hm k hk => (List.pairwise_cons.1 h.sep).1 m hm k hk, (List.pairwise_cons.1 h.sep).2⟩
    out := fun m hm k hk => by
      rcases List.mem_cons.1 hm with rfl | hm
      · exact h.out (.row B E sz v n xs) (by simp) k hk
      · exact h.out m (List.mem_cons_of_mem _ hm) k hk }
theorem JC.newRow0 {c : Code} (E : TypeId) (sz : Nat) (k : JC C c Q S (.row 0 E sz (.slice none 0 0) 0 [] :: M) e) : JC C c Q S M e := ⟨fun a w hw => k.run a w ⟨hw.env, hw.defers, (hw.wd.newRow E sz).rowBase (Nat.zero_le _)⟩⟩
end
end Go.Dr
namespace Go.Dr
open Go.Proofs
set_option maxRecDepth 20000
set_option maxHeartbeats 2000000
set_option linter.unusedSimpArgs false
set_option linter.unusedVariables false
theorem p_AppendSeq {S : SHeap} {gf : FuncId} {lb : Array Value} {Sx : List ByteArray → Prop} (hE : Ent Tryz.prog gf) (hit : IterS Tryz.prog gf lb rStr S Sx) (hlen : ∀ xs, Sx xs → xs.length ≤ 1000000) :
    Fn Tryz.prog 266 #[.slice none 0 0, .func (.func gf) #[] lb] S [] (fun v S' M' => ∃ xs a c vs, Sx xs ∧ v = .slice a xs.length c ∧ allV rStr S' vs xs ∧ M' = [.row 0 9 1 v xs.length (flatCells vs)]) := by
  haveI : TyR Tryz.prog 126 rVal := ⟨(inferInstance : TyR Tryz.prog 126 (rSlice 16 rStr)).b⟩
  (refine Fn.enterM (args := [.slice none 0 0, .func (.func gf) #[] lb]) Tryz.func266 rfl Tryz.ntmps266 rfl ?_; intro w0)
  repeat (first | (refine Walk ?_; intros) | refine JC.block ?_)
  refine JO.eff rfl rfl rfl (JEff.box rfl rfl ?_); intro b2 hb2
  repeat (first | (refine Walk ?_; intros) | refine JC.block ?_)
  refine JC.newRow0 9 1 ?_
  refine JC.rangeFuncS (rep := rStr) (Sx := Sx) (fun pre S' M' => ∃ a c vs, allV rStr S' vs pre ∧ M' = [.row 0 9 1 (.slice a pre.length c) pre.length (flatCells vs), .blk b2 (.cells (Value.slice a pre.length c).cells 126 (0, 0))]) rfl rfl hE rfl hit ⟨none, 0, [], trivial, rfl⟩ ?_ ?_
  · rintro w1 B1 K L Rc pre y v S' M' hR hp hl ⟨xs, hxs, hpx⟩ hv ⟨a, c, vs, hvs, rfl⟩
    have hpl := hpx.length_le
    have hxl := hlen xs hxs
    simp only [List.length_append, List.length_cons, List.length_nil] at hpl
    repeat (first | (refine Walk ?_; intros) | refine JC.block ?_)
    refine JX.begin rfl hR ?_
    refine JC.perm (List.perm_append_comm (l₁ := [_, _]) (l₂ := [_, _])) ?_
    repeat (first | (refine Walk ?_; intros) | refine JC.block ?_)
    dsimp only [List.cons_append, List.nil_append]
    obtain ⟨rfl, hys⟩ := V_str.1 hv
    refine JO.pure rfl rfl rfl (JPure.loadM (mid := [.slice a pre.length c]) (rep := rVal) rfl (List.mem_cons_of_mem _ List.mem_cons_self) rfl ⟨rfl, rfl⟩ (.inl rfl) rfl ?_)
    repeat (first | (refine Walk ?_; intros) | refine JC.block ?_)
    refine JO.eff rfl rfl rfl (JEff.build (rep := rStr) (ys := [y]) rfl rfl ⟨⟨V_str.2 ⟨rfl, hys⟩, nna⟩, trivial⟩ rfl rfl rfl rfl ?_); intro bb hbb hvv
    repeat (first | (refine Walk ?_; intros) | refine JC.block ?_)
    refine JO.eff rfl rfl rfl (JEff.appendLB (B := 0) (rep := rStr) (Nat.zero_le _) rfl rfl rfl rfl (List.Perm.swap _ _ _) (by exact hvv.flat) (by intro c hc; exact flat_one (fun v hv => (hvv.size v hv).2) c hc) (by first | omega | (unfold big; omega)) (by unfold big; omega) (by intro l hl; cases hl) rfl ?_); intro a2 c2
    repeat (first | (refine Walk ?_; intros) | refine JC.block ?_)
    refine JO.eff rfl rfl rfl (JEff.storeW (rep := rVal) rfl rfl (V_val.2 ⟨rfl, rfl⟩) nna (List.Perm.swap _ _ _) rfl (by intro l hl; cases hl) ?_)
    repeat (first | (refine Walk ?_; intros) | refine JC.block ?_)
    refine JX.endRound hR hp ((List.perm_append_comm (l₁ := [_, _]) (l₂ := [_, _])).trans (List.Perm.swap _ _ _)) ?_
    refine ⟨a2, c2, vs ++ [.string y], allV.append (us := [.string y]) (ys := [y]) ⟨⟨V_str.2 ⟨rfl, hys⟩, nna⟩, trivial⟩ hvs, ?_⟩
    rw [flat_append, List.length_append]
    rfl
  · rintro K xs S' M' hl hxs ⟨a, c, vs, hvs, rfl⟩
    repeat (first | (refine Walk ?_; intros) | refine JC.block ?_)
    refine JO.pure rfl rfl rfl (JPure.loadM (mid := [.slice a xs.length c]) (rep := rVal) rfl (List.mem_cons_of_mem _ (List.mem_cons_of_mem _ List.mem_cons_self)) rfl ⟨rfl, rfl⟩ (.inl rfl) rfl ?_)
    repeat (first | (refine Walk ?_; intros) | refine JC.block ?_)
    refine JX.retM1 Tryz.results266 (List.Perm.refl _) (ResV.tmp rfl) (List.Sublist.cons_cons _ (List.nil_sublist _)) ?_
    exact ⟨xs, a, c, vs, hxs, rfl, hvs, rfl⟩
theorem p_Collect {S : SHeap} {gf : FuncId} {lb : Array Value} {Sx : List ByteArray → Prop} (hE : Ent Tryz.prog gf) (hit : IterS Tryz.prog gf lb rStr S Sx) (hlen : ∀ xs, Sx xs → xs.length ≤ 1000000) :
    Fn Tryz.prog 253 #[.func (.func gf) #[] lb] S [] (fun v S' M' => ∃ xs a c vs, Sx xs ∧ v = .slice a xs.length c ∧ allV rStr S' vs xs ∧ M' = [.row 0 9 1 v xs.length (flatCells vs)]) := by
  (refine Fn.enter (args := [.func (.func gf) #[] lb]) Tryz.func253 rfl Tryz.ntmps253 rfl ?_; intro w0)
  repeat (first | (refine Walk ?_; intros) | refine JC.block ?_)
  refine JO.eff rfl rfl rfl (JEff.fn (Mc := []) (Mr := []) (sem_call rfl _ _ _ _ _) rfl rfl rfl (List.Perm.refl _) (by intro l hl m hm; cases hm) (p_AppendSeq hE hit hlen) ?_); rintro v S' M' hl ⟨xs, a, c, vs, hxs, rfl, hvs, rfl⟩
  repeat (first | (refine Walk ?_; intros) | refine JC.block ?_)
  refine JX.ret1 Tryz.results253 (ResV.tmp rfl) (List.Sublist.refl _) ?_
  exact ⟨xs, a, c, vs, hxs, rfl, hvs, by simp⟩
end Go.Dr
namespace Go.Proofs
open Go.Shelf
def Tryz.lays125_ren : Go.Shelf.Ren := ⟨fun | 125 => 104 | 128 => 153 | 129 => 154 | n => n, fun | 46 => 150 | 3 => 3 | 51 => 192 | 53 => 194 | 4 => 4 | 5 => 5 | 9 => 9 | n => n, fun | n => n⟩
theorem Tryz.lays125 : Go.Proofs.Lays.n125 Tryz.prog Tryz.lays125_ren := {
  mixed := by kernel_rfl
  f125 := Tryz.func104.trans (congrArg some (by kernel_rfl))
  f128 := Tryz.func153.trans (congrArg some (by kernel_rfl))
  f129 := Tryz.func154.trans (congrArg some (by kernel_rfl))
  t3 := Tryz.underlying3
  a3 := Tryz.isAgg3
  z3 := Tryz.sizeOf3
  v3 := Tryz.zeroValue3
  t4 := Tryz.underlying4
  a4 := Tryz.isAgg4
  z4 := Tryz.sizeOf4
  v4 := Tryz.zeroValue4
  t5 := Tryz.underlying5
  a5 := Tryz.isAgg5
  z5 := Tryz.sizeOf5
  v5 := Tryz.zeroValue5
  t9 := Tryz.underlying9
  a9 := Tryz.isAgg9
  z9 := Tryz.sizeOf9
  v9 := Tryz.zeroValue9
  t46 := Tryz.underlying150
  a46 := Tryz.isAgg150
  z46 := Tryz.sizeOf150
  v46 := Tryz.zeroValue150
  t51 := Tryz.underlying192
  a51 := Tryz.isAgg192
  z51 := Tryz.sizeOf192
  v51 := Tryz.zeroValue192
  t53 := Tryz.underlying194
  a53 := Tryz.isAgg194
  z53 := Tryz.sizeOf194
  v53 := Tryz.zeroValue194 }
def Tryz.lays190_ren : Go.Shelf.Ren := ⟨fun | 190 => 254 | 125 => 104 | 258 => 267 | 128 => 153 | 129 => 154 | 302 => 270 | 303 => 271 | 304 => 272 | 305 => 273 | 306 => 274 | 307 => 275 | 308 => 184 | 309 => 276 | 310 => 277 | 333 => 280 | 329 => 207 | 330 => 208 | 334 => 281 | 335 => 282 | 336 => 233 | 344 => 283 | n => n, fun | 31 => 126 | 9 => 9 | 3 => 3 | 46 => 150 | 0 => 0 | 51 => 192 | 53 => 194 | 4 => 4 | 183 => 186 | 182 => 185 | 131 => 65 | 5 => 5 | 218 => 229 | 222 => 233 | 228 => 253 | 229 => 254 | n => n, fun | n => n⟩
theorem Tryz.lays190 : Go.Proofs.Lays.n190 Tryz.prog Tryz.lays190_ren := {
  mixed := by kernel_rfl
  f125 := Tryz.func104.trans (congrArg some (by kernel_rfl))
  f128 := Tryz.func153.trans (congrArg some (by kernel_rfl))
  f129 := Tryz.func154.trans (congrArg some (by kernel_rfl))
  f190 := Tryz.func254.trans (congrArg some (by kernel_rfl))
  f258 := Tryz.func267.trans (congrArg some (by kernel_rfl))
  f302 := Tryz.func270.trans (congrArg some (by kernel_rfl))
  f303 := Tryz.func271.trans (congrArg some (by kernel_rfl))
  f304 := Tryz.func272.trans (congrArg some (by kernel_rfl))
  f305 := Tryz.func273.trans (congrArg some (by kernel_rfl))
  f306 := Tryz.func274.trans (congrArg some (by kernel_rfl))
  f307 := Tryz.func275.trans (congrArg some (by kernel_rfl))
  f308 := Tryz.func184.trans (congrArg some (by kernel_rfl))
  f309 := Tryz.func276.trans (congrArg some (by kernel_rfl))
  f310 := Tryz.func277.trans (congrArg some (by kernel_rfl))
  f329 := Tryz.func207.trans (congrArg some (by kernel_rfl))
  f330 := Tryz.func208.trans (congrArg some (by kernel_rfl))
  f333 := Tryz.func280.trans (congrArg some (by kernel_rfl))
  f334 := Tryz.func281.trans (congrArg some (by kernel_rfl))
  f335 := Tryz.func282.trans (congrArg some (by kernel_rfl))
  f336 := Tryz.func233.trans (congrArg some (by kernel_rfl))
  f344 := Tryz.func283.trans (congrArg some (by kernel_rfl))
  t0 := Tryz.underlying0
  a0 := Tryz.isAgg0
  z0 := Tryz.sizeOf0
  v0 := Tryz.zeroValue0
  t3 := Tryz.underlying3
  a3 := Tryz.isAgg3
  z3 := Tryz.sizeOf3
  v3 := Tryz.zeroValue3
  t4 := Tryz.underlying4
  a4 := Tryz.isAgg4
  z4 := Tryz.sizeOf4
  v4 := Tryz.zeroValue4
  t5 := Tryz.underlying5
  a5 := Tryz.isAgg5
  z5 := Tryz.sizeOf5
  v5 := Tryz.zeroValue5
  t9 := Tryz.underlying9
  a9 := Tryz.isAgg9
  z9 := Tryz.sizeOf9
  v9 := Tryz.zeroValue9
  t31 := Tryz.underlying126
  a31 := Tryz.isAgg126
  z31 := Tryz.sizeOf126
  v31 := Tryz.zeroValue126
  t46 := Tryz.underlying150
  a46 := Tryz.isAgg150
  z46 := Tryz.sizeOf150
  v46 := Tryz.zeroValue150
  t51 := Tryz.underlying192
  a51 := Tryz.isAgg192
  z51 := Tryz.sizeOf192
  v51 := Tryz.zeroValue192
  t53 := Tryz.underlying194
  a53 := Tryz.isAgg194
  z53 := Tryz.sizeOf194
  v53 := Tryz.zeroValue194
  t131 := Tryz.underlying65
  a131 := Tryz.isAgg65
  z131 := Tryz.sizeOf65
  v131 := Tryz.zeroValue65
  t182 := Tryz.underlying185
  a182 := Tryz.isAgg185
  z182 := Tryz.sizeOf185
  v182 := Tryz.zeroValue185
  t183 := Tryz.underlying186
  a183 := Tryz.isAgg186
  z183 := Tryz.sizeOf186
  v183 := Tryz.zeroValue186
  t218 := Tryz.underlying229
  a218 := Tryz.isAgg229
  z218 := Tryz.sizeOf229
  v218 := Tryz.zeroValue229
  t222 := Tryz.underlying233
  a222 := Tryz.isAgg233
  z222 := Tryz.sizeOf233
  v222 := Tryz.zeroValue233
  t228 := Tryz.underlying253
  a228 := Tryz.isAgg253
  z228 := Tryz.sizeOf253
  v228 := Tryz.zeroValue253
  t229 := Tryz.underlying254
  a229 := Tryz.isAgg254
  z229 := Tryz.sizeOf254
  v229 := Tryz.zeroValue254 }
theorem Tryz.bits_Len (x : Int) (w : World) (h0 : 0 ≤ x) (h1 : x ≤ 18446744073709551615) :
    Calls Tryz.prog 104 #[.int .u64 x] w fun e w' => e = .returned (.int .i64 (Lib.bitLen x.toNat)) ∧ w' = w := Any.bits_Len Tryz.lays125 x w h0 h1
theorem Tryz.slices_Sort_string_none (p : Option Addr) (cap : Nat) (w : World) :
    Calls Tryz.prog 254 #[.slice p 0 cap] w fun e w' => e = .returned (.tuple #[]) ∧ w' = w := Any.slices_Sort_string_none Tryz.lays190 p cap w
end Go.Proofs
namespace Go.Dr
open Go.Proofs
theorem p_bitsLen {S : SHeap} (x : Int) (h0 : 0 ≤ x) (h1 : x ≤ 18446744073709551615) : FnV Tryz.prog 104 #[.int .u64 x] S (.int .i64 (Lib.bitLen x.toNat)) := by
  intro w hg _ _ _
  refine (Tryz.bits_Len x w h0 h1).mono ?_
  rintro e w' ⟨rfl, rfl⟩
  exact ⟨_, S, [], rfl, Wd.start0 hg, rfl, rfl⟩
theorem p_Sort0 {S : SHeap} (p : Option Addr) (c : Nat) : FnV Tryz.prog 254 #[.slice p 0 c] S (.tuple #[]) := by
  intro w hg _ _ _
  refine (Tryz.slices_Sort_string_none p c w).mono ?_
  rintro e w' ⟨rfl, rfl⟩
  exact ⟨_, S, [], rfl, Wd.start0 hg, rfl, rfl⟩
end Go.Dr
