/- Part 10 of the rules and of the walks that the proofs of this seat rest on; no condition. -/
import Derived.Test.YtdidkjghemcipaaGreatA08
set_option linter.unusedVariables false
set_option linter.unusedSimpArgs false
namespace Go.Dr
open Go.Proofs
set_option maxRecDepth 20000
set_option maxHeartbeats 2000000
set_option linter.unusedSimpArgs false
set_option linter.unusedVariables false
def OwnAns (E : TypeId) (xs : List Int) (z : Int) (w : Value) (S' : SHeap) (M' : List MEnt) : Prop :=
  ∃ a c, w = .tuple #[.slice a xs.length c, .int .i64 z] ∧ ((xs = [] ∧ a = none ∧ M' = []) ∨ (∃ b tl, a = some ⟨b, 0, none⟩ ∧ xs.length ≤ c ∧ M' = [.blk b (.cells (intsT xs tl) E (0, 0))]))
theorem s41_L7f {P K : Prop} (k : K) (h : Goal K → P := by
  intro zk
  (first | refine Walk ?_ | refine JC.block ?_ | refine JC.drawN 9 rfl [0, 1, 2, 3, 4, 5, 6] [0, 1, 2, 3, 4, 5, 6] Tryz_mixed (by decide +kernel) ?_ | (refine JO.eff rfl rfl rfl (JEff.callV rfl (p7_Check (by exact vta) (by exact vta)) rfl ?_); intro zqa zqb) | (refine JO.eff rfl rfl rfl (JEff.callV rfl (p7_there _ _) rfl ?_); intro zqa zqb) | (refine JO.eff rfl rfl rfl (JEff.callRow rfl (p_Clone_int (by exact vta)) rfl ?_); intro zqa zqb zqc zqd zqe zqf) | (refine WBox ?_))
  (repeat (first | revert zqg | revert zqf | revert zqe | revert zqd | revert zqc | revert zqb | revert zqa))
  exact zk.k) : P := h ⟨k⟩
theorem p7_Apply {S : SHeap} {u v xv : Value} {s : Snap} {p : List Int} {x : Step} (hu : rSnap.V S u s) (hv : (rSlice 8 rI64).V S v p) (hx : rStep.V S xv x) : Fn Tryz.prog 41 #[u, v, xv] S [] (OwnAns 3 (applyP s p x).1 (applyP s p x).2) := by
  have hv0 := hv
  obtain ⟨a, c, rfl, _, hb8, hb, hpr⟩ := V_slice.1 hv
  unfold big at hb8 hb
  have hprn : ∀ z ∈ p, Rng z := fun z hz => by
    obtain ⟨q, cs, h, _⟩ := slice_at hv z hz
    exact h.2
  obtain ⟨hxr1, hxr2, hxr3⟩ := step_rng hx
  (refine Fn.enter (args := [u, .slice a p.length c, xv]) Tryz.func41 rfl Tryz.ntmps41 rfl ?_; intro w0)
  repeat (refine s41_L7f ?_; intros)
  refine JC.cond rfl (fun he => ?_) (fun he => ?_)
  · have he : z0 (checkP s p) = false := by simpa [z0] using he
    repeat (refine s41_L7f ?_; intros)
    (refine JX.ret2 Tryz.results41 (ResV.tmp rfl) (ResV.tmp rfl) (List.nil_sublist _) ?_)
    exact ⟨none, 0, by rw [applyP, he]; rfl, .inl ⟨by rw [applyP, he]; rfl, rfl, rfl⟩⟩
  have he : z0 (checkP s p) = true := by simpa [z0] using he
  have hok : checkP s p = 0 := by simpa [z0] using he
  obtain ⟨hs, hlen, hodd⟩ := checkP_ok hok
  obtain ⟨hn8, hp24, ho8⟩ := shaped_small (checkS_ok hs).1
  obtain ⟨kd, pd, nd⟩ := x
  dsimp only at hxr1 hxr2 hxr3
  unfold Rng at hxr2 hxr3
  have hap0 : applyP s p ⟨kd, pd, nd⟩ = (if !decide (kd = 1) && !decide (kd = 2) then ([], 2)
    else if decide (pd < 0) || decide ((p.length : Int) ≤ pd) || decide (nd < 0) || (decide (kd = 2) && decide ((s.nodes.length : Int) ≤ nd)) || (decide (kd = 1) && !decide (nd = 0)) then ([], 9)
    else if (decide (at0 p pd.toNat = -1) == decide (kd = 1)) || (decide (kd = 2) && lostAt s nd) then ([], 110)
    else (p.set pd.toNat (if kd = 2 then nd else -1), 0)) := by rw [applyP, he]; rfl
  by_cases hk1 : kd = 1
  · subst hk1
    by_cases hbad : pd < 0 ∨ (p.length : Int) ≤ pd ∨ nd < 0 ∨ ¬ nd = 0
    · have hap : applyP s p ⟨1, pd, nd⟩ = ([], 9) := by rw [hap0]; simp; intro h1 h2 h3 h4; omega
      rw [hap]
      repeat' (first | (refine s41_L7f ?_; intros) | (refine JO.guard rfl rfl rfl rfl ?_ ?_ <;> intro _) | (refine JC.cond rfl ?_ ?_ <;> intro _))
      all_goals first
        | ((refine JX.ret2 Tryz.results41 (ResV.tmp rfl) (ResV.tmp rfl) (List.nil_sublist _) ?_); exact ⟨none, 0, rfl, .inl ⟨rfl, rfl, rfl⟩⟩)
        | (clear hap hap0; (exfalso; first | (simp only [decide_eq_true_eq, decide_eq_false_iff_not, Bool.not_eq_true', Bool.not_eq_false', Bool.and_eq_true, Bool.or_eq_true, Bool.and_eq_false_iff, Bool.or_eq_false_iff] at *; omega) | (simp_all; done) | (simp_all; omega)))
    · obtain ⟨i, rfl⟩ : ∃ i : Nat, pd = i := ⟨pd.toNat, by omega⟩
      obtain rfl : nd = 0 := by omega
      have hi : i < p.length := by omega
      obtain ⟨z, hz, _⟩ := drop_at hi
      have ecast : ((i : Int)).toNat = i := by omega
      have hz0 := at0_some hz
      have hz' : p[((i : Int)).toNat]? = some z := by rw [ecast]; exact hz
      have e1 : decide ((i : Int) < 0) = false := by simp
      have e2 : decide ((p.length : Int) ≤ (i : Int)) = false := by simp; omega
      have hap : applyP s p ⟨1, i, 0⟩ = (if z = -1 then ([], 110) else (p.set i (-1), 0)) := by rw [hap0]; simp only [e1, e2, ecast, hz0]; by_cases h : z = -1 <;> simp [h]
      have hzr := hprn z (List.mem_of_getElem? hz)
      by_cases hz1 : z = -1
      · rw [hap, if_pos hz1]
        repeat' (first | (refine s41_L7f ?_; intros) | (refine JO.guard rfl rfl rfl rfl ?_ ?_ <;> intro _) | (refine JC.cond rfl ?_ ?_ <;> intro _))
        all_goals first
          | ((refine JX.ret2 Tryz.results41 (ResV.tmp rfl) (ResV.tmp rfl) (List.nil_sublist _) ?_); exact ⟨none, 0, rfl, .inl ⟨rfl, rfl, rfl⟩⟩)
          | (clear hap hap0; (exfalso; first | (simp only [decide_eq_true_eq, decide_eq_false_iff_not, Bool.not_eq_true', Bool.not_eq_false', Bool.and_eq_true, Bool.or_eq_true, Bool.and_eq_false_iff, Bool.or_eq_false_iff] at *; omega) | (simp_all; done) | (simp_all; omega)))
      rw [hap, if_neg hz1]
      repeat' (first | (refine s41_L7f ?_; intros) | (refine JO.guard rfl rfl rfl rfl ?_ ?_ <;> intro _) | (refine JC.cond rfl ?_ ?_ <;> intro _))
      all_goals first
        | (clear hap hap0; (exfalso; first | (simp only [decide_eq_true_eq, decide_eq_false_iff_not, Bool.not_eq_true', Bool.not_eq_false', Bool.and_eq_true, Bool.or_eq_true, Bool.and_eq_false_iff, Bool.or_eq_false_iff] at *; omega) | (simp_all; done) | (simp_all; omega)))
        | skip
      repeat (refine s41_L7f ?_; intros)
      rw [flat_int (by assumption)]
      refine JO.rowBlk (by omega) (fun b tl hab hbb hnc => ?_)
      subst hab
      repeat (refine s41_L7f ?_; intros)
      refine JO.pure rfl rfl rfl (JPure.indexRI rfl rfl rfl (by dsimp only; omega) (by dsimp only; omega) ?_)
      refine JO.eff rfl rfl rfl (JEff.storeIT (i := i) rfl rfl (by unfold Rng; omega) (List.Perm.refl _) (by omega) (by intro l hl; cases hl) ?_)
      repeat (refine s41_L7f ?_; intros)
      refine JX.ret2 Tryz.results41 (ResV.tmp rfl) (ResV.tmp rfl) (List.Sublist.refl _) ?_
      exact ⟨some ⟨b, 0, none⟩, _, by rw [List.length_set], .inr ⟨b, tl, rfl, by rw [List.length_set]; exact hnc, rfl⟩⟩
  · by_cases hk2 : kd = 2
    · subst hk2
      by_cases hbad : pd < 0 ∨ (p.length : Int) ≤ pd ∨ nd < 0 ∨ (s.nodes.length : Int) ≤ nd
      · have hap : applyP s p ⟨2, pd, nd⟩ = ([], 9) := by rw [hap0]; simp; intro h1 h2 h3 h4; omega
        rw [hap]
        repeat' (first | (refine s41_L7f ?_; intros) | (refine JO.guard rfl rfl rfl rfl ?_ ?_ <;> intro _) | (refine JC.cond rfl ?_ ?_ <;> intro _))
        all_goals first
          | ((refine JX.ret2 Tryz.results41 (ResV.tmp rfl) (ResV.tmp rfl) (List.nil_sublist _) ?_); exact ⟨none, 0, rfl, .inl ⟨rfl, rfl, rfl⟩⟩)
          | (clear hap hap0; (exfalso; first | (simp only [decide_eq_true_eq, decide_eq_false_iff_not, Bool.not_eq_true', Bool.not_eq_false', Bool.and_eq_true, Bool.or_eq_true, Bool.and_eq_false_iff, Bool.or_eq_false_iff] at *; omega) | (simp_all; done) | (simp_all; omega)))
      · obtain ⟨i, rfl⟩ : ∃ i : Nat, pd = i := ⟨pd.toNat, by omega⟩
        obtain ⟨m, rfl⟩ : ∃ m : Nat, nd = m := ⟨nd.toNat, by omega⟩
        have hi : i < p.length := by omega
        obtain ⟨z, hz, _⟩ := drop_at hi
        obtain ⟨nn, hnn, _⟩ := drop_at (l := s.nodes) (show m < s.nodes.length by omega)
        have ecast : ((i : Int)).toNat = i := by omega
        have ecast2 : ((m : Int)).toNat = m := by omega
        have hz0 := at0_some hz
        have hz' : p[((i : Int)).toNat]? = some z := by rw [ecast]; exact hz
        have hnn' : s.nodes[((m : Int)).toNat]? = some nn := by rw [ecast2]; exact hnn
        have hlo : lostAt s m = nn.lost := by simp [lostAt, hnn]
        have e1 : decide ((i : Int) < 0) = false := by simp
        have e2 : decide ((p.length : Int) ≤ (i : Int)) = false := by simp; omega
        have e3 : decide ((m : Int) < 0) = false := by simp
        have e4 : decide ((s.nodes.length : Int) ≤ (m : Int)) = false := by simp; omega
        have hap : applyP s p ⟨2, i, m⟩ = (if ¬ z = -1 ∨ nn.lost = true then ([], 110) else (p.set i m, 0)) := by rw [hap0]; simp only [e1, e2, e3, e4, ecast, hz0, hlo]; by_cases h : z = -1 <;> simp [h]
        have hzr := hprn z (List.mem_of_getElem? hz)
        by_cases hst : ¬ z = -1 ∨ nn.lost = true
        · rw [hap, if_pos hst]
          repeat' (first | (refine s41_L7f ?_; intros) | (refine JO.guard rfl rfl rfl rfl ?_ ?_ <;> intro _) | (refine JC.cond rfl ?_ ?_ <;> intro _))
          all_goals first
            | ((refine JX.ret2 Tryz.results41 (ResV.tmp rfl) (ResV.tmp rfl) (List.nil_sublist _) ?_); exact ⟨none, 0, rfl, .inl ⟨rfl, rfl, rfl⟩⟩)
            | (clear hap hap0; (exfalso; first | (simp only [decide_eq_true_eq, decide_eq_false_iff_not, Bool.not_eq_true', Bool.not_eq_false', Bool.and_eq_true, Bool.or_eq_true, Bool.and_eq_false_iff, Bool.or_eq_false_iff] at *; omega) | (simp_all; done) | (simp_all; omega)))
        rw [hap, if_neg hst]
        repeat' (first | (refine s41_L7f ?_; intros) | (refine JO.guard rfl rfl rfl rfl ?_ ?_ <;> intro _) | (refine JC.cond rfl ?_ ?_ <;> intro _))
        all_goals first
          | (clear hap hap0; (exfalso; first | (simp only [decide_eq_true_eq, decide_eq_false_iff_not, Bool.not_eq_true', Bool.not_eq_false', Bool.and_eq_true, Bool.or_eq_true, Bool.and_eq_false_iff, Bool.or_eq_false_iff] at *; omega) | (simp_all; done) | (simp_all; omega)))
          | skip
        repeat (refine s41_L7f ?_; intros)
        rw [flat_int (by assumption)]
        refine JO.rowBlk (by omega) (fun b tl hab hbb hnc => ?_)
        subst hab
        repeat (refine s41_L7f ?_; intros)
        refine JO.pure rfl rfl rfl (JPure.indexRI rfl rfl rfl (by dsimp only; omega) (by dsimp only; omega) ?_)
        refine JO.eff rfl rfl rfl (JEff.storeIT (i := i) rfl rfl (by unfold Rng; omega) (List.Perm.refl _) (by omega) (by intro l hl; cases hl) ?_)
        repeat (refine s41_L7f ?_; intros)
        refine JX.ret2 Tryz.results41 (ResV.tmp rfl) (ResV.tmp rfl) (List.Sublist.refl _) ?_
        exact ⟨some ⟨b, 0, none⟩, _, by rw [List.length_set], .inr ⟨b, tl, rfl, by rw [List.length_set]; exact hnc, rfl⟩⟩
    · have hap : applyP s p ⟨kd, pd, nd⟩ = ([], 2) := by rw [hap0]; simp [hk1, hk2]
      rw [hap]
      repeat' (first | (refine s41_L7f ?_; intros) | (refine JO.guard rfl rfl rfl rfl ?_ ?_ <;> intro _) | (refine JC.cond rfl ?_ ?_ <;> intro _))
      all_goals first
        | ((refine JX.ret2 Tryz.results41 (ResV.tmp rfl) (ResV.tmp rfl) (List.nil_sublist _) ?_); exact ⟨none, 0, rfl, .inl ⟨rfl, rfl, rfl⟩⟩)
        | (clear hap hap0; (exfalso; first | (simp only [decide_eq_true_eq, decide_eq_false_iff_not, Bool.not_eq_true', Bool.not_eq_false', Bool.and_eq_true, Bool.or_eq_true, Bool.and_eq_false_iff, Bool.or_eq_false_iff] at *; omega) | (simp_all; done) | (simp_all; omega)))
end Go.Dr
namespace Go.Dr
theorem checkP_set {s : Snap} {p : List Int} {i : Nat} {v : Int} (h : checkP s p = 0) (hv : oddP s v = false) : checkP s (p.set i v) = 0 := by
  obtain ⟨h1, h2, h3⟩ := checkP_ok h
  unfold checkP
  have e1 : z0 (checkS s) = true := by simp [z0, h1]
  have e2 : (p.set i v).any (oddP s) = false := by
    rw [List.any_eq_false]
    intro x hx
    rcases List.mem_or_eq_of_mem_set hx with hx | rfl
    · rw [h3 x hx]; simp
    · rw [hv]; simp
  rw [e1, e2, List.length_set, h2]
  simp
theorem odd_none (s : Snap) : oddP s (-1) = false := by simp [oddP]; omega
theorem apply_set {s : Snap} {p : List Int} {x : Step} (h : (applyP s p x).2 = 0) : ∃ v, (applyP s p x).1 = p.set x.pod.toNat v ∧ x.pod.toNat < p.length ∧ 0 ≤ x.pod ∧ oddP s v = false ∧ checkP s p = 0 ∧
    ((x.kind = 1 ∧ v = -1 ∧ x.node = 0 ∧ at0 p x.pod.toNat ≠ -1) ∨ (x.kind = 2 ∧ v = x.node ∧ 0 ≤ x.node ∧ x.node < s.nodes.length ∧ lostAt s x.node = false ∧ at0 p x.pod.toNat = -1)) := by
  unfold applyP at h ⊢
  split at h
  · rename_i h1; simp [z0] at h1; exact absurd h h1
  rename_i h1
  rw [if_neg h1]
  have hok : checkP s p = 0 := by simpa [z0] using h1
  split at h
  · cases h
  rename_i h2
  rw [if_neg h2]
  split at h
  · cases h
  rename_i h3
  rw [if_neg h3]
  split at h
  · cases h
  rename_i h4
  rw [if_neg h4]
  simp only [Bool.and_eq_true, Bool.not_eq_true', decide_eq_false_iff_not, not_and, Classical.not_not] at h2
  simp only [Bool.or_eq_true, decide_eq_true_eq, Bool.and_eq_true, Bool.not_eq_true', decide_eq_false_iff_not, not_or, not_and, Classical.not_not] at h3
  obtain ⟨⟨⟨⟨a1, a2⟩, a3⟩, a4⟩, a5⟩ := h3
  have hp : x.pod.toNat < p.length := by omega
  by_cases hk : x.kind = 2
  · have hk1 : ¬ x.kind = 1 := by omega
    simp only [hk, Bool.or_eq_true, Bool.and_eq_true, not_or, not_and, Bool.not_eq_true, decide_true, true_implies] at h4
    obtain ⟨b1, b2⟩ := h4
    have b1 : at0 p x.pod.toNat = -1 := by
      by_cases e : at0 p x.pod.toNat = -1
      · exact e
      · rw [decide_eq_false e] at b1; simp at b1
    refine ⟨x.node, by rw [if_pos hk], hp, by omega, ?_, hok, .inr ⟨hk, rfl, by omega, by have := a4 hk; omega, b2, b1⟩⟩
    unfold oddP
    have := a4 hk
    simp [b2]; omega
  · have hk1 : x.kind = 1 := by
      by_cases e : x.kind = 1
      · exact e
      · exact absurd (h2 e) hk
    have b1 : ¬ at0 p x.pod.toNat = -1 := by
      intro e
      apply h4
      rw [decide_eq_true e, decide_eq_true hk1]; simp
    exact ⟨-1, by rw [if_neg hk], hp, by omega, odd_none s, hok, .inl ⟨hk1, rfl, a5 hk1, b1⟩⟩
theorem apply_check {s : Snap} {p : List Int} {x : Step} (h : (applyP s p x).2 = 0) : checkP s (applyP s p x).1 = 0 ∧ (applyP s p x).1.length = p.length ∧ 0 < p.length := by
  obtain ⟨v, h1, h2, _, h3, h4, _⟩ := apply_set h
  rw [h1]
  exact ⟨checkP_set h4 h3, by simp, by omega⟩
theorem worse_ok {s : Snap} {p q : List Int} (h1 : checkP s p = 0) (h2 : checkP s q = 0) : worseV s p q = ((allL s q).filter (worseF (allL s p)), 0) := by
  unfold worseV; rw [if_neg (by simpa using h1), if_neg (by simpa using h2)]
end Go.Dr
namespace Go.Dr
set_option linter.unusedSimpArgs false
set_option linter.unusedVariables false
def SHeap.del (S : SHeap) (b : Nat) : SHeap := fun k => if k = b then none else S k
theorem SHeap.del_self (S : SHeap) (b : Nat) : S.del b b = none := by simp [SHeap.del]
theorem SHeap.del_other {S : SHeap} {b k : Nat} (h : k ≠ b) : S.del b k = S k := by simp [SHeap.del, h]
theorem SHeap.le_del {S S' : SHeap} {b : Nat} (h : S.le S') (hb : S b = none) : S.le (S'.del b) := fun k o hk => by
  have hne : k ≠ b := fun e => by rw [e, hb] at hk; cases hk
  rw [SHeap.del_other hne]; exact h k o hk
theorem Wd.thaw {w0 w : World} {B0 : List Nat} {S0 S : SHeap} {M : List MEnt} {b : Nat} {o : Obj} (h : Wd w0 B0 S0 S M w) (h0 : S0 b = none) (hb : w0.heap.size ≤ b) (hS : S b = some o) : Wd w0 B0 S0 (S.del b) (.blk b o :: M) w where
  os := h.os
  tape := h.tape
  output := h.output
  size := h.size
  keep := h.keep
  le := SHeap.le_del h.le h0
  new := fun k hk => by
    by_cases e : k = b
    · subst e; exact .inr hb
    · exact h.new k (by rwa [SHeap.del_other e] at hk)
  agree := fun k o' hk => by
    have hne : k ≠ b := fun e => by rw [e, SHeap.del_self] at hk; cases hk
    rw [SHeap.del_other hne] at hk; exact h.agree k o' hk
  ok := fun m hm => by
    rcases List.mem_cons.1 hm with rfl | hm
    · exact h.agree b o hS
    · exact h.ok m hm
  sep := by
    refine List.pairwise_cons.2 ⟨?_, h.sep⟩
    intro m hm k hk hk'
    simp only [MEnt.own, Option.some.injEq] at hk
    subst hk
    have := (h.out m hm _ hk').1
    rw [hS] at this; cases this
  out := fun m hm k hk => by
    rcases List.mem_cons.1 hm with rfl | hm
    · simp only [MEnt.own, Option.some.injEq] at hk
      subst hk
      exact ⟨SHeap.del_self _ _, .inl hb⟩
    · obtain ⟨h1, h2⟩ := h.out m hm k hk
      refine ⟨?_, h2⟩
      unfold SHeap.del
      split
      · rfl
      · exact h1
theorem Fn.lend {P : Program} {f : FuncId} {args : Array Value} {S : SHeap} {b : Nat} {o : Obj} {PP : Value → SHeap → List MEnt → Prop} (h : Fn P f args (S.put b o) [] PP) :
    Fn P f args S [.blk b o] (fun v S' M' => ∃ S'' M'', PP v S'' M'' ∧ (S.put b o).le S'' ∧ S' = S''.del b ∧ M' = [.blk b o]) := fun w hg hok hs ho => by
  have hSb : S b = none := ho (.blk b o) (by simp) b rfl
  have hwb : w.heap[b]? = some o := hok (.blk b o) (by simp)
  have hg' : Agree (S.put b o) w := fun k o' hk => by
    by_cases e : k = b
    · subst e
      rw [SHeap.put_self] at hk; cases hk; exact hwb
    · exact hg k o' (by simpa [SHeap.put, e] using hk)
  refine (h w hg' (by simp) List.Pairwise.nil (by simp)).mono ?_
  rintro e w' ⟨v, S'', M'', rfl, hw, hp⟩
  have hSb2 : S'' b = some o := hw.le b o (SHeap.put_self _ _ _)
  refine ⟨v, S''.del b, [.blk b o], rfl, ?_, S'', M'', hp, hw.le, rfl, rfl⟩
  have hle : S.le S'' := (SHeap.le_put o hSb).trans hw.le
  exact {
    os := hw.os
    tape := hw.tape
    output := hw.output
    size := hw.size
    keep := fun k hk hkb => hw.keep k hk (by simp)
    le := SHeap.le_del hle hSb
    new := fun k hk => by
      by_cases e : k = b
      · subst e; rw [SHeap.del_self] at hk; exact absurd rfl hk
      · rw [SHeap.del_other e] at hk
        rcases hw.new k hk with h1 | h1
        · exact .inl (by simpa [SHeap.put, e] using h1)
        · exact .inr h1
    agree := fun k o' hk => by
      have hne : k ≠ b := fun e => by rw [e, SHeap.del_self] at hk; cases hk
      rw [SHeap.del_other hne] at hk; exact hw.agree k o' hk
    ok := fun m hm => by
      rw [List.mem_singleton] at hm; subst hm
      exact hw.agree b o hSb2
    sep := List.pairwise_singleton _ _
    out := fun m hm k hk => by
      rw [List.mem_singleton] at hm; subst hm
      simp only [MEnt.own, Option.some.injEq] at hk
      subst hk
      exact ⟨SHeap.del_self _ _, .inr (by simp [MEnt.own])⟩ }
theorem Fn.frozen {P : Program} {f : FuncId} {args : Array Value} {S : SHeap} {PP : Value → SHeap → List MEnt → Prop} {QQ : Value → SHeap → Prop} (h : Fn P f args S [] PP)
    (hq : ∀ v S' M', PP v S' M' → (M' = [] ∧ QQ v S') ∨ ∃ b o, M' = [.blk b o] ∧ ∀ S'', S'.le S'' → S'' b = some o → QQ v S'') : FnR P f args S QQ := fun w hg hok hs ho => by
  refine (h w hg hok hs ho).mono ?_
  rintro e w' ⟨v, S', M', rfl, hw, hp⟩
  rcases hq v S' M' hp with ⟨rfl, h1⟩ | ⟨b, o, rfl, h1⟩
  · exact ⟨v, S', [], rfl, hw, rfl, h1⟩
  · have h2 := hw.out (.blk b o) (by simp) b rfl
    have hb : w.heap.size ≤ b := h2.2.resolve_right (by simp)
    exact ⟨v, S'.put b o, [], rfl, hw.freeze hb, rfl, h1 _ (SHeap.le_put o h2.1) (SHeap.put_self _ _ _)⟩
section
variable {C : Cx} {R : Rg} {Q : Post} {S S' : SHeap} {M M' : List MEnt} {e : Env} {rest : List Nat} {L : List Nat}
variable {d : Nat} {ty : TypeId} {pos : String} {aft : Array Edge} {g : Option (Nat × Bool)}
theorem JEff.lendV {f : FuncId} [Ent C.P f] {args : Array Operand} {ts : Array TypeId} {vs : List Value} {b : Nat} {o : Obj} {Mr : List MEnt} {r : Value} (hargs : evs e args.toList = some vs) (hM : (MEnt.blk b o :: Mr).Perm M) (hT : ∀ l, R.T = some l → b ∈ l) (hb : ∀ m ∈ M, ∀ k, m.own = some k → S k = none)
    (hf : ∀ S1 : SHeap, S.le S1 → S1 b = some o → FnV C.P f vs.toArray S1 r) (hdN : Nat.blt d C.N = true)
    (k : ∀ S', S.le S' → JO C R rest Q S' (.blk b o :: Mr) ((d, r) :: e)) : JEff C R ⟨some d, .call { callee := .value (.func f), args, argTypes := ts }, ty, pos, aft, g⟩ rest Q S M e := by
  have hSb : S b = none := hb (.blk b o) (hM.mem_iff.1 (by simp)) b rfl
  refine JEff.fn (Mc := [.blk b o]) (sem_call hargs _ _ _ _ _) rfl rfl hdN hM (by intro t ht m hm k hk; rw [List.mem_singleton] at hm; subst hm; simp only [MEnt.own, Option.some.injEq] at hk; subst hk; exact hT t ht)
    (Fn.lend (hf (S.put b o) (SHeap.le_put o hSb) (SHeap.put_self _ _ _))) fun v S' M' hl hp => ?_
  obtain ⟨S'', M'', hp, hle, rfl, rfl⟩ := hp
  obtain ⟨-, rfl⟩ := hp
  exact k _ hl
theorem JO.out (k : (∀ m ∈ M, ∀ b, m.own = some b → S b = none) → JO C R L Q S M e) : JO C R L Q S M e := ⟨fun a w hw => (k fun m hm b hb => (hw.wd.out m hm b hb).1).run a w hw⟩
theorem JO.blkNew {b : Nat} {o : Obj} (h0 : C.B0 = []) (k : C.S0 b = none → C.w0.heap.size ≤ b → JO C R L Q S (.blk b o :: M) e) : JO C R L Q S (.blk b o :: M) e := ⟨fun a w hw => by
  have h1 := hw.wd.out (.blk b o) (by simp) b rfl
  have h2 := h1.2
  rw [h0] at h2
  refine (k ?_ (h2.resolve_right (by simp))).run a w hw
  cases h : C.S0 b with
  | none => rfl
  | some o' => have := hw.wd.le b o' h; rw [h1.1] at this; cases this⟩
theorem JC.blkNew {x : Code} {b : Nat} {o : Obj} (h0 : C.B0 = []) (k : C.S0 b = none → C.w0.heap.size ≤ b → JC C x Q S (.blk b o :: M) e) : JC C x Q S (.blk b o :: M) e := ⟨fun a w hw => by
  have h1 := hw.wd.out (.blk b o) (by simp) b rfl
  have h2 := h1.2
  rw [h0] at h2
  refine (k ?_ (h2.resolve_right (by simp))).run a w hw
  cases h : C.S0 b with
  | none => rfl
  | some o' => have := hw.wd.le b o' h; rw [h1.1] at this; cases this⟩
theorem JX.thaw {x : Exit} {b : Nat} {o : Obj} (h0 : C.S0 b = none) (hb : C.w0.heap.size ≤ b) (hS : S b = some o) (k : JX C x Q (S.del b) (.blk b o :: M) e) : JX C x Q S M e := ⟨fun a w hw => k.run a w ⟨hw.env, hw.defers, hw.wd.thaw h0 hb hS⟩⟩
class IfaceT (P : Program) (T : TypeId) : Prop where
  h : P.underlying T = some (.interface (P.methodsAt T))
theorem JPure.eqNilT {an : Bool} {T t' : TypeId} {x : Operand} (hx : ev e x = some .nilIface) [hi : IfaceT C.P T] (hdN : Nat.blt d C.N = true) (k : JO C R rest Q S M ((d, .bool true) :: e)) : JPure C R an ⟨some d, .binOp .eql T x (.const .nilIface) t', ty, pos, aft, g⟩ rest Q S M e :=
  JPure.of rfl hdN (fun a w' h => by
    simp only [execOp, h.eval hx, h.eval (show ev e (.const .nilIface) = some .nilIface from rfl), Sem.run_bind, eqGuard_nil_constR, Sem.run_pure, Result.andThen_ok, run_eql_nil_nil w' T hi.h]) k
theorem JPure.eqNilF {an : Bool} {T t' u : TypeId} {x : Operand} {v : Value} (hx : ev e x = some (.iface u v)) [hi : IfaceT C.P T] (hdN : Nat.blt d C.N = true) (k : JO C R rest Q S M ((d, .bool false) :: e)) : JPure C R an ⟨some d, .binOp .eql T x (.const .nilIface) t', ty, pos, aft, g⟩ rest Q S M e :=
  JPure.of rfl hdN (fun a w' h => by
    have hg : eqGuard .eql T x (.const .nilIface) (.iface u v) .nilIface = pure () := by rfl
    simp only [execOp, h.eval hx, h.eval (show ev e (.const .nilIface) = some .nilIface from rfl), Sem.run_bind, hg, Sem.run_pure, Result.andThen_ok, run_eql_held_nil w' T u v hi.h]) k
end
end Go.Dr
namespace Go.Dr
open Go.Proofs
set_option maxRecDepth 20000
set_option maxHeartbeats 2000000
set_option linter.unusedSimpArgs false
set_option linter.unusedVariables false
def StepRaw (E Te Tc : TypeId) (s : Snap) (p : List Int) (x : Step) (w : Value) (S' : SHeap) (M' : List MEnt) : Prop :=
  (∃ e, ¬ e = 0 ∧ stepV s p x = ([], noC, e) ∧ w = .tuple #[.slice none 0 0, .iface Te (.int .i64 e)] ∧ M' = []) ∨
  (∃ c, (Rng c.kind ∧ Rng c.a ∧ Rng c.b ∧ Rng c.by_) ∧ stepV s p x = ([], c, 100) ∧ w = .tuple #[.slice none 0 0, .iface Tc (clV c)] ∧ M' = []) ∨
  (∃ q b tl cap, stepV s p x = (q, noC, 0) ∧ (∀ z ∈ q, Rng z) ∧ q.length = p.length ∧ w = .tuple #[.slice (some ⟨b, 0, none⟩) q.length cap, .nilIface] ∧ q.length ≤ cap ∧ M' = [.blk b (.cells (intsT q tl) E (0, 0))])
theorem s79_L10a {P K : Prop} (k : K) (h : Goal K → P := by
  intro zk
  (first | refine Walk ?_ | refine JC.block ?_ | refine JC.drawN 10 rfl [0, 1, 2, 3, 4, 5] [0, 1, 2, 3, 4, 5] Tryz_mixed (by decide +kernel) ?_ | (refine JO.eff rfl rfl rfl (JEff.callLE rfl (p9_Worse (by exact vta) (by exact vta) (by exact vta)) rfl ?_); intro zqa zqb zqc zqd zqe zqf) | (refine WBox ?_))
  (repeat (first | revert zqg | revert zqf | revert zqe | revert zqd | revert zqc | revert zqb | revert zqa))
  exact zk.k) : P := h ⟨k⟩
theorem p10_step {S : SHeap} {u v xv : Value} {s : Snap} {p : List Int} {x : Step} (hu : rSnap.V S u s) (hv : (rSlice 8 rI64).V S v p) (hx : rStep.V S xv x) : Fn Tryz.prog 79 #[u, v, xv] S [] (StepRaw 3 31 40 s p x) := by
  (refine Fn.enter (args := [u, v, xv]) Tryz.func79 rfl Tryz.ntmps79 rfl ?_; intro w0)
  repeat (refine s79_L10a ?_; intros)
  refine JO.eff rfl rfl rfl (JEff.callM (Mc := []) rfl (List.Perm.refl _) (mayAll rfl) (p7_Apply (s := s) (p := p) (x := x) (by exact vta) (by exact vta) (by exact vta)) rfl ?_); intro w S2 M2 hl2 hw
  obtain ⟨aa, ca, rfl, hw⟩ := hw
  by_cases he : (applyP s p x).2 = 0
  · obtain ⟨hcq, hql, hp0⟩ := apply_check he
    obtain ⟨hok, hnode⟩ := apply_ok he
    rcases hw with ⟨h1, _, _⟩ | ⟨b, tl, rfl, hqc, rfl⟩
    · rw [h1] at hql; simp at hql; omega
    have hW2 : (worseV s p (applyP s p x).1).2 = 0 := by rw [worse_ok hok hcq]
    have he' : ¬ ¬ (applyP s p x).2 = 0 := by simpa using he
    obtain ⟨_, _, hp24, _, _, _, hqr⟩ := placed_hyps hcq
    have hql2 : (applyP s p x).1.length ≤ 24 := hp24
    dsimp only [List.cons_append, List.nil_append]
    refine JO.blkNew rfl (fun hb0 hbb => ?_)
    refine JO.freeze hbb (by intro l hl; cases hl) (fun S3 hl3 hS3 => ?_)
    have hVq := blk_slice (SHeap.le.refl S3) hS3 rfl hqc (by unfold big; omega) hqr
    by_cases hk : x.kind = 2
    · obtain ⟨h0, h1⟩ := hnode hk
      obtain ⟨nd, hnd, _⟩ := drop_at (l := s.nodes) (show x.node.toNat < s.nodes.length by omega)
      have hco : cordonAt s x.node = nd.cordon := by simp [cordonAt, hnd]
      repeat (refine s79_L10a ?_; intros)
      refine JC.cond rfl (fun g0 => ?_) (fun g0 => ?_)
      · (exfalso; first | (simp only [decide_eq_true_eq, decide_eq_false_iff_not, Bool.not_eq_true', Bool.not_eq_false', Bool.and_eq_true, Bool.or_eq_true, Bool.and_eq_false_iff, Bool.or_eq_false_iff] at *; omega) | (simp_all; done) | (simp_all; omega))
      repeat (refine s79_L10a ?_; intros)
      refine JO.guard rfl rfl rfl rfl (fun g1 => ?_) (fun g1 => ?_)
      · repeat (refine s79_L10a ?_; intros)
        refine JC.cond rfl (fun g2 => ?_) (fun g2 => ?_)
        · repeat (refine s79_L10a ?_; intros)
          refine JO.pure rfl rfl rfl (JPure.mkIface rfl rfl ?_)
          repeat (refine s79_L10a ?_; intros)
          refine JX.ret2 Tryz.results79 (ResV.tmp rfl) (ResV.tmp rfl) (List.nil_sublist _) ?_
          exact .inl ⟨100, by decide, by rw [stepV, if_neg he', if_pos ⟨hk, by rw [hco]; exact g2⟩], rfl, rfl⟩
        · have hnc : ¬ (x.kind = 2 ∧ cordonAt s x.node = true) := by rw [hco, g2]; simp
          repeat (refine s79_L10a ?_; intros)
          refine JC.cond rfl (fun g3 => ?_) (fun g3 => ?_)
          · exfalso
            simp [hW2] at g3
          repeat (refine s79_L10a ?_; intros)
          refine JC.cond rfl (fun g4 => ?_) (fun g4 => ?_)
          · obtain ⟨y, L', hL⟩ : ∃ y L', (worseV s p (applyP s p x).1).1 = y :: L' := by
              cases hh : (worseV s p (applyP s p x).1).1 with
              | nil => rw [hh] at g4; simp at g4
              | cons y L' => exact ⟨y, L', rfl⟩
            have hy0 : (worseV s p (applyP s p x).1).1[(0 : Int).toNat]? = some y := by rw [hL]; rfl
            repeat (refine s79_L10a ?_; intros)
            have hvy := (by assumption : rClause.V _ _ y)
            obtain ⟨hy1, hyr⟩ := V_clause.1 hvy
            refine JO.pure rfl rfl rfl (JPure.mkIface rfl rfl ?_)
            repeat (refine s79_L10a ?_; intros)
            refine JX.ret2 Tryz.results79 (ResV.tmp rfl) (ResV.tmp rfl) (List.nil_sublist _) ?_
            exact .inr (.inl ⟨y, hyr, by rw [stepV, if_neg he', if_neg hnc, hL], by rw [hy1]; rfl, rfl⟩)
          · have hL : (worseV s p (applyP s p x).1).1 = [] := by
              cases hh : (worseV s p (applyP s p x).1).1 with
              | nil => rfl
              | cons y L' => rw [hh] at g4; simp at g4
            repeat (refine s79_L10a ?_; intros)
            refine JX.thaw hb0 hbb ((by exact lea : SHeap.le S3 _) _ _ hS3) ?_
            refine JX.ret2 Tryz.results79 (ResV.tmp rfl) (ResV.tmp rfl) (List.Sublist.refl _) ?_
            exact .inr (.inr ⟨(applyP s p x).1, b, tl, ca, by rw [stepV, if_neg he', if_neg hnc, hL], hqr, hql, rfl, hqc, rfl⟩)
      · (exfalso; first | (simp only [decide_eq_true_eq, decide_eq_false_iff_not, Bool.not_eq_true', Bool.not_eq_false', Bool.and_eq_true, Bool.or_eq_true, Bool.and_eq_false_iff, Bool.or_eq_false_iff] at *; omega) | (simp_all; done) | (simp_all; omega))
    · have hnc : ¬ (x.kind = 2 ∧ cordonAt s x.node = true) := fun h => hk h.1
      repeat (refine s79_L10a ?_; intros)
      refine JC.cond rfl (fun g0 => ?_) (fun g0 => ?_)
      · (exfalso; first | (simp only [decide_eq_true_eq, decide_eq_false_iff_not, Bool.not_eq_true', Bool.not_eq_false', Bool.and_eq_true, Bool.or_eq_true, Bool.and_eq_false_iff, Bool.or_eq_false_iff] at *; omega) | (simp_all; done) | (simp_all; omega))
      repeat (refine s79_L10a ?_; intros)
      refine JO.guard rfl rfl rfl rfl (fun g1 => ?_) (fun g1 => ?_)
      · (exfalso; first | (simp only [decide_eq_true_eq, decide_eq_false_iff_not, Bool.not_eq_true', Bool.not_eq_false', Bool.and_eq_true, Bool.or_eq_true, Bool.and_eq_false_iff, Bool.or_eq_false_iff] at *; omega) | (simp_all; done) | (simp_all; omega))
      · repeat (refine s79_L10a ?_; intros)
        refine JC.cond rfl (fun g3 => ?_) (fun g3 => ?_)
        · exfalso
          simp [hW2] at g3
        repeat (refine s79_L10a ?_; intros)
        refine JC.cond rfl (fun g4 => ?_) (fun g4 => ?_)
        · obtain ⟨y, L', hL⟩ : ∃ y L', (worseV s p (applyP s p x).1).1 = y :: L' := by
            cases hh : (worseV s p (applyP s p x).1).1 with
            | nil => rw [hh] at g4; simp at g4
            | cons y L' => exact ⟨y, L', rfl⟩
          have hy0 : (worseV s p (applyP s p x).1).1[(0 : Int).toNat]? = some y := by rw [hL]; rfl
          repeat (refine s79_L10a ?_; intros)
          have hvy := (by assumption : rClause.V _ _ y)
          obtain ⟨hy1, hyr⟩ := V_clause.1 hvy
          refine JO.pure rfl rfl rfl (JPure.mkIface rfl rfl ?_)
          repeat (refine s79_L10a ?_; intros)
          refine JX.ret2 Tryz.results79 (ResV.tmp rfl) (ResV.tmp rfl) (List.nil_sublist _) ?_
          exact .inr (.inl ⟨y, hyr, by rw [stepV, if_neg he', if_neg hnc, hL], by rw [hy1]; rfl, rfl⟩)
        · have hL : (worseV s p (applyP s p x).1).1 = [] := by
            cases hh : (worseV s p (applyP s p x).1).1 with
            | nil => rfl
            | cons y L' => rw [hh] at g4; simp at g4
          repeat (refine s79_L10a ?_; intros)
          refine JX.thaw hb0 hbb ((by exact lea : SHeap.le S3 _) _ _ hS3) ?_
          refine JX.ret2 Tryz.results79 (ResV.tmp rfl) (ResV.tmp rfl) (List.Sublist.refl _) ?_
          exact .inr (.inr ⟨(applyP s p x).1, b, tl, ca, by rw [stepV, if_neg he', if_neg hnc, hL], hqr, hql, rfl, hqc, rfl⟩)
  · have hst : stepV s p x = ([], noC, (applyP s p x).2) := by rw [stepV, if_pos he]
    repeat (refine s79_L10a ?_; intros)
    refine JC.cond rfl (fun g0 => ?_) (fun g0 => ?_)
    · repeat (refine s79_L10a ?_; intros)
      refine JO.pure rfl rfl rfl (JPure.mkIface rfl rfl ?_)
      repeat (refine s79_L10a ?_; intros)
      refine JX.ret2 Tryz.results79 (ResV.tmp rfl) (ResV.tmp rfl) (List.nil_sublist _) ?_
      exact .inl ⟨_, he, hst, rfl, rfl⟩
    · (exfalso; first | (simp only [decide_eq_true_eq, decide_eq_false_iff_not, Bool.not_eq_true', Bool.not_eq_false', Bool.and_eq_true, Bool.or_eq_true, Bool.and_eq_false_iff, Bool.or_eq_false_iff] at *; omega) | (simp_all; done) | (simp_all; omega))
end Go.Dr
namespace Go.Dr
open Go.Proofs
set_option maxRecDepth 20000
set_option maxHeartbeats 2000000
set_option linter.unusedSimpArgs false
set_option linter.unusedVariables false
instance : IfaceT Tryz.prog 107 := ⟨by kernel_rfl⟩
def StepAns (E : TypeId) (s : Snap) (p : List Int) (x : Step) (w : Value) (S' : SHeap) (M' : List MEnt) : Prop :=
  (∃ c e, ¬ e = 0 ∧ (Rng c.kind ∧ Rng c.a ∧ Rng c.b ∧ Rng c.by_) ∧ stepV s p x = ([], c, e) ∧ w = .tuple #[.slice none 0 0, clV c, .int .i64 e] ∧ M' = []) ∨
  (∃ q b tl cap, stepV s p x = (q, noC, 0) ∧ (∀ z ∈ q, Rng z) ∧ q.length = p.length ∧ w = .tuple #[.slice (some ⟨b, 0, none⟩) q.length cap, clV noC, .int .i64 0] ∧ q.length ≤ cap ∧ M' = [.blk b (.cells (intsT q tl) E (0, 0))])
theorem s45_L10b {P K : Prop} (k : K) (h : Goal K → P := by
  intro zk
  (first | refine Walk ?_ | refine JC.block ?_ | refine JC.drawN 6 rfl [0, 1, 2, 3] [0, 1, 3] Tryz_mixed (by decide +kernel) ?_ | refine JC.drawN 7 rfl [0, 1, 2, 3, 4, 5] [0, 3, 5] Tryz_mixed (by decide +kernel) ?_ | (refine WBox ?_))
  (repeat (first | revert zqg | revert zqf | revert zqe | revert zqd | revert zqc | revert zqb | revert zqa))
  exact zk.k) : P := h ⟨k⟩
theorem p10_Step {S : SHeap} {u v xv : Value} {s : Snap} {p : List Int} {x : Step} (hu : rSnap.V S u s) (hv : (rSlice 8 rI64).V S v p) (hx : rStep.V S xv x) : Fn Tryz.prog 45 #[u, v, xv] S [] (StepAns 3 s p x) := by
  (refine Fn.enter (args := [u, v, xv]) Tryz.func45 rfl Tryz.ntmps45 rfl ?_; intro w0)
  repeat (refine s45_L10b ?_; intros)
  (refine JO.eff rfl rfl rfl (JEff.alloc rfl ?_); intro b7 hb7)
  repeat (refine s45_L10b ?_; intros)
  refine JO.eff rfl rfl rfl (JEff.callM (Mc := []) rfl (List.Perm.refl _) (mayAll rfl) (p10_step (s := s) (p := p) (x := x) (by exact vta) (by exact vta) (by exact vta)) rfl ?_); intro w S2 M2 hl2 hw
  rcases hw with ⟨e, he, hst, rfl, rfl⟩ | ⟨c, hcr, hst, rfl, rfl⟩ | ⟨q, b, tl, cap, hst, hqr, hql, rfl, hqc, rfl⟩
  · dsimp only [List.nil_append]
    have hN0 : rClause.V S2 (.agg #[.int .i64 0, .int .i64 0, .int .i64 0, .int .i64 0]) noC := V_clV noC_rng
    have hN := V_noC (S := S2)
    repeat (first | (refine Walk ?_; intros) | refine JC.block ?_ | refine JC.drawN 6 rfl [0, 1, 2, 3] [0, 1, 3] Tryz_mixed (by decide +kernel) ?_ | refine JC.drawN 7 rfl [0, 1, 2, 3, 4, 5] [0, 3, 5] Tryz_mixed (by decide +kernel) ?_ | refine JO.pure rfl rfl rfl (JPure.eqNilF rfl rfl ?_) | refine JO.pure rfl rfl rfl (JPure.assertF rfl rfl rfl ?_) | (refine WBox ?_; intros))
    (refine JO.eff rfl rfl rfl (JEff.alloc rfl ?_); intro b10 hb10)
    refine JO.eff rfl rfl rfl (JEff.storeW rfl rfl hN0 nna (List.Perm.refl _) rfl (by intro l hl; cases hl) ?_)
    refine JO.freezeV hN0 nna hb10 (by intro l hl; cases hl) ?_; intro S3 hl3 hp10
    repeat (first | (refine Walk ?_; intros) | refine JC.block ?_ | refine JC.drawN 6 rfl [0, 1, 2, 3] [0, 1, 3] Tryz_mixed (by decide +kernel) ?_ | refine JC.drawN 7 rfl [0, 1, 2, 3, 4, 5] [0, 3, 5] Tryz_mixed (by decide +kernel) ?_ | refine JO.pure rfl rfl rfl (JPure.assertT rfl rfl ?_) | (refine WBox ?_; intros))
    have hN2 := V_noC (S := S3)
    (refine JO.eff rfl rfl rfl (JEff.storeW rfl rfl (by exact vta) nna pma rfl (by intro l hl; cases hl) ?_))
    repeat (refine s45_L10b ?_; intros)
    refine JX.ret3 Tryz.results45 (ResV.tmp rfl) (ResV.clause (S1 := S3) rfl (by (first | exact List.mem_cons_self | exact List.mem_cons_of_mem _ List.mem_cons_self | exact List.mem_cons_of_mem _ (List.mem_cons_of_mem _ List.mem_cons_self))) V_noC) (ResV.tmp rfl) (List.nil_sublist _) ?_
    exact .inl ⟨noC, e, he, noC_rng, hst, rfl, rfl⟩
  · dsimp only [List.nil_append]
    have hN := V_clV (S := S2) hcr
    repeat (first | (refine Walk ?_; intros) | refine JC.block ?_ | refine JC.drawN 6 rfl [0, 1, 2, 3] [0, 1, 3] Tryz_mixed (by decide +kernel) ?_ | refine JC.drawN 7 rfl [0, 1, 2, 3, 4, 5] [0, 3, 5] Tryz_mixed (by decide +kernel) ?_ | refine JO.pure rfl rfl rfl (JPure.eqNilF rfl rfl ?_) | refine JO.pure rfl rfl rfl (JPure.assertT rfl rfl ?_) | (refine WBox ?_; intros))
    (refine JO.eff rfl rfl rfl (JEff.alloc rfl ?_); intro b10 hb10)
    refine JO.eff rfl rfl rfl (JEff.storeW rfl rfl hN nna (List.Perm.refl _) rfl (by intro l hl; cases hl) ?_)
    refine JO.freezeV hN nna hb10 (by intro l hl; cases hl) ?_; intro S3 hl3 hp10
    repeat (refine s45_L10b ?_; intros)
    have hvy := (by assumption : rClause.V _ _ c)
    (refine JO.eff rfl rfl rfl (JEff.storeW rfl rfl (by exact vta) nna pma rfl (by intro l hl; cases hl) ?_))
    repeat (refine s45_L10b ?_; intros)
    refine JX.ret3 Tryz.results45 (ResV.tmp rfl) (ResV.clause rfl (by (first | exact List.mem_cons_self | exact List.mem_cons_of_mem _ List.mem_cons_self | exact List.mem_cons_of_mem _ (List.mem_cons_of_mem _ List.mem_cons_self))) hvy) (ResV.tmp rfl) (List.nil_sublist _) ?_
    exact .inl ⟨c, 100, by decide, hcr, hst, rfl, rfl⟩
  · dsimp only [List.cons_append, List.nil_append]
    have hN := V_noC (S := S2)
    repeat (first | (refine Walk ?_; intros) | refine JC.block ?_ | refine JC.drawN 6 rfl [0, 1, 2, 3] [0, 1, 3] Tryz_mixed (by decide +kernel) ?_ | refine JC.drawN 7 rfl [0, 1, 2, 3, 4, 5] [0, 3, 5] Tryz_mixed (by decide +kernel) ?_ | refine JO.pure rfl rfl rfl (JPure.eqNilT rfl rfl ?_) | (refine WBox ?_; intros))
    refine JO.eff rfl rfl rfl (JEff.storeW rfl rfl hN nna (List.Perm.swap _ _ _) rfl (by intro l hl; cases hl) ?_)
    repeat (refine s45_L10b ?_; intros)
    refine JX.ret3 Tryz.results45 (ResV.tmp rfl) (ResV.clause (S1 := S2) rfl (by (first | exact List.mem_cons_self | exact List.mem_cons_of_mem _ List.mem_cons_self | exact List.mem_cons_of_mem _ (List.mem_cons_of_mem _ List.mem_cons_self))) V_noC) (ResV.tmp rfl) (List.sublist_cons_self _ _) ?_
    exact .inr ⟨q, b, tl, cap, hst, hqr, hql, rfl, hqc, rfl⟩
theorem p10_May {S : SHeap} {u v xv : Value} {s : Snap} {p : List Int} {x : Step} (hu : rSnap.V S u s) (hv : (rSlice 8 rI64).V S v p) (hx : rStep.V S xv x) : FnV Tryz.prog 47 #[u, v, xv] S (.bool (mayV s p x)) := by
  (refine Fn.enter (args := [u, v, xv]) Tryz.func47 rfl Tryz.ntmps47 rfl ?_; intro w0)
  repeat (first | (refine Walk ?_; intros) | refine JC.block ?_ | (refine WBox ?_; intros))
  refine JO.eff rfl rfl rfl (JEff.callM (Mc := []) rfl (List.Perm.refl _) (mayAll rfl) (p10_step (s := s) (p := p) (x := x) (by exact vta) (by exact vta) (by exact vta)) rfl ?_); intro w S2 M2 hl2 hw
  rcases hw with ⟨e, he, hst, rfl, rfl⟩ | ⟨c, hcr, hst, rfl, rfl⟩ | ⟨q, b, tl, cap, hst, hqr, hql, rfl, hqc, rfl⟩
  all_goals unfold mayV; rw [hst]
  · repeat (first | (refine Walk ?_; intros) | refine JC.block ?_ | refine JO.pure rfl rfl rfl (JPure.eqNilF rfl rfl ?_) | (refine WBox ?_; intros))
    (refine JX.ret1 Tryz.results47 (ResV.tmp rfl) (List.nil_sublist _) ?_)
    exact ⟨rfl, by simp [he]⟩
  · repeat (first | (refine Walk ?_; intros) | refine JC.block ?_ | refine JO.pure rfl rfl rfl (JPure.eqNilF rfl rfl ?_) | (refine WBox ?_; intros))
    (refine JX.ret1 Tryz.results47 (ResV.tmp rfl) (List.nil_sublist _) ?_)
    exact ⟨rfl, by simp⟩
  · repeat (first | (refine Walk ?_; intros) | refine JC.block ?_ | refine JO.pure rfl rfl rfl (JPure.eqNilT rfl rfl ?_) | (refine WBox ?_; intros))
    (refine JX.ret1 Tryz.results47 (ResV.tmp rfl) (List.nil_sublist _) ?_)
    exact ⟨rfl, by simp⟩
end Go.Dr
namespace Go.Dr
open Go.Proofs
set_option maxRecDepth 20000
set_option maxHeartbeats 2000000
set_option linter.unusedSimpArgs false
set_option linter.unusedVariables false
theorem s51_L10s {P K : Prop} (k : K) (h : Goal K → P := by
  intro zk
  (first | refine Walk ?_ | refine JC.block ?_ | (refine JO.eff rfl rfl rfl (JEff.callSt rfl (r10_Step (by exact vta) (by exact vta) (by exact vta)) rfl ?_); intro zqa zqb zqc zqd zqe zqf zqg) | (refine JO.eff rfl rfl rfl (JEff.callV rfl (r7_Check (by exact vta) (by exact vta)) rfl ?_); intro zqa zqb) | (refine WBox ?_) | (refine WNew ?_) | (refine WPut ?_))
  (repeat (first | revert zqg | revert zqf | revert zqe | revert zqd | revert zqc | revert zqb | revert zqa))
  exact zk.k) : P := h ⟨k⟩
theorem r10_Run {S : SHeap} {u v lv : Value} {s : Snap} {p : List Int} {l : List Step} (hu : rSnap.V S u s) (hv : (rSlice 8 rI64).V S v p) (hl : (rSlice 24 rStep).V S lv l) :
    FnLs Tryz.prog 51 #[u, v, lv] S 8 rI64 (runV s p l).1 [.int .i64 (runV s p l).2.1, .int .i64 (runV s p l).2.2] := by
  have hv0 := hv
  obtain ⟨a, c, rfl, _, hb8, hb, hpr⟩ := V_slice.1 hv
  obtain ⟨a1, c1, rfl, _, _, hb1, _⟩ := V_slice.1 hl
  unfold big at hb8 hb hb1
  (refine Fn.enter (args := [u, .slice a p.length c, .slice a1 l.length c1]) Tryz.func51 rfl Tryz.ntmps51 rfl ?_; intro w0)
  repeat (refine s51_L10s ?_; intros)
  refine JC.cond rfl (fun he => ?_) (fun he => ?_)
  · have he : ¬ checkP s p = 0 := by simpa using he
    repeat (refine s51_L10s ?_; intros)
    (refine JX.ret3 Tryz.results51 (ResV.tmp rfl) (ResV.tmp rfl) (ResV.tmp rfl) (List.nil_sublist _) ?_)
    exact ⟨rfl, _, by rw [runV, if_pos he], by rw [runV, if_pos he]; exact V_nil⟩
  have he : ¬ ¬ checkP s p = 0 := by simpa using he
  rw [runV, if_neg he]
  repeat (refine s51_L10s ?_; intros)
  refine JO.eff rfl rfl rfl (JEff.build0 rI64 rfl ?_); intro b0
  repeat (refine s51_L10s ?_; intros)
  (refine JO.eff rfl rfl rfl (JEff.appendS (rep := rI64) rfl rfl (hv0.mono (by exact lea)) rfl rfl (List.Perm.refl _) (by unfold big; omega) (by unfold big; omega) (by intro l hl; cases hl) rfl ?_); intro a2 c2 us1 hus1)
  rw [List.nil_append, Nat.zero_add]
  refine JO.freezeRow (rep := rI64) (bt := 8) (xs := p) hus1 rfl (by unfold big; omega) (by unfold big; omega) (by intro l hl; cases hl) (fun S9 hl9 hV9 => ?_)
  repeat (refine s51_L10s ?_; intros)
  refine JC.loopF0 (σ := Nat × Option Addr × Nat × List Int) [(2, _), (3, _)] (fun q => [(10, .slice q.2.1 q.2.2.2.length q.2.2.1), (11, .int .i64 q.1)]) (fun Si q => q.1 ≤ l.length ∧ (rSlice 8 rI64).V Si (.slice q.2.1 q.2.2.2.length q.2.2.1) q.2.2.2 ∧ runGo s q.2.2.2 q.1 (l.drop q.1) = runGo s p 0 l) (fun q => l.length - q.1) ((0, a2, c2, p)) (by exact sba) (by exact sba) (⟨Nat.zero_le _, hV9, rfl⟩) ?_; rintro Si ⟨i, ra, rc, Q⟩ hli hii; (try dsimp only at hii); dsimp only [List.cons_append, List.nil_append]
  obtain ⟨hi, hV, hgo⟩ := hii
  repeat (refine s51_L10s ?_; intros)
  refine JC.cond rfl (fun hc => ?_) (fun hc => ?_)
  · have hi' := dlt hc
    obtain ⟨x, hx, hd⟩ := drop_at hi'
    rw [hd, runGo] at hgo
    repeat (refine s51_L10s ?_; intros)
    refine JC.partF0 (σ := Option Addr × Nat) [(2, _), (3, _), (11, _)] (fun q => [(12, .slice q.1 (stepV s Q x).1.length q.2), (14, .int .i64 (stepV s Q x).2.2)]) (fun SA q => (rSlice 8 rI64).V SA (.slice q.1 (stepV s Q x).1.length q.2) (stepV s Q x).1) ?_ (by exact sba) ?_; rotate_left; rintro SA ⟨ra', rc'⟩ hlA hiA; (try dsimp only at hiA); dsimp only [List.cons_append, List.nil_append]; rotate_left
    · refine JC.drawTree 8 rfl [12, 14] [0, 1, 2, 3, 4, 5] (.alt (ofL [6, 7, 8, 9, 10, 11, 12, 13, 14] .nil) (ofL [11, 6, 7, 8, 9, 10, 12, 13, 14] .nil)) Tryz_mixed (by decide +kernel) ?_
      repeat (refine s51_L10s ?_; intros)
      refine JO.alt ?_ ?_
      all_goals
        repeat (refine s51_L10s ?_; intros)
        exact JX.partF ((_, _)) (by exact lea) (by exact vta) rfl (by exact sba) (by exact sba)
    repeat (refine s51_L10s ?_; intros)
    refine JC.cond rfl (fun hf => ?_) (fun hf => ?_)
    · have hf : ¬ (stepV s Q x).2.2 = 0 := by simpa using hf
      rw [if_pos hf] at hgo
      repeat (refine s51_L10s ?_; intros)
      (refine JX.ret3 Tryz.results51 (ResV.tmp rfl) (ResV.tmp rfl) (ResV.tmp rfl) (List.nil_sublist _) ?_)
      rw [← hgo]
      exact ⟨rfl, _, rfl, V_nil⟩
    · have hf : ¬ ¬ (stepV s Q x).2.2 = 0 := by simpa using hf
      rw [if_neg hf] at hgo
      repeat (refine s51_L10s ?_; intros)
      exact JX.roundF ((i + 1, ra', rc', (stepV s Q x).1)) (by exact lea) (⟨by omega, by exact vta, by rw [← hgo]; rfl⟩) (by (try dsimp only); omega) rfl (by exact sba) (by exact sba)
  · have hi' := dnlt hc
    rw [List.drop_eq_nil_of_le hi', runGo] at hgo
    repeat (refine s51_L10s ?_; intros)
    (refine JX.ret3 Tryz.results51 (ResV.tmp rfl) (ResV.tmp rfl) (ResV.tmp rfl) (List.nil_sublist _) ?_)
    rw [← hgo]
    exact ⟨rfl, _, by rw [show i = l.length by omega], by exact vta⟩
end Go.Dr
namespace Go.Dr
open Go.Proofs
set_option maxRecDepth 20000
set_option maxHeartbeats 2000000
set_option linter.unusedSimpArgs false
set_option linter.unusedVariables false
theorem s52_L10c {P K : Prop} (k : K) (h : Goal K → P := by
  intro zk
  (first | refine Walk ?_ | refine JC.block ?_ | (refine JO.eff rfl rfl rfl (JEff.callV rfl (p10_May (by exact vta) (by exact vta) (by exact vta)) rfl ?_); intro zqa zqb) | (refine WBox ?_))
  (repeat (first | revert zqg | revert zqf | revert zqe | revert zqd | revert zqc | revert zqb | revert zqa))
  exact zk.k) : P := h ⟨k⟩
theorem p10_Ways {S : SHeap} {u v : Value} {s : Snap} {p : List Int} (pod : Int) (hu : rSnap.V S u s) (hv : (rSlice 8 rI64).V S v p) (hn : s.nodes.length ≤ 1000) (hpr : Rng pod) : FnL Tryz.prog 52 #[u, v, .int .i64 pod] S 8 rI64 (waysV s p pod) := by
  (refine Fn.enter (args := [u, v, .int .i64 pod]) Tryz.func52 rfl Tryz.ntmps52 rfl ?_; intro w0)
  repeat (refine s52_L10c ?_; intros)
  (first | refine JC.newRow 3 1 ?_ | refine JO.newRow 3 1 ?_ | refine JX.newRow 3 1 ?_)
  refine JC.loopF (σ := Nat × Option Addr × Nat × List Value) [(1, _), (2, _), (3, _), (10, _)] (fun q => [(6, .slice q.2.1 ((fun k => waysK s p pod k) q.1).length q.2.2.1), (11, ((fun k => .int .i64 k) q.1))]) (fun q => [.row w0.heap.size 3 (Rp.sz rI64) (.slice q.2.1 ((fun k => waysK s p pod k) q.1).length q.2.2.1) ((fun k => waysK s p pod k) q.1).length (flatCells q.2.2.2)]) (fun Sk q => q.1 ≤ s.nodes.length ∧ allV rI64 Sk q.2.2.2 ((fun k => waysK s p pod k) q.1) ∧ ((fun k => True) q.1)) (fun q => s.nodes.length - q.1) (0, none, 0, []) (by exact sba) (by exact sba) (by first | rfl | simp) (⟨Nat.zero_le _, trivial, trivial⟩) ?_; rintro Sk ⟨k, rak, rck, vsk⟩ hlk ⟨hk, hvk, hik⟩; (try dsimp only at hk hvk hik); dsimp only [List.cons_append, List.nil_append]
  have hfl := waysK_len s p pod k
  repeat (refine s52_L10c ?_; intros)
  refine JC.cond rfl (fun hc => ?_) (fun hc => ?_)
  · have hk' := dlt hc
    have hst := waysK_step s p pod k
    have hxv : rStep.V Sk (.agg (flatCells [.int .i64 2, .int .i64 pod, .int .i64 k]).toArray) ⟨2, pod, k⟩ := V_step.2 ⟨by simp [flatCells, Value.cells], by simp [Rng], hpr, by unfold Rng; dsimp only; omega⟩
    repeat (refine s52_L10c ?_; intros)
    refine JC.cond rfl (fun hf => ?_) (fun hf => ?_)
    · rw [hf, if_pos rfl] at hst
      repeat (refine s52_L10c ?_; intros)
      (refine JO.eff rfl rfl rfl (JEff.build (rep := rI64) (ys := [(k : Int)]) rfl rfl ⟨⟨(V_i64.2 ⟨rfl, by unfold Rng; omega⟩), nna⟩, trivial⟩ rfl rfl rfl rfl ?_); intro bb hbb hvv); (repeat (first | (refine Walk ?_; intros) | refine JC.block ?_)); (refine JO.eff rfl rfl rfl (JEff.appendL (rep := rI64) rfl rfl rfl rfl (List.Perm.swap _ _ _) (by exact hvv.flat) (by intro c hc; exact flat_one (fun v hv => (hvv.size v hv).2) c hc) (by first | omega | (unfold big; omega)) (by unfold big; omega) (by first | exact rowT_ok | (intro l hl; cases hl)) rfl ?_); intro a2 c2; clear hvv hbb)
      repeat (refine s52_L10c ?_; intros)
      exact JX.roundF (k + 1, a2, c2, vsk ++ [(.int .i64 k)]) (by exact lea) ⟨by omega, by (try dsimp only); rw [hst]; exact allV_add (by exact lea) hvk (V_i64.2 ⟨rfl, by unfold Rng; omega⟩) nna, (trivial)⟩ (by (try dsimp only); omega) (by (try dsimp only); rw [hst]; (simp [flat_append] <;> omega)) (by (try dsimp only); rw [hst]; simp only [List.length_append, List.length_cons, List.length_nil]; exact sba) (by exact sba)
    · rw [hf, if_neg (by simp), List.append_nil] at hst
      repeat (refine s52_L10c ?_; intros)
      exact JX.roundF (k + 1, rak, rck, vsk) (by exact lea) ⟨by omega, by (try dsimp only); rw [hst]; exact hvk.mono (by exact lea), (trivial)⟩ (by (try dsimp only); omega) (by (try dsimp only); rw [hst]) (by (try dsimp only); rw [hst]; exact sba) (by exact sba)
  · have hk' := dnlt hc
    obtain rfl : k = s.nodes.length := by omega
    repeat (refine s52_L10c ?_; intros)
    refine JX.freezeRow (rep := rI64) (bt := 8) hvk rfl (by unfold big; omega) (by unfold big; omega) (fun S9 hl9 hV9 => ?_)
    (refine JX.ret1 Tryz.results52 (ResV.tmp rfl) (List.nil_sublist _) ?_)
    exact ⟨rfl, hV9⟩
def OwnNow (E : TypeId) (S0 : SHeap) (n0 : Nat) (S : SHeap) (a : Option Addr) (c : Nat) (Q : List Int) : Prop :=
  Q = [] ∨ ∃ b tl, a = some ⟨b, 0, none⟩ ∧ Q.length ≤ c ∧ S0 b = none ∧ n0 ≤ b ∧ S b = some (.cells (intsT Q tl) E (0, 0))
def RunAns (E : TypeId) (xs : List Int) (n e : Int) (w : Value) (S' : SHeap) (M' : List MEnt) : Prop :=
  ∃ a c, w = .tuple #[.slice a xs.length c, .int .i64 n, .int .i64 e] ∧ (xs.length ≤ c ∧ xs.length * 8 ≤ big ∧ ∀ z ∈ xs, Rng z) ∧ ((xs = [] ∧ M' = []) ∨ ∃ b tl, a = some ⟨b, 0, none⟩ ∧ M' = [.blk b (.cells (intsT xs tl) E (0, 0))])
theorem cap_of {S : SHeap} {a : Option Addr} {n c : Nat} {xs : List Int} (h : (rSlice 8 rI64).V S (.slice a n c) xs) : n = xs.length ∧ xs.length ≤ c ∧ xs.length * 8 ≤ big ∧ ∀ z ∈ xs, Rng z := by
  have hr : ∀ z ∈ xs, Rng z := fun z hz => by
    obtain ⟨q, cs, h, _⟩ := slice_at h z hz
    exact h.2
  obtain ⟨a', c', h1, h2, h3, _⟩ := V_slice.1 h
  cases h1
  exact ⟨rfl, h2, h3, hr⟩
theorem s50_L10c {P K : Prop} (k : K) (h : Goal K → P := by
  intro zk
  (first | refine Walk ?_ | refine JC.block ?_ | (refine JO.eff rfl rfl rfl (JEff.callV rfl (p7_Check (by exact vta) (by exact vta)) rfl ?_); intro zqa zqb) | (refine JO.eff rfl rfl rfl (JEff.callRow rfl (p_Clone_int (by exact vta)) rfl ?_); intro zqa zqb zqc zqd zqe zqf) | (refine WBox ?_) | (refine WNew ?_) | (refine WPut ?_))
  (repeat (first | revert zqg | revert zqf | revert zqe | revert zqd | revert zqc | revert zqb | revert zqa))
  exact zk.k) : P := h ⟨k⟩
theorem p10_Run {S : SHeap} {u v lv : Value} {s : Snap} {p : List Int} {l : List Step} (hu : rSnap.V S u s) (hv : (rSlice 8 rI64).V S v p) (hl : (rSlice 24 rStep).V S lv l) :
    Fn Tryz.prog 50 #[u, v, lv] S [] (RunAns 3 (runV s p l).1 (runV s p l).2.1 (runV s p l).2.2) := by
  have hv0 := hv
  obtain ⟨a, c, rfl, _, hb8, hb, hpr⟩ := V_slice.1 hv
  obtain ⟨a1, c1, rfl, _, _, hb1, _⟩ := V_slice.1 hl
  unfold big at hb8 hb hb1
  (refine Fn.enter (args := [u, .slice a p.length c, .slice a1 l.length c1]) Tryz.func50 rfl Tryz.ntmps50 rfl ?_; intro w0)
  repeat (refine s50_L10c ?_; intros)
  refine JC.cond rfl (fun he => ?_) (fun he => ?_)
  · have he : ¬ checkP s p = 0 := by simpa using he
    repeat (refine s50_L10c ?_; intros)
    refine JX.ret3 Tryz.results50 (ResV.tmp rfl) (ResV.tmp rfl) (ResV.tmp rfl) (List.nil_sublist _) ?_
    rw [runV, if_pos he]
    exact ⟨_, _, rfl, ⟨Nat.le_refl _, by simp, by simp⟩, .inl ⟨rfl, rfl⟩⟩
  have he : ¬ ¬ checkP s p = 0 := by simpa using he
  rw [runV, if_neg he]
  have hok : checkP s p = 0 := Classical.not_not.1 he
  obtain ⟨_, _, _, _, _, _, hqr⟩ := placed_hyps hok
  repeat (refine s50_L10c ?_; intros)
  rename_i a2 c2 S3 us hl3 hus
  by_cases hp0 : p = []
  · refine JC.freezeRow (rep := rI64) (bt := 8) (xs := p) hus rfl (by unfold big; omega) (by unfold big; omega) (fun S9 hl9 hV9 => ?_)
    have hOwn : OwnNow 3 S w0.heap.size S9 a2 c2 p := .inl hp0
    repeat (refine s50_L10c ?_; intros)
    refine JC.loopF0 (σ := Nat × Option Addr × Nat × List Int) [(2, _), (3, _), (23, _), (24, _)] (fun q => [(6, .slice q.2.1 q.2.2.2.length q.2.2.1), (25, .int .i64 q.1)]) (fun Si q => q.1 ≤ l.length ∧ (rSlice 8 rI64).V Si (.slice q.2.1 q.2.2.2.length q.2.2.1) q.2.2.2 ∧ OwnNow 3 S w0.heap.size Si q.2.1 q.2.2.1 q.2.2.2 ∧ runGo s q.2.2.2 q.1 (l.drop q.1) = runGo s p 0 l) (fun q => l.length - q.1) ((0, a2, c2, p)) (by exact sba) (by exact sba) (⟨Nat.zero_le _, hV9, hOwn, rfl⟩) ?_; rintro Si ⟨i, ra, rc, Q⟩ hli hii; (try dsimp only at hii); dsimp only [List.cons_append, List.nil_append]
    obtain ⟨hi, hV, hO, hgo⟩ := hii
    try dsimp only at hi hV hO hgo
    repeat (refine s50_L10c ?_; intros)
    refine JC.cond rfl (fun hc => ?_) (fun hc => ?_)
    · have hi' := dlt hc
      obtain ⟨x, hx, hd⟩ := drop_at hi'
      rw [hd, runGo] at hgo
      repeat (refine s50_L10c ?_; intros)
      refine JO.eff rfl rfl rfl (JEff.callM (Mc := []) rfl (List.Perm.refl _) (mayAll rfl) (p10_Step (s := s) (p := Q) (x := x) (by exact vta) (by exact vta) (by exact vta)) rfl ?_); intro w S2 M2 hl2 hw
      rcases hw with ⟨cc, e, he2, hcr, hst, rfl, rfl⟩ | ⟨q, b, tl, cap, hst, hqr2, hql, rfl, hqc, rfl⟩
      · dsimp only [List.nil_append]
        have hVc := V_clV (S := S2) hcr
        rw [hst, if_pos he2] at hgo
        repeat (refine s50_L10c ?_; intros)
        refine JC.cond rfl (fun hf => ?_) (fun hf => ?_)
        · repeat (refine s50_L10c ?_; intros)
          refine JX.ret3 Tryz.results50 (ResV.tmp rfl) (ResV.tmp rfl) (ResV.tmp rfl) (List.nil_sublist _) ?_
          rw [← hgo]
          exact ⟨_, _, rfl, ⟨Nat.le_refl _, by simp, by simp⟩, .inl ⟨rfl, rfl⟩⟩
        · exact absurd (by simpa using hf) he2
      · dsimp only [List.cons_append, List.nil_append]
        rw [hst, if_neg (by simp)] at hgo
        have hVc := V_clV (S := S2) noC_rng
        refine JO.blkNew rfl (fun hb0 hbb => ?_)
        refine JO.freeze hbb (by intro l hl; cases hl) (fun S4 hl4 hS4 => ?_)
        obtain ⟨_, _, _, _, hQ8, _⟩ := V_slice.1 hV
        have hVq := blk_slice (SHeap.le.refl S4) hS4 rfl hqc (by rw [hql]; exact hQ8) hqr2
        repeat (refine s50_L10c ?_; intros)
        exact JX.roundF ((i + 1, some ⟨b, 0, none⟩, cap, q)) (by exact lea) (⟨by omega, hVq.mono (by exact lea), .inr ⟨b, tl, rfl, hqc, hb0, hbb, (by exact lea : SHeap.le S4 _) _ _ hS4⟩, by rw [← hgo]; rfl⟩) (by (try dsimp only); omega) rfl (by exact sba) (by exact sba)
    · have hi' := dnlt hc
      rw [List.drop_eq_nil_of_le hi', runGo] at hgo
      obtain rfl : i = l.length := by omega
      repeat (refine s50_L10c ?_; intros)
      rw [← hgo]
      rcases hO with h | ⟨b, tl, rfl, hqc, hb0, hbb, hSb⟩
      · refine JX.ret3 Tryz.results50 (ResV.tmp rfl) (ResV.tmp rfl) (ResV.tmp rfl) (List.Sublist.refl _) ?_
        exact ⟨_, _, rfl, (cap_of hV).2, .inl ⟨h, rfl⟩⟩
      · refine JX.thaw hb0 hbb hSb ?_
        refine JX.ret3 Tryz.results50 (ResV.tmp rfl) (ResV.tmp rfl) (ResV.tmp rfl) (List.Sublist.refl _) ?_
        exact ⟨_, _, rfl, (cap_of hV).2, .inr ⟨b, tl, rfl, rfl⟩⟩
  · have hp1 : 0 < p.length := List.length_pos_iff.2 hp0
    rw [flat_int hus]
    refine JC.rowBlk hp1 (fun b tl hab hbb hnc => ?_)
    subst hab
    refine JC.blkNew rfl (fun hb0 hbb => ?_)
    refine JC.freeze hbb (fun S9 hl9 hS9 => ?_)
    have hV9 := blk_slice (SHeap.le.refl S9) hS9 rfl hnc (by unfold big; omega) hqr
    generalize ha2 : (some (⟨b, 0, none⟩ : Addr)) = a2 at *
    have hOwn : OwnNow 3 S w0.heap.size S9 a2 c2 p := .inr ⟨b, tl, ha2.symm, hnc, hb0, hbb, hS9⟩
    repeat (refine s50_L10c ?_; intros)
    refine JC.loopF0 (σ := Nat × Option Addr × Nat × List Int) [(2, _), (3, _), (23, _), (24, _)] (fun q => [(6, .slice q.2.1 q.2.2.2.length q.2.2.1), (25, .int .i64 q.1)]) (fun Si q => q.1 ≤ l.length ∧ (rSlice 8 rI64).V Si (.slice q.2.1 q.2.2.2.length q.2.2.1) q.2.2.2 ∧ OwnNow 3 S w0.heap.size Si q.2.1 q.2.2.1 q.2.2.2 ∧ runGo s q.2.2.2 q.1 (l.drop q.1) = runGo s p 0 l) (fun q => l.length - q.1) ((0, a2, c2, p)) (by exact sba) (by exact sba) (⟨Nat.zero_le _, hV9, hOwn, rfl⟩) ?_; rintro Si ⟨i, ra, rc, Q⟩ hli hii; (try dsimp only at hii); dsimp only [List.cons_append, List.nil_append]
    obtain ⟨hi, hV, hO, hgo⟩ := hii
    try dsimp only at hi hV hO hgo
    repeat (refine s50_L10c ?_; intros)
    refine JC.cond rfl (fun hc => ?_) (fun hc => ?_)
    · have hi' := dlt hc
      obtain ⟨x, hx, hd⟩ := drop_at hi'
      rw [hd, runGo] at hgo
      repeat (refine s50_L10c ?_; intros)
      refine JO.eff rfl rfl rfl (JEff.callM (Mc := []) rfl (List.Perm.refl _) (mayAll rfl) (p10_Step (s := s) (p := Q) (x := x) (by exact vta) (by exact vta) (by exact vta)) rfl ?_); intro w S2 M2 hl2 hw
      rcases hw with ⟨cc, e, he2, hcr, hst, rfl, rfl⟩ | ⟨q, b, tl, cap, hst, hqr2, hql, rfl, hqc, rfl⟩
      · dsimp only [List.nil_append]
        have hVc := V_clV (S := S2) hcr
        rw [hst, if_pos he2] at hgo
        repeat (refine s50_L10c ?_; intros)
        refine JC.cond rfl (fun hf => ?_) (fun hf => ?_)
        · repeat (refine s50_L10c ?_; intros)
          refine JX.ret3 Tryz.results50 (ResV.tmp rfl) (ResV.tmp rfl) (ResV.tmp rfl) (List.nil_sublist _) ?_
          rw [← hgo]
          exact ⟨_, _, rfl, ⟨Nat.le_refl _, by simp, by simp⟩, .inl ⟨rfl, rfl⟩⟩
        · exact absurd (by simpa using hf) he2
      · dsimp only [List.cons_append, List.nil_append]
        rw [hst, if_neg (by simp)] at hgo
        have hVc := V_clV (S := S2) noC_rng
        refine JO.blkNew rfl (fun hb0 hbb => ?_)
        refine JO.freeze hbb (by intro l hl; cases hl) (fun S4 hl4 hS4 => ?_)
        obtain ⟨_, _, _, _, hQ8, _⟩ := V_slice.1 hV
        have hVq := blk_slice (SHeap.le.refl S4) hS4 rfl hqc (by rw [hql]; exact hQ8) hqr2
        repeat (refine s50_L10c ?_; intros)
        exact JX.roundF ((i + 1, some ⟨b, 0, none⟩, cap, q)) (by exact lea) (⟨by omega, hVq.mono (by exact lea), .inr ⟨b, tl, rfl, hqc, hb0, hbb, (by exact lea : SHeap.le S4 _) _ _ hS4⟩, by rw [← hgo]; rfl⟩) (by (try dsimp only); omega) rfl (by exact sba) (by exact sba)
    · have hi' := dnlt hc
      rw [List.drop_eq_nil_of_le hi', runGo] at hgo
      obtain rfl : i = l.length := by omega
      repeat (refine s50_L10c ?_; intros)
      rw [← hgo]
      rcases hO with h | ⟨b, tl, rfl, hqc, hb0, hbb, hSb⟩
      · refine JX.ret3 Tryz.results50 (ResV.tmp rfl) (ResV.tmp rfl) (ResV.tmp rfl) (List.Sublist.refl _) ?_
        exact ⟨_, _, rfl, (cap_of hV).2, .inl ⟨h, rfl⟩⟩
      · refine JX.thaw hb0 hbb hSb ?_
        refine JX.ret3 Tryz.results50 (ResV.tmp rfl) (ResV.tmp rfl) (ResV.tmp rfl) (List.Sublist.refl _) ?_
        exact ⟨_, _, rfl, (cap_of hV).2, .inr ⟨b, tl, rfl, rfl⟩⟩
end Go.Dr
namespace Go.Dr
open Go.Proofs
set_option maxRecDepth 20000
set_option maxHeartbeats 2000000
set_option linter.unusedSimpArgs false
set_option linter.unusedVariables false
theorem s44_L10d {P K : Prop} (k : K) (h : Goal K → P := by
  intro zk
  (first | refine Walk ?_ | refine JC.block ?_ | refine JC.drawN 1 rfl [0, 1, 2, 3, 4, 5, 6, 7, 8, 9, 10, 11, 12, 13, 14, 15, 16, 17, 18, 19, 20, 21, 22] [0, 1, 2, 3, 4, 5, 6, 7, 8, 9, 10, 11, 12, 13, 14, 15, 16, 17, 18, 19, 20, 21] Tryz_mixed (by decide +kernel) ?_ | (refine WBox ?_))
  (repeat (first | revert zqg | revert zqf | revert zqe | revert zqd | revert zqc | revert zqb | revert zqa))
  exact zk.k) : P := h ⟨k⟩
theorem q10_cut {S : SHeap} {u : Value} {s : Snap} (hu : rSnap.V S u s) : FnR Tryz.prog 44 #[u] S (fun w S' => rSnap.V S' w (cutS s)) := by
  (refine Fn.enter (args := [u]) Tryz.func44 rfl Tryz.ntmps44 rfl ?_; intro w0)
  repeat (refine s44_L10d ?_; intros)
  (refine JO.eff rfl rfl rfl (JEff.alloc rfl ?_); intro cb hcb)
  repeat (refine s44_L10d ?_; intros)
  refine JO.pure rfl rfl rfl (JPure.sliceS (xs := s.nodes) (rep := rNode) (bt := 112) rfl (by exact vta) rfl rfl rfl (by omega) (by omega) (by omega) ?_); intro a1 c1 y1 hy1 hV1 hyl1 hyb1
  repeat (refine s44_L10d ?_; intros)
  refine JO.pure rfl rfl rfl (JPure.sliceS (xs := s.pods) (rep := rPod) (bt := 240) rfl (by exact vta) rfl rfl rfl (by omega) (by omega) (by omega) ?_); intro a2 c2 y2 hy2 hV2 hyl2 hyb2
  repeat (refine s44_L10d ?_; intros)
  refine JO.pure rfl rfl rfl (JPure.sliceS (xs := s.owners) (rep := rOwner) (bt := 56) rfl (by exact vta) rfl rfl rfl (by omega) (by omega) (by omega) ?_); intro a3 c3 y3 hy3 hV3 hyl3 hyb3
  repeat (refine s44_L10d ?_; intros)
  have e1 : y1 = s.nodes.take 12 := hy1.trans (cut_len s.nodes 12)
  have e2 : y2 = s.pods.take 30 := hy2.trans (cut_len s.pods 30)
  have e3 : y3 = s.owners.take 12 := hy3.trans (cut_len s.owners 12)
  subst e1; subst e2; subst e3
  have hV := V_snap (x := cutS s) hV1 hV2 hV3
  refine JO.eff rfl rfl rfl (JEff.storeW rfl rfl hV nna (List.Perm.refl _) rfl (by intro l hl; cases hl) ?_)
  refine JO.freezeV hV nna hcb (by intro l hl; cases hl) ?_; intro S2 hl2 hpo
  repeat (refine s44_L10d ?_; intros)
  exact JX.retCell Tryz.results44 rfl hpo (List.nil_sublist _) (fun w hw => ⟨rfl, hw⟩)
def chap10 : Snap := chapM 1
theorem q10_chapter {S : SHeap} : FnR Tryz.prog 81 #[] S (fun w S' => rSnap.V S' w chap10) := by
  haveI : TyR Tryz.prog 23 rVal := ⟨(inferInstance : TyR Tryz.prog 23 (rSlice 240 rPod)).b⟩
  have hmr : Rng 1 := by simp [Rng]
  (refine Fn.enter (args := []) Tryz.func81 rfl Tryz.ntmps81 rfl ?_; intro w0)
  repeat (first | (refine Walk ?_; intros) | refine JC.block ?_)
  (refine JO.eff rfl rfl rfl (JEff.alloc rfl ?_); intro rb hrb)
  repeat (first | (refine Walk ?_; intros) | refine JC.block ?_)
  (refine JO.eff rfl rfl rfl (JEff.alloc rfl ?_); intro vb hvb)
  repeat (first | (refine Walk ?_; intros) | refine JC.block ?_)
  refine JO.eff rfl rfl rfl (JEff.storeW rfl rfl V_vec15 nna (List.Perm.refl _) rfl (by intro l hl; cases hl) ?_)
  refine JO.freezeV V_vec15 nna hvb (by intro l hl; cases hl) ?_; intro S1 hl1 hpv
  repeat (first | (refine Walk ?_; intros) | refine JC.block ?_)
  obtain ⟨rfl, _, _⟩ := V_arr.1 (by assumption : (rArr 5).V _ _ [15, 0, 0, 0, 0])
  (refine JO.eff rfl rfl rfl (JEff.buildS (bt := 32) (rep := rLabel) (ys := [(⟨zoneS, ⟨#[120]⟩⟩ : Label)]) rfl rfl (⟨⟨V_lab (by decide) (by decide), nna⟩, trivial⟩) rfl rfl rfl (by decide) rfl ?_); intro S2 a2 hl2 hV2)
  repeat (first | (refine Walk ?_; intros) | refine JC.block ?_)
  obtain ⟨rfl, _, _⟩ := V_arr.1 (by assumption : (rArr 5).V _ _ [15, 0, 0, 0, 0])
  (refine JO.eff rfl rfl rfl (JEff.buildS (bt := 32) (rep := rLabel) (ys := [(⟨zoneS, ⟨#[121]⟩⟩ : Label)]) rfl rfl (⟨⟨V_lab (by decide) (by decide), nna⟩, trivial⟩) rfl rfl rfl (by decide) rfl ?_); intro S3 a3 hl3 hV3)
  repeat (first | (refine Walk ?_; intros) | refine JC.block ?_)
  obtain ⟨rfl, _, _⟩ := V_arr.1 (by assumption : (rArr 5).V _ _ [15, 0, 0, 0, 0])
  (refine JO.eff rfl rfl rfl (JEff.buildS (bt := 112) (rep := rNode) (ys := nodes8) rfl rfl ⟨⟨V_node8 (hV2.mono hl3), nna⟩, ⟨V_node8 hV3, nna⟩, ⟨V_node8 V_nil, nna⟩, trivial⟩ rfl rfl rfl (by decide) rfl ?_); intro S4 a4 hl4 hV4)
  repeat (first | (refine Walk ?_; intros) | refine JC.block ?_)
  (refine JO.eff rfl rfl rfl (JEff.buildS (bt := 56) (rep := rOwner) (ys := [(⟨⟨#[111]⟩, 1, zoneS, 1, false⟩ : Owner)]) rfl rfl (⟨⟨V_owner8 hmr, nna⟩, trivial⟩) rfl rfl rfl (by decide) rfl ?_); intro S5 a5 hl5 hV5)
  repeat (first | (refine Walk ?_; intros) | refine JC.block ?_)
  (refine JO.eff rfl rfl rfl (JEff.alloc rfl ?_); intro sb hsb)
  repeat (first | (refine Walk ?_; intros) | refine JC.block ?_)
  refine JO.eff rfl rfl rfl (JEff.storeW rfl rfl (V_snap (x := ⟨nodes8, [], [⟨⟨#[111]⟩, 1, zoneS, 1, false⟩]⟩) (hV4.mono (by exact lea)) V_nil (hV5.mono (by exact lea))) nna (List.Perm.refl _) rfl (by intro l hl; cases hl) ?_)
  repeat (first | (refine Walk ?_; intros) | refine JC.block ?_)
  refine JC.newRow 64 (Rp.sz rPod) ?_
  refine JC.loopF (σ := Nat × Option Addr × Nat × List Value) [(0, _), (2, _)] (fun q => [(3, .int .i64 q.1)])
    (fun q => [.row w0.heap.size 64 (Rp.sz rPod) (.slice q.2.1 q.1 q.2.2.1) q.1 (flatCells q.2.2.2), .blk sb (.cells #[.slice a4 3 3, .slice q.2.1 q.1 q.2.2.1, .slice a5 1 1] 26 (0, 0)), .blk rb (.cells #[.slice none 0 0, .slice none 0 0, .slice none 0 0] 26 (0, 0))])
    (fun Sk q => q.1 ≤ 3 ∧ allV rPod Sk q.2.2.2 (pods8.take q.1)) (fun q => 3 - q.1) (0, none, 0, []) (by exact sba) (by exact sba) (by rfl) ⟨Nat.zero_le _, trivial⟩ ?_
  rintro Sk ⟨k, ra, rc, vs⟩ hlk ⟨hk, hv1⟩
  dsimp only at hk hv1
  dsimp only [List.cons_append, List.nil_append]
  repeat (first | (refine Walk ?_; intros) | refine JC.block ?_)
  refine JC.cond rfl (fun hc => ?_) (fun hc => ?_)
  · have hk' : k < 3 := by have := of_decide_eq_true hc; omega
    obtain ⟨x, hx⟩ : ∃ x, ([112, 113, 114] : List UInt8)[k]? = some x := ⟨_, List.getElem?_eq_getElem (by simpa using hk')⟩
    have hst : pods8.take (k + 1) = pods8.take k ++ [pod8 x] := by
      match k with
      | 0 => cases hx; rfl
      | 1 => cases hx; rfl
      | 2 => cases hx; rfl
      | k + 3 => omega
    have hP := fun S => V_pod8 (S := S) (pqr_at hx)
    have hvl := hv1.length
    have hpl : (pods8.take k).length = k := by rw [List.length_take]; show min k 3 = k; omega
    rw [hpl] at hvl
    repeat (first | (refine Walk ?_; intros) | refine JC.block ?_)
    refine JC.drawTreeF 6 rfl [10] [1] [0, 2, 3, 4, 5, 6, 7] (.alt (ofL [1, 8, 9, 10, 11] .nil) (ofL [8, 1, 9, 10, 11] .nil)) Tryz_mixed (by decide +kernel) ?_
    refine JO.pure rfl rfl rfl (JPure.fieldP rfl rfl ?_)
    repeat (first | (refine Walk ?_; intros) | refine JC.block ?_)
    refine JO.pure rfl rfl rfl (JPure.sliceT rfl rfl rfl rfl (by omega) (by omega) (by show (k : Int) + 1 ≤ 3; omega) ?_)
    repeat (first | (refine Walk ?_; intros) | refine JC.block ?_)
    refine JO.alt ?_ ?_
    · refine JO.eff rfl rfl rfl (JEff.loadE (rVal) (x0 := .slice ra k rc) rfl (by (first | exact List.mem_cons_self | exact List.mem_cons_of_mem _ List.mem_cons_self | exact List.mem_cons_of_mem _ (List.mem_cons_of_mem _ List.mem_cons_self))) rfl ⟨rfl, rfl⟩ inferInstance rfl ?_)
      repeat (first | (refine Walk ?_; intros) | refine JC.block ?_)
      (refine JO.eff rfl rfl rfl (JEff.build (rep := rPod) (ys := [pod8 x]) rfl rfl ⟨⟨hP _, nna⟩, trivial⟩ rfl rfl rfl rfl ?_); intro bb hbb hvv)
      repeat (first | (refine Walk ?_; intros) | refine JC.block ?_)
      (refine JO.eff rfl rfl rfl (JEff.appendL (rep := rPod) rfl rfl rfl rfl (List.Perm.swap _ _ _) (by exact hvv.flat) (by intro c hc; exact flat_one (fun v hv => (hvv.size v hv).2) c hc) (by unfold big; omega) (by unfold big; omega) (by first | exact rowT_ok | (intro l hl; cases hl)) rfl ?_); intro a2 c2; clear hvv hbb)
      repeat (first | (refine Walk ?_; intros) | refine JC.block ?_)
      refine JO.pure rfl rfl rfl (JPure.fieldP rfl rfl ?_)
      refine JO.eff rfl rfl rfl (JEff.store (rep := rVal) (x0 := .slice a2 (k + 1) c2) rfl rfl (V_val.2 ⟨rfl, rfl⟩) nna (List.Perm.swap _ _ _) (by simp [rVal]) (by intro l hl; cases hl) ?_)
      repeat (first | (refine Walk ?_; intros) | refine JC.block ?_)
      refine JX.perm (M' := [_, _, _]) (List.Perm.trans (List.Perm.swap _ _ _) (List.Perm.refl _)) ?_
      exact JX.roundF (k + 1, a2, c2, vs ++ [_]) (by exact lea) ⟨by dsimp only; omega, by (try dsimp only); rw [hst]; exact allV_add (by exact lea) hv1 (hP _) nna⟩ (by (try dsimp only); omega) (by simp [flat_append]; rfl) (by exact sba) (by exact sba)
    · (refine JO.eff rfl rfl rfl (JEff.build (rep := rPod) (ys := [pod8 x]) rfl rfl ⟨⟨hP _, nna⟩, trivial⟩ rfl rfl rfl rfl ?_); intro bb hbb hvv)
      repeat (first | (refine Walk ?_; intros) | refine JC.block ?_)
      refine JO.eff rfl rfl rfl (JEff.loadE (rVal) (x0 := .slice ra k rc) rfl (by (first | exact List.mem_cons_self | exact List.mem_cons_of_mem _ List.mem_cons_self | exact List.mem_cons_of_mem _ (List.mem_cons_of_mem _ List.mem_cons_self))) rfl ⟨rfl, rfl⟩ inferInstance rfl ?_)
      repeat (first | (refine Walk ?_; intros) | refine JC.block ?_)
      (refine JO.eff rfl rfl rfl (JEff.appendL (rep := rPod) rfl rfl rfl rfl (List.Perm.swap _ _ _) (by exact hvv.flat) (by intro c hc; exact flat_one (fun v hv => (hvv.size v hv).2) c hc) (by unfold big; omega) (by unfold big; omega) (by first | exact rowT_ok | (intro l hl; cases hl)) rfl ?_); intro a2 c2; clear hvv hbb)
      repeat (first | (refine Walk ?_; intros) | refine JC.block ?_)
      refine JO.pure rfl rfl rfl (JPure.fieldP rfl rfl ?_)
      refine JO.eff rfl rfl rfl (JEff.store (rep := rVal) (x0 := .slice a2 (k + 1) c2) rfl rfl (V_val.2 ⟨rfl, rfl⟩) nna (List.Perm.swap _ _ _) (by simp [rVal]) (by intro l hl; cases hl) ?_)
      repeat (first | (refine Walk ?_; intros) | refine JC.block ?_)
      refine JX.perm (M' := [_, _, _]) (List.Perm.trans (List.Perm.swap _ _ _) (List.Perm.refl _)) ?_
      exact JX.roundF (k + 1, a2, c2, vs ++ [_]) (by exact lea) ⟨by dsimp only; omega, by (try dsimp only); rw [hst]; exact allV_add (by exact lea) hv1 (hP _) nna⟩ (by (try dsimp only); omega) (by simp [flat_append]; rfl) (by exact sba) (by exact sba)
  · obtain rfl : k = 3 := by have := of_decide_eq_false hc; omega
    refine JC.freezeRow (rep := rPod) (bt := 240) (xs := pods8) hv1 rfl (by decide) (by decide) (fun S9 hl9 hV9 => ?_)
    refine JC.freeze hsb (fun S10 hl10 hS10 => ?_)
    have hfin : PtrTo S10 ⟨sb, 0, none⟩ rSnap (chapM 1) :=
      cells_ptr (v := .agg #[.slice a4 3 3, .slice ra 3 rc, .slice a5 1 1]) hS10 (map_R (seq1 ((hV4.mono (by exact lea)).one rfl) (seq1 ((hV9.mono (by exact lea)).one rfl) ((hV5.mono (by exact lea)).one rfl))))
    repeat (first | (refine Walk ?_; intros) | refine JC.block ?_)
    refine JO.eff rfl rfl rfl (JEff.storeW rfl rfl (by assumption : rSnap.V _ _ (chapM 1)) nna (List.Perm.refl _) rfl (by intro l hl; cases hl) ?_)
    refine JO.freezeV (by assumption : rSnap.V _ _ (chapM 1)) nna hrb (by intro l hl; cases hl) ?_; intro S11 hl11 hpo
    repeat (first | (refine Walk ?_; intros) | refine JC.block ?_)
    exact JX.retCell Tryz.results81 rfl hpo (List.nil_sublist _) (fun w hw => ⟨rfl, hw⟩)
def stV (x : Step) : Value := .agg #[.int .i64 x.kind, .int .i64 x.pod, .int .i64 x.node]
theorem V_stV {S : SHeap} {x : Step} (h : Rng x.kind ∧ Rng x.pod ∧ Rng x.node) : rStep.V S (stV x) x := V_step.2 ⟨rfl, h⟩
theorem q10_off {S : SHeap} (pod : Int) (h : Rng pod) : FnV Tryz.prog 83 #[.int .i64 pod] S (stV ⟨1, pod, 0⟩) := by
  (refine Fn.enter (args := [.int .i64 pod]) Tryz.func83 rfl Tryz.ntmps83 rfl ?_; intro w0)
  repeat (first | (refine Walk ?_; intros) | refine JC.block ?_)
  (refine JO.eff rfl rfl rfl (JEff.alloc rfl ?_); intro cb hcb)
  repeat (first | (refine Walk ?_; intros) | refine JC.block ?_)
  have hV : ∀ S, rStep.V S (.agg (flatCells [.int .i64 1, .int .i64 pod, .int .i64 0]).toArray) ⟨1, pod, 0⟩ := fun S => V_step.2 ⟨by simp [flatCells, Value.cells], by unfold Rng; dsimp only; omega, h, by unfold Rng; dsimp only; omega⟩
  refine JO.eff rfl rfl rfl (JEff.storeW rfl rfl (hV _) nna (List.Perm.refl _) rfl (by intro l hl; cases hl) ?_)
  refine JO.freezeV (hV _) nna hcb (by intro l hl; cases hl) ?_; intro S2 hl2 hpo
  repeat (first | (refine Walk ?_; intros) | refine JC.block ?_)
  exact JX.retCell Tryz.results83 rfl hpo (List.nil_sublist _) (fun w hw => ⟨rfl, by obtain ⟨rfl, _⟩ := V_step.1 hw; rfl⟩)
theorem q10_on {S : SHeap} (pod node : Int) (h : Rng pod) (h2 : Rng node) : FnV Tryz.prog 82 #[.int .i64 pod, .int .i64 node] S (stV ⟨2, pod, node⟩) := by
  (refine Fn.enter (args := [.int .i64 pod, .int .i64 node]) Tryz.func82 rfl Tryz.ntmps82 rfl ?_; intro w0)
  repeat (first | (refine Walk ?_; intros) | refine JC.block ?_)
  (refine JO.eff rfl rfl rfl (JEff.alloc rfl ?_); intro cb hcb)
  repeat (first | (refine Walk ?_; intros) | refine JC.block ?_)
  have hV : ∀ S, rStep.V S (.agg (flatCells [.int .i64 2, .int .i64 pod, .int .i64 node]).toArray) ⟨2, pod, node⟩ := fun S => V_step.2 ⟨by simp [flatCells, Value.cells], by unfold Rng; dsimp only; omega, h, h2⟩
  refine JO.eff rfl rfl rfl (JEff.storeW rfl rfl (hV _) nna (List.Perm.refl _) rfl (by intro l hl; cases hl) ?_)
  refine JO.freezeV (hV _) nna hcb (by intro l hl; cases hl) ?_; intro S2 hl2 hpo
  repeat (first | (refine Walk ?_; intros) | refine JC.block ?_)
  exact JX.retCell Tryz.results82 rfl hpo (List.nil_sublist _) (fun w hw => ⟨rfl, by obtain ⟨rfl, _⟩ := V_step.1 hw; rfl⟩)
end Go.Dr
namespace Go.Dr
open Go.Proofs
set_option maxRecDepth 20000
set_option maxHeartbeats 2000000
set_option linter.unusedSimpArgs false
set_option linter.unusedVariables false
theorem p10_StepS {S : SHeap} {u v xv : Value} {s : Snap} {p : List Int} {x : Step} (hu : rSnap.V S u s) (hv : (rSlice 8 rI64).V S v p) (hx : rStep.V S xv x) : FnSt Tryz.prog 45 #[u, v, xv] S (stepV s p x).1 (stepV s p x).2.1 (.int .i64 (stepV s p x).2.2) := by
  obtain ⟨_, _, _, _, hQ8, _⟩ := V_slice.1 hv
  refine Fn.frozen (p10_Step hu hv hx) fun w S' M' hw => ?_
  rcases hw with ⟨c, e, he, hcr, hst, rfl, rfl⟩ | ⟨q, b, tl, cap, hst, hqr, hql, rfl, hqc, rfl⟩
  · rw [hst]
    exact .inl ⟨rfl, _, rfl, V_nil, V_clV hcr⟩
  · rw [hst]
    exact .inr ⟨b, _, rfl, fun S'' hl hS => ⟨_, rfl, blk_slice hl hS rfl hqc (by rw [hql]; exact hQ8) hqr, V_clV noC_rng⟩⟩
theorem w10_Step {S : SHeap} {u v xv : Value} {s : Snap} {p q : List Int} {c : Clause} {e : Int} {x : Step} (h : stepV s p x = (q, c, e)) (hu : rSnap.V S u s) (hv : (rSlice 8 rI64).V S v p) (hx : rStep.V S xv x) : FnSt Tryz.prog 45 #[u, v, xv] S q c (.int .i64 e) := by
  have hh := p10_StepS hu hv hx
  rw [h] at hh; exact hh
theorem p10_RunS {S : SHeap} {u v lv : Value} {s : Snap} {p : List Int} {l : List Step} (hu : rSnap.V S u s) (hv : (rSlice 8 rI64).V S v p) (hl : (rSlice 24 rStep).V S lv l) :
    FnLs Tryz.prog 50 #[u, v, lv] S 8 rI64 (runV s p l).1 [.int .i64 (runV s p l).2.1, .int .i64 (runV s p l).2.2] := by
  refine Fn.frozen (p10_Run hu hv hl) fun w S' M' hw => ?_
  obtain ⟨a, c, rfl, ⟨h1, h2, h3⟩, ⟨he, rfl⟩ | ⟨b, tl, rfl, rfl⟩⟩ := hw
  · rw [he]
    exact .inl ⟨rfl, _, rfl, V_slice.2 ⟨_, _, rfl, by simp, by simp, by simp, by simp⟩⟩
  · exact .inr ⟨b, _, rfl, fun S'' hl hS => ⟨_, rfl, blk_slice hl hS rfl h1 h2 h3⟩⟩
theorem w10_Run {S : SHeap} {u v lv : Value} {s : Snap} {p q : List Int} {l : List Step} {n e : Int} (h : runV s p l = (q, n, e)) (hu : rSnap.V S u s) (hv : (rSlice 8 rI64).V S v p) (hl : (rSlice 24 rStep).V S lv l) : FnLs Tryz.prog 50 #[u, v, lv] S 8 rI64 q [.int .i64 n, .int .i64 e] := by
  have hh := p10_RunS hu hv hl
  rw [h] at hh; exact hh
theorem w10_Ways {S : SHeap} {u v : Value} {s : Snap} {p q : List Int} {pod : Int} (h : waysV s p pod = q) (hn : s.nodes.length ≤ 1000) (hpr : Rng pod) (hu : rSnap.V S u s) (hv : (rSlice 8 rI64).V S v p) : FnL Tryz.prog 52 #[u, v, .int .i64 pod] S 8 rI64 q := by
  have hh := p10_Ways pod hu hv hn hpr
  rw [h] at hh; exact hh
theorem w10_May {S : SHeap} {u v xv : Value} {s : Snap} {p : List Int} {x : Step} {b : Bool} (h : mayV s p x = b) (hu : rSnap.V S u s) (hv : (rSlice 8 rI64).V S v p) (hx : rStep.V S xv x) : FnV Tryz.prog 47 #[u, v, xv] S (.bool b) := by
  have hh := p10_May hu hv hx
  rw [h] at hh; exact hh
theorem f10_1 : stepV chap10 [0, 1, -1] ⟨2, 2, 0⟩ = ([], ⟨1, 0, 0, 5⟩, 100) := by decide +kernel
theorem f10_2 : stepV chap10 [0, 1, -1] ⟨2, 2, 2⟩ = ([0, 1, 2], noC, 0) := by decide +kernel
theorem f10_3 : runV chap10 [0, 1, -1] [⟨1, 0, 0⟩, ⟨2, 2, 0⟩, ⟨1, 1, 0⟩, ⟨1, 2, 0⟩] = ([], 3, 100) := by decide +kernel
theorem f10_4 : waysV chap10 [0, 1, -1] 2 = [2] := by decide +kernel
theorem f10_5 : waysV chap10 [0, 1, -1] 0 = [] := by decide +kernel
theorem f10_6 : mayV chap10 [0, 1, -1] ⟨1, 0, 0⟩ = true := by decide +kernel
theorem s49_L10e {P K : Prop} (k : K) (h : Goal K → P := by
  intro zk
  (first | refine Walk ?_ | refine JC.block ?_ | refine JC.drawN 5 rfl [0, 1, 2, 3, 4, 5, 6, 7, 8, 9, 10, 11, 12, 13, 14] [8, 9, 10, 11, 12, 13, 14] Tryz_mixed (by decide +kernel) ?_ | (refine JO.eff rfl rfl rfl (JEff.callV rfl (r0_EqInts (by exact vta) (by exact vta)) rfl ?_); intro zqa zqb) | (refine JO.eff rfl rfl rfl (JEff.callV rfl (p10_May (by exact vta) (by exact vta) (by exact vta)) rfl ?_); intro zqa zqb) | (refine JO.eff rfl rfl rfl (JEff.callL rfl (p10_Ways _ (by exact vta) (by exact vta) (by first | assumption | omega) (by first | assumption | (unfold Rng; omega))) rfl ?_); intro zqa zqb zqc zqd zqe zqf) | (refine JO.eff rfl rfl rfl (JEff.callR rfl (q10_chapter) rfl ?_); intro zqa zqb zqc zqd) | (refine JO.eff rfl rfl rfl (JEff.callV rfl (q10_on _ _ (by unfold Rng; omega) (by unfold Rng; omega)) rfl ?_); intro zqa zqb) | (refine JO.eff rfl rfl rfl (JEff.callV rfl (q10_off _ (by unfold Rng; omega)) rfl ?_); intro zqa zqb) | (refine WNew ?_) | (refine WPut ?_))
  (repeat (first | revert zqg | revert zqf | revert zqe | revert zqd | revert zqc | revert zqb | revert zqa))
  exact zk.k) : P := h ⟨k⟩
theorem q10_works {S : SHeap} : FnV Tryz.prog 49 #[] S (.bool true) := by
  (refine Fn.enter (args := []) Tryz.func49 rfl Tryz.ntmps49 rfl ?_; intro w0)
  repeat (refine s49_L10e ?_; intros)
  (refine JO.eff rfl rfl rfl (JEff.buildS (bt := 8) (rep := rI64) (ys := [(0 : Int), 1, -1]) rfl rfl (⟨⟨V_num, nna⟩, ⟨V_num, nna⟩, ⟨V_num, nna⟩, trivial⟩) rfl rfl rfl (by decide) rfl ?_); intro S2 a2 hl2 hV2)
  have hcl5 : ∀ S, rClause.V S (clV ⟨1, 0, 0, 5⟩) ⟨1, 0, 0, 5⟩ := fun S => V_clV (by simp [Rng])
  have hcl0 : ∀ S, rClause.V S (clV noC) noC := fun S => V_clV noC_rng
  repeat (refine s49_L10e ?_; intros)
  refine JC.partF0 (σ := Addr) [(1, _), (2, _)] (fun q => [(4, .pointer (some q)), (5, .int .i64 100)]) (fun SA q => PtrTo SA q rClause ⟨1, 0, 0, 5⟩) ?_ (by exact sba) ?_; rotate_left; rintro SA kp hlA hiA; (try dsimp only at hiA); dsimp only [List.cons_append, List.nil_append]; rotate_left
  · refine JC.drawTree 3 rfl [9, 11] [0, 1] (.alt (ofL [2] (.alt (ofL [3, 4, 5, 6, 7, 8, 9, 10, 11] .nil) (ofL [8, 3, 4, 5, 6, 7, 9, 10, 11] .nil))) (ofL [8, 2, 3, 4, 5, 6, 7, 9, 10, 11] .nil)) Tryz_mixed (by decide +kernel) ?_
    repeat (refine s49_L10e ?_; intros)
    refine JO.alt ?_ ?_
    · repeat (refine s49_L10e ?_; intros)
      refine JO.alt ?_ ?_
      all_goals
        repeat (first | (refine Walk ?_; intros) | refine JC.block ?_ | refine JC.drawN 5 rfl [0, 1, 2, 3, 4, 5, 6, 7, 8, 9, 10, 11, 12, 13, 14] [8, 9, 10, 11, 12, 13, 14] Tryz_mixed (by decide +kernel) ?_ | (refine JO.eff rfl rfl rfl (JEff.callSt rfl (w10_Step f10_1 (by exact vta) (by exact vta) (V_stV (by simp [Rng]))) rfl ?_); intro _ _ _ _ _ _ _) | (refine JO.eff rfl rfl rfl (JEff.callV rfl (r0_EqInts (by exact vta) (by exact vta)) rfl ?_); intro _ _) | (refine JO.eff rfl rfl rfl (JEff.callV rfl (p10_May (by exact vta) (by exact vta) (by exact vta)) rfl ?_); intro _ _) | (refine JO.eff rfl rfl rfl (JEff.callL rfl (p10_Ways _ (by exact vta) (by exact vta) (by first | assumption | omega) (by first | assumption | (unfold Rng; omega))) rfl ?_); intro _ _ _ _ _ _) | (refine JO.eff rfl rfl rfl (JEff.callR rfl (q10_chapter) rfl ?_); intro _ _ _ _) | (refine JO.eff rfl rfl rfl (JEff.callV rfl (q10_on _ _ (by unfold Rng; omega) (by unfold Rng; omega)) rfl ?_); intro _ _) | (refine JO.eff rfl rfl rfl (JEff.callV rfl (q10_off _ (by unfold Rng; omega)) rfl ?_); intro _ _) | (refine WNew ?_; intros) | (refine WPut ?_; intros))
        exact JX.partF ((_)) (by exact lea) (by exact pta) rfl (by exact sba) (by exact sba)
    · repeat (first | (refine Walk ?_; intros) | refine JC.block ?_ | refine JC.drawN 5 rfl [0, 1, 2, 3, 4, 5, 6, 7, 8, 9, 10, 11, 12, 13, 14] [8, 9, 10, 11, 12, 13, 14] Tryz_mixed (by decide +kernel) ?_ | (refine JO.eff rfl rfl rfl (JEff.callSt rfl (w10_Step f10_1 (by exact vta) (by exact vta) (V_stV (by simp [Rng]))) rfl ?_); intro _ _ _ _ _ _ _) | (refine JO.eff rfl rfl rfl (JEff.callV rfl (r0_EqInts (by exact vta) (by exact vta)) rfl ?_); intro _ _) | (refine JO.eff rfl rfl rfl (JEff.callV rfl (p10_May (by exact vta) (by exact vta) (by exact vta)) rfl ?_); intro _ _) | (refine JO.eff rfl rfl rfl (JEff.callL rfl (p10_Ways _ (by exact vta) (by exact vta) (by first | assumption | omega) (by first | assumption | (unfold Rng; omega))) rfl ?_); intro _ _ _ _ _ _) | (refine JO.eff rfl rfl rfl (JEff.callR rfl (q10_chapter) rfl ?_); intro _ _ _ _) | (refine JO.eff rfl rfl rfl (JEff.callV rfl (q10_on _ _ (by unfold Rng; omega) (by unfold Rng; omega)) rfl ?_); intro _ _) | (refine JO.eff rfl rfl rfl (JEff.callV rfl (q10_off _ (by unfold Rng; omega)) rfl ?_); intro _ _) | (refine WNew ?_; intros) | (refine WPut ?_; intros))
      exact JX.partF ((_)) (by exact lea) (by exact pta) rfl (by exact sba) (by exact sba)
  repeat (refine s49_L10e ?_; intros)
  refine JC.partF0 (σ := Option Addr × Nat) [(1, _), (2, _), (4, _), (5, _)] (fun q => [(6, .slice q.1 3 q.2), (8, .int .i64 0)]) (fun SB q => (rSlice 8 rI64).V SB (.slice q.1 3 q.2) [0, 1, 2]) ?_ (by exact sba) ?_; rotate_left; rintro SB ⟨ra, rc⟩ hlB hiB; (try dsimp only at hiB); dsimp only [List.cons_append, List.nil_append]; rotate_left
  · refine JC.drawTree 4 rfl [9, 11] [0, 1] (.alt (ofL [2] (.alt (ofL [3, 4, 5, 6, 7, 8, 9, 10, 11] .nil) (ofL [8, 3, 4, 5, 6, 7, 9, 10, 11] .nil))) (ofL [8, 2, 3, 4, 5, 6, 7, 9, 10, 11] .nil)) Tryz_mixed (by decide +kernel) ?_
    repeat (refine s49_L10e ?_; intros)
    refine JO.alt ?_ ?_
    · repeat (refine s49_L10e ?_; intros)
      refine JO.alt ?_ ?_
      all_goals
        repeat (first | (refine Walk ?_; intros) | refine JC.block ?_ | refine JC.drawN 5 rfl [0, 1, 2, 3, 4, 5, 6, 7, 8, 9, 10, 11, 12, 13, 14] [8, 9, 10, 11, 12, 13, 14] Tryz_mixed (by decide +kernel) ?_ | (refine JO.eff rfl rfl rfl (JEff.callSt rfl (w10_Step f10_2 (by exact vta) (by exact vta) (V_stV (by simp [Rng]))) rfl ?_); intro _ _ _ _ _ _ _) | (refine JO.eff rfl rfl rfl (JEff.callV rfl (r0_EqInts (by exact vta) (by exact vta)) rfl ?_); intro _ _) | (refine JO.eff rfl rfl rfl (JEff.callV rfl (p10_May (by exact vta) (by exact vta) (by exact vta)) rfl ?_); intro _ _) | (refine JO.eff rfl rfl rfl (JEff.callL rfl (p10_Ways _ (by exact vta) (by exact vta) (by first | assumption | omega) (by first | assumption | (unfold Rng; omega))) rfl ?_); intro _ _ _ _ _ _) | (refine JO.eff rfl rfl rfl (JEff.callR rfl (q10_chapter) rfl ?_); intro _ _ _ _) | (refine JO.eff rfl rfl rfl (JEff.callV rfl (q10_on _ _ (by unfold Rng; omega) (by unfold Rng; omega)) rfl ?_); intro _ _) | (refine JO.eff rfl rfl rfl (JEff.callV rfl (q10_off _ (by unfold Rng; omega)) rfl ?_); intro _ _) | (refine WNew ?_; intros) | (refine WPut ?_; intros))
        exact JX.partF ((_, _)) (by exact lea) (by exact vta) rfl (by exact sba) (by exact sba)
    · repeat (first | (refine Walk ?_; intros) | refine JC.block ?_ | refine JC.drawN 5 rfl [0, 1, 2, 3, 4, 5, 6, 7, 8, 9, 10, 11, 12, 13, 14] [8, 9, 10, 11, 12, 13, 14] Tryz_mixed (by decide +kernel) ?_ | (refine JO.eff rfl rfl rfl (JEff.callSt rfl (w10_Step f10_2 (by exact vta) (by exact vta) (V_stV (by simp [Rng]))) rfl ?_); intro _ _ _ _ _ _ _) | (refine JO.eff rfl rfl rfl (JEff.callV rfl (r0_EqInts (by exact vta) (by exact vta)) rfl ?_); intro _ _) | (refine JO.eff rfl rfl rfl (JEff.callV rfl (p10_May (by exact vta) (by exact vta) (by exact vta)) rfl ?_); intro _ _) | (refine JO.eff rfl rfl rfl (JEff.callL rfl (p10_Ways _ (by exact vta) (by exact vta) (by first | assumption | omega) (by first | assumption | (unfold Rng; omega))) rfl ?_); intro _ _ _ _ _ _) | (refine JO.eff rfl rfl rfl (JEff.callR rfl (q10_chapter) rfl ?_); intro _ _ _ _) | (refine JO.eff rfl rfl rfl (JEff.callV rfl (q10_on _ _ (by unfold Rng; omega) (by unfold Rng; omega)) rfl ?_); intro _ _) | (refine JO.eff rfl rfl rfl (JEff.callV rfl (q10_off _ (by unfold Rng; omega)) rfl ?_); intro _ _) | (refine WNew ?_; intros) | (refine WPut ?_; intros))
      exact JX.partF ((_, _)) (by exact lea) (by exact vta) rfl (by exact sba) (by exact sba)
  repeat (refine s49_L10e ?_; intros)
  (refine JO.eff rfl rfl rfl (JEff.buildS (bt := 24) (rep := rStep) (ys := [(⟨1, 0, 0⟩ : Step), ⟨2, 2, 0⟩, ⟨1, 1, 0⟩, ⟨1, 2, 0⟩]) rfl rfl (⟨⟨V_stV (by simp [Rng]), nna⟩, ⟨V_stV (by simp [Rng]), nna⟩, ⟨V_stV (by simp [Rng]), nna⟩, ⟨V_stV (by simp [Rng]), nna⟩, trivial⟩) rfl rfl rfl (by decide) rfl ?_); intro S7 a7 hl7 hV7)
  repeat (first | (refine Walk ?_; intros) | refine JC.block ?_ | refine JC.drawN 5 rfl [0, 1, 2, 3, 4, 5, 6, 7, 8, 9, 10, 11, 12, 13, 14] [8, 9, 10, 11, 12, 13, 14] Tryz_mixed (by decide +kernel) ?_ | (refine JO.eff rfl rfl rfl (JEff.callLs rfl (w10_Run f10_3 (by exact vta) (by exact vta) hV7) rfl ?_); intro _ _ _ _ _ _) | (refine JO.eff rfl rfl rfl (JEff.callV rfl (r0_EqInts (by exact vta) (by exact vta)) rfl ?_); intro _ _) | (refine JO.eff rfl rfl rfl (JEff.callV rfl (p10_May (by exact vta) (by exact vta) (by exact vta)) rfl ?_); intro _ _) | (refine JO.eff rfl rfl rfl (JEff.callL rfl (p10_Ways _ (by exact vta) (by exact vta) (by first | assumption | omega) (by first | assumption | (unfold Rng; omega))) rfl ?_); intro _ _ _ _ _ _) | (refine JO.eff rfl rfl rfl (JEff.callR rfl (q10_chapter) rfl ?_); intro _ _ _ _) | (refine JO.eff rfl rfl rfl (JEff.callV rfl (q10_on _ _ (by unfold Rng; omega) (by unfold Rng; omega)) rfl ?_); intro _ _) | (refine JO.eff rfl rfl rfl (JEff.callV rfl (q10_off _ (by unfold Rng; omega)) rfl ?_); intro _ _) | (refine WNew ?_; intros) | (refine WPut ?_; intros))
  refine JC.drawTree 6 rfl [0, 1, 2, 3, 4, 5, 6, 7, 11, 12, 13, 14, 15, 16, 22, 23, 24, 25, 27, 28, 29, 30, 35, 36, 37, 38, 39, 40, 41, 42, 43, 44, 45, 46, 47, 48, 49] [0, 1, 2, 3, 4, 5, 6, 7, 8, 9, 10, 11, 12, 13, 14, 15, 16, 17, 18] (.alt (ofL [19, 20, 21, 22, 23, 24, 25, 26, 27, 28, 29, 30, 31, 32, 33, 34, 35, 36, 37, 38, 39, 40, 41, 42, 43, 44, 45, 46, 47, 48, 49] .nil) (ofL [20, 19, 21, 22, 23, 24, 25, 26, 27, 28, 29, 30, 31, 32, 33, 34, 35, 36, 37, 38, 39, 40, 41, 42, 43, 44, 45, 46, 47, 48, 49] .nil)) Tryz_mixed (by decide +kernel) ?_
  repeat (first | (refine Walk ?_; intros) | refine JC.block ?_ | refine JC.drawN 5 rfl [0, 1, 2, 3, 4, 5, 6, 7, 8, 9, 10, 11, 12, 13, 14] [8, 9, 10, 11, 12, 13, 14] Tryz_mixed (by decide +kernel) ?_ | refine JO.pure rfl rfl rfl (JPure.eqR rfl vta rfl V_cl rfl rfl ?_) | (refine JO.eff rfl rfl rfl (JEff.callV rfl (r0_EqInts (by exact vta) (by exact vta)) rfl ?_); intro _ _) | (refine JO.eff rfl rfl rfl (JEff.callV rfl (p10_May (by exact vta) (by exact vta) (by exact vta)) rfl ?_); intro _ _) | (refine JO.eff rfl rfl rfl (JEff.callL rfl (p10_Ways _ (by exact vta) (by exact vta) (by first | assumption | omega) (by first | assumption | (unfold Rng; omega))) rfl ?_); intro _ _ _ _ _ _) | (refine JO.eff rfl rfl rfl (JEff.callR rfl (q10_chapter) rfl ?_); intro _ _ _ _) | (refine JO.eff rfl rfl rfl (JEff.callV rfl (q10_on _ _ (by unfold Rng; omega) (by unfold Rng; omega)) rfl ?_); intro _ _) | (refine JO.eff rfl rfl rfl (JEff.callV rfl (q10_off _ (by unfold Rng; omega)) rfl ?_); intro _ _) | (refine WNew ?_; intros) | (refine WPut ?_; intros))
  (refine JO.eff rfl rfl rfl (JEff.buildS (bt := 8) (rep := rI64) (ys := [(0 : Int), 1, 2]) rfl rfl (⟨⟨V_num, nna⟩, ⟨V_num, nna⟩, ⟨V_num, nna⟩, trivial⟩) rfl rfl rfl (by decide) rfl ?_); intro S8 a8 hl8 hV8)
  repeat (first | (refine Walk ?_; intros) | refine JC.block ?_ | refine JC.drawN 5 rfl [0, 1, 2, 3, 4, 5, 6, 7, 8, 9, 10, 11, 12, 13, 14] [8, 9, 10, 11, 12, 13, 14] Tryz_mixed (by decide +kernel) ?_ | (refine JO.eff rfl rfl rfl (JEff.callV rfl (w_EqInts (by exact vta) (by exact vta)) rfl ?_); intro _ _) | (refine JO.eff rfl rfl rfl (JEff.callV rfl (r0_EqInts (by exact vta) (by exact vta)) rfl ?_); intro _ _) | (refine JO.eff rfl rfl rfl (JEff.callV rfl (p10_May (by exact vta) (by exact vta) (by exact vta)) rfl ?_); intro _ _) | (refine JO.eff rfl rfl rfl (JEff.callL rfl (p10_Ways _ (by exact vta) (by exact vta) (by first | assumption | omega) (by first | assumption | (unfold Rng; omega))) rfl ?_); intro _ _ _ _ _ _) | (refine JO.eff rfl rfl rfl (JEff.callR rfl (q10_chapter) rfl ?_); intro _ _ _ _) | (refine JO.eff rfl rfl rfl (JEff.callV rfl (q10_on _ _ (by unfold Rng; omega) (by unfold Rng; omega)) rfl ?_); intro _ _) | (refine JO.eff rfl rfl rfl (JEff.callV rfl (q10_off _ (by unfold Rng; omega)) rfl ?_); intro _ _) | (refine WNew ?_; intros) | (refine WPut ?_; intros))
  refine JO.alt ?_ ?_
  · repeat (first | (refine Walk ?_; intros) | refine JC.block ?_ | refine JC.drawN 5 rfl [0, 1, 2, 3, 4, 5, 6, 7, 8, 9, 10, 11, 12, 13, 14] [8, 9, 10, 11, 12, 13, 14] Tryz_mixed (by decide +kernel) ?_ | (refine JO.eff rfl rfl rfl (JEff.callL rfl (w10_Ways f10_4 (by decide) (by simp [Rng]) (by exact vta) (by exact vta)) rfl ?_); intro _ _ _ _ _ _) | (refine JO.eff rfl rfl rfl (JEff.callV rfl (r0_EqInts (by exact vta) (by exact vta)) rfl ?_); intro _ _) | (refine JO.eff rfl rfl rfl (JEff.callV rfl (p10_May (by exact vta) (by exact vta) (by exact vta)) rfl ?_); intro _ _) | (refine JO.eff rfl rfl rfl (JEff.callL rfl (p10_Ways _ (by exact vta) (by exact vta) (by first | assumption | omega) (by first | assumption | (unfold Rng; omega))) rfl ?_); intro _ _ _ _ _ _) | (refine JO.eff rfl rfl rfl (JEff.callR rfl (q10_chapter) rfl ?_); intro _ _ _ _) | (refine JO.eff rfl rfl rfl (JEff.callV rfl (q10_on _ _ (by unfold Rng; omega) (by unfold Rng; omega)) rfl ?_); intro _ _) | (refine JO.eff rfl rfl rfl (JEff.callV rfl (q10_off _ (by unfold Rng; omega)) rfl ?_); intro _ _) | (refine WNew ?_; intros) | (refine WPut ?_; intros))
    (refine JO.eff rfl rfl rfl (JEff.buildS (bt := 8) (rep := rI64) (ys := [(2 : Int)]) rfl rfl (⟨⟨V_num, nna⟩, trivial⟩) rfl rfl rfl (by decide) rfl ?_); intro S9 a9 hl9 hV9)
    repeat (first | (refine Walk ?_; intros) | refine JC.block ?_ | refine JC.drawN 5 rfl [0, 1, 2, 3, 4, 5, 6, 7, 8, 9, 10, 11, 12, 13, 14] [8, 9, 10, 11, 12, 13, 14] Tryz_mixed (by decide +kernel) ?_ | (refine JO.eff rfl rfl rfl (JEff.callV rfl (w_EqInts (by exact vta) (by exact vta)) rfl ?_); intro _ _) | (refine JO.eff rfl rfl rfl (JEff.callL rfl (w10_Ways f10_5 (by decide) (by simp [Rng]) (by exact vta) (by exact vta)) rfl ?_); intro _ _ _ _ _ _) | (refine JO.eff rfl rfl rfl (JEff.callV rfl (w10_May f10_6 (by exact vta) (by exact vta) (V_stV (by simp [Rng]))) rfl ?_); intro _ _) | (refine JO.eff rfl rfl rfl (JEff.callV rfl (r0_EqInts (by exact vta) (by exact vta)) rfl ?_); intro _ _) | (refine JO.eff rfl rfl rfl (JEff.callV rfl (p10_May (by exact vta) (by exact vta) (by exact vta)) rfl ?_); intro _ _) | (refine JO.eff rfl rfl rfl (JEff.callL rfl (p10_Ways _ (by exact vta) (by exact vta) (by first | assumption | omega) (by first | assumption | (unfold Rng; omega))) rfl ?_); intro _ _ _ _ _ _) | (refine JO.eff rfl rfl rfl (JEff.callR rfl (q10_chapter) rfl ?_); intro _ _ _ _) | (refine JO.eff rfl rfl rfl (JEff.callV rfl (q10_on _ _ (by unfold Rng; omega) (by unfold Rng; omega)) rfl ?_); intro _ _) | (refine JO.eff rfl rfl rfl (JEff.callV rfl (q10_off _ (by unfold Rng; omega)) rfl ?_); intro _ _) | (refine WNew ?_; intros) | (refine WPut ?_; intros))
    (refine JX.ret1 Tryz.results49 (ResV.tmp rfl) (List.nil_sublist _) ?_)
    exact ⟨rfl, rfl⟩
  · (refine JO.eff rfl rfl rfl (JEff.buildS (bt := 8) (rep := rI64) (ys := [(2 : Int)]) rfl rfl (⟨⟨V_num, nna⟩, trivial⟩) rfl rfl rfl (by decide) rfl ?_); intro S9 a9 hl9 hV9)
    repeat (first | (refine Walk ?_; intros) | refine JC.block ?_ | refine JC.drawN 5 rfl [0, 1, 2, 3, 4, 5, 6, 7, 8, 9, 10, 11, 12, 13, 14] [8, 9, 10, 11, 12, 13, 14] Tryz_mixed (by decide +kernel) ?_ | (refine JO.eff rfl rfl rfl (JEff.callL rfl (w10_Ways f10_4 (by decide) (by simp [Rng]) (by exact vta) (by exact vta)) rfl ?_); intro _ _ _ _ _ _) | (refine JO.eff rfl rfl rfl (JEff.callV rfl (r0_EqInts (by exact vta) (by exact vta)) rfl ?_); intro _ _) | (refine JO.eff rfl rfl rfl (JEff.callV rfl (p10_May (by exact vta) (by exact vta) (by exact vta)) rfl ?_); intro _ _) | (refine JO.eff rfl rfl rfl (JEff.callL rfl (p10_Ways _ (by exact vta) (by exact vta) (by first | assumption | omega) (by first | assumption | (unfold Rng; omega))) rfl ?_); intro _ _ _ _ _ _) | (refine JO.eff rfl rfl rfl (JEff.callR rfl (q10_chapter) rfl ?_); intro _ _ _ _) | (refine JO.eff rfl rfl rfl (JEff.callV rfl (q10_on _ _ (by unfold Rng; omega) (by unfold Rng; omega)) rfl ?_); intro _ _) | (refine JO.eff rfl rfl rfl (JEff.callV rfl (q10_off _ (by unfold Rng; omega)) rfl ?_); intro _ _) | (refine WNew ?_; intros) | (refine WPut ?_; intros))
    repeat (first | (refine Walk ?_; intros) | refine JC.block ?_ | refine JC.drawN 5 rfl [0, 1, 2, 3, 4, 5, 6, 7, 8, 9, 10, 11, 12, 13, 14] [8, 9, 10, 11, 12, 13, 14] Tryz_mixed (by decide +kernel) ?_ | (refine JO.eff rfl rfl rfl (JEff.callV rfl (w_EqInts (by exact vta) (by exact vta)) rfl ?_); intro _ _) | (refine JO.eff rfl rfl rfl (JEff.callL rfl (w10_Ways f10_5 (by decide) (by simp [Rng]) (by exact vta) (by exact vta)) rfl ?_); intro _ _ _ _ _ _) | (refine JO.eff rfl rfl rfl (JEff.callV rfl (w10_May f10_6 (by exact vta) (by exact vta) (V_stV (by simp [Rng]))) rfl ?_); intro _ _) | (refine JO.eff rfl rfl rfl (JEff.callV rfl (r0_EqInts (by exact vta) (by exact vta)) rfl ?_); intro _ _) | (refine JO.eff rfl rfl rfl (JEff.callV rfl (p10_May (by exact vta) (by exact vta) (by exact vta)) rfl ?_); intro _ _) | (refine JO.eff rfl rfl rfl (JEff.callL rfl (p10_Ways _ (by exact vta) (by exact vta) (by first | assumption | omega) (by first | assumption | (unfold Rng; omega))) rfl ?_); intro _ _ _ _ _ _) | (refine JO.eff rfl rfl rfl (JEff.callR rfl (q10_chapter) rfl ?_); intro _ _ _ _) | (refine JO.eff rfl rfl rfl (JEff.callV rfl (q10_on _ _ (by unfold Rng; omega) (by unfold Rng; omega)) rfl ?_); intro _ _) | (refine JO.eff rfl rfl rfl (JEff.callV rfl (q10_off _ (by unfold Rng; omega)) rfl ?_); intro _ _) | (refine WNew ?_; intros) | (refine WPut ?_; intros))
    (refine JX.ret1 Tryz.results49 (ResV.tmp rfl) (List.nil_sublist _) ?_)
    exact ⟨rfl, rfl⟩
end Go.Dr
namespace Go.Dr
open Go.Proofs
set_option maxRecDepth 20000
set_option maxHeartbeats 2000000
set_option linter.unusedSimpArgs false
set_option linter.unusedVariables false
theorem w10r_Step {S : SHeap} {u v xv : Value} {s : Snap} {p q : List Int} {c : Clause} {e : Int} {x : Step} (h : stepV s p x = (q, c, e)) (hu : rSnap.V S u s) (hv : (rSlice 8 rI64).V S v p) (hx : rStep.V S xv x) : FnSt Tryz.prog 46 #[u, v, xv] S q c (.int .i64 e) := by
  have hh := r10_Step hu hv hx
  rw [h] at hh; exact hh
theorem s12_L10f {P K : Prop} (k : K) (h : Goal K → P := by
  intro zk
  (first | refine Walk ?_ | refine JC.block ?_ | refine JC.drawN 5 rfl [0, 1, 2, 3, 4, 5, 6, 7, 8, 9, 10, 11, 12, 13, 14, 15, 16, 17, 19, 20, 21, 18, 22, 23, 24] [0, 1, 3, 4, 5, 6, 7, 8, 9, 10, 11, 12, 13, 14, 15, 16, 17, 23, 24] Tryz_mixed (by decide +kernel) ?_ | (refine JO.eff rfl rfl rfl (JEff.callL rfl (r0_CopyInts (by exact vta)) rfl ?_); intro zqa zqb zqc zqd zqe zqf) | (refine JO.eff rfl rfl rfl (JEff.callV rfl (r0_EqInts (by exact vta) (by exact vta)) rfl ?_); intro zqa zqb) | (refine JO.eff rfl rfl rfl (JEff.callR rfl (q10_cut (by exact vta)) rfl ?_); intro zqa zqb zqc zqd) | (refine JO.eff rfl rfl rfl (JEff.callSt rfl (r10_Step (by exact vta) (by exact vta) (by exact vta)) rfl ?_); intro zqa zqb zqc zqd zqe zqf zqg) | (refine JO.eff rfl rfl rfl (JEff.callV rfl (p10_May (by exact vta) (by exact vta) (by exact vta)) rfl ?_); intro zqa zqb) | (refine JO.eff rfl rfl rfl (JEff.callV rfl (r10_May (by exact vta) (by exact vta) (by exact vta)) rfl ?_); intro zqa zqb) | (refine JO.eff rfl rfl rfl (JEff.callV rfl (q10_works) rfl ?_); intro zqa zqb) | (refine WNew ?_) | (refine WPut ?_))
  (repeat (first | revert zqg | revert zqf | revert zqe | revert zqd | revert zqc | revert zqb | revert zqa))
  exact zk.k) : P := h ⟨k⟩
theorem a10_AdmitSteps {S : SHeap} {u v xv : Value} {s : Snap} {p : List Int} {x : Step} (hu : rSnap.V S u s) (hv : (rSlice 8 rI64).V S v p) (hx : rStep.V S xv x) : FnV Tryz.prog 12 #[u, v, xv] S (.bool true) := by
  obtain ⟨cs, rfl, hcs⟩ := V_agg rfl hu
  (refine Fn.enter (args := [.agg cs.toArray, v, xv]) Tryz.func12 rfl Tryz.ntmps12 rfl ?_; intro w0)
  repeat (refine s12_L10f ?_; intros)
  refine JO.eff rfl rfl rfl (JEff.box rfl rfl ?_); intro bb hbb
  refine WBox ?_; intros
  repeat (refine s12_L10f ?_; intros)
  refine JO.pure rfl rfl rfl (JPure.loadM (rep := rSnap) (x0 := s) (mid := cs) rfl (by (first | exact List.mem_cons_self | exact List.mem_cons_of_mem _ List.mem_cons_self | exact List.mem_cons_of_mem _ (List.mem_cons_of_mem _ List.mem_cons_self))) (by show cs.take 3 = cs; exact List.take_of_length_le (by rw [rSnap.len hcs]; exact Nat.le_refl _)) (rSnap.mono (by exact lea) hcs) (.inl rfl) rfl ?_)
  refine JO.eff rfl rfl rfl (JEff.callR rfl (q10_cut (Rp.val_V (rSnap.mono (by exact lea) hcs))) rfl ?_); intro cw S1 hl1 hcw
  repeat (refine s12_L10f ?_; intros)
  refine JO.eff rfl rfl rfl (JEff.storeW rfl rfl hcw nna (List.Perm.refl _) (by show 3 = cs.length; exact (rSnap.len hcs).symm) (by intro l hl; cases hl) ?_)
  refine JO.freezeV hcw nna hbb (by intro l hl; cases hl) ?_; intro S2 hl2 hpb
  repeat (refine s12_L10f ?_; intros)
  generalize cutS s = s' at *
  refine JO.eff rfl rfl rfl (JEff.callM (Mc := []) rfl (List.Perm.refl _) (mayAll rfl) (p10_Step (s := s') (p := p) (x := x) (by exact vta) (by exact vta) (by exact vta)) rfl ?_); intro w S3 M3 hl3 hw
  rcases hw with ⟨cc, ee, he, hcr, hst, rfl, rfl⟩ | ⟨q, b, tl, cap, hst, hqr, hql, rfl, hqc, rfl⟩
  · dsimp only [List.nil_append]
    have hVc := V_clV (S := S3) hcr
    repeat (first | (refine Walk ?_; intros) | refine JC.block ?_ | refine JC.drawN 5 rfl [0, 1, 2, 3, 4, 5, 6, 7, 8, 9, 10, 11, 12, 13, 14, 15, 16, 17, 19, 20, 21, 18, 22, 23, 24] [0, 1, 3, 4, 5, 6, 7, 8, 9, 10, 11, 12, 13, 14, 15, 16, 17, 23, 24] Tryz_mixed (by decide +kernel) ?_ | (refine JO.eff rfl rfl rfl (JEff.callSt rfl (w10r_Step hst (by exact vta) (by exact vta) (by exact vta)) rfl ?_); intro _ _ _ _ _ _ _) | (refine JO.eff rfl rfl rfl (JEff.callV rfl (w_EqInts V_nil (by exact vta)) rfl ?_); intro _ _) | (refine JO.eff rfl rfl rfl (JEff.callL rfl (r0_CopyInts (by exact vta)) rfl ?_); intro _ _ _ _ _ _) | (refine JO.eff rfl rfl rfl (JEff.callV rfl (r0_EqInts (by exact vta) (by exact vta)) rfl ?_); intro _ _) | (refine JO.eff rfl rfl rfl (JEff.callR rfl (q10_cut (by exact vta)) rfl ?_); intro _ _ _ _) | (refine JO.eff rfl rfl rfl (JEff.callSt rfl (r10_Step (by exact vta) (by exact vta) (by exact vta)) rfl ?_); intro _ _ _ _ _ _ _) | (refine JO.eff rfl rfl rfl (JEff.callV rfl (p10_May (by exact vta) (by exact vta) (by exact vta)) rfl ?_); intro _ _) | (refine JO.eff rfl rfl rfl (JEff.callV rfl (r10_May (by exact vta) (by exact vta) (by exact vta)) rfl ?_); intro _ _) | (refine JO.eff rfl rfl rfl (JEff.callV rfl (q10_works) rfl ?_); intro _ _) | (refine WNew ?_; intros) | (refine WPut ?_; intros))
    rw [decide_eq_true (rfl : cc = cc)]
    repeat (refine s12_L10f ?_; intros)
    rw [decide_eq_true (rfl : ee = ee)]
    repeat (refine s12_L10f ?_; intros)
    rw [beq_self_eq_true (mayV s' p x)]
    repeat (refine s12_L10f ?_; intros)
    refine JC.loopF0 (σ := Nat) [(1, _), (7, _), (8, _)] (fun q => [(14, .int .i64 0)]) (fun Si q => True) (fun q => 0) (0) (by exact sba) (by exact sba) (trivial) ?_; rintro Si k hli hii; (try dsimp only at hii); dsimp only [List.cons_append, List.nil_append]
    repeat (first | (refine Walk ?_; intros) | refine JC.block ?_ | refine JC.drawN 5 rfl [0, 1, 2, 3, 4, 5, 6, 7, 8, 9, 10, 11, 12, 13, 14, 15, 16, 17, 19, 20, 21, 18, 22, 23, 24] [0, 1, 3, 4, 5, 6, 7, 8, 9, 10, 11, 12, 13, 14, 15, 16, 17, 23, 24] Tryz_mixed (by decide +kernel) ?_ | (refine JO.eff rfl rfl rfl (JEff.callV rfl (w_EqInts (by exact vta) (by exact vta)) rfl ?_); intro _ _) | (refine JO.eff rfl rfl rfl (JEff.callL rfl (r0_CopyInts (by exact vta)) rfl ?_); intro _ _ _ _ _ _) | (refine JO.eff rfl rfl rfl (JEff.callV rfl (r0_EqInts (by exact vta) (by exact vta)) rfl ?_); intro _ _) | (refine JO.eff rfl rfl rfl (JEff.callR rfl (q10_cut (by exact vta)) rfl ?_); intro _ _ _ _) | (refine JO.eff rfl rfl rfl (JEff.callSt rfl (r10_Step (by exact vta) (by exact vta) (by exact vta)) rfl ?_); intro _ _ _ _ _ _ _) | (refine JO.eff rfl rfl rfl (JEff.callV rfl (p10_May (by exact vta) (by exact vta) (by exact vta)) rfl ?_); intro _ _) | (refine JO.eff rfl rfl rfl (JEff.callV rfl (r10_May (by exact vta) (by exact vta) (by exact vta)) rfl ?_); intro _ _) | (refine JO.eff rfl rfl rfl (JEff.callV rfl (q10_works) rfl ?_); intro _ _) | (refine WNew ?_; intros) | (refine WPut ?_; intros))
    (refine JX.ret1 Tryz.results12 (ResV.tmp rfl) (List.nil_sublist _) ?_)
    exact ⟨rfl, rfl⟩
  · dsimp only [List.cons_append, List.nil_append]
    have hVc := V_clV (S := S3) noC_rng
    repeat (first | (refine Walk ?_; intros) | refine JC.block ?_ | refine JC.drawN 5 rfl [0, 1, 2, 3, 4, 5, 6, 7, 8, 9, 10, 11, 12, 13, 14, 15, 16, 17, 19, 20, 21, 18, 22, 23, 24] [0, 1, 3, 4, 5, 6, 7, 8, 9, 10, 11, 12, 13, 14, 15, 16, 17, 23, 24] Tryz_mixed (by decide +kernel) ?_ | (refine JO.eff rfl rfl rfl (JEff.callSt rfl (w10r_Step hst (by exact vta) (by exact vta) (by exact vta)) rfl ?_); intro _ _ _ _ _ _ _) | (refine JO.eff rfl rfl rfl (JEff.callL rfl (r0_CopyInts (by exact vta)) rfl ?_); intro _ _ _ _ _ _) | (refine JO.eff rfl rfl rfl (JEff.callV rfl (r0_EqInts (by exact vta) (by exact vta)) rfl ?_); intro _ _) | (refine JO.eff rfl rfl rfl (JEff.callR rfl (q10_cut (by exact vta)) rfl ?_); intro _ _ _ _) | (refine JO.eff rfl rfl rfl (JEff.callSt rfl (r10_Step (by exact vta) (by exact vta) (by exact vta)) rfl ?_); intro _ _ _ _ _ _ _) | (refine JO.eff rfl rfl rfl (JEff.callV rfl (p10_May (by exact vta) (by exact vta) (by exact vta)) rfl ?_); intro _ _) | (refine JO.eff rfl rfl rfl (JEff.callV rfl (r10_May (by exact vta) (by exact vta) (by exact vta)) rfl ?_); intro _ _) | (refine JO.eff rfl rfl rfl (JEff.callV rfl (q10_works) rfl ?_); intro _ _) | (refine WNew ?_; intros) | (refine WPut ?_; intros))
    refine JO.out (fun hout => ?_)
    obtain ⟨_, _, _, _, hp8, hp9, _⟩ := V_slice.1 hv
    have hVq2 := (by assumption : (rSlice 8 rI64).V _ _ q)
    refine JO.eff rfl rfl rfl (JEff.lendV rfl (List.Perm.refl _) (by intro l hl; cases hl) hout (fun S1 hl1 hS1 => w_EqInts (blk_slice (SHeap.le.refl S1) hS1 rfl hqc (by rw [hql]; exact hp8) hqr) ((hVq2.mono (by exact lea)).mono hl1)) rfl ?_); intro S5 hl5
    repeat (refine s12_L10f ?_; intros)
    rw [decide_eq_true (rfl : noC = noC)]
    repeat (refine s12_L10f ?_; intros)
    rw [beq_self_eq_true (mayV s' p x)]
    repeat (refine s12_L10f ?_; intros)
    refine JC.loopF (σ := Nat × List Int) [(1, _), (7, _), (8, _)] (fun r => [(14, .int .i64 r.1)]) (fun r => [.blk b (.cells (intsT r.2 tl) 3 (0, 0))]) (fun Si r => r.1 ≤ q.length ∧ r.2.length = q.length) (fun r => q.length - r.1) ((0, q)) (by exact sba) (by exact sba) rfl (⟨Nat.zero_le _, rfl⟩) ?_; rintro Si ⟨k, xs⟩ hli hii; (try dsimp only at hii); dsimp only [List.cons_append, List.nil_append]
    obtain ⟨hk, hxl⟩ := hii
    repeat (refine s12_L10f ?_; intros)
    refine JC.cond rfl (fun hc => ?_) (fun hc => ?_)
    · have hk' := dlt hc
      repeat (refine s12_L10f ?_; intros)
      refine JO.pure rfl rfl rfl (JPure.indexRI rfl rfl rfl (by omega) (by omega) ?_)
      refine JO.eff rfl rfl rfl (JEff.storeIT (i := k) rfl rfl (by unfold Rng; omega) (List.Perm.refl _) (by omega) (by intro l hl; cases hl) ?_)
      repeat (refine s12_L10f ?_; intros)
      exact JX.roundF (k + 1, xs.set k 77) (by exact lea) (⟨by omega, by simp [hxl]⟩) (by (try dsimp only); omega) rfl (by exact sba) (by exact sba)
    · repeat (first | (refine Walk ?_; intros) | refine JC.block ?_ | refine JC.drawN 5 rfl [0, 1, 2, 3, 4, 5, 6, 7, 8, 9, 10, 11, 12, 13, 14, 15, 16, 17, 19, 20, 21, 18, 22, 23, 24] [0, 1, 3, 4, 5, 6, 7, 8, 9, 10, 11, 12, 13, 14, 15, 16, 17, 23, 24] Tryz_mixed (by decide +kernel) ?_ | (refine JO.eff rfl rfl rfl (JEff.callV rfl (w_EqInts (by exact vta) (by exact vta)) rfl ?_); intro _ _) | (refine JO.eff rfl rfl rfl (JEff.callL rfl (r0_CopyInts (by exact vta)) rfl ?_); intro _ _ _ _ _ _) | (refine JO.eff rfl rfl rfl (JEff.callV rfl (r0_EqInts (by exact vta) (by exact vta)) rfl ?_); intro _ _) | (refine JO.eff rfl rfl rfl (JEff.callR rfl (q10_cut (by exact vta)) rfl ?_); intro _ _ _ _) | (refine JO.eff rfl rfl rfl (JEff.callSt rfl (r10_Step (by exact vta) (by exact vta) (by exact vta)) rfl ?_); intro _ _ _ _ _ _ _) | (refine JO.eff rfl rfl rfl (JEff.callV rfl (p10_May (by exact vta) (by exact vta) (by exact vta)) rfl ?_); intro _ _) | (refine JO.eff rfl rfl rfl (JEff.callV rfl (r10_May (by exact vta) (by exact vta) (by exact vta)) rfl ?_); intro _ _) | (refine JO.eff rfl rfl rfl (JEff.callV rfl (q10_works) rfl ?_); intro _ _) | (refine WNew ?_; intros) | (refine WPut ?_; intros))
      refine JX.ret1 Tryz.results12 (ResV.tmp rfl) (List.nil_sublist _) ?_
      exact ⟨rfl, rfl⟩
end Go.Dr
namespace Go.Dr
open Go.Proofs
set_option maxRecDepth 20000
set_option maxHeartbeats 2000000
set_option linter.unusedSimpArgs false
set_option linter.unusedVariables false
theorem w10r_Run {S : SHeap} {u v lv : Value} {s : Snap} {p q : List Int} {l : List Step} {n e : Int} (h : runV s p l = (q, n, e)) (hu : rSnap.V S u s) (hv : (rSlice 8 rI64).V S v p) (hl : (rSlice 24 rStep).V S lv l) : FnLs Tryz.prog 51 #[u, v, lv] S 8 rI64 q [.int .i64 n, .int .i64 e] := by
  have hh := r10_Run hu hv hl
  rw [h] at hh; exact hh
theorem steps_rng {S : SHeap} {v : Value} {l : List Step} (h : (rSlice 24 rStep).V S v l) : ∀ x ∈ l, Rng x.pod := fun x hx => by
  obtain ⟨j, hj⟩ := List.mem_iff_getElem?.1 hx
  obtain ⟨_, _, _, _, _, _, hp⟩ := V_slice.1 h
  obtain ⟨_, _, cs, hcs, _⟩ := hp j x hj
  exact (R_step.1 hcs).2.2.1
theorem JC.drop {C : Cx} {x : Code} {Q : Post} {S : SHeap} {m : MEnt} {M : List MEnt} {e : Env} (k : JC C x Q S M e) : JC C x Q S (m :: M) e := ⟨fun a w hw => k.run a w ⟨hw.env, hw.defers, hw.wd.sub (List.sublist_cons_self _ _)⟩⟩
theorem s13_L10g {P K : Prop} (k : K) (h : Goal K → P := by
  intro zk
  (first | refine Walk ?_ | refine JC.block ?_ | refine JC.drawN 1 rfl [0, 2, 3, 4, 5, 6, 1, 7, 8] [0, 8] Tryz_mixed (by decide +kernel) ?_ | refine JC.drawN 17 rfl [0, 1, 2, 4, 5, 6, 3, 7, 8, 9] [0, 1, 2, 9] Tryz_mixed (by decide +kernel) ?_ | (refine JO.eff rfl rfl rfl (JEff.callL rfl (r0_CopyInts (by exact vta)) rfl ?_); intro zqa zqb zqc zqd zqe zqf) | (refine JO.eff rfl rfl rfl (JEff.callV rfl (r0_EqInts (by exact vta) (by exact vta)) rfl ?_); intro zqa zqb) | (refine JO.eff rfl rfl rfl (JEff.callR rfl (q10_cut (by exact vta)) rfl ?_); intro zqa zqb zqc zqd) | (refine JO.eff rfl rfl rfl (JEff.callV rfl (q10_works) rfl ?_); intro zqa zqb) | (refine JO.eff rfl rfl rfl (JEff.callLs rfl (r10_Run (by exact vta) (by exact vta) (by exact vta)) rfl ?_); intro zqa zqb zqc zqd zqe zqf) | (refine JO.eff rfl rfl rfl (JEff.callL rfl (p10_Ways _ (by exact vta) (by exact vta) (by first | assumption | omega) (by first | assumption | (unfold Rng; omega))) rfl ?_); intro zqa zqb zqc zqd zqe zqf) | (refine JO.eff rfl rfl rfl (JEff.callL rfl (r10_Ways _ (by exact vta) (by exact vta) (by first | assumption | omega) (by first | assumption | (unfold Rng; omega))) rfl ?_); intro zqa zqb zqc zqd zqe zqf))
  (repeat (first | revert zqg | revert zqf | revert zqe | revert zqd | revert zqc | revert zqb | revert zqa))
  exact zk.k) : P := h ⟨k⟩
theorem a10_AdmitRuns {S : SHeap} {u v lv : Value} {s : Snap} {p : List Int} {l : List Step} (hu : rSnap.V S u s) (hv : (rSlice 8 rI64).V S v p) (hl : (rSlice 24 rStep).V S lv l) : FnV Tryz.prog 13 #[u, v, lv] S (.bool true) := by
  obtain ⟨cs, rfl, hcs⟩ := V_agg rfl hu
  obtain ⟨a0, c0, rfl, hlc, hl24, hlb, _⟩ := V_slice.1 hl
  unfold big at hlb
  (refine Fn.enter (args := [.agg cs.toArray, v, .slice a0 l.length c0]) Tryz.func13 rfl Tryz.ntmps13 rfl ?_; intro w0)
  repeat (refine s13_L10g ?_; intros)
  refine JO.eff rfl rfl rfl (JEff.box rfl rfl ?_); intro bb hbb
  repeat (refine s13_L10g ?_; intros)
  refine JO.pure rfl rfl rfl (JPure.loadM (rep := rSnap) (x0 := s) (mid := cs) rfl (by (first | exact List.mem_cons_self | exact List.mem_cons_of_mem _ List.mem_cons_self | exact List.mem_cons_of_mem _ (List.mem_cons_of_mem _ List.mem_cons_self))) (by show cs.take 3 = cs; exact List.take_of_length_le (by rw [rSnap.len hcs]; exact Nat.le_refl _)) (rSnap.mono (by exact lea) hcs) (.inl rfl) rfl ?_)
  repeat (refine s13_L10g ?_; intros)
  refine JO.pure rfl rfl rfl (JPure.sliceS (xs := l) (rep := rStep) (bt := 24) rfl (by exact vta) rfl rfl rfl (by omega) (by omega) (by omega) ?_); intro a1 c1 y1 hy1 hV1 hyl1 hyb1
  have e1 : y1 = l.take 12 := hy1.trans (cut_len l 12)
  subst e1
  refine JO.eff rfl rfl rfl (JEff.callR rfl (q10_cut (Rp.val_V (rSnap.mono (by exact lea) hcs))) rfl ?_); intro cw S1 hl1 hcw
  repeat (refine s13_L10g ?_; intros)
  refine JO.eff rfl rfl rfl (JEff.storeW rfl rfl hcw nna (List.Perm.refl _) (by show 3 = cs.length; exact (rSnap.len hcs).symm) (by intro l hl; cases hl) ?_)
  refine JO.freezeV hcw nna hbb (by intro l hl; cases hl) ?_; intro S2 hl2 hpb
  repeat (refine s13_L10g ?_; intros)
  have hn : (cutS s).nodes.length ≤ 1000 := by simp only [cutS, List.length_take]; omega
  generalize cutS s = s' at *
  have hVl := hV1.mono (show SHeap.le _ S2 by exact lea)
  have hpods := steps_rng hV1
  have hll : (l.take 12).length ≤ 12 := by rw [List.length_take]; omega
  generalize l.take 12 = l' at *
  obtain ⟨xs, n, ee, hrun⟩ : ∃ xs n e, runV s' p l' = (xs, n, e) := ⟨_, _, _, rfl⟩
  refine JO.eff rfl rfl rfl (JEff.callM (Mc := []) rfl (List.Perm.refl _) (mayAll rfl) (p10_Run (s := s') (p := p) (l := l') (by exact vta) (by exact vta) (by exact vta)) rfl ?_); intro w S3 M3 hl3 hw
  rw [hrun] at hw
  obtain ⟨ra, rc, rfl, ⟨hr1, hr2, hr3⟩, ⟨rfl, rfl⟩ | ⟨b, tl, rfl, rfl⟩⟩ := hw
  · dsimp only [List.nil_append]
    have hVr : (rSlice 8 rI64).V S3 (.slice ra 0 rc) [] := V_slice.2 ⟨_, _, rfl, by simp, by simp, by simp, by simp⟩
    repeat (first | (refine Walk ?_; intros) | refine JC.block ?_ | refine JC.drawN 1 rfl [0, 2, 3, 4, 5, 6, 1, 7, 8] [0, 8] Tryz_mixed (by decide +kernel) ?_ | refine JC.drawN 17 rfl [0, 1, 2, 4, 5, 6, 3, 7, 8, 9] [0, 1, 2, 9] Tryz_mixed (by decide +kernel) ?_ | (refine JO.eff rfl rfl rfl (JEff.callLs rfl (w10r_Run hrun (by exact vta) (by exact vta) (by exact vta)) rfl ?_); intro _ _ _ _ _ _) | (refine JO.eff rfl rfl rfl (JEff.callV rfl (w_EqInts (by exact vta) (by exact vta)) rfl ?_); intro _ _) | (refine JO.eff rfl rfl rfl (JEff.callL rfl (r0_CopyInts (by exact vta)) rfl ?_); intro _ _ _ _ _ _) | (refine JO.eff rfl rfl rfl (JEff.callV rfl (r0_EqInts (by exact vta) (by exact vta)) rfl ?_); intro _ _) | (refine JO.eff rfl rfl rfl (JEff.callR rfl (q10_cut (by exact vta)) rfl ?_); intro _ _ _ _) | (refine JO.eff rfl rfl rfl (JEff.callV rfl (q10_works) rfl ?_); intro _ _) | (refine JO.eff rfl rfl rfl (JEff.callLs rfl (r10_Run (by exact vta) (by exact vta) (by exact vta)) rfl ?_); intro _ _ _ _ _ _) | (refine JO.eff rfl rfl rfl (JEff.callL rfl (p10_Ways _ (by exact vta) (by exact vta) (by first | assumption | omega) (by first | assumption | (unfold Rng; omega))) rfl ?_); intro _ _ _ _ _ _) | (refine JO.eff rfl rfl rfl (JEff.callL rfl (r10_Ways _ (by exact vta) (by exact vta) (by first | assumption | omega) (by first | assumption | (unfold Rng; omega))) rfl ?_); intro _ _ _ _ _ _))
    rw [decide_eq_true (rfl : n = n)]
    repeat (refine s13_L10g ?_; intros)
    rw [decide_eq_true (rfl : ee = ee)]
    repeat (first | (refine Walk ?_; intros) | refine JC.block ?_ | refine JC.drawN 1 rfl [0, 2, 3, 4, 5, 6, 1, 7, 8] [0, 8] Tryz_mixed (by decide +kernel) ?_ | refine JC.drawN 17 rfl [0, 1, 2, 4, 5, 6, 3, 7, 8, 9] [0, 1, 2, 9] Tryz_mixed (by decide +kernel) ?_ | (refine JO.eff rfl rfl rfl (JEff.callV rfl (w_EqInts (by exact vta) (by exact vta)) rfl ?_); intro _ _) | (refine JO.eff rfl rfl rfl (JEff.callL rfl (r0_CopyInts (by exact vta)) rfl ?_); intro _ _ _ _ _ _) | (refine JO.eff rfl rfl rfl (JEff.callV rfl (r0_EqInts (by exact vta) (by exact vta)) rfl ?_); intro _ _) | (refine JO.eff rfl rfl rfl (JEff.callR rfl (q10_cut (by exact vta)) rfl ?_); intro _ _ _ _) | (refine JO.eff rfl rfl rfl (JEff.callV rfl (q10_works) rfl ?_); intro _ _) | (refine JO.eff rfl rfl rfl (JEff.callLs rfl (r10_Run (by exact vta) (by exact vta) (by exact vta)) rfl ?_); intro _ _ _ _ _ _) | (refine JO.eff rfl rfl rfl (JEff.callL rfl (p10_Ways _ (by exact vta) (by exact vta) (by first | assumption | omega) (by first | assumption | (unfold Rng; omega))) rfl ?_); intro _ _ _ _ _ _) | (refine JO.eff rfl rfl rfl (JEff.callL rfl (r10_Ways _ (by exact vta) (by exact vta) (by first | assumption | omega) (by first | assumption | (unfold Rng; omega))) rfl ?_); intro _ _ _ _ _ _))
    refine JC.loopF0 (σ := Nat) [(1, _), (2, _), (3, _), (7, _), (8, _)] (fun r => [(14, .int .i64 0)]) (fun Si r => True) (fun r => 0) (0) (by exact sba) (by exact sba) (trivial) ?_; rintro Si k hli hii; (try dsimp only at hii); dsimp only [List.cons_append, List.nil_append]
    repeat (refine s13_L10g ?_; intros)
    refine JC.loopF0 (σ := Nat) [(1, _), (2, _), (3, _), (7, _)] (fun r => [(15, .int .i64 ((r : Int) - 1))]) (fun Sj r => r ≤ 5) (fun r => 5 - r) (0) (by exact sba) (by exact sba) (by omega) ?_; rintro Sj k hlj hij; (try dsimp only at hij); dsimp only [List.cons_append, List.nil_append]
    repeat (refine s13_L10g ?_; intros)
    refine JC.cond rfl (fun hc => ?_) (fun hc => ?_)
    · have hc' : (k : Int) - 1 < 4 := of_decide_eq_true hc
      repeat (refine s13_L10g ?_; intros)
      refine JO.guard rfl rfl rfl rfl (fun g1 => ?_) (fun g1 => ?_)
      · repeat (refine s13_L10g ?_; intros)
        refine JC.cond rfl (fun g2 => ?_) (fun g2 => ?_)
        · obtain ⟨x, hx⟩ : ∃ x, l'[(0 : Int).toNat]? = some x := ⟨_, List.getElem?_eq_getElem (by have := of_decide_eq_true g2; omega)⟩
          have hxr := hpods x (List.mem_of_getElem? hx)
          repeat (first | (refine Walk ?_; intros) | refine JC.block ?_ | refine JC.drawN 1 rfl [0, 2, 3, 4, 5, 6, 1, 7, 8] [0, 8] Tryz_mixed (by decide +kernel) ?_ | refine JC.drawN 17 rfl [0, 1, 2, 4, 5, 6, 3, 7, 8, 9] [0, 1, 2, 9] Tryz_mixed (by decide +kernel) ?_ | (refine JO.eff rfl rfl rfl (JEff.callV rfl (w_EqInts (by exact vta) (by exact vta)) rfl ?_); intro _ _) | (refine JO.eff rfl rfl rfl (JEff.callL rfl (r0_CopyInts (by exact vta)) rfl ?_); intro _ _ _ _ _ _) | (refine JO.eff rfl rfl rfl (JEff.callV rfl (r0_EqInts (by exact vta) (by exact vta)) rfl ?_); intro _ _) | (refine JO.eff rfl rfl rfl (JEff.callR rfl (q10_cut (by exact vta)) rfl ?_); intro _ _ _ _) | (refine JO.eff rfl rfl rfl (JEff.callV rfl (q10_works) rfl ?_); intro _ _) | (refine JO.eff rfl rfl rfl (JEff.callLs rfl (r10_Run (by exact vta) (by exact vta) (by exact vta)) rfl ?_); intro _ _ _ _ _ _) | (refine JO.eff rfl rfl rfl (JEff.callL rfl (p10_Ways _ (by exact vta) (by exact vta) (by first | assumption | omega) (by first | assumption | (unfold Rng; omega))) rfl ?_); intro _ _ _ _ _ _) | (refine JO.eff rfl rfl rfl (JEff.callL rfl (r10_Ways _ (by exact vta) (by exact vta) (by first | assumption | omega) (by first | assumption | (unfold Rng; omega))) rfl ?_); intro _ _ _ _ _ _))
          exact JX.roundF (k + 1) (by exact lea) (by omega) (by (try dsimp only); omega) rfl (by (try dsimp only); rw [show ((k + 1 : Nat) : Int) - 1 = (k : Int) - 1 + 1 by omega]; exact sba) (by exact sba)
        · repeat (first | (refine Walk ?_; intros) | refine JC.block ?_ | refine JC.drawN 1 rfl [0, 2, 3, 4, 5, 6, 1, 7, 8] [0, 8] Tryz_mixed (by decide +kernel) ?_ | refine JC.drawN 17 rfl [0, 1, 2, 4, 5, 6, 3, 7, 8, 9] [0, 1, 2, 9] Tryz_mixed (by decide +kernel) ?_ | (refine JO.eff rfl rfl rfl (JEff.callV rfl (w_EqInts (by exact vta) (by exact vta)) rfl ?_); intro _ _) | (refine JO.eff rfl rfl rfl (JEff.callL rfl (r0_CopyInts (by exact vta)) rfl ?_); intro _ _ _ _ _ _) | (refine JO.eff rfl rfl rfl (JEff.callV rfl (r0_EqInts (by exact vta) (by exact vta)) rfl ?_); intro _ _) | (refine JO.eff rfl rfl rfl (JEff.callR rfl (q10_cut (by exact vta)) rfl ?_); intro _ _ _ _) | (refine JO.eff rfl rfl rfl (JEff.callV rfl (q10_works) rfl ?_); intro _ _) | (refine JO.eff rfl rfl rfl (JEff.callLs rfl (r10_Run (by exact vta) (by exact vta) (by exact vta)) rfl ?_); intro _ _ _ _ _ _) | (refine JO.eff rfl rfl rfl (JEff.callL rfl (p10_Ways _ (by exact vta) (by exact vta) (by first | assumption | omega) (by first | assumption | (unfold Rng; omega))) rfl ?_); intro _ _ _ _ _ _) | (refine JO.eff rfl rfl rfl (JEff.callL rfl (r10_Ways _ (by exact vta) (by exact vta) (by first | assumption | omega) (by first | assumption | (unfold Rng; omega))) rfl ?_); intro _ _ _ _ _ _))
          exact JX.roundF (k + 1) (by exact lea) (by omega) (by (try dsimp only); omega) rfl (by (try dsimp only); rw [show ((k + 1 : Nat) : Int) - 1 = (k : Int) - 1 + 1 by omega]; exact sba) (by exact sba)
      · repeat (first | (refine Walk ?_; intros) | refine JC.block ?_ | refine JC.drawN 1 rfl [0, 2, 3, 4, 5, 6, 1, 7, 8] [0, 8] Tryz_mixed (by decide +kernel) ?_ | refine JC.drawN 17 rfl [0, 1, 2, 4, 5, 6, 3, 7, 8, 9] [0, 1, 2, 9] Tryz_mixed (by decide +kernel) ?_ | (refine JO.eff rfl rfl rfl (JEff.callV rfl (w_EqInts (by exact vta) (by exact vta)) rfl ?_); intro _ _) | (refine JO.eff rfl rfl rfl (JEff.callL rfl (r0_CopyInts (by exact vta)) rfl ?_); intro _ _ _ _ _ _) | (refine JO.eff rfl rfl rfl (JEff.callV rfl (r0_EqInts (by exact vta) (by exact vta)) rfl ?_); intro _ _) | (refine JO.eff rfl rfl rfl (JEff.callR rfl (q10_cut (by exact vta)) rfl ?_); intro _ _ _ _) | (refine JO.eff rfl rfl rfl (JEff.callV rfl (q10_works) rfl ?_); intro _ _) | (refine JO.eff rfl rfl rfl (JEff.callLs rfl (r10_Run (by exact vta) (by exact vta) (by exact vta)) rfl ?_); intro _ _ _ _ _ _) | (refine JO.eff rfl rfl rfl (JEff.callL rfl (p10_Ways _ (by exact vta) (by exact vta) (by first | assumption | omega) (by first | assumption | (unfold Rng; omega))) rfl ?_); intro _ _ _ _ _ _) | (refine JO.eff rfl rfl rfl (JEff.callL rfl (r10_Ways _ (by exact vta) (by exact vta) (by first | assumption | omega) (by first | assumption | (unfold Rng; omega))) rfl ?_); intro _ _ _ _ _ _))
        exact JX.roundF (k + 1) (by exact lea) (by omega) (by (try dsimp only); omega) rfl (by (try dsimp only); rw [show ((k + 1 : Nat) : Int) - 1 = (k : Int) - 1 + 1 by omega]; exact sba) (by exact sba)
    · repeat (first | (refine Walk ?_; intros) | refine JC.block ?_ | refine JC.drawN 1 rfl [0, 2, 3, 4, 5, 6, 1, 7, 8] [0, 8] Tryz_mixed (by decide +kernel) ?_ | refine JC.drawN 17 rfl [0, 1, 2, 4, 5, 6, 3, 7, 8, 9] [0, 1, 2, 9] Tryz_mixed (by decide +kernel) ?_ | (refine JO.eff rfl rfl rfl (JEff.callV rfl (w_EqInts (by exact vta) (by exact vta)) rfl ?_); intro _ _) | (refine JO.eff rfl rfl rfl (JEff.callL rfl (r0_CopyInts (by exact vta)) rfl ?_); intro _ _ _ _ _ _) | (refine JO.eff rfl rfl rfl (JEff.callV rfl (r0_EqInts (by exact vta) (by exact vta)) rfl ?_); intro _ _) | (refine JO.eff rfl rfl rfl (JEff.callR rfl (q10_cut (by exact vta)) rfl ?_); intro _ _ _ _) | (refine JO.eff rfl rfl rfl (JEff.callV rfl (q10_works) rfl ?_); intro _ _) | (refine JO.eff rfl rfl rfl (JEff.callLs rfl (r10_Run (by exact vta) (by exact vta) (by exact vta)) rfl ?_); intro _ _ _ _ _ _) | (refine JO.eff rfl rfl rfl (JEff.callL rfl (p10_Ways _ (by exact vta) (by exact vta) (by first | assumption | omega) (by first | assumption | (unfold Rng; omega))) rfl ?_); intro _ _ _ _ _ _) | (refine JO.eff rfl rfl rfl (JEff.callL rfl (r10_Ways _ (by exact vta) (by exact vta) (by first | assumption | omega) (by first | assumption | (unfold Rng; omega))) rfl ?_); intro _ _ _ _ _ _))
      refine JX.ret1 Tryz.results13 (ResV.tmp rfl) (List.nil_sublist _) ?_
      exact ⟨rfl, rfl⟩
  · dsimp only [List.cons_append, List.nil_append]
    repeat (first | (refine Walk ?_; intros) | refine JC.block ?_ | refine JC.drawN 1 rfl [0, 2, 3, 4, 5, 6, 1, 7, 8] [0, 8] Tryz_mixed (by decide +kernel) ?_ | refine JC.drawN 17 rfl [0, 1, 2, 4, 5, 6, 3, 7, 8, 9] [0, 1, 2, 9] Tryz_mixed (by decide +kernel) ?_ | (refine JO.eff rfl rfl rfl (JEff.callLs rfl (w10r_Run hrun (by exact vta) (by exact vta) (by exact vta)) rfl ?_); intro _ _ _ _ _ _) | (refine JO.eff rfl rfl rfl (JEff.callL rfl (r0_CopyInts (by exact vta)) rfl ?_); intro _ _ _ _ _ _) | (refine JO.eff rfl rfl rfl (JEff.callV rfl (r0_EqInts (by exact vta) (by exact vta)) rfl ?_); intro _ _) | (refine JO.eff rfl rfl rfl (JEff.callR rfl (q10_cut (by exact vta)) rfl ?_); intro _ _ _ _) | (refine JO.eff rfl rfl rfl (JEff.callV rfl (q10_works) rfl ?_); intro _ _) | (refine JO.eff rfl rfl rfl (JEff.callLs rfl (r10_Run (by exact vta) (by exact vta) (by exact vta)) rfl ?_); intro _ _ _ _ _ _) | (refine JO.eff rfl rfl rfl (JEff.callL rfl (p10_Ways _ (by exact vta) (by exact vta) (by first | assumption | omega) (by first | assumption | (unfold Rng; omega))) rfl ?_); intro _ _ _ _ _ _) | (refine JO.eff rfl rfl rfl (JEff.callL rfl (r10_Ways _ (by exact vta) (by exact vta) (by first | assumption | omega) (by first | assumption | (unfold Rng; omega))) rfl ?_); intro _ _ _ _ _ _))
    refine JO.out (fun hout => ?_)
    have hVq2 := (by assumption : (rSlice 8 rI64).V _ _ xs)
    refine JO.eff rfl rfl rfl (JEff.lendV rfl (List.Perm.refl _) (by intro l hl; cases hl) hout (fun S1 hl1 hS1 => w_EqInts (blk_slice (SHeap.le.refl S1) hS1 rfl hr1 hr2 hr3) ((hVq2.mono (by exact lea)).mono hl1)) rfl ?_); intro S5 hl5
    repeat (refine s13_L10g ?_; intros)
    rw [decide_eq_true (rfl : n = n)]
    repeat (refine s13_L10g ?_; intros)
    rw [decide_eq_true (rfl : ee = ee)]
    repeat (first | (refine Walk ?_; intros) | refine JC.block ?_ | refine JC.drawN 1 rfl [0, 2, 3, 4, 5, 6, 1, 7, 8] [0, 8] Tryz_mixed (by decide +kernel) ?_ | refine JC.drawN 17 rfl [0, 1, 2, 4, 5, 6, 3, 7, 8, 9] [0, 1, 2, 9] Tryz_mixed (by decide +kernel) ?_ | (refine JO.eff rfl rfl rfl (JEff.callV rfl (w_EqInts (by exact vta) (by exact vta)) rfl ?_); intro _ _) | (refine JO.eff rfl rfl rfl (JEff.callL rfl (r0_CopyInts (by exact vta)) rfl ?_); intro _ _ _ _ _ _) | (refine JO.eff rfl rfl rfl (JEff.callV rfl (r0_EqInts (by exact vta) (by exact vta)) rfl ?_); intro _ _) | (refine JO.eff rfl rfl rfl (JEff.callR rfl (q10_cut (by exact vta)) rfl ?_); intro _ _ _ _) | (refine JO.eff rfl rfl rfl (JEff.callV rfl (q10_works) rfl ?_); intro _ _) | (refine JO.eff rfl rfl rfl (JEff.callLs rfl (r10_Run (by exact vta) (by exact vta) (by exact vta)) rfl ?_); intro _ _ _ _ _ _) | (refine JO.eff rfl rfl rfl (JEff.callL rfl (p10_Ways _ (by exact vta) (by exact vta) (by first | assumption | omega) (by first | assumption | (unfold Rng; omega))) rfl ?_); intro _ _ _ _ _ _) | (refine JO.eff rfl rfl rfl (JEff.callL rfl (r10_Ways _ (by exact vta) (by exact vta) (by first | assumption | omega) (by first | assumption | (unfold Rng; omega))) rfl ?_); intro _ _ _ _ _ _))
    refine JC.loopF (σ := Nat × List Int) [(1, _), (2, _), (3, _), (7, _), (8, _)] (fun r => [(14, .int .i64 r.1)]) (fun r => [.blk b (.cells (intsT r.2 tl) 3 (0, 0))]) (fun Si r => r.1 ≤ xs.length ∧ r.2.length = xs.length) (fun r => xs.length - r.1) ((0, xs)) (by exact sba) (by exact sba) rfl (⟨Nat.zero_le _, rfl⟩) ?_; rintro Si ⟨k, ys⟩ hli hii; (try dsimp only at hii); dsimp only [List.cons_append, List.nil_append]
    obtain ⟨hk, hxl⟩ := hii
    repeat (refine s13_L10g ?_; intros)
    refine JC.cond rfl (fun hc => ?_) (fun hc => ?_)
    · have hk' := dlt hc
      repeat (refine s13_L10g ?_; intros)
      refine JO.pure rfl rfl rfl (JPure.indexRI rfl rfl rfl (by omega) (by omega) ?_)
      refine JO.eff rfl rfl rfl (JEff.storeIT (i := k) rfl rfl (by unfold Rng; omega) (List.Perm.refl _) (by omega) (by intro l hl; cases hl) ?_)
      repeat (refine s13_L10g ?_; intros)
      exact JX.roundF (k + 1, ys.set k 77) (by exact lea) (⟨by omega, by simp [hxl]⟩) (by (try dsimp only); omega) rfl (by exact sba) (by exact sba)
    · refine JC.drop ?_
      repeat (refine s13_L10g ?_; intros)
      refine JC.loopF0 (σ := Nat) [(1, _), (2, _), (3, _), (7, _)] (fun r => [(15, .int .i64 ((r : Int) - 1))]) (fun Sj r => r ≤ 5) (fun r => 5 - r) (0) (by exact sba) (by exact sba) (by omega) ?_; rintro Sj k hlj hij; (try dsimp only at hij); dsimp only [List.cons_append, List.nil_append]
      repeat (refine s13_L10g ?_; intros)
      refine JC.cond rfl (fun hc => ?_) (fun hc => ?_)
      · have hc' : (k : Int) - 1 < 4 := of_decide_eq_true hc
        repeat (refine s13_L10g ?_; intros)
        refine JO.guard rfl rfl rfl rfl (fun g1 => ?_) (fun g1 => ?_)
        · repeat (refine s13_L10g ?_; intros)
          refine JC.cond rfl (fun g2 => ?_) (fun g2 => ?_)
          · obtain ⟨x, hx⟩ : ∃ x, l'[(0 : Int).toNat]? = some x := ⟨_, List.getElem?_eq_getElem (by have := of_decide_eq_true g2; omega)⟩
            have hxr := hpods x (List.mem_of_getElem? hx)
            repeat (first | (refine Walk ?_; intros) | refine JC.block ?_ | refine JC.drawN 1 rfl [0, 2, 3, 4, 5, 6, 1, 7, 8] [0, 8] Tryz_mixed (by decide +kernel) ?_ | refine JC.drawN 17 rfl [0, 1, 2, 4, 5, 6, 3, 7, 8, 9] [0, 1, 2, 9] Tryz_mixed (by decide +kernel) ?_ | (refine JO.eff rfl rfl rfl (JEff.callV rfl (w_EqInts (by exact vta) (by exact vta)) rfl ?_); intro _ _) | (refine JO.eff rfl rfl rfl (JEff.callL rfl (r0_CopyInts (by exact vta)) rfl ?_); intro _ _ _ _ _ _) | (refine JO.eff rfl rfl rfl (JEff.callV rfl (r0_EqInts (by exact vta) (by exact vta)) rfl ?_); intro _ _) | (refine JO.eff rfl rfl rfl (JEff.callR rfl (q10_cut (by exact vta)) rfl ?_); intro _ _ _ _) | (refine JO.eff rfl rfl rfl (JEff.callV rfl (q10_works) rfl ?_); intro _ _) | (refine JO.eff rfl rfl rfl (JEff.callLs rfl (r10_Run (by exact vta) (by exact vta) (by exact vta)) rfl ?_); intro _ _ _ _ _ _) | (refine JO.eff rfl rfl rfl (JEff.callL rfl (p10_Ways _ (by exact vta) (by exact vta) (by first | assumption | omega) (by first | assumption | (unfold Rng; omega))) rfl ?_); intro _ _ _ _ _ _) | (refine JO.eff rfl rfl rfl (JEff.callL rfl (r10_Ways _ (by exact vta) (by exact vta) (by first | assumption | omega) (by first | assumption | (unfold Rng; omega))) rfl ?_); intro _ _ _ _ _ _))
            exact JX.roundF (k + 1) (by exact lea) (by omega) (by (try dsimp only); omega) rfl (by (try dsimp only); rw [show ((k + 1 : Nat) : Int) - 1 = (k : Int) - 1 + 1 by omega]; exact sba) (by exact sba)
          · repeat (first | (refine Walk ?_; intros) | refine JC.block ?_ | refine JC.drawN 1 rfl [0, 2, 3, 4, 5, 6, 1, 7, 8] [0, 8] Tryz_mixed (by decide +kernel) ?_ | refine JC.drawN 17 rfl [0, 1, 2, 4, 5, 6, 3, 7, 8, 9] [0, 1, 2, 9] Tryz_mixed (by decide +kernel) ?_ | (refine JO.eff rfl rfl rfl (JEff.callV rfl (w_EqInts (by exact vta) (by exact vta)) rfl ?_); intro _ _) | (refine JO.eff rfl rfl rfl (JEff.callL rfl (r0_CopyInts (by exact vta)) rfl ?_); intro _ _ _ _ _ _) | (refine JO.eff rfl rfl rfl (JEff.callV rfl (r0_EqInts (by exact vta) (by exact vta)) rfl ?_); intro _ _) | (refine JO.eff rfl rfl rfl (JEff.callR rfl (q10_cut (by exact vta)) rfl ?_); intro _ _ _ _) | (refine JO.eff rfl rfl rfl (JEff.callV rfl (q10_works) rfl ?_); intro _ _) | (refine JO.eff rfl rfl rfl (JEff.callLs rfl (r10_Run (by exact vta) (by exact vta) (by exact vta)) rfl ?_); intro _ _ _ _ _ _) | (refine JO.eff rfl rfl rfl (JEff.callL rfl (p10_Ways _ (by exact vta) (by exact vta) (by first | assumption | omega) (by first | assumption | (unfold Rng; omega))) rfl ?_); intro _ _ _ _ _ _) | (refine JO.eff rfl rfl rfl (JEff.callL rfl (r10_Ways _ (by exact vta) (by exact vta) (by first | assumption | omega) (by first | assumption | (unfold Rng; omega))) rfl ?_); intro _ _ _ _ _ _))
            exact JX.roundF (k + 1) (by exact lea) (by omega) (by (try dsimp only); omega) rfl (by (try dsimp only); rw [show ((k + 1 : Nat) : Int) - 1 = (k : Int) - 1 + 1 by omega]; exact sba) (by exact sba)
        · repeat (first | (refine Walk ?_; intros) | refine JC.block ?_ | refine JC.drawN 1 rfl [0, 2, 3, 4, 5, 6, 1, 7, 8] [0, 8] Tryz_mixed (by decide +kernel) ?_ | refine JC.drawN 17 rfl [0, 1, 2, 4, 5, 6, 3, 7, 8, 9] [0, 1, 2, 9] Tryz_mixed (by decide +kernel) ?_ | (refine JO.eff rfl rfl rfl (JEff.callV rfl (w_EqInts (by exact vta) (by exact vta)) rfl ?_); intro _ _) | (refine JO.eff rfl rfl rfl (JEff.callL rfl (r0_CopyInts (by exact vta)) rfl ?_); intro _ _ _ _ _ _) | (refine JO.eff rfl rfl rfl (JEff.callV rfl (r0_EqInts (by exact vta) (by exact vta)) rfl ?_); intro _ _) | (refine JO.eff rfl rfl rfl (JEff.callR rfl (q10_cut (by exact vta)) rfl ?_); intro _ _ _ _) | (refine JO.eff rfl rfl rfl (JEff.callV rfl (q10_works) rfl ?_); intro _ _) | (refine JO.eff rfl rfl rfl (JEff.callLs rfl (r10_Run (by exact vta) (by exact vta) (by exact vta)) rfl ?_); intro _ _ _ _ _ _) | (refine JO.eff rfl rfl rfl (JEff.callL rfl (p10_Ways _ (by exact vta) (by exact vta) (by first | assumption | omega) (by first | assumption | (unfold Rng; omega))) rfl ?_); intro _ _ _ _ _ _) | (refine JO.eff rfl rfl rfl (JEff.callL rfl (r10_Ways _ (by exact vta) (by exact vta) (by first | assumption | omega) (by first | assumption | (unfold Rng; omega))) rfl ?_); intro _ _ _ _ _ _))
          exact JX.roundF (k + 1) (by exact lea) (by omega) (by (try dsimp only); omega) rfl (by (try dsimp only); rw [show ((k + 1 : Nat) : Int) - 1 = (k : Int) - 1 + 1 by omega]; exact sba) (by exact sba)
      · repeat (first | (refine Walk ?_; intros) | refine JC.block ?_ | refine JC.drawN 1 rfl [0, 2, 3, 4, 5, 6, 1, 7, 8] [0, 8] Tryz_mixed (by decide +kernel) ?_ | refine JC.drawN 17 rfl [0, 1, 2, 4, 5, 6, 3, 7, 8, 9] [0, 1, 2, 9] Tryz_mixed (by decide +kernel) ?_ | (refine JO.eff rfl rfl rfl (JEff.callV rfl (w_EqInts (by exact vta) (by exact vta)) rfl ?_); intro _ _) | (refine JO.eff rfl rfl rfl (JEff.callL rfl (r0_CopyInts (by exact vta)) rfl ?_); intro _ _ _ _ _ _) | (refine JO.eff rfl rfl rfl (JEff.callV rfl (r0_EqInts (by exact vta) (by exact vta)) rfl ?_); intro _ _) | (refine JO.eff rfl rfl rfl (JEff.callR rfl (q10_cut (by exact vta)) rfl ?_); intro _ _ _ _) | (refine JO.eff rfl rfl rfl (JEff.callV rfl (q10_works) rfl ?_); intro _ _) | (refine JO.eff rfl rfl rfl (JEff.callLs rfl (r10_Run (by exact vta) (by exact vta) (by exact vta)) rfl ?_); intro _ _ _ _ _ _) | (refine JO.eff rfl rfl rfl (JEff.callL rfl (p10_Ways _ (by exact vta) (by exact vta) (by first | assumption | omega) (by first | assumption | (unfold Rng; omega))) rfl ?_); intro _ _ _ _ _ _) | (refine JO.eff rfl rfl rfl (JEff.callL rfl (r10_Ways _ (by exact vta) (by exact vta) (by first | assumption | omega) (by first | assumption | (unfold Rng; omega))) rfl ?_); intro _ _ _ _ _ _))
        refine JX.ret1 Tryz.results13 (ResV.tmp rfl) (List.nil_sublist _) ?_
        exact ⟨rfl, rfl⟩
end Go.Dr
