/- Part 6 of the rules and of the walks that the proofs of this seat rest on; no condition. -/
import Derived.Test.YtdidkjghemcipaaGreatA04
set_option linter.unusedVariables false
set_option linter.unusedSimpArgs false
namespace Go.Dr
open Go.Proofs
set_option maxRecDepth 20000
set_option maxHeartbeats 2000000
set_option linter.unusedSimpArgs false
set_option linter.unusedVariables false
theorem p8_around {S : SHeap} {kp : Addr} {s : Snap} {p : List Int} {us : List (List Int)} {mb : Nat} {l : List (ByteArray × Value)} {xv : Value} {i : Nat} {x : Near} {m : Int} (self : Bool) (hok : checkP s p = 0)
    (hL : PtrTo S kp rLook ⟨s, p, us, .map (some mb)⟩) (hco : Cache s S l) (hx : rNear.V S xv x) (hi : p[i]? = some m) (hm : 0 ≤ m) :
    FnC Tryz.prog 166 #[.pointer (some kp), .int .i64 i, xv, .bool self] S Value.string mb (Cache s) l (fun w _ => w = .int .i64 (about8 s p i x (!self))) := by
  obtain ⟨hs, hlen, hp24, hn8, ho8, hpr, hprn⟩ := placed_hyps hok
  have hi' := (List.getElem?_eq_some_iff.1 hi).1
  have hir : Rng (i : Int) := by unfold Rng; omega
  (refine Fn.enter (args := [.pointer (some kp), .int .i64 i, xv, .bool self]) Tryz.func166 rfl Tryz.ntmps166 rfl ?_; intro w0)
  repeat (first | (refine Walk ?_; intros) | refine JC.block ?_ | (refine WBox ?_; intros))
  refine JO.eff rfl rfl rfl (JEff.callC (kv := Value.string) rfl (List.Perm.refl _) (by intro l hl; cases hl) (p8_many (aroundF s p i x self) inferInstance (by omega) (by exact pta) (hco.mono (by exact lea)) (fun S' l' j n hl hc hj hn => p8_around1 hok (by exact pta) hc (by exact pta) (by exact pta) (by exact pta) (by exact pta) hj hn hi hm)) rfl ?_); intro w S2 l2 hl2 hw hco2; subst hw
  rw [around_about hlen]
  repeat (first | (refine Walk ?_; intros) | refine JC.block ?_ | (refine WBox ?_; intros))
  refine JX.ret1 Tryz.results166 (ResV.tmp rfl) (List.Sublist.refl _) ?_
  exact ⟨rfl, _, rfl, hco2⟩
theorem p8_single1 {S : SHeap} {u : Value} {o : Owner} {q : Addr} {name : ByteArray} (hu : rOwner.V S u o) (hq : PtrTo S q rStr name) : FnV Tryz.prog 202 #[u, .pointer (some q)] S (.bool (decide (o.name = name))) := by
  (refine Fn.enter (args := [u, .pointer (some q)]) Tryz.func202 rfl Tryz.ntmps202 rfl ?_; intro w0)
  repeat (first | (refine Walk ?_; intros) | refine JC.block ?_ | (refine WBox ?_; intros))
  (refine JX.ret1 Tryz.results202 (ResV.tmp rfl) (List.nil_sublist _) ?_)
  exact ⟨rfl, rfl⟩
theorem idx_find {α : Type} {f : α → Bool} {xs : List α} : (∃ (i : Nat) (x : α), idxF f xs = i ∧ xs[i]? = some x ∧ xs.find? f = some x) ∨ (idxF f xs = -1 ∧ xs.find? f = none) := by
  unfold idxF
  cases h : xs.findIdx? f with
  | none =>
    right
    refine ⟨rfl, ?_⟩
    rw [List.find?_eq_none]
    intro x hx
    have := List.findIdx?_eq_none_iff.1 h x hx
    simpa using this
  | some i =>
    left
    obtain ⟨hi, h1, h2⟩ := List.findIdx?_eq_some_iff_getElem.1 h
    refine ⟨i, xs[i], rfl, List.getElem?_eq_getElem hi, ?_⟩
    rw [List.find?_eq_some_iff_getElem]
    exact ⟨h1, i, hi, rfl, fun j hj => by simpa using h2 j hj⟩
theorem p8_single {S : SHeap} {kp : Addr} {s : Snap} {p : List Int} {us : List (List Int)} {d : Value} (name : ByteArray) (hn : name.size ≤ big) (hL : PtrTo S kp rLook ⟨s, p, us, d⟩) : FnV Tryz.prog 169 #[.pointer (some kp), .string name] S (.bool (single8 s name)) := by
  (refine Fn.enter (args := [.pointer (some kp), .string name]) Tryz.func169 rfl Tryz.ntmps169 rfl ?_; intro w0)
  repeat (first | (refine Walk ?_; intros) | refine JC.block ?_ | (refine WBox ?_; intros))
  (refine JO.eff rfl rfl rfl (JEff.callV rfl (p_IndexFunc_Owner (fun o => decide (o.name = name)) (by exact vta) inferInstance (fun S' hl u x hx => p8_single1 hx (by exact pta))) rfl ?_); intro _ _)
  rcases idx_find (f := fun o : Owner => decide (o.name = name)) (xs := s.owners) with ⟨i, o, h1, h2, h3⟩ | ⟨h1, h3⟩
  · rw [h1]
    repeat' (first | (refine Walk ?_; intros) | refine JC.block ?_ | (refine WBox ?_; intros) | (refine JO.guard rfl rfl rfl rfl ?_ ?_ <;> intro _) | (refine JC.cond rfl ?_ ?_ <;> intro _))
    all_goals first
      | ((refine JX.ret1 Tryz.results169 (ResV.tmp rfl) (List.nil_sublist _) ?_); exact ⟨rfl, by simp [single8, h3, *]⟩)
      | (exfalso; first | (simp only [decide_eq_true_eq, decide_eq_false_iff_not, Bool.not_eq_true', Bool.not_eq_false', Bool.and_eq_true, Bool.or_eq_true, Bool.and_eq_false_iff, Bool.or_eq_false_iff] at *; omega) | (simp_all; done) | (simp_all; omega))
  · rw [h1]
    repeat' (first | (refine Walk ?_; intros) | refine JC.block ?_ | (refine WBox ?_; intros) | (refine JO.guard rfl rfl rfl rfl ?_ ?_ <;> intro _) | (refine JC.cond rfl ?_ ?_ <;> intro _))
    all_goals first
      | ((refine JX.ret1 Tryz.results169 (ResV.tmp rfl) (List.nil_sublist _) ?_); exact ⟨rfl, by simp [single8, h3]⟩)
      | (exfalso; first | (simp only [decide_eq_true_eq, decide_eq_false_iff_not, Bool.not_eq_true', Bool.not_eq_false', Bool.and_eq_true, Bool.or_eq_true, Bool.and_eq_false_iff, Bool.or_eq_false_iff] at *; omega) | (simp_all; done) | (simp_all; omega))
theorem p8_withoutT {S : SHeap} {u : Value} {l : List Term} {f : FuncId} {fs cs : Array Value} (F : Term → Bool) (hu : (rSlice 40 rTerm).V S u l) (hE : Ent Tryz.prog f)
    (hf : ∀ (S' : SHeap) (v : Value) (x : Term), S.le S' → (rSlice 40 rTerm).V S' v [x] → FnV Tryz.prog f (fs.toList ++ [v] ++ cs.toList).toArray S' (.bool (F x))) : FnV Tryz.prog 158 #[u, .func (.func f) fs cs] S (.int .i64 ((l.filter (fun t => !F t)).length : Int)) := by
  obtain ⟨a, c, rfl, _, _, hb, _⟩ := V_slice.1 hu
  unfold big at hb
  (refine Fn.enter (args := [.slice a l.length c, .func (.func f) fs cs]) Tryz.func158 rfl Tryz.ntmps158 rfl ?_; intro w0)
  repeat (first | (refine Walk ?_; intros) | refine JC.block ?_)
  refine JC.loopF0 [(0, _), (1, _), (7, _)] (fun (k : Nat) => [(4, .int .i64 (((l.take k).filter (fun t => !F t)).length : Int)), (8, .int .i64 k)]) (fun Sk k => k ≤ l.length ∧ (True)) (fun k => l.length - k) 0 (by exact sba) (by exact sba) ⟨Nat.zero_le _, trivial⟩ ?_; intro Sk k hlk hik; obtain ⟨hk, hik⟩ := hik; (try dsimp only at hk hik); dsimp only [List.cons_append, List.nil_append]
  repeat (first | (refine Walk ?_; intros) | refine JC.block ?_)
  refine JC.cond rfl (fun hc => ?_) (fun hc => ?_)
  · have hk' := dlt hc
    obtain ⟨x, hx, hd⟩ := drop_at hk'
    have hst := filt_take (f := fun t => !F t) hx
    have hle := filt_le l (fun t => !F t) k
    repeat (first | (refine Walk ?_; intros) | refine JC.block ?_)
    refine JO.pure rfl rfl rfl (JPure.sliceS (xs := l) (rep := rTerm) (bt := 40) rfl (by exact vta) rfl rfl rfl (by omega) (by omega) (by omega) ?_); intro a1 c1 ys hys hV hyl hyb
    rw [cut1 hx] at hys
    subst hys
    repeat (first | (refine Walk ?_; intros) | refine JC.block ?_)
    (refine JO.eff rfl rfl rfl (JEff.dynV rfl (by assumption) rfl (hf _ _ x (by exact lea) (by exact vta)) rfl ?_); intro _ _)
    repeat (first | (refine Walk ?_; intros) | refine JC.block ?_)
    refine JC.cond rfl (fun h1 => ?_) (fun h1 => ?_)
    · rw [h1, if_pos rfl] at hst
      repeat (first | (refine Walk ?_; intros) | refine JC.block ?_)
      (refine JX.roundF (k + 1) (by exact lea) ⟨by omega, (trivial)⟩ (by (try dsimp only); omega) rfl ?_ (by exact sba); (try dsimp only); rw [hst]; exact sba; done)
    · rw [h1, if_neg (by simp), Int.add_zero] at hst
      repeat (first | (refine Walk ?_; intros) | refine JC.block ?_)
      (refine JX.roundF (k + 1) (by exact lea) ⟨by omega, (trivial)⟩ (by (try dsimp only); omega) rfl ?_ (by exact sba); (try dsimp only); rw [hst]; exact sba; done)
  · have hk' := dnlt hc
    rw [List.take_of_length_le hk']
    repeat (first | (refine Walk ?_; intros) | refine JC.block ?_)
    (refine JX.ret1 Tryz.results158 (ResV.tmp rfl) (List.nil_sublist _) ?_)
    exact ⟨rfl, rfl⟩
theorem p8_withoutL {S : SHeap} {u : Value} {l : List Label} {f : FuncId} {fs cs : Array Value} (F : Label → Bool) (hu : (rSlice 32 rLabel).V S u l) (hE : Ent Tryz.prog f)
    (hf : ∀ (S' : SHeap) (v : Value) (x : Label), S.le S' → (rSlice 32 rLabel).V S' v [x] → FnV Tryz.prog f (fs.toList ++ [v] ++ cs.toList).toArray S' (.bool (F x))) : FnV Tryz.prog 162 #[u, .func (.func f) fs cs] S (.int .i64 ((l.filter (fun t => !F t)).length : Int)) := by
  obtain ⟨a, c, rfl, _, _, hb, _⟩ := V_slice.1 hu
  unfold big at hb
  (refine Fn.enter (args := [.slice a l.length c, .func (.func f) fs cs]) Tryz.func162 rfl Tryz.ntmps162 rfl ?_; intro w0)
  repeat (first | (refine Walk ?_; intros) | refine JC.block ?_)
  refine JC.loopF0 [(0, _), (1, _), (7, _)] (fun (k : Nat) => [(4, .int .i64 (((l.take k).filter (fun t => !F t)).length : Int)), (8, .int .i64 k)]) (fun Sk k => k ≤ l.length ∧ (True)) (fun k => l.length - k) 0 (by exact sba) (by exact sba) ⟨Nat.zero_le _, trivial⟩ ?_; intro Sk k hlk hik; obtain ⟨hk, hik⟩ := hik; (try dsimp only at hk hik); dsimp only [List.cons_append, List.nil_append]
  repeat (first | (refine Walk ?_; intros) | refine JC.block ?_)
  refine JC.cond rfl (fun hc => ?_) (fun hc => ?_)
  · have hk' := dlt hc
    obtain ⟨x, hx, hd⟩ := drop_at hk'
    have hst := filt_take (f := fun t => !F t) hx
    have hle := filt_le l (fun t => !F t) k
    repeat (first | (refine Walk ?_; intros) | refine JC.block ?_)
    refine JO.pure rfl rfl rfl (JPure.sliceS (xs := l) (rep := rLabel) (bt := 32) rfl (by exact vta) rfl rfl rfl (by omega) (by omega) (by omega) ?_); intro a1 c1 ys hys hV hyl hyb
    rw [cut1 hx] at hys
    subst hys
    repeat (first | (refine Walk ?_; intros) | refine JC.block ?_)
    (refine JO.eff rfl rfl rfl (JEff.dynV rfl (by assumption) rfl (hf _ _ x (by exact lea) (by exact vta)) rfl ?_); intro _ _)
    repeat (first | (refine Walk ?_; intros) | refine JC.block ?_)
    refine JC.cond rfl (fun h1 => ?_) (fun h1 => ?_)
    · rw [h1, if_pos rfl] at hst
      repeat (first | (refine Walk ?_; intros) | refine JC.block ?_)
      (refine JX.roundF (k + 1) (by exact lea) ⟨by omega, (trivial)⟩ (by (try dsimp only); omega) rfl ?_ (by exact sba); (try dsimp only); rw [hst]; exact sba; done)
    · rw [h1, if_neg (by simp), Int.add_zero] at hst
      repeat (first | (refine Walk ?_; intros) | refine JC.block ?_)
      (refine JX.roundF (k + 1) (by exact lea) ⟨by omega, (trivial)⟩ (by (try dsimp only); omega) rfl ?_ (by exact sba); (try dsimp only); rw [hst]; exact sba; done)
  · have hk' := dnlt hc
    rw [List.take_of_length_le hk']
    repeat (first | (refine Walk ?_; intros) | refine JC.block ?_)
    (refine JX.ret1 Tryz.results162 (ResV.tmp rfl) (List.nil_sublist _) ?_)
    exact ⟨rfl, rfl⟩
end Go.Dr
namespace Go.Dr
open Go.Proofs
set_option maxRecDepth 20000
set_option maxHeartbeats 2000000
set_option linter.unusedSimpArgs false
set_option linter.unusedVariables false
structure PodAt (s : Snap) (p : List Int) (i m : Nat) (x : Pod) (n : Node) : Prop where
  ok : checkP s p = 0
  hm : p[i]? = some (m : Int)
  hx : s.pods[i]? = some x
  hn : s.nodes[m]? = some n
theorem of8_at {s : Snap} {p : List Int} {i m : Nat} {x : Pod} {n : Node} (h : PodAt s p i m x n) (kind : Int) : of8 s p kind i =
      if kind = 2 then (termsN x.wher n.labels, true)
      else if kind = 3 then (taintsN n.taints x.bears, true)
      else if kind = 4 then (if x.with_.topo = noS then (0, false) else (max 0 (1 - about8 s p i x.with_ false), true))
      else if kind = 5 then (if x.apart.topo = noS then (0, false) else (about8 s p i x.apart true, true))
      else if x.owner = noS then (0, false) else if !single8 s x.owner then (0, false) else (double8 s p i, true) := by
  unfold of8
  rw [h.hm, h.hx]
  have e : ((m : Int)).toNat = m := by omega
  have e2 : ¬ (m : Int) < 0 := by omega
  simp only [e, h.hn, if_neg e2]
def KindAns (f : FuncId) (kind : Int) : Prop :=
  ∀ {S : SHeap} {kp : Addr} {s : Snap} {p : List Int} {us : List (List Int)} {mb : Nat} {l : List (ByteArray × Value)} {i m : Nat} {x : Pod} {n : Node}, PodAt s p i m x n →
    PtrTo S kp rLook ⟨s, p, us, .map (some mb)⟩ → Cache s S l → FnC Tryz.prog f #[.pointer (some kp), .int .i64 i] S Value.string mb (Cache s) l (fun w _ => w = .tuple #[.int .i64 (of8 s p kind i).1, .bool (of8 s p kind i).2])
theorem p8_kinds11 {S : SHeap} {u : Value} {t : Term} {ls : List Label} {q : Addr} (hu : (rSlice 40 rTerm).V S u [t]) (hq : PtrTo S q (rSlice 32 rLabel) ls) : FnV Tryz.prog 159 #[u, .pointer (some q)] S (.bool (holdsB [t] ls)) := by
  (refine Fn.enter (args := [u, .pointer (some q)]) Tryz.func159 rfl Tryz.ntmps159 rfl ?_; intro w0)
  repeat (first | (refine Walk ?_; intros) | refine JC.block ?_ | (refine JO.eff rfl rfl rfl (JEff.callV rfl (p3_Holds (by exact vta) (by exact vta)) rfl ?_); intro _ _))
  (refine JX.ret1 Tryz.results159 (ResV.tmp rfl) (List.nil_sublist _) ?_)
  exact ⟨rfl, rfl⟩
theorem p8_kinds21 {S : SHeap} {u : Value} {t : Label} {ls : List Label} {q : Addr} (hu : (rSlice 32 rLabel).V S u [t]) (hq : PtrTo S q (rSlice 32 rLabel) ls) : FnV Tryz.prog 163 #[u, .pointer (some q)] S (.bool (bearsB ls [t])) := by
  (refine Fn.enter (args := [u, .pointer (some q)]) Tryz.func163 rfl Tryz.ntmps163 rfl ?_; intro w0)
  repeat (first | (refine Walk ?_; intros) | refine JC.block ?_ | (refine JO.eff rfl rfl rfl (JEff.callV rfl (p3_Bears (by exact vta) (by exact vta)) rfl ?_); intro _ _))
  (refine JX.ret1 Tryz.results163 (ResV.tmp rfl) (List.nil_sublist _) ?_)
  exact ⟨rfl, rfl⟩
theorem s157_L8d {P K : Prop} (k : K) (h : Goal K → P := by
  intro zk
  (first | refine Walk ?_ | refine JC.block ?_ | refine JC.drawN 1 rfl [0, 1, 2, 3, 4, 5, 6, 7, 8, 9, 10, 11, 12, 13, 14, 15, 16] [] Tryz_mixed (by decide +kernel) ?_ | (refine WNew ?_) | (refine WPut ?_))
  (repeat (first | revert zqg | revert zqf | revert zqe | revert zqd | revert zqc | revert zqb | revert zqa))
  exact zk.k) : P := h ⟨k⟩
theorem p8_kinds1 : KindAns 157 2 := by
  intro S kp s p us mb l i m x n h hL hco
  rw [of8_at h]
  have hm := h.hm
  have hx := h.hx
  have hn := h.hn
  refine FnR.toC ?_ (fun S' hl => hco.mono hl)
  (refine Fn.enter (args := [.pointer (some kp), .int .i64 i]) Tryz.func157 rfl Tryz.ntmps157 rfl ?_; intro w0)
  repeat (refine s157_L8d ?_; intros)
  (refine JO.eff rfl rfl rfl (JEff.callV rfl (p8_withoutT (fun t => holdsB [t] n.labels) (by exact vta) inferInstance (fun S' v t hl hv => p8_kinds11 hv (by exact pta))) rfl ?_); intro _ _)
  repeat (refine s157_L8d ?_; intros)
  (refine JX.ret2 Tryz.results157 (ResV.tmp rfl) (ResV.tmp rfl) (List.nil_sublist _) ?_)
  exact ⟨rfl, rfl⟩
theorem s161_L8d {P K : Prop} (k : K) (h : Goal K → P := by
  intro zk
  (first | refine Walk ?_ | refine JC.block ?_ | refine JC.drawN 2 rfl [0, 1, 2, 3, 4, 5, 6, 7, 8, 9, 10, 11, 12, 13, 14, 15, 16, 17, 18] [0, 1, 2, 3, 4, 5, 6, 7, 8, 9, 10, 11, 12, 13, 14, 15, 17, 18] Tryz_mixed (by decide +kernel) ?_ | (refine WNew ?_) | (refine WPut ?_))
  (repeat (first | revert zqg | revert zqf | revert zqe | revert zqd | revert zqc | revert zqb | revert zqa))
  exact zk.k) : P := h ⟨k⟩
theorem p8_kinds2 : KindAns 161 3 := by
  intro S kp s p us mb l i m x n h hL hco
  rw [of8_at h]
  have hm := h.hm
  have hx := h.hx
  have hn := h.hn
  refine FnR.toC ?_ (fun S' hl => hco.mono hl)
  (refine Fn.enter (args := [.pointer (some kp), .int .i64 i]) Tryz.func161 rfl Tryz.ntmps161 rfl ?_; intro w0)
  repeat (refine s161_L8d ?_; intros)
  (refine JO.eff rfl rfl rfl (JEff.callV rfl (p8_withoutL (fun t => bearsB x.bears [t]) (by exact vta) inferInstance (fun S' v t hl hv => p8_kinds21 hv (by exact pta))) rfl ?_); intro _ _)
  repeat (refine s161_L8d ?_; intros)
  (refine JX.ret2 Tryz.results161 (ResV.tmp rfl) (ResV.tmp rfl) (List.nil_sublist _) ?_)
  exact ⟨rfl, rfl⟩
theorem p8_kinds3 : KindAns 165 4 := by
  intro S kp s p us mb l i m x n h hL hco
  rw [of8_at h]
  have hm := h.hm
  have hx := h.hx
  obtain ⟨hs, hlen, hp24, hn8, ho8, hpr, hprn⟩ := placed_hyps h.ok
  have hab := cntI_rng p.length (aboutF s p i x.with_ false)
  (refine Fn.enter (args := [.pointer (some kp), .int .i64 i]) Tryz.func165 rfl Tryz.ntmps165 rfl ?_; intro w0)
  repeat (first | (refine Walk ?_; intros) | refine JC.block ?_ | (refine WNew ?_; intros) | (refine WPut ?_; intros))
  refine JC.cond rfl (fun h1 => ?_) (fun h1 => ?_)
  · have h1 : x.with_.topo = noS := by simpa [noS] using h1
    repeat (first | (refine Walk ?_; intros) | refine JC.block ?_ | (refine WNew ?_; intros) | (refine WPut ?_; intros))
    refine JX.ret2 Tryz.results165 (ResV.tmp rfl) (ResV.tmp rfl) (List.Sublist.refl _) ?_
    exact ⟨by simp [h1], _, rfl, hco.mono (by exact lea)⟩
  · have h1 : ¬ x.with_.topo = noS := by simpa [noS] using h1
    repeat (first | (refine Walk ?_; intros) | refine JC.block ?_ | (refine WNew ?_; intros) | (refine WPut ?_; intros))
    refine JO.eff rfl rfl rfl (JEff.callC (kv := Value.string) rfl (List.Perm.refl _) (by intro l hl; cases hl) (p8_around true h.ok (by exact pta) (hco.mono (by exact lea)) (by exact vta) hm (by omega)) rfl ?_); intro w S2 l2 hl2 hw hco2; subst hw
    have e : about8 s p i x.with_ (!true) = about8 s p i x.with_ false := rfl
    have hab2 : 0 ≤ about8 s p i x.with_ (!true) ∧ about8 s p i x.with_ (!true) ≤ p.length := hab
    repeat (first | (refine Walk ?_; intros) | refine JC.block ?_ | (refine WNew ?_; intros) | (refine WPut ?_; intros))
    refine JX.ret2 Tryz.results165 (ResV.tmp rfl) (ResV.tmp rfl) (List.Sublist.refl _) ?_
    exact ⟨by simp [h1], _, rfl, hco2⟩
theorem p8_kinds4 : KindAns 167 5 := by
  intro S kp s p us mb l i m x n h hL hco
  rw [of8_at h]
  have hm := h.hm
  have hx := h.hx
  obtain ⟨hs, hlen, hp24, hn8, ho8, hpr, hprn⟩ := placed_hyps h.ok
  (refine Fn.enter (args := [.pointer (some kp), .int .i64 i]) Tryz.func167 rfl Tryz.ntmps167 rfl ?_; intro w0)
  repeat (first | (refine Walk ?_; intros) | refine JC.block ?_ | (refine WNew ?_; intros) | (refine WPut ?_; intros))
  refine JC.cond rfl (fun h1 => ?_) (fun h1 => ?_)
  · have h1 : x.apart.topo = noS := by simpa [noS] using h1
    repeat (first | (refine Walk ?_; intros) | refine JC.block ?_ | (refine WNew ?_; intros) | (refine WPut ?_; intros))
    refine JX.ret2 Tryz.results167 (ResV.tmp rfl) (ResV.tmp rfl) (List.Sublist.refl _) ?_
    exact ⟨by simp [h1], _, rfl, hco.mono (by exact lea)⟩
  · have h1 : ¬ x.apart.topo = noS := by simpa [noS] using h1
    repeat (first | (refine Walk ?_; intros) | refine JC.block ?_ | (refine WNew ?_; intros) | (refine WPut ?_; intros))
    refine JO.eff rfl rfl rfl (JEff.callC (kv := Value.string) rfl (List.Perm.refl _) (by intro l hl; cases hl) (p8_around false h.ok (by exact pta) (hco.mono (by exact lea)) (by exact vta) hm (by omega)) rfl ?_); intro w S2 l2 hl2 hw hco2; subst hw
    repeat (first | (refine Walk ?_; intros) | refine JC.block ?_ | (refine WNew ?_; intros) | (refine WPut ?_; intros))
    refine JX.ret2 Tryz.results167 (ResV.tmp rfl) (ResV.tmp rfl) (List.Sublist.refl _) ?_
    exact ⟨by simp [h1], _, rfl, hco2⟩
def dblF (s : Snap) (p : List Int) (i m : Nat) (x : Pod) (j : Nat) : Bool :=
  match p[j]?, s.pods[j]? with
  | some n, some q => !decide (j = i) && decide (n = (m : Int)) && decide (q.owner = x.owner)
  | _, _ => false
theorem dbl_double {s : Snap} {p : List Int} {i m : Nat} {x : Pod} {n : Node} (h : PodAt s p i m x n) : cntI p.length (thereB p (dblF s p i m x)) = double8 s p i := by
  unfold double8
  refine cntI_congr fun j hj => ?_
  obtain ⟨n, hn⟩ : ∃ n, p[j]? = some n := ⟨_, List.getElem?_eq_getElem hj⟩
  unfold thereB dblF doubleF
  rw [at0_some hn, hn, h.hm, h.hx]
  cases s.pods[j]? <;> simp
  intro _ h1 _
  omega
theorem p8_kinds51 {S : SHeap} {kp : Addr} {s : Snap} {p : List Int} {us : List (List Int)} {d : Value} {qi qk qn : Addr} {i m j : Nat} {x : Pod} {n : Node} {nj : Int} (h : PodAt s p i m x n)
    (hL : PtrTo S kp rLook ⟨s, p, us, d⟩) (h2 : PtrTo S qi rI64 (i : Int)) (h3 : PtrTo S qk rVal (.pointer (some kp))) (h4 : PtrTo S qn rStr x.owner) (hj : p[j]? = some nj) :
    FnV Tryz.prog 171 #[.int .i64 j, .pointer (some qi), .pointer (some qk), .pointer (some qn)] S (.bool (dblF s p i m x j)) := by
  obtain ⟨hs, hlen, hp24, hn8, ho8, hpr, hprn⟩ := placed_hyps h.ok
  have hm := h.hm
  have hj' := (List.getElem?_eq_some_iff.1 hj).1
  have hi' := (List.getElem?_eq_some_iff.1 hm).1
  obtain ⟨q, hq⟩ : ∃ q, s.pods[j]? = some q := ⟨_, List.getElem?_eq_getElem (by omega)⟩
  have haf : dblF s p i m x j = (!decide (j = i) && decide (nj = (m : Int)) && decide (q.owner = x.owner)) := by simp [dblF, hj, hq]
  have hij : decide ((j : Int) = (i : Int)) = decide (j = i) := by rw [Bool.eq_iff_iff]; simp; omega
  have hjr : Rng (j : Int) := by unfold Rng; omega
  rw [haf]
  clear haf
  (refine Fn.enter (args := [.int .i64 j, .pointer (some qi), .pointer (some qk), .pointer (some qn)]) Tryz.func171 rfl Tryz.ntmps171 rfl ?_; intro w0)
  repeat' (first | (refine Walk ?_; intros) | refine JC.block ?_ | refine JC.drawN 1 rfl [0, 1, 2, 3, 4, 5, 6, 7, 8, 9, 10, 11, 12, 13, 14, 15, 16, 17, 18, 19, 20, 21, 22, 23, 24, 25, 26, 27, 28, 29, 30, 31, 32, 33] [0, 1, 2, 3, 4, 5, 6, 7, 8, 9, 10, 11, 12, 13, 14, 15, 16, 17, 18, 19, 20, 21, 22, 23, 24, 25, 26, 27, 28, 29, 30, 31, 32, 33] Tryz_mixed (by decide +kernel) ?_ | (refine JO.guard rfl rfl rfl rfl ?_ ?_ <;> intro _) | (refine JC.cond rfl ?_ ?_ <;> intro _))
  all_goals ((refine JX.ret1 Tryz.results171 (ResV.tmp rfl) (List.nil_sublist _) ?_); refine ⟨rfl, ?_⟩; simp_all)
theorem single_no {s : Snap} (h : shapedB s = true) : single8 s noS = false := by
  unfold single8
  cases hf : s.owners.find? (fun o => decide (o.name = noS)) with
  | none => rfl
  | some o =>
    exfalso
    have h1 := List.find?_some hf
    have h2 := List.mem_of_find?_eq_some hf
    have h1 : o.name = noS := by simpa using h1
    unfold shapedB at h
    simp only [Bool.and_eq_true] at h
    have h3 := h.1.2.2
    have h4 : nameB o.name = true := by
      have : ∀ (l : List ByteArray) (a : Option ByteArray), riseN a l = true → ∀ x ∈ l, nameB x = true := by
        intro l
        induction l with
        | nil => intro a _ x hx; cases hx
        | cons y l ih =>
          intro a hr x hx
          simp only [riseN, Bool.and_eq_true] at hr
          rcases List.mem_cons.1 hx with rfl | hx
          · exact hr.1.1
          · exact ih _ hr.2 x hx
      exact this _ _ h3 _ (List.mem_map.2 ⟨o, h2, rfl⟩)
    rw [h1] at h4
    exact absurd h4 (by decide)
theorem s168_L8d {P K : Prop} (k : K) (h : Goal K → P := by
  intro zk
  (first | refine Walk ?_ | refine JC.block ?_ | refine JC.drawN 1 rfl [0, 1, 2, 3, 4, 5, 6, 7, 8, 9, 10] [] Tryz_mixed (by decide +kernel) ?_ | (refine WBox ?_) | (refine WNew ?_) | (refine WPut ?_))
  (repeat (first | revert zqg | revert zqf | revert zqe | revert zqd | revert zqc | revert zqb | revert zqa))
  exact zk.k) : P := h ⟨k⟩
theorem p8_kinds5 : KindAns 168 6 := by
  intro S kp s p us mb l i m x n h hL hco
  have hm := h.hm
  have hx := h.hx
  obtain ⟨hs, hlen, hp24, hn8, ho8, hpr, hprn⟩ := placed_hyps h.ok
  have hi' := (List.getElem?_eq_some_iff.1 hm).1
  have hir : Rng (i : Int) := by unfold Rng; omega
  have hno := single_no (checkS_ok hs).1
  have hval : (if x.owner = noS then ((0 : Int), false) else if !single8 s x.owner then (0, false) else (double8 s p i, true)) = if single8 s x.owner then (double8 s p i, true) else (0, false) := by
    by_cases h1 : x.owner = noS
    · rw [if_pos h1, h1, hno]; rfl
    · rw [if_neg h1]; cases single8 s x.owner <;> rfl
  have hv6 : of8 s p 6 i = if single8 s x.owner then (double8 s p i, true) else (0, false) := by rw [of8_at h, if_neg (by decide), if_neg (by decide), if_neg (by decide), if_neg (by decide)]; exact hval
  rw [hv6]
  (refine Fn.enter (args := [.pointer (some kp), .int .i64 i]) Tryz.func168 rfl Tryz.ntmps168 rfl ?_; intro w0)
  repeat (refine s168_L8d ?_; intros)
  (refine JO.eff rfl rfl rfl (JEff.callV rfl (p8_single x.owner (by assumption) (by exact pta)) rfl ?_); intro _ _)
  repeat (refine s168_L8d ?_; intros)
  cases h1 : single8 s x.owner with
  | false =>
    repeat (refine s168_L8d ?_; intros)
    refine JX.ret2 Tryz.results168 (ResV.tmp rfl) (ResV.tmp rfl) (List.Sublist.refl _) ?_
    exact ⟨by simp [h1], _, rfl, hco.mono (by exact lea)⟩
  | true =>
    repeat (refine s168_L8d ?_; intros)
    refine JO.eff rfl rfl rfl (JEff.callC (kv := Value.string) rfl (List.Perm.refl _) (by intro l hl; cases hl) (p8_many (dblF s p i m x) inferInstance (by omega) (by exact pta) (hco.mono (by exact lea)) (fun S' l' j n hl hc hj hn => FnR.toC (p8_kinds51 h (by exact pta) (by exact pta) (by exact pta) (by exact pta) hj) (fun _ hl => hc.mono hl))) rfl ?_); intro w S2 l2 hl2 hw hco2; subst hw
    rw [dbl_double h]
    repeat (refine s168_L8d ?_; intros)
    refine JX.ret2 Tryz.results168 (ResV.tmp rfl) (ResV.tmp rfl) (List.Sublist.refl _) ?_
    exact ⟨by simp [h1], _, rfl, hco2⟩
end Go.Dr
namespace Go.Dr
def spCnt (s : Snap) (key : ByteArray) (xs : List Int) (v : ByteArray) : Int := ((xs.filter (fun x => inDom s key v x.toNat)).length : Int)
theorem sum_add2 (f g : Nat → Int) : ∀ N, ((List.range N).map (fun n => f n + g n)).sum = ((List.range N).map f).sum + ((List.range N).map g).sum
  | 0 => rfl
  | N + 1 => by
    simp only [List.range_succ, List.map_append, List.sum_append, List.map_cons, List.map_nil, List.sum_cons, List.sum_nil, sum_add2 f g N]; omega
theorem sum_one (c : Int) (i : Nat) : ∀ N, ((List.range N).map (fun n => if n = i then c else 0)).sum = if i < N then c else 0
  | 0 => rfl
  | N + 1 => by
    simp only [List.range_succ, List.map_append, List.sum_append, List.map_cons, List.map_nil, List.sum_cons, List.sum_nil, sum_one c i N]
    by_cases h : i < N
    · rw [if_pos h, if_neg (by omega), if_pos (by omega)]; omega
    · by_cases h2 : N = i
      · rw [if_neg h, if_pos h2, if_pos (by omega)]; omega
      · rw [if_neg h, if_neg h2, if_neg (by omega)]; rfl
theorem spCnt_sum (s : Snap) (key v : ByteArray) (N : Nat) : ∀ (xs : List Int), (∀ x ∈ xs, 0 ≤ x ∧ x < N) →
    ((List.range N).map (fun n => if inDom s key v n = true then ((xs.filter (fun x => decide (x = (n : Int)))).length : Int) else 0)).sum = spCnt s key xs v
  | [], _ => by
    unfold spCnt
    simp [List.map_const', List.sum_replicate_int]
  | x :: xs, h => by
    have ih := spCnt_sum s key v N xs (fun y hy => h y (by simp [hy]))
    obtain ⟨h0, h1⟩ := h x (by simp)
    obtain ⟨i, rfl⟩ := Int.eq_ofNat_of_zero_le h0
    have e1 : (fun n : Nat => if inDom s key v n = true then ((((i : Int) :: xs).filter (fun x => decide (x = (n : Int)))).length : Int) else 0) =
        fun n => (if inDom s key v n = true then ((xs.filter (fun x => decide (x = (n : Int)))).length : Int) else 0) + (if n = i then (if inDom s key v i = true then 1 else 0) else 0) := by
      funext n
      by_cases hn : n = i
      · subst hn
        rw [List.filter_cons_of_pos (by simp)]
        cases inDom s key v n <;> simp
      · rw [List.filter_cons_of_neg (by simp; omega), if_neg hn]; simp
    rw [e1, sum_add2, ih, sum_one, if_pos (by omega)]
    unfold spCnt
    cases hd : inDom s key v i with
    | true => rw [List.filter_cons_of_pos (by simpa using hd)]; simp
    | false => rw [List.filter_cons_of_neg (by simpa using hd)]; simp
theorem spread_cnt {s : Snap} {p : List Int} {o : Nat} (h : ∀ x ∈ ownedL s p o, 0 ≤ x ∧ x < s.nodes.length) : spreadL s p o = (domL s (topoOf s o)).map (spCnt s (topoOf s o) (ownedL s p o)) := by
  unfold spreadL
  apply List.map_congr_left
  intro v _
  rw [← spCnt_sum s (topoOf s o) v s.nodes.length _ h]
  unfold domCount
  congr 1
  apply List.map_congr_left
  intro n hn
  have hn := List.mem_range.1 hn
  have : at0 (countsL s p o) n = (((ownedL s p o).filter (fun x => decide (x = (n : Int)))).length : Int) := by
    simp [at0, countsL, hn]
  rw [this]
theorem spCnt_step {s : Snap} {key : ByteArray} {xs : List Int} {k : Nat} {y : Int} (h : xs[k]? = some y) (v : ByteArray) : spCnt s key (xs.take (k + 1)) v = spCnt s key (xs.take k) v + if inDom s key v y.toNat = true then 1 else 0 := by
  unfold spCnt
  rw [List.take_add_one, h]
  cases hd : inDom s key v y.toNat <;> simp [hd]
theorem map_set1 {D : List ByteArray} {j : Nat} {v : ByteArray} (f : ByteArray → Int) (hn : pwS D) (hj : D[j]? = some v) : D.map (fun d => f d + if d = v then 1 else 0) = (D.map f).set j (f v + 1) := by
  obtain ⟨l1, e1⟩ := List.getElem?_eq_some_iff.1 hj
  apply List.ext_getElem?
  intro i
  rw [List.getElem?_set, List.getElem?_map, List.getElem?_map, List.length_map]
  by_cases hi : j = i
  · subst hi
    rw [if_pos rfl, if_pos l1, hj]; simp
  · rw [if_neg hi]
    cases hd : D[i]? with
    | none => rfl
    | some d =>
      obtain ⟨l2, e2⟩ := List.getElem?_eq_some_iff.1 hd
      have hne : ¬ d = v := by
        intro he
        have hp := List.pairwise_iff_getElem.1 hn
        rcases Nat.lt_or_ge i j with hl | hl
        · have := hp i j l2 l1 hl
          rw [e1, e2, he, ltS_irr] at this; cases this
        · have := hp j i l1 l2 (by omega)
          rw [e1, e2, he, ltS_irr] at this; cases this
      simp [hne]
theorem dom_has (key : ByteArray) : ∀ (l : List Node) (b : List ByteArray) (v : ByteArray), (v ∈ b ∨ ∃ x ∈ l, (valB x key).2 = true ∧ (valB x key).1 = v) → v ∈ l.foldl (domStep key) b
  | [], b, v, h => by
    rcases h with h | ⟨x, hx, _⟩
    · exact h
    · cases hx
  | n :: l, b, v, h => by
    simp only [List.foldl_cons]
    refine dom_has key l _ v ?_
    rcases h with h | ⟨x, hx, h1, h2⟩
    · left
      unfold domStep
      split
      · rw [domIns_mem]; exact .inr h
      · exact h
    · rcases List.mem_cons.1 hx with rfl | hx
      · left
        unfold domStep
        rw [if_pos h1, domIns_mem]; exact .inl h2.symm
      · exact .inr ⟨x, hx, h1, h2⟩
end Go.Dr
namespace Go.Dr
open Go.Proofs
set_option maxRecDepth 20000
set_option maxHeartbeats 2000000
set_option linter.unusedSimpArgs false
set_option linter.unusedVariables false
def spreadP (s : Snap) (p : List Int) (o : Int) : List Int := if z0 (checkP s p) && (decide (0 ≤ o) && decide (o < s.owners.length)) then spreadL s p o.toNat else []
theorem idxS_mem {l : List ByteArray} {v : ByteArray} (h : v ∈ l) : ∃ j : Nat, idxS l v = (j : Int) ∧ l[j]? = some v := by
  unfold idxS idxF
  cases hf : l.findIdx? (fun x => decide (x = v)) with
  | none =>
    have := List.findIdx?_eq_none_iff.1 hf v h
    simp at this
  | some j =>
    obtain ⟨h1, h2, _⟩ := List.findIdx?_eq_some_iff_getElem.1 hf
    refine ⟨j, rfl, ?_⟩
    rw [List.getElem?_eq_getElem h1, of_decide_eq_true h2]
theorem s119_L7i {P K : Prop} (k : K) (h : Goal K → P := by
  intro zk
  (first | refine Walk ?_ | refine JC.block ?_ | refine JC.drawN 8 rfl [0, 1, 2, 3, 4, 5, 6, 7, 8, 9, 10, 11] [0, 1, 2, 3, 4, 5, 7, 8, 9, 10, 11] Tryz_mixed (by decide +kernel) ?_ | refine JC.drawN 10 rfl [0, 1, 2, 3, 4, 5, 6, 7, 8] [1, 2, 4, 5, 6, 7] Tryz_mixed (by decide +kernel) ?_ | (refine JO.eff rfl rfl rfl (JEff.callV rfl (p7_asked _ (by exact vta) (by exact vta)) rfl ?_); intro zqa zqb) | (refine JO.eff rfl rfl rfl (JEff.callL rfl (p7_Domains _ (by assumption) (by exact vta)) rfl ?_); intro zqa zqb zqc zqd zqe zqf) | (refine JO.eff rfl rfl rfl (JEff.callV rfl (p7_value _ (by assumption) (by exact vta)) rfl ?_); intro zqa zqb) | (refine JO.eff rfl rfl rfl (JEff.callV rfl (p_Index_string _ (by exact vta)) rfl ?_); intro zqa zqb) | (refine WBox ?_) | (refine WNew ?_) | (refine WPut ?_))
  (repeat (first | revert zqg | revert zqf | revert zqe | revert zqd | revert zqc | revert zqb | revert zqa))
  exact zk.k) : P := h ⟨k⟩
theorem p7_Spread {S : SHeap} {u v : Value} {s : Snap} {p : List Int} (o : Int) (hu : rSnap.V S u s) (hv : (rSlice 8 rI64).V S v p) :
    FnL Tryz.prog 119 #[u, v, .int .i64 o] S 8 rI64 (spreadP s p o) := by
  haveI : TyR Tryz.prog 27 rVal := ⟨(inferInstance : TyR Tryz.prog 27 (rSlice 8 rI64)).b⟩
  obtain ⟨a, c, rfl, _⟩ := V_slice.1 hv
  (refine Fn.enterM (args := [u, .slice a p.length c, .int .i64 o]) Tryz.func119 rfl Tryz.ntmps119 rfl ?_; intro w0)
  repeat (refine s119_L7i ?_; intros)
  cases hc : (z0 (checkP s p) && (decide (0 ≤ o) && decide (o < s.owners.length))) with
  | false =>
    repeat (refine s119_L7i ?_; intros)
    refine JX.retM0 Tryz.results119 (ResV.tmp rfl) (List.nil_sublist _) ?_
    refine ⟨rfl, ?_⟩
    rw [spreadP, hc]
    exact V_nil
  | true =>
    have hol := owned_len s p o.toNat
    have hsp : spreadP s p o = spreadL s p o.toNat := by rw [spreadP, hc]; rfl
    rw [hsp]
    simp only [Bool.and_eq_true, decide_eq_true_eq] at hc
    obtain ⟨c1, c2, c3⟩ := hc
    obtain ⟨o, rfl⟩ := Int.eq_ofNat_of_zero_le c2
    rw [Int.toNat_natCast] at hol ⊢
    obtain ⟨h1, h2, h3, h4, h5, h6, h7⟩ := placed_hyps (s := s) (p := p) (by simpa [z0] using c1)
    obtain ⟨ow, how, _⟩ := drop_at (l := s.owners) (show o < s.owners.length by omega)
    have htp : topoOf s o = ow.topo := by rw [topoOf, how]
    repeat (refine s119_L7i ?_; intros)
    have hif : (if z0 (checkS s) = true then domL s ow.topo else []) = domL s ow.topo := by rw [h1]; rfl
    have hdl := domK_len s ow.topo s.nodes.length
    have hdf : domK s ow.topo s.nodes.length = domL s ow.topo := by unfold domK domL; rw [List.take_length]
    rw [hdf] at hdl
    generalize (if z0 (checkS s) = true then domL s ow.topo else []) = D at *
    subst hif
    refine JO.eff rfl rfl rfl (JEff.makeInts (n := (domL s ow.topo).length) rfl rfl (by unfold big; omega) rfl ?_); intro bo hbo
    repeat (refine s119_L7i ?_; intros)
    (refine JO.eff rfl rfl rfl (JEff.callR rfl ((p7_owned o (by exact vta) (by exact vta) (by omega) (by omega) h2 (by omega) h7)) rfl ?_); intro w S2 hl2 hV)
    obtain ⟨lb, rfl, hit⟩ := hV
    repeat (refine s119_L7i ?_; intros)
    have hz : (domL s ow.topo).map (spCnt s ow.topo ((ownedL s p o).take 0)) = List.replicate (domL s ow.topo).length 0 := by
      rw [List.take_zero, ← List.map_const']
      apply List.map_congr_left
      intro v _
      simp [spCnt]
    have hown : ∀ x ∈ ownedL s p o, 0 ≤ x ∧ x < s.nodes.length := by
      intro x hx
      unfold ownedL at hx
      obtain ⟨z, hz, rfl⟩ := List.mem_map.1 hx
      rw [List.mem_filter] at hz
      simp only [Bool.and_eq_true, decide_eq_true_eq] at hz
      have := h6 z.1 (List.of_mem_zip hz.1).1
      exact ⟨hz.2.1, this.2⟩
    refine JC.rangeFunc (rep := rI64) (xs := ownedL s p o) (fun k S' M' => M' = [.blk bo (.cells (ints ((domL s ow.topo).map (spCnt s ow.topo ((ownedL s p o).take k)))) 3 (0, 0))]) rfl rfl inferInstance rfl hit (by rw [hz]) ?_ ?_
    · rintro w1 B1 K L Rc k y v S' M' hR hp hl hy hv rfl
      obtain ⟨rfl, hyr⟩ := V_i64.1 hv
      obtain ⟨y0, y1⟩ := hown y (List.mem_of_getElem? hy)
      obtain ⟨n, hn, _⟩ := drop_at (l := s.nodes) (show y.toNat < s.nodes.length by omega)
      repeat (refine s119_L7i ?_; intros)
      refine JX.begin rfl hR ?_
      repeat (refine s119_L7i ?_; intros)
      have hkl := (List.getElem?_eq_some_iff.1 hy).1
      cases hv2 : (valB n ow.topo).2 with
      | true =>
        obtain ⟨j, hj, hjd⟩ := idxS_mem (dom_has ow.topo s.nodes [] (valB n ow.topo).1 (.inr ⟨n, List.mem_of_getElem? hn, hv2, rfl⟩))
        have hjd : (domL s ow.topo)[j]? = some (valB n ow.topo).1 := hjd
        have hj : idxS (domL s ow.topo) (valB n ow.topo).1 = (j : Int) := hj
        have hjl := (List.getElem?_eq_some_iff.1 hjd).1
        have hset : ((domL s ow.topo).map (spCnt s ow.topo ((ownedL s p o).take k))).set j (spCnt s ow.topo ((ownedL s p o).take k) (valB n ow.topo).1 + 1) = (domL s ow.topo).map (spCnt s ow.topo ((ownedL s p o).take (k + 1))) := by
          rw [← map_set1 (D := domL s ow.topo) _ (show pwS (domL s ow.topo) from dom_pw ow.topo s.nodes [] List.Pairwise.nil) hjd]
          apply List.map_congr_left
          intro d _
          rw [spCnt_step hy, inDom, hn]
          simp [hv2, eq_comm]
        have hcn : 0 ≤ spCnt s ow.topo ((ownedL s p o).take k) (valB n ow.topo).1 ∧ spCnt s ow.topo ((ownedL s p o).take k) (valB n ow.topo).1 ≤ 1000 := by
          unfold spCnt
          have e1 := List.length_filter_le (fun x => inDom s ow.topo (valB n ow.topo).1 x.toNat) ((ownedL s p o).take k)
          rw [List.length_take] at e1
          omega
        have hxj : ((domL s ow.topo).map (spCnt s ow.topo ((ownedL s p o).take k)))[j]? = some (spCnt s ow.topo ((ownedL s p o).take k) (valB n ow.topo).1) := by rw [List.getElem?_map, hjd]; rfl
        repeat (refine s119_L7i ?_; intros)
        rw [hj]
        repeat (refine s119_L7i ?_; intros)
        refine JO.pure rfl rfl rfl (JPure.indexRI rfl rfl rfl (by omega) (by omega) ?_)
        refine JO.pure rfl rfl rfl (JPure.loadMI (off := j) rfl (by (first | exact List.mem_cons_self | exact List.mem_cons_of_mem _ List.mem_cons_self | exact List.mem_cons_of_mem _ (List.mem_cons_of_mem _ List.mem_cons_self))) hxj (by unfold Rng; omega) (.inl rfl) rfl ?_)
        repeat (refine s119_L7i ?_; intros)
        refine JO.pure rfl rfl rfl (JPure.indexRI rfl rfl rfl (by omega) (by omega) ?_)
        refine JO.eff rfl rfl rfl (JEff.storeI (i := j) (Mr := [.blk L (.loop { Rc with state := .busy }), .blk K (.deferred (some []))]) rfl rfl (by unfold Rng; omega) (List.perm_append_comm (l₁ := [_]) (l₂ := [_, _])) (by rw [List.length_map]; exact hjl) (by intro l hl; cases hl) ?_)
        rw [hset]
        repeat (refine s119_L7i ?_; intros)
        refine JX.endRound hR hp (List.perm_append_comm (l₁ := [_, _]) (l₂ := [_])) ?_
        rfl
      | false =>
        have hset : (domL s ow.topo).map (spCnt s ow.topo ((ownedL s p o).take k)) = (domL s ow.topo).map (spCnt s ow.topo ((ownedL s p o).take (k + 1))) := by
          apply List.map_congr_left
          intro d _
          rw [spCnt_step hy, inDom, hn]
          simp [hv2]
        rw [hset]
        repeat (refine s119_L7i ?_; intros)
        refine JX.endRound hR hp (List.Perm.refl _) ?_
        rfl
    · rintro K S' M' hl rfl
      have hfin : (domL s ow.topo).map (spCnt s ow.topo ((ownedL s p o).take (ownedL s p o).length)) = spreadL s p o := by
        rw [List.take_length, spread_cnt hown, htp]
      rw [hfin]
      have hln : (spreadL s p o).length = (domL s ow.topo).length := by rw [← hfin, List.length_map]
      repeat (refine s119_L7i ?_; intros)
      have hrg : ∀ x ∈ spreadL s p o, Rng x := by
        intro x hx
        rw [← hfin, List.take_length] at hx
        obtain ⟨d, _, rfl⟩ := List.mem_map.1 hx
        have e1 := List.length_filter_le (fun x => inDom s ow.topo d x.toNat) (ownedL s p o)
        unfold spCnt Rng
        omega
      refine JX.perm (List.Perm.swap _ _ _) ?_
      refine JX.freezeInts hln.symm (Nat.le_refl _) (by unfold big; omega) hrg hbo (fun S3 hl3 hV3 => ?_)
      refine JX.retM1 Tryz.results119 (List.Perm.refl _) (ResV.tmp rfl) (List.nil_sublist _) ?_
      exact ⟨rfl, hV3⟩
end Go.Dr
namespace Go.Dr
open Go.Proofs
set_option maxRecDepth 20000
set_option maxHeartbeats 2000000
set_option linter.unusedSimpArgs false
set_option linter.unusedVariables false
instance : Fld1 Tryz.prog 152 0 0 := ⟨by kernel_rfl⟩
def kindV (f : FuncId) : Value := .agg #[.func (.func f) #[] #[]]
def kindsL : List (Int × Value) := [(2, kindV 157), (3, kindV 161), (4, kindV 165), (5, kindV 167), (6, kindV 168)]
theorem p8_kinds {S : SHeap} : FnR Tryz.prog 117 #[] S (fun w S' => ∃ b, w = .map (some b) ∧ S' b = some (mapK (Value.int .i64) kindsL)) := by
  (refine Fn.enter (args := []) Tryz.func117 rfl Tryz.ntmps117 rfl ?_; intro w0)
  repeat (first | (refine Walk ?_; intros) | refine JC.block ?_)
  refine JO.eff rfl rfl rfl (JEff.makeMapK (Value.int .i64) rfl ?_); intro b hb
  repeat (first | (refine Walk ?_; intros) | refine JC.block ?_)
  refine JO.eff rfl rfl rfl (JEff.insNew (kv := Value.int .i64) rfl rfl rfl (List.Perm.refl _) (by intro l hl; cases hl) rfl ?_)
  repeat (first | (refine Walk ?_; intros) | refine JC.block ?_)
  refine JO.eff rfl rfl rfl (JEff.insNew (kv := Value.int .i64) rfl rfl rfl (List.Perm.refl _) (by intro l hl; cases hl) rfl ?_)
  repeat (first | (refine Walk ?_; intros) | refine JC.block ?_)
  refine JO.eff rfl rfl rfl (JEff.insNew (kv := Value.int .i64) rfl rfl rfl (List.Perm.refl _) (by intro l hl; cases hl) rfl ?_)
  repeat (first | (refine Walk ?_; intros) | refine JC.block ?_)
  refine JO.eff rfl rfl rfl (JEff.insNew (kv := Value.int .i64) rfl rfl rfl (List.Perm.refl _) (by intro l hl; cases hl) rfl ?_)
  repeat (first | (refine Walk ?_; intros) | refine JC.block ?_)
  refine JO.eff rfl rfl rfl (JEff.insNew (kv := Value.int .i64) rfl rfl rfl (List.Perm.refl _) (by intro l hl; cases hl) rfl ?_)
  repeat (first | (refine Walk ?_; intros) | refine JC.block ?_)
  refine JX.freeze hb (fun S' hl hS => ?_)
  (refine JX.ret1 Tryz.results117 (ResV.tmp rfl) (List.nil_sublist _) ?_)
  exact ⟨rfl, b, rfl, hS⟩
theorem kinds_all {j : Nat} {q : Int × Value} (h : kindsL[j]? = some q) : ∃ f, q.2 = kindV f ∧ Ent Tryz.prog f ∧ KindAns f q.1 := by
  match j with
  | 0 => cases h; exact ⟨_, rfl, inferInstance, p8_kinds1⟩
  | 1 => cases h; exact ⟨_, rfl, inferInstance, p8_kinds2⟩
  | 2 => cases h; exact ⟨_, rfl, inferInstance, p8_kinds3⟩
  | 3 => cases h; exact ⟨_, rfl, inferInstance, p8_kinds4⟩
  | 4 => cases h; exact ⟨_, rfl, inferInstance, p8_kinds5⟩
  | j + 5 => simp [kindsL] at h
theorem kinds_there {kind : Int} (h1 : 2 ≤ kind) (h2 : kind ≤ 6) : ∃ q ∈ kindsL, q.1 = kind := by
  have : kind = 2 ∨ kind = 3 ∨ kind = 4 ∨ kind = 5 ∨ kind = 6 := by omega
  rcases this with rfl | rfl | rfl | rfl | rfl <;> simp [kindsL]
theorem kinds_distinct : DistinctK kindsL := by
  intro i j p q hi hj h
  have hi5 := (List.getElem?_eq_some_iff.1 hi).1
  have hj5 := (List.getElem?_eq_some_iff.1 hj).1
  simp only [kindsL, List.length_cons, List.length_nil] at hi5 hj5
  match i, j, hi, hj with
  | 0, 0, _, _ => rfl
  | 1, 1, _, _ => rfl
  | 2, 2, _, _ => rfl
  | 3, 3, _, _ => rfl
  | 4, 4, _, _ => rfl
  | 0, 1, hi, hj | 0, 2, hi, hj | 0, 3, hi, hj | 0, 4, hi, hj | 1, 0, hi, hj | 1, 2, hi, hj | 1, 3, hi, hj | 1, 4, hi, hj | 2, 0, hi, hj | 2, 1, hi, hj | 2, 3, hi, hj | 2, 4, hi, hj | 3, 0, hi, hj | 3, 1, hi, hj | 3, 2, hi, hj | 3, 4, hi, hj | 4, 0, hi, hj | 4, 1, hi, hj | 4, 2, hi, hj | 4, 3, hi, hj => cases hi; cases hj; simp at h
  | i + 5, _, hi, _ => omega
  | _, j + 5, _, hj => omega
theorem p8_numN {S : SHeap} (n : Int) : FnV Tryz.prog 273 #[.int .i64 n] S (.int .i64 n) := by
  (refine Fn.enter (args := [.int .i64 n]) Tryz.func273 rfl Tryz.ntmps273 rfl ?_; intro w0)
  repeat (first | (refine Walk ?_; intros) | refine JC.block ?_)
  (refine JX.ret1 Tryz.results273 (ResV.tmp rfl) (List.nil_sublist _) ?_)
  exact ⟨rfl, rfl⟩
theorem p8_numP {S : SHeap} (n : Int) : FnV Tryz.prog 274 #[.int .i64 n] S (.int .i64 n) := by
  (refine Fn.enter (args := [.int .i64 n]) Tryz.func274 rfl Tryz.ntmps274 rfl ?_; intro w0)
  repeat (first | (refine Walk ?_; intros) | refine JC.block ?_)
  (refine JX.ret1 Tryz.results274 (ResV.tmp rfl) (List.nil_sublist _) ?_)
  exact ⟨rfl, rfl⟩
theorem p8_numO {S : SHeap} (n : Int) : FnV Tryz.prog 275 #[.int .i64 n] S (.int .i64 n) := by
  (refine Fn.enter (args := [.int .i64 n]) Tryz.func275 rfl Tryz.ntmps275 rfl ?_; intro w0)
  repeat (first | (refine Walk ?_; intros) | refine JC.block ?_)
  (refine JX.ret1 Tryz.results275 (ResV.tmp rfl) (List.nil_sublist _) ?_)
  exact ⟨rfl, rfl⟩
theorem m8_N (v : Value) (w : World) : (callMethod (.iface 119 v) "drayage/clause.number" #[]).run Tryz.prog w = .ok (.enter 273 #[v]) w := by kernel_rfl
theorem m8_P (v : Value) (w : World) : (callMethod (.iface 120 v) "drayage/clause.number" #[]).run Tryz.prog w = .ok (.enter 274 #[v]) w := by kernel_rfl
theorem m8_O (v : Value) (w : World) : (callMethod (.iface 121 v) "drayage/clause.number" #[]).run Tryz.prog w = .ok (.enter 275 #[v]) w := by kernel_rfl
end Go.Dr
namespace Go.Dr
section
variable {C : Cx} {R : Rg} {Q : Post} {S S' : SHeap} {M M' : List MEnt} {e : Env} {rest : List Nat} {L : List Nat}
variable {d : Nat} {ty : TypeId} {pos : String} {aft : Array Edge} {g : Option (Nat × Bool)}
theorem JO.perm (hM : M'.Perm M) (k : JO C R L Q S M' e) : JO C R L Q S M e := ⟨fun a w hw => k.run a w ⟨hw.env, hw.defers, hw.wd.perm hM⟩⟩
theorem JPure.loadCl {i : Nat} {T t : TypeId} {x : Operand} {b : Nat} {xs : List Int} {fr : Nat × Nat} {c : Clause} (hx : ev e x = some (.pointer (some ⟨b, 0, none⟩))) (hM : MEnt.blk b (.cells (ints xs) t fr) ∈ M)
    (hc : xs = [c.kind, c.a, c.b, c.by_]) (hr : Rng c.kind ∧ Rng c.a ∧ Rng c.b ∧ Rng c.by_) [ht : TyR C.P T rClause] (hst : R.isAnch i = true ∨ ∃ l, R.T = some l ∧ b ∉ l) (hdN : Nat.blt d C.N = true)
    (k : rClause.V S (clV c) c → JO C R rest Q S M ((d, clV c) :: e)) : JPure C R (R.isAnch i) ⟨some d, .load T x, ty, pos, aft, g⟩ rest Q S M e := by
  subst hc
  exact JPure.loadM (rep := rClause) (x0 := c) (mid := [.int .i64 c.kind, .int .i64 c.a, .int .i64 c.b, .int .i64 c.by_]) hx hM rfl (R_clause.2 ⟨rfl, hr⟩) hst hdN (k (V_clV hr))
end
/-! ### A result that is a variable -/
theorem JX.retCell {α : Type} {P : Program} {r : Option Nat} {N : Nat} {fn : Func} {w0 : World} {B0 : List Nat} {S S0 : SHeap} {M M' : List MEnt} {e : Env} {PP : Value → SHeap → List MEnt → Prop} {p : Nat} {T : TypeId} {q : Addr} {rep : Rp α} {x : α}
    (hr : fn.results = #[.cell p T]) (h : Env.get? e p = some (.pointer (some q))) (hq : PtrTo S q rep x) [ht : TyR P T rep] (hM : M'.Sublist M) (hp : ∀ w, rep.V S w x → PP w S M') :
    JX ⟨P, r, N, [], w0, B0, S0⟩ .ret (bodyPost P fn (EndPost w0 B0 S0 PP)) S M e := by
  obtain ⟨w, hw, hrv⟩ := ResV.cell (C := ⟨P, r, N, [], w0, B0, S0⟩) (M := M) (T := T) h hq
  exact JX.ret1 hr hrv hM (hp w hw)
/-! ### Structs, written out -/
theorem map_R {α γ : Type} {f : γ → α} {a : Rp α} {S : SHeap} {cs : List Value} {x : γ} (h : a.R S cs (f x)) : (rMap f a).R S cs x := h
theorem seq1 {α β : Type} {a : Rp α} {b : Rp β} {S : SHeap} {c : Value} {cs : List Value} {x : α × β} (h1 : a.R S [c] x.1) (h2 : b.R S cs x.2) : (rSeq a b).R S (c :: cs) x := ⟨[c], cs, rfl, h1, h2⟩
theorem seq2 {α β : Type} {a : Rp α} {b : Rp β} {S : SHeap} {c d : Value} {cs : List Value} {x : α × β} (h1 : a.R S [c, d] x.1) (h2 : b.R S cs x.2) : (rSeq a b).R S (c :: d :: cs) x := ⟨[c, d], cs, rfl, h1, h2⟩
theorem seq5 {α β : Type} {a : Rp α} {b : Rp β} {S : SHeap} {c1 c2 c3 c4 c5 : Value} {cs : List Value} {x : α × β} (h1 : a.R S [c1, c2, c3, c4, c5] x.1) (h2 : b.R S cs x.2) : (rSeq a b).R S (c1 :: c2 :: c3 :: c4 :: c5 :: cs) x := ⟨[c1, c2, c3, c4, c5], cs, rfl, h1, h2⟩
theorem R_i64 {S : SHeap} {n : Int} (h : Rng n) : rI64.R S [.int .i64 n] n := ⟨rfl, h⟩
theorem R_str {S : SHeap} {s : ByteArray} (h : s.size ≤ big) : rStr.R S [.string s] s := ⟨rfl, h⟩
theorem R_bool {S : SHeap} {b : Bool} : rBool.R S [.bool b] b := rfl
theorem Rp.V.one {α : Type} {rep : Rp α} {S : SHeap} {v : Value} {x : α} (ha : rep.agg = false) (h : rep.V S v x) : rep.R S [v] x := by
  obtain ⟨cs, h1, h2⟩ := h
  rw [if_neg (by rw [ha]; simp)] at h2
  rw [h2] at h1; exact h1
theorem V_snap {S : SHeap} {u v w : Value} {x : Snap} (h1 : (rSlice 112 rNode).V S u x.nodes) (h2 : (rSlice 240 rPod).V S v x.pods) (h3 : (rSlice 56 rOwner).V S w x.owners) : rSnap.V S (.agg (flatCells [u, v, w]).toArray) x := by
  obtain ⟨a1, c1, rfl, _⟩ := V_slice.1 h1
  obtain ⟨a2, c2, rfl, _⟩ := V_slice.1 h2
  obtain ⟨a3, c3, rfl, _⟩ := V_slice.1 h3
  exact ⟨[_, _, _], map_R (seq1 (h1.one rfl) (seq1 (h2.one rfl) (h3.one rfl))), rfl⟩
end Go.Dr
namespace Go.Dr
open Go.Proofs
set_option maxRecDepth 20000
set_option maxHeartbeats 2000000
set_option linter.unusedSimpArgs false
set_option linter.unusedVariables false
def usedAll (s : Snap) (p : List Int) : List (List Int) := (List.range s.nodes.length).map (fun (n : Nat) => usedV s p n)
def capW (s : Snap) (p : List Int) (n : Nat) : Nat → List Int
  | 0 => [1, n, 0, 0]
  | k + 1 => [1, n, k, (capN s p n k).by_]
theorem capW_len (s : Snap) (p : List Int) (n k : Nat) : (capW s p n k).length = 4 := by cases k <;> rfl
theorem capW_set (s : Snap) (p : List Int) (n k : Nat) : ((capW s p n k).set 2 (k : Int)).set 3 (capN s p n k).by_ = capW s p n (k + 1) := by cases k <;> rfl
def capsK (s : Snap) (p : List Int) (n k : Nat) : List Clause := (List.range k).map (capN s p n)
theorem capsK_step (s : Snap) (p : List Int) (n k : Nat) : capsK s p n (k + 1) = capsK s p n k ++ [capN s p n k] := by
  unfold capsK; rw [List.range_succ]; simp
theorem capsK_len (s : Snap) (p : List Int) (n k : Nat) : (capsK s p n k).length = k := by simp [capsK]
theorem s85_L8f {P K : Prop} (k : K) (h : Goal K → P := by
  intro zk
  (first | refine Walk ?_ | refine JC.block ?_ | refine JC.drawN 8 rfl [0, 1, 2, 3, 4, 5, 6, 7, 8, 9, 10, 11, 12, 13, 14, 15, 16, 17, 18] [0, 15, 17] Tryz_mixed (by decide +kernel) ?_ | refine JC.drawN 24 rfl [0, 1, 2, 3, 4, 5, 6, 7, 8, 9, 10, 11, 12, 13, 14, 15] [2, 3, 4, 5, 6, 7, 8, 9, 10, 12, 13, 14] Tryz_mixed (by decide +kernel) ?_ | refine JC.drawN 27 rfl [0, 1, 2, 3, 4, 5, 6, 7, 8, 9, 10] [0, 1, 2, 3, 4, 5, 6, 7, 8, 10] Tryz_mixed (by decide +kernel) ?_ | refine JC.drawN 29 rfl [0, 2, 5, 6, 1, 3, 4, 7, 8, 9, 10] [0, 4, 7, 8, 9] Tryz_mixed (by decide +kernel) ?_ | (refine JO.eff rfl rfl rfl (JEff.callL rfl (p7_Spread _ (by exact vta) (by exact vta)) rfl ?_); intro zqa zqb zqc zqd zqe zqf) | (refine JO.eff rfl rfl rfl (JEff.callV rfl (p_Max (by exact vta) (by first | assumption | simp)) rfl ?_); intro zqa zqb) | (refine JO.eff rfl rfl rfl (JEff.callV rfl (p_Min (by exact vta) (by first | assumption | simp)) rfl ?_); intro zqa zqb))
  (repeat (first | revert zqg | revert zqf | revert zqe | revert zqd | revert zqc | revert zqb | revert zqa))
  exact zk.k) : P := h ⟨k⟩
theorem p8_ofNode {S : SHeap} {kp : Addr} {s : Snap} {p : List Int} {mb : Nat} {l : List (ByteArray × Value)} {n : Nat} (hok : checkP s p = 0) (hn : n < s.nodes.length)
    (hL : PtrTo S kp rLook ⟨s, p, usedAll s p, .map (some mb)⟩) (hco : Cache s S l) :
    FnC Tryz.prog 85 #[.pointer (some kp), .iface 119 (.int .i64 n), .int .i64 1] S Value.string mb (Cache s) l (fun w S' => (rSlice 32 rClause).V S' w (capsK s p n 5)) := by
  obtain ⟨hs, hlen, hp24, hn8, ho8, hpr, hprn⟩ := placed_hyps hok
  have hnr : Rng (n : Int) := by unfold Rng; omega
  obtain ⟨x, hx, _⟩ := drop_at hn
  have hxm := List.mem_of_getElem? hx
  have hcl := snap_caps (PtrTo.part hL (Part.map Part.first))
  have hxl := (hcl x hxm).1
  have hxr := shaped_cap (checkS_ok hs).1 x hxm
  obtain ⟨hul, hur⟩ := used_fine hs hlen n
  have hus : (usedAll s p)[n]? = some (usedV s p n) := by simp [usedAll, hn]
  have hcap : capOf s n = x.cap := by simp [capOf, hx]
  have hV0 : ∀ S, rClause.V S (.agg (flatCells [.int .i64 1, .int .i64 n, .int .i64 0, .int .i64 0]).toArray) ⟨1, n, 0, 0⟩ := fun S => V_clause.2 ⟨by simp [flatCells, Value.cells], by unfold Rng; dsimp only; omega, hnr, by unfold Rng; dsimp only; omega, by unfold Rng; dsimp only; omega⟩
  (refine Fn.enter (args := [.pointer (some kp), .iface 119 (.int .i64 n), .int .i64 1]) Tryz.func85 rfl Tryz.ntmps85 rfl ?_; intro w0)
  repeat (refine s85_L8f ?_; intros)
  refine JO.eff rfl rfl rfl (JEff.method rfl rfl (m8_N _) (p8_numN _) rfl ?_); intro S1 hl1
  repeat (refine s85_L8f ?_; intros)
  (refine JO.eff rfl rfl rfl (JEff.alloc rfl ?_); intro cb hcb)
  repeat (refine s85_L8f ?_; intros)
  refine JO.eff rfl rfl rfl (JEff.storeW rfl rfl (hV0 _) nna (List.Perm.refl _) rfl (by intro l hl; cases hl) ?_)
  repeat (refine s85_L8f ?_; intros)
  refine JO.pure rfl rfl rfl (JPure.assertT rfl rfl ?_)
  repeat (refine s85_L8f ?_; intros)
  obtain ⟨hv31, _, _⟩ := V_arr.1 (by assumption : (rArr 5).V _ _ (usedV s p n))
  subst hv31
  (first | refine JC.newRow 40 (Rp.sz rClause) ?_ | refine JO.newRow 40 (Rp.sz rClause) ?_ | refine JX.newRow 40 (Rp.sz rClause) ?_)
  refine JC.loopF (σ := Nat × Option Addr × Nat × List Value) [(0, _), (7, _), (8, _), (31, _)] (fun q => [(6, .slice q.2.1 ((fun k => capsK s p n k) q.1).length q.2.2.1), (32, ((fun k => .int .i64 k) q.1))]) (fun q => [.row w0.heap.size 40 (Rp.sz rClause) (.slice q.2.1 ((fun k => capsK s p n k) q.1).length q.2.2.1) ((fun k => capsK s p n k) q.1).length (flatCells q.2.2.2), ((fun k => .blk cb (.cells (ints (capW s p n k)) 40 (0, 0))) q.1), ((fun k => .blk mb (mapK Value.string l)) q.1)]) (fun Sk q => q.1 ≤ 5 ∧ allV rClause Sk q.2.2.2 ((fun k => capsK s p n k) q.1) ∧ ((fun k => True) q.1)) (fun q => 5 - q.1) (0, none, 0, []) (by exact sba) (by exact sba) (by first | rfl | simp) (⟨Nat.zero_le _, trivial, trivial⟩) ?_; rintro Sk ⟨k, rak, rck, vsk⟩ hlk ⟨hk, hvk, hik⟩; (try dsimp only at hk hvk hik); dsimp only [List.cons_append, List.nil_append]
  repeat (refine s85_L8f ?_; intros)
  refine JC.cond rfl (fun hc2 => ?_) (fun hc2 => ?_)
  · have hk' := dlt5 hc2
    obtain ⟨z, hz⟩ : ∃ z, (usedV s p n)[k]? = some z := ⟨_, List.getElem?_eq_getElem (by omega)⟩
    obtain ⟨y, hy⟩ : ∃ y, x.cap[k]? = some y := ⟨_, List.getElem?_eq_getElem (by omega)⟩
    have hzr := hur z (List.mem_of_getElem? hz)
    have hyr := hxr y (List.mem_of_getElem? hy)
    have hz0 := at0_some hz
    have hy0 := at0_some hy
    have hst := capsK_step s p n k
    have hcl := capsK_len s p n k
    unfold Qty at hzr hyr
    have hby : (capN s p n k).by_ = max 0 (z - y) := by simp [capN, hcap, hz0, hy0]
    repeat (refine s85_L8f ?_; intros)
    refine JO.pure rfl rfl rfl (JPure.indexV rfl rfl rfl (by omega) hul hz ?_)
    repeat (refine s85_L8f ?_; intros)
    refine JO.pure rfl rfl rfl (JPure.fieldP rfl rfl ?_)
    refine JO.eff rfl rfl rfl (JEff.storeI (i := 2) (xs := capW s p n k) rfl rfl (by unfold Rng; omega) (List.perm_middle (l₁ := [_])).symm (by rw [capW_len]; omega) (by intro l hl; cases hl) ?_)
    refine JO.pure rfl rfl rfl (JPure.fieldP rfl rfl ?_)
    refine JO.eff rfl rfl rfl (JEff.storeI (i := 3) (xs := (capW s p n k).set 2 (k : Int)) rfl rfl (by unfold Rng; omega) (List.Perm.refl _) (by rw [List.length_set, capW_len]; omega) (by intro l hl; cases hl) ?_)
    rw [← hby, capW_set]
    repeat (refine s85_L8f ?_; intros)
    refine JO.pure rfl rfl rfl (JPure.loadCl (c := capN s p n k) rfl (by (first | exact List.mem_cons_self | exact List.mem_cons_of_mem _ List.mem_cons_self | exact List.mem_cons_of_mem _ (List.mem_cons_of_mem _ List.mem_cons_self))) rfl ⟨by unfold Rng capN; dsimp only; omega, hnr, by unfold Rng capN; dsimp only; omega, by rw [hby]; unfold Rng; omega⟩ (.inl rfl) rfl ?_); intro hV
    refine JO.perm (M' := [_, _, _]) (List.Perm.swap _ _ _) ?_
    repeat (refine s85_L8f ?_; intros)
    (refine JO.eff rfl rfl rfl (JEff.build (rep := rClause) (ys := [capN s p n k]) rfl rfl ⟨⟨(hV), nna⟩, trivial⟩ rfl rfl rfl rfl ?_); intro bb hbb hvv); (repeat (first | (refine Walk ?_; intros) | refine JC.block ?_)); (refine JO.eff rfl rfl rfl (JEff.appendL (rep := rClause) rfl rfl rfl rfl (List.Perm.swap _ _ _) (by exact hvv.flat) (by intro c hc; exact flat_one (fun v hv => (hvv.size v hv).2) c hc) (by first | omega | (unfold big; omega)) (by unfold big; omega) (by first | exact rowT_ok | (intro l hl; cases hl)) rfl ?_); intro a2 c2; clear hvv hbb)
    repeat (refine s85_L8f ?_; intros)
    exact JX.roundF (k + 1, a2, c2, vsk ++ [(clV (capN s p n k))]) (by exact lea) ⟨by omega, by (try dsimp only); rw [hst]; exact allV_add (by exact lea) hvk (hV.mono (by exact lea)) nna, (trivial)⟩ (by (try dsimp only); omega) (by (try dsimp only); rw [hst]; (simp [flat_append] <;> omega)) (by (try dsimp only); rw [hst]; simp only [List.length_append, List.length_cons, List.length_nil]; exact sba) (by exact sba)
  · have hk' := dnlt5 hc2
    obtain rfl : k = 5 := by omega
    have hcl := capsK_len s p n 5
    refine JC.freezeRow (rep := rClause) (bt := 32) hvk rfl (by unfold big; omega) (by unfold big; omega) (fun S9 hl9 hV9 => ?_)
    repeat (refine s85_L8f ?_; intros)
    refine JX.ret1 Tryz.results85 (ResV.tmp rfl) (List.sublist_cons_self _ _) ?_
    exact ⟨hV9, _, rfl, hco.mono (by exact lea)⟩
end Go.Dr
namespace Go.Dr
open Go.Proofs
set_option maxRecDepth 20000
set_option maxHeartbeats 2000000
set_option linter.unusedSimpArgs false
set_option linter.unusedVariables false
theorem s85_L8g {P K : Prop} (k : K) (h : Goal K → P := by
  intro zk
  (first | refine Walk ?_ | refine JC.block ?_ | refine JC.drawN 8 rfl [0, 1, 2, 3, 4, 5, 6, 7, 8, 9, 10, 11, 12, 13, 14, 15, 16, 17, 18] [0, 15, 17] Tryz_mixed (by decide +kernel) ?_ | refine JC.drawN 24 rfl [0, 1, 2, 3, 4, 5, 6, 7, 8, 9, 10, 11, 12, 13, 14, 15] [2, 3, 4, 5, 6, 7, 8, 9, 10, 12, 13, 14] Tryz_mixed (by decide +kernel) ?_ | refine JC.drawN 27 rfl [0, 1, 2, 3, 4, 5, 6, 7, 8, 9, 10] [0, 1, 2, 3, 4, 5, 6, 7, 8, 10] Tryz_mixed (by decide +kernel) ?_ | refine JC.drawN 29 rfl [0, 2, 5, 6, 1, 3, 4, 7, 8, 9, 10] [0, 4, 7, 8, 9] Tryz_mixed (by decide +kernel) ?_ | (refine JO.eff rfl rfl rfl (JEff.callL rfl (p7_Spread _ (by exact vta) (by exact vta)) rfl ?_); intro zqa zqb zqc zqd zqe zqf) | (refine JO.eff rfl rfl rfl (JEff.callV rfl (p_Max (by exact vta) (by first | assumption | simp)) rfl ?_); intro zqa zqb) | (refine JO.eff rfl rfl rfl (JEff.callV rfl (p_Min (by exact vta) (by first | assumption | simp)) rfl ?_); intro zqa zqb))
  (repeat (first | revert zqg | revert zqf | revert zqe | revert zqd | revert zqc | revert zqb | revert zqa))
  exact zk.k) : P := h ⟨k⟩
theorem p8_ofPod {S : SHeap} {kp : Addr} {s : Snap} {p : List Int} {us : List (List Int)} {mb : Nat} {l : List (ByteArray × Value)} {i : Nat} {kind : Int} (hok : checkP s p = 0) (hi : i < p.length) (hk1 : 2 ≤ kind) (hk2 : kind ≤ 6)
    (hL : PtrTo S kp rLook ⟨s, p, us, .map (some mb)⟩) (hco : Cache s S l) :
    FnC Tryz.prog 85 #[.pointer (some kp), .iface 120 (.int .i64 i), .int .i64 kind] S Value.string mb (Cache s) l (fun w S' => (rSlice 32 rClause).V S' w (podC1 s p kind i)) := by
  obtain ⟨hs, hlen, hp24, hn8, ho8, hpr, hprn⟩ := placed_hyps hok
  have hir : Rng (i : Int) := by unfold Rng; omega
  have hkr : Rng kind := by unfold Rng; omega
  obtain ⟨m, hm, _⟩ := drop_at hi
  obtain ⟨x, hx⟩ : ∃ x, s.pods[i]? = some x := ⟨_, List.getElem?_eq_getElem (by omega)⟩
  have hmr := hpr m (List.mem_of_getElem? hm)
  obtain ⟨hwl, htl⟩ := shaped_lists (checkS_ok hs).1
  have hof := of8_rng (s := s) (p := p) (by omega) hwl htl kind i
  have hV0 : ∀ S, rClause.V S (.agg (flatCells [.int .i64 kind, .int .i64 i, .int .i64 0, .int .i64 0]).toArray) ⟨kind, i, 0, 0⟩ := fun S => V_clause.2 ⟨by simp [flatCells, Value.cells], hkr, hir, by unfold Rng; dsimp only; omega, by unfold Rng; dsimp only; omega⟩
  (refine Fn.enter (args := [.pointer (some kp), .iface 120 (.int .i64 i), .int .i64 kind]) Tryz.func85 rfl Tryz.ntmps85 rfl ?_; intro w0)
  repeat (refine s85_L8g ?_; intros)
  refine JO.eff rfl rfl rfl (JEff.method rfl rfl (m8_P _) (p8_numP _) rfl ?_); intro S1 hl1
  repeat (refine s85_L8g ?_; intros)
  (refine JO.eff rfl rfl rfl (JEff.alloc rfl ?_); intro cb hcb)
  repeat (refine s85_L8g ?_; intros)
  refine JO.eff rfl rfl rfl (JEff.storeW rfl rfl (hV0 _) nna (List.Perm.refl _) rfl (by intro l hl; cases hl) ?_)
  repeat (refine s85_L8g ?_; intros)
  refine JO.pure rfl rfl rfl (JPure.assertF rfl rfl rfl ?_)
  repeat (refine s85_L8g ?_; intros)
  refine JO.pure rfl rfl rfl (JPure.assertT rfl rfl ?_)
  repeat (refine s85_L8g ?_; intros)
  refine JC.cond rfl (fun hneg => ?_) (fun hneg => ?_)
  · have hneg : m < 0 := by simpa using hneg
    have hp1 : podC1 s p kind i = [] := by unfold podC1 of8; rw [hm, hx]; simp [hneg]
    repeat (refine s85_L8g ?_; intros)
    refine JX.ret1 Tryz.results85 (ResV.tmp rfl) (List.sublist_cons_self _ _) ?_
    exact ⟨by rw [hp1]; exact V_nil, _, rfl, hco.mono (by exact lea)⟩
  · have hneg : ¬ m < 0 := by simpa using hneg
    obtain ⟨m, rfl⟩ := Int.eq_ofNat_of_zero_le (show 0 ≤ m by omega)
    obtain ⟨nd, hnd, _⟩ := drop_at (l := s.nodes) (show m < s.nodes.length by omega)
    have hat : PodAt s p i m x nd := ⟨hok, hm, hx, hnd⟩
    repeat (refine s85_L8g ?_; intros)
    (refine JO.eff rfl rfl rfl (JEff.callR rfl (p8_kinds) rfl ?_); intro w S2 hl2 hw)
    obtain ⟨b, rfl, hSb⟩ := hw
    repeat (refine s85_L8g ?_; intros)
    refine JO.pure rfl rfl rfl (JPure.lookS (kv := Value.int .i64) (s := kind) rfl rfl hSb kinds_distinct rfl (fun hno => ?_) (fun j q hj hq => ?_))
    · obtain ⟨q, hq, hqk⟩ := kinds_there hk1 hk2
      exact absurd hqk (hno q hq)
    obtain ⟨g, hg, hE, hans⟩ := kinds_all hj
    rw [hq] at hans
    rw [hg]
    refine JO.pure rfl rfl rfl (JPure.fieldV rfl rfl rfl ?_)
    repeat (refine s85_L8g ?_; intros)
    refine JO.eff rfl rfl rfl (JEff.dynC (kv := Value.string) rfl hE rfl (List.Perm.swap _ _ _) (by intro l hl; cases hl) (hans hat (by exact pta) (hco.mono (by exact lea))) rfl ?_); intro w S3 l3 hl3 hw hco3; subst hw
    repeat (refine s85_L8g ?_; intros)
    cases his : (of8 s p kind i).2 with
    | false =>
      have hp1 : podC1 s p kind i = [] := by unfold podC1; rw [his]; rfl
      repeat (refine s85_L8g ?_; intros)
      refine JX.ret1 Tryz.results85 (ResV.tmp rfl) (M' := [_]) (List.Sublist.cons_cons _ (List.nil_sublist _)) ?_
      exact ⟨by rw [hp1]; exact V_nil, _, rfl, hco3.mono (by exact lea)⟩
    | true =>
      have hp1 : podC1 s p kind i = [⟨kind, i, 0, (of8 s p kind i).1⟩] := by unfold podC1; rw [his]; rfl
      repeat (refine s85_L8g ?_; intros)
      refine JO.pure rfl rfl rfl (JPure.fieldP rfl rfl ?_)
      refine JO.eff rfl rfl rfl (JEff.storeI (i := 3) (xs := [kind, i, 0, 0]) rfl rfl (by unfold Rng; omega) (List.Perm.swap _ _ _) (by simp) (by intro l hl; cases hl) ?_)
      repeat (refine s85_L8g ?_; intros)
      refine JO.pure rfl rfl rfl (JPure.loadCl (c := ⟨kind, i, 0, (of8 s p kind i).1⟩) rfl (by (first | exact List.mem_cons_self | exact List.mem_cons_of_mem _ List.mem_cons_self | exact List.mem_cons_of_mem _ (List.mem_cons_of_mem _ List.mem_cons_self))) rfl ⟨hkr, hir, by unfold Rng; dsimp only; omega, by unfold Rng; dsimp only; omega⟩ (.inl rfl) rfl ?_); intro hV
      (refine JO.eff rfl rfl rfl (JEff.buildS (bt := 32) (rep := rClause) (ys := [(⟨kind, i, 0, (of8 s p kind i).1⟩ : Clause)]) rfl rfl (⟨⟨hV, nna⟩, trivial⟩) rfl rfl rfl (by decide) rfl ?_); intro S4 a4 hl4 hV4)
      repeat (refine s85_L8g ?_; intros)
      refine JX.ret1 Tryz.results85 (ResV.tmp rfl) (M' := [_]) (List.sublist_cons_self _ _) ?_
      exact ⟨by rw [hp1]; exact hV4, _, rfl, hco3.mono (by exact lea)⟩
end Go.Dr
namespace Go.Dr
open Go.Proofs
set_option maxRecDepth 20000
set_option maxHeartbeats 2000000
set_option linter.unusedSimpArgs false
set_option linter.unusedVariables false
def ownC1 (s : Snap) (p : List Int) (kind : Int) (o : Nat) : List Clause := if kind = 8 then [minC1 s p o] else spreadC1 s p o
theorem maxmin_rng {L : List Int} (hne : L ≠ []) (hr : ∀ x ∈ L, 0 ≤ x ∧ x ≤ 1000000) : (0 ≤ maxL L ∧ maxL L ≤ 1000000) ∧ (0 ≤ minL L ∧ minL L ≤ 1000000) := by
  cases L with
  | nil => exact absurd rfl hne
  | cons x L =>
    have r1 := fold_rng min_or (lo := 0) (hi := 1000000) (l := L) (z := x) (hr x (by simp)).1 (hr x (by simp)).2 (fun y hy => hr y (by simp [hy]))
    have r2 := fold_rng max_or (lo := 0) (hi := 1000000) (l := L) (z := x) (hr x (by simp)).1 (hr x (by simp)).2 (fun y hy => hr y (by simp [hy]))
    exact ⟨r2, r1⟩
theorem s85_L8h {P K : Prop} (k : K) (h : Goal K → P := by
  intro zk
  (first | refine Walk ?_ | refine JC.block ?_ | refine JC.drawN 8 rfl [0, 1, 2, 3, 4, 5, 6, 7, 8, 9, 10, 11, 12, 13, 14, 15, 16, 17, 18] [0, 15, 17] Tryz_mixed (by decide +kernel) ?_ | refine JC.drawN 24 rfl [0, 1, 2, 3, 4, 5, 6, 7, 8, 9, 10, 11, 12, 13, 14, 15] [2, 3, 4, 5, 6, 7, 8, 9, 10, 12, 13, 14] Tryz_mixed (by decide +kernel) ?_ | refine JC.drawN 27 rfl [0, 1, 2, 3, 4, 5, 6, 7, 8, 9, 10] [0, 1, 2, 3, 4, 5, 6, 7, 8, 10] Tryz_mixed (by decide +kernel) ?_ | refine JC.drawN 29 rfl [0, 2, 5, 6, 1, 3, 4, 7, 8, 9, 10] [0, 4, 7, 8, 9] Tryz_mixed (by decide +kernel) ?_ | (refine JO.eff rfl rfl rfl (JEff.callL rfl (p7_Spread _ (by exact vta) (by exact vta)) rfl ?_); intro zqa zqb zqc zqd zqe zqf) | (refine JO.eff rfl rfl rfl (JEff.callV rfl (p_Max (by exact vta) (by first | assumption | simp)) rfl ?_); intro zqa zqb) | (refine JO.eff rfl rfl rfl (JEff.callV rfl (p_Min (by exact vta) (by first | assumption | simp)) rfl ?_); intro zqa zqb))
  (repeat (first | revert zqg | revert zqf | revert zqe | revert zqd | revert zqc | revert zqb | revert zqa))
  exact zk.k) : P := h ⟨k⟩
theorem p8_ofMin {S : SHeap} {kp : Addr} {s : Snap} {p : List Int} {us : List (List Int)} {mb : Nat} {l : List (ByteArray × Value)} {o : Nat} (hok : checkP s p = 0) (ho : o < s.owners.length)
    (hL : PtrTo S kp rLook ⟨s, p, us, .map (some mb)⟩) (hco : Cache s S l) :
    FnC Tryz.prog 85 #[.pointer (some kp), .iface 121 (.int .i64 o), .int .i64 8] S Value.string mb (Cache s) l (fun w S' => (rSlice 32 rClause).V S' w [minC1 s p o]) := by
  obtain ⟨hs, hlen, hp24, hn8, ho8, hpr, hprn⟩ := placed_hyps hok
  have hor : Rng (o : Int) := by unfold Rng; omega
  obtain ⟨ow, how, _⟩ := drop_at ho
  have hmo : minOf s o = ow.min := by simp [minOf, how]
  have hsr := shaped_owner (checkS_ok hs).1 ow (List.mem_of_getElem? how)
  have hplr := placed_rng (s := s) (p := p) (o := o) hlen
  have hV0 : ∀ S, rClause.V S (.agg (flatCells [.int .i64 8, .int .i64 o, .int .i64 0, .int .i64 0]).toArray) ⟨8, o, 0, 0⟩ := fun S => V_clause.2 ⟨by simp [flatCells, Value.cells], by unfold Rng; dsimp only; omega, hor, by unfold Rng; dsimp only; omega, by unfold Rng; dsimp only; omega⟩
  (refine Fn.enter (args := [.pointer (some kp), .iface 121 (.int .i64 o), .int .i64 8]) Tryz.func85 rfl Tryz.ntmps85 rfl ?_; intro w0)
  repeat (refine s85_L8h ?_; intros)
  refine JO.eff rfl rfl rfl (JEff.method rfl rfl (m8_O _) (p8_numO _) rfl ?_); intro S1 hl1
  repeat (refine s85_L8h ?_; intros)
  (refine JO.eff rfl rfl rfl (JEff.alloc rfl ?_); intro cb hcb)
  repeat (refine s85_L8h ?_; intros)
  refine JO.eff rfl rfl rfl (JEff.storeW rfl rfl (hV0 _) nna (List.Perm.refl _) rfl (by intro l hl; cases hl) ?_)
  repeat (refine s85_L8h ?_; intros)
  refine JO.pure rfl rfl rfl (JPure.assertF rfl rfl rfl ?_)
  repeat (refine s85_L8h ?_; intros)
  refine JO.pure rfl rfl rfl (JPure.assertF rfl rfl rfl ?_)
  repeat (refine s85_L8h ?_; intros)
  refine JO.pure rfl rfl rfl (JPure.assertT rfl rfl ?_)
  repeat (refine s85_L8h ?_; intros)
  (refine JO.eff rfl rfl rfl (JEff.alloc rfl ?_); intro ob hob)
  repeat (refine s85_L8h ?_; intros)
  refine JO.eff rfl rfl rfl (JEff.storeW rfl rfl (by exact vta) nna (List.Perm.refl _) rfl (by intro l hl; cases hl) ?_)
  refine JO.freezeV (by exact vta) nna hob (by intro l hl; cases hl) ?_; intro S2 hl2 hpo
  repeat (refine s85_L8h ?_; intros)
  refine JO.eff rfl rfl rfl (JEff.callV rfl (p7_Placed (s := s) (p := p) o (by exact vta) (by exact vta)) rfl ?_); intro S3 hl3
  have hpl : (if (z0 (checkP s p) && (decide ((0 : Int) ≤ o) && decide ((o : Int) < s.owners.length))) = true then placedN s p ((o : Int)).toNat else 0) = placedN s p o := by
    rw [if_pos (by simp [z0, hok, ho])]; rfl
  rw [hpl]
  repeat (refine s85_L8h ?_; intros)
  refine JO.pure rfl rfl rfl (JPure.fieldP rfl rfl ?_)
  refine JO.eff rfl rfl rfl (JEff.storeI (i := 3) (xs := [8, o, 0, 0]) rfl rfl (by unfold Rng; omega) (List.Perm.refl _) (by simp) (by intro l hl; cases hl) ?_)
  have hp1 : [minC1 s p o] = [⟨8, o, 0, max 0 (ow.min - placedN s p o)⟩] := by rw [minC1, hmo]
  repeat (refine s85_L8h ?_; intros)
  refine JO.pure rfl rfl rfl (JPure.loadCl (c := ⟨8, o, 0, max 0 (ow.min - placedN s p o)⟩) rfl (by (first | exact List.mem_cons_self | exact List.mem_cons_of_mem _ List.mem_cons_self | exact List.mem_cons_of_mem _ (List.mem_cons_of_mem _ List.mem_cons_self))) rfl ⟨by unfold Rng; dsimp only; omega, hor, by unfold Rng; dsimp only; omega, by unfold Rng; dsimp only; omega⟩ (.inl rfl) rfl ?_); intro hV
  (refine JO.eff rfl rfl rfl (JEff.buildS (bt := 32) (rep := rClause) (ys := [(⟨8, o, 0, max 0 (ow.min - placedN s p o)⟩ : Clause)]) rfl rfl (⟨⟨hV, nna⟩, trivial⟩) rfl rfl rfl (by decide) rfl ?_); intro S4 a4 hl4 hV4)
  repeat (refine s85_L8h ?_; intros)
  refine JX.ret1 Tryz.results85 (ResV.tmp rfl) (M' := [_]) (List.sublist_cons_self _ _) ?_
  exact ⟨by rw [hp1]; exact hV4, _, rfl, hco.mono (by exact lea)⟩
theorem p8_ofSpread {S : SHeap} {kp : Addr} {s : Snap} {p : List Int} {us : List (List Int)} {mb : Nat} {l : List (ByteArray × Value)} {o : Nat} (hok : checkP s p = 0) (ho : o < s.owners.length)
    (hL : PtrTo S kp rLook ⟨s, p, us, .map (some mb)⟩) (hco : Cache s S l) :
    FnC Tryz.prog 85 #[.pointer (some kp), .iface 121 (.int .i64 o), .int .i64 7] S Value.string mb (Cache s) l (fun w S' => (rSlice 32 rClause).V S' w (spreadC1 s p o)) := by
  obtain ⟨hs, hlen, hp24, hn8, ho8, hpr, hprn⟩ := placed_hyps hok
  have hor : Rng (o : Int) := by unfold Rng; omega
  obtain ⟨ow, how, _⟩ := drop_at ho
  have htp : topoOf s o = ow.topo := by simp [topoOf, how]
  have hsko : skewOf s o = ow.skew := by simp [skewOf, how]
  have hsr := shaped_owner (checkS_ok hs).1 ow (List.mem_of_getElem? how)
  have hspr := spread_rng (s := s) (p := p) (o := o) (by omega) hlen (by omega)
  have hV0 : ∀ S, rClause.V S (.agg (flatCells [.int .i64 7, .int .i64 o, .int .i64 0, .int .i64 0]).toArray) ⟨7, o, 0, 0⟩ := fun S => V_clause.2 ⟨by simp [flatCells, Value.cells], by unfold Rng; dsimp only; omega, hor, by unfold Rng; dsimp only; omega, by unfold Rng; dsimp only; omega⟩
  have hspp : spreadP s p o = spreadL s p o := by unfold spreadP; rw [if_pos (by simp [z0, hok, ho])]; rfl
  (refine Fn.enter (args := [.pointer (some kp), .iface 121 (.int .i64 o), .int .i64 7]) Tryz.func85 rfl Tryz.ntmps85 rfl ?_; intro w0)
  repeat (refine s85_L8h ?_; intros)
  refine JO.eff rfl rfl rfl (JEff.method rfl rfl (m8_O _) (p8_numO _) rfl ?_); intro S1 hl1
  repeat (refine s85_L8h ?_; intros)
  (refine JO.eff rfl rfl rfl (JEff.alloc rfl ?_); intro cb hcb)
  repeat (refine s85_L8h ?_; intros)
  refine JO.eff rfl rfl rfl (JEff.storeW rfl rfl (hV0 _) nna (List.Perm.refl _) rfl (by intro l hl; cases hl) ?_)
  repeat (refine s85_L8h ?_; intros)
  refine JO.pure rfl rfl rfl (JPure.assertF rfl rfl rfl ?_)
  repeat (refine s85_L8h ?_; intros)
  refine JO.pure rfl rfl rfl (JPure.assertF rfl rfl rfl ?_)
  repeat (refine s85_L8h ?_; intros)
  refine JO.pure rfl rfl rfl (JPure.assertT rfl rfl ?_)
  repeat (refine s85_L8h ?_; intros)
  (refine JO.eff rfl rfl rfl (JEff.alloc rfl ?_); intro ob hob)
  repeat (refine s85_L8h ?_; intros)
  refine JO.eff rfl rfl rfl (JEff.storeW rfl rfl (by exact vta) nna (List.Perm.refl _) rfl (by intro l hl; cases hl) ?_)
  refine JO.freezeV (by exact vta) nna hob (by intro l hl; cases hl) ?_; intro S2 hl2 hpo
  repeat (refine s85_L8h ?_; intros)
  refine JC.cond rfl (fun ht => ?_) (fun ht => ?_)
  · have ht : topoOf s o = noS := by rw [htp]; simpa [noS] using ht
    have hp1 : spreadC1 s p o = [] := by rw [spreadC1, if_pos ht]
    repeat (refine s85_L8h ?_; intros)
    refine JX.ret1 Tryz.results85 (ResV.tmp rfl) (M' := [_]) (List.sublist_cons_self _ _) ?_
    exact ⟨by rw [hp1]; exact V_nil, _, rfl, hco.mono (by exact lea)⟩
  · have ht : ¬ topoOf s o = noS := by rw [htp]; simpa [noS] using ht
    repeat (refine s85_L8h ?_; intros)
    have hVs := (by assumption : (rSlice 8 rI64).V _ _ (spreadP s p o))
    rw [hspp] at hVs
    rw [hspp]
    refine JC.cond rfl (fun hle => ?_) (fun hle => ?_)
    · have hne : spreadL s p o ≠ [] := by intro h; rw [h] at hle; simp at hle
      have hne2 : ¬ (spreadL s p o).length = 0 := by intro h; exact hne (List.length_eq_zero_iff.1 h)
      have hsk : skewV s p o = max 0 (maxL (spreadL s p o) - minL (spreadL s p o) - ow.skew) := by rw [skewV, if_neg hne2, hsko]
      obtain ⟨hmx, hmn⟩ := maxmin_rng hne hspr
      repeat (refine s85_L8h ?_; intros)
      refine JO.pure rfl rfl rfl (JPure.fieldP rfl rfl ?_)
      refine JO.eff rfl rfl rfl (JEff.storeI (i := 3) (xs := [7, o, 0, 0]) rfl rfl (by unfold Rng; omega) (List.Perm.refl _) (by simp) (by intro l hl; cases hl) ?_)
      have hp1 : spreadC1 s p o = [⟨7, o, 0, max 0 (maxL (spreadL s p o) - minL (spreadL s p o) - ow.skew)⟩] := by rw [spreadC1, if_neg ht, hsk]
      repeat (refine s85_L8h ?_; intros)
      refine JO.pure rfl rfl rfl (JPure.loadCl (c := ⟨7, o, 0, max 0 (maxL (spreadL s p o) - minL (spreadL s p o) - ow.skew)⟩) rfl (by (first | exact List.mem_cons_self | exact List.mem_cons_of_mem _ List.mem_cons_self | exact List.mem_cons_of_mem _ (List.mem_cons_of_mem _ List.mem_cons_self))) rfl ⟨by unfold Rng; dsimp only; omega, hor, by unfold Rng; dsimp only; omega, by unfold Rng; dsimp only; omega⟩ (.inl rfl) rfl ?_); intro hV
      (refine JO.eff rfl rfl rfl (JEff.buildS (bt := 32) (rep := rClause) (ys := [(⟨7, o, 0, max 0 (maxL (spreadL s p o) - minL (spreadL s p o) - ow.skew)⟩ : Clause)]) rfl rfl (⟨⟨hV, nna⟩, trivial⟩) rfl rfl rfl (by decide) rfl ?_); intro S4 a4 hl4 hV4)
      repeat (refine s85_L8h ?_; intros)
      refine JX.ret1 Tryz.results85 (ResV.tmp rfl) (M' := [_]) (List.sublist_cons_self _ _) ?_
      exact ⟨by rw [hp1]; exact hV4, _, rfl, hco.mono (by exact lea)⟩
    · have hz : (spreadL s p o).length = 0 := by
        have : ¬ (0 : Int) < ((spreadL s p o).length : Int) := by simpa using hle
        omega
      have hsk : skewV s p o = 0 := by rw [skewV, if_pos hz]
      have hp1 : spreadC1 s p o = [⟨7, o, 0, 0⟩] := by rw [spreadC1, if_neg ht, hsk]
      repeat (refine s85_L8h ?_; intros)
      refine JO.pure rfl rfl rfl (JPure.loadCl (c := ⟨7, o, 0, 0⟩) rfl (by (first | exact List.mem_cons_self | exact List.mem_cons_of_mem _ List.mem_cons_self | exact List.mem_cons_of_mem _ (List.mem_cons_of_mem _ List.mem_cons_self))) rfl ⟨by unfold Rng; dsimp only; omega, hor, by unfold Rng; dsimp only; omega, by unfold Rng; dsimp only; omega⟩ (.inl rfl) rfl ?_); intro hV
      (refine JO.eff rfl rfl rfl (JEff.buildS (bt := 32) (rep := rClause) (ys := [(⟨7, o, 0, 0⟩ : Clause)]) rfl rfl (⟨⟨hV, nna⟩, trivial⟩) rfl rfl rfl (by decide) rfl ?_); intro S4 a4 hl4 hV4)
      repeat (refine s85_L8h ?_; intros)
      refine JX.ret1 Tryz.results85 (ResV.tmp rfl) (M' := [_]) (List.sublist_cons_self _ _) ?_
      exact ⟨by rw [hp1]; exact hV4, _, rfl, hco.mono (by exact lea)⟩
end Go.Dr
namespace Go.Dr
open Go.Proofs
set_option maxRecDepth 20000
set_option maxHeartbeats 2000000
set_option linter.unusedSimpArgs false
set_option linter.unusedVariables false
def usedK (s : Snap) (p : List Int) (k : Nat) : List (List Int) := (List.range k).map (fun (n : Nat) => usedV s p n)
theorem usedK_step (s : Snap) (p : List Int) (k : Nat) : usedK s p (k + 1) = usedK s p k ++ [usedV s p k] := by unfold usedK; rw [List.range_succ]; simp
theorem usedK_len (s : Snap) (p : List Int) (k : Nat) : (usedK s p k).length = k := by simp [usedK]
def SeeAns (s : Snap) (p : List Int) (w : Value) (S' : SHeap) (M' : List MEnt) : Prop :=
  (¬ checkP s p = 0 ∧ w = .tuple #[.pointer none, .int .i64 (checkP s p)] ∧ M' = []) ∨
  (checkP s p = 0 ∧ ∃ kp mb, w = .tuple #[.pointer (some kp), .int .i64 0] ∧ PtrTo S' kp rLook ⟨s, p, usedAll s p, .map (some mb)⟩ ∧ M' = [.blk mb (mapK Value.string [])])
theorem s57_L8i {P K : Prop} (k : K) (h : Goal K → P := by
  intro zk
  (first | refine Walk ?_ | refine JC.block ?_ | (refine JO.eff rfl rfl rfl (JEff.callV rfl (p7_Check (by exact vta) (by exact vta)) rfl ?_); intro zqa zqb))
  (repeat (first | revert zqg | revert zqf | revert zqe | revert zqd | revert zqc | revert zqb | revert zqa))
  exact zk.k) : P := h ⟨k⟩
theorem p8_see {S : SHeap} {u v : Value} {s : Snap} {p : List Int} (hu : rSnap.V S u s) (hv : (rSlice 8 rI64).V S v p) : Fn Tryz.prog 57 #[u, v] S [] (SeeAns s p) := by
  haveI : TyR Tryz.prog 114 rVal := ⟨(inferInstance : TyR Tryz.prog 114 (rSlice 40 (rArr 5))).b⟩
  obtain ⟨a, c, rfl, _⟩ := V_slice.1 hv
  (refine Fn.enter (args := [u, .slice a p.length c]) Tryz.func57 rfl Tryz.ntmps57 rfl ?_; intro w0)
  repeat (refine s57_L8i ?_; intros)
  (refine JO.eff rfl rfl rfl (JEff.boxS rfl (by exact vta) nna rfl ?_); intro S0 pa l0 hp0)
  repeat (refine s57_L8i ?_; intros)
  refine JC.cond rfl (fun he => ?_) (fun he => ?_)
  · have he : ¬ checkP s p = 0 := by simpa using he
    repeat (refine s57_L8i ?_; intros)
    refine JX.ret2 Tryz.results57 (ResV.tmp rfl) (ResV.tmp rfl) (List.nil_sublist _) ?_
    exact .inl ⟨he, rfl, rfl⟩
  have hok : checkP s p = 0 := by simpa using he
  obtain ⟨hs, hlen, hp24, hn8, ho8, hpr, hprn⟩ := placed_hyps hok
  repeat (refine s57_L8i ?_; intros)
  obtain ⟨cs, rfl, hcs⟩ := V_agg rfl (by assumption : rSnap.V _ _ s)
  obtain ⟨n1, n2, n3, rfl⟩ : ∃ n1 n2 n3, cs = [n1, n2, n3] := by
    have h3 : cs.length = 3 := rSnap.len hcs
    match cs, h3 with
    | [n1, n2, n3], _ => exact ⟨n1, n2, n3, rfl⟩
  refine JO.eff rfl rfl rfl (JEff.makeMapK Value.string rfl ?_); intro mb hmb
  repeat (refine s57_L8i ?_; intros)
  refine JO.eff rfl rfl rfl (JEff.box rfl rfl ?_); intro kb hkb
  repeat (refine s57_L8i ?_; intros)
  refine JC.newRow 55 (Rp.sz (rArr 5)) ?_
  refine JC.loopF (σ := Nat × Option Addr × Nat × List Value) [(1, _), (2, _), (7, _), (22, _)] (fun q => [(23, .int .i64 q.1)])
    (fun q => [.row w0.heap.size 55 (Rp.sz (rArr 5)) (.slice q.2.1 q.1 q.2.2.1) q.1 (flatCells q.2.2.2), .blk kb (.cells #[n1, n2, n3, .slice a p.length c, .slice q.2.1 q.1 q.2.2.1, .map (some mb)] 116 (0, 0)), .blk mb (mapK Value.string [])])
    (fun Sk q => q.1 ≤ s.nodes.length ∧ allV (rArr 5) Sk q.2.2.2 (usedK s p q.1)) (fun q => s.nodes.length - q.1) (0, none, 0, []) (by exact sba) (by exact sba) (by rfl) ⟨Nat.zero_le _, trivial⟩ ?_
  rintro Sk ⟨k, ra, rc, vs⟩ hlk ⟨hk, hv1⟩
  dsimp only at hk hv1
  dsimp only [List.cons_append, List.nil_append]
  repeat (refine s57_L8i ?_; intros)
  refine JC.cond rfl (fun hc => ?_) (fun hc => ?_)
  · have hk' := dlt hc
    have hst := usedK_step s p k
    obtain ⟨hul, hur⟩ := used_fine hs hlen k
    have hU : ∀ S, (rArr 5).V S (.agg (ints (usedV s p k))) (usedV s p k) := fun S => V_arr.2 ⟨rfl, hul, fun z hz => by have := hur z hz; unfold Qty at this; unfold Rng; omega⟩
    have hup : usedP s p k = usedV s p k := by unfold usedP; rw [if_pos (by simp [z0, hok, hk'])]
    have hkl := usedK_len s p k
    have hvl := hv1.length
    rw [hkl] at hvl
    repeat (refine s57_L8i ?_; intros)
    refine JC.drawTreeF 8 rfl [11, 12] [4] [0, 1, 2, 3, 5, 6, 7] (.alt (ofL [4, 8, 9, 10, 11, 12, 13] .nil) (ofL [8] (.alt (ofL [4, 9, 10, 11, 12, 13] .nil) (ofL [9, 4, 10, 11, 12, 13] .nil)))) Tryz_mixed (by decide +kernel) ?_
    repeat (refine s57_L8i ?_; intros)
    refine JO.pure rfl rfl rfl (JPure.fieldP rfl rfl ?_)
    repeat (refine s57_L8i ?_; intros)
    refine JO.alt ?_ ?_
    · refine JO.eff rfl rfl rfl (JEff.loadE (rVal) (x0 := .slice ra k rc) rfl (by (first | exact List.mem_cons_self | exact List.mem_cons_of_mem _ List.mem_cons_self | exact List.mem_cons_of_mem _ (List.mem_cons_of_mem _ List.mem_cons_self))) rfl ⟨rfl, rfl⟩ inferInstance rfl ?_)
      repeat (refine s57_L8i ?_; intros)
      refine JO.eff rfl rfl rfl (JEff.callV rfl (p7_Used (s := s) (p := p) k (by exact vta) (by exact vta)) rfl ?_); intro S3 hl3
      rw [hup]
      repeat (refine s57_L8i ?_; intros)
      (refine JO.eff rfl rfl rfl (JEff.build (rep := rArr 5) (ys := [usedV s p k]) rfl rfl ⟨⟨hU _, nna⟩, trivial⟩ rfl rfl rfl rfl ?_); intro bb hbb hvv)
      (refine JO.eff rfl rfl rfl (JEff.appendL (rep := rArr 5) rfl rfl rfl rfl (List.Perm.swap _ _ _) (by exact hvv.flat) (by intro c hc; exact flat_one (fun v hv => (hvv.size v hv).2) c hc) (by unfold big; omega) (by unfold big; omega) (by first | exact rowT_ok | (intro l hl; cases hl)) rfl ?_); intro a2 c2; clear hvv hbb)
      repeat (refine s57_L8i ?_; intros)
      refine JO.pure rfl rfl rfl (JPure.fieldP rfl rfl ?_)
      refine JO.eff rfl rfl rfl (JEff.store (rep := rVal) (x0 := .slice a2 (k + 1) c2) rfl rfl (V_val.2 ⟨rfl, rfl⟩) nna (List.Perm.swap _ _ _) (by simp [rVal]) (by intro l hl; cases hl) ?_)
      repeat (refine s57_L8i ?_; intros)
      refine JX.perm (M' := [_, _, _]) (List.Perm.swap _ _ _) ?_
      exact JX.roundF (k + 1, a2, c2, vs ++ [.agg (ints (usedV s p k))]) (by exact lea) ⟨by dsimp only; omega, by (try dsimp only); rw [hst]; exact allV_add (by exact lea) hv1 (hU _) nna⟩ (by (try dsimp only); omega) (by simp [flat_append]; rfl) (by exact sba) (by exact sba)
    · refine JO.eff rfl rfl rfl (JEff.callV rfl (p7_Used (s := s) (p := p) k (by exact vta) (by exact vta)) rfl ?_); intro S3 hl3
      rw [hup]
      repeat (refine s57_L8i ?_; intros)
      refine JO.alt ?_ ?_
      · refine JO.eff rfl rfl rfl (JEff.loadE (rVal) (x0 := .slice ra k rc) rfl (by (first | exact List.mem_cons_self | exact List.mem_cons_of_mem _ List.mem_cons_self | exact List.mem_cons_of_mem _ (List.mem_cons_of_mem _ List.mem_cons_self))) rfl ⟨rfl, rfl⟩ inferInstance rfl ?_)
        (refine JO.eff rfl rfl rfl (JEff.build (rep := rArr 5) (ys := [usedV s p k]) rfl rfl ⟨⟨hU _, nna⟩, trivial⟩ rfl rfl rfl rfl ?_); intro bb hbb hvv)
        (refine JO.eff rfl rfl rfl (JEff.appendL (rep := rArr 5) rfl rfl rfl rfl (List.Perm.swap _ _ _) (by exact hvv.flat) (by intro c hc; exact flat_one (fun v hv => (hvv.size v hv).2) c hc) (by unfold big; omega) (by unfold big; omega) (by first | exact rowT_ok | (intro l hl; cases hl)) rfl ?_); intro a2 c2; clear hvv hbb)
        repeat (refine s57_L8i ?_; intros)
        refine JO.pure rfl rfl rfl (JPure.fieldP rfl rfl ?_)
        refine JO.eff rfl rfl rfl (JEff.store (rep := rVal) (x0 := .slice a2 (k + 1) c2) rfl rfl (V_val.2 ⟨rfl, rfl⟩) nna (List.Perm.swap _ _ _) (by simp [rVal]) (by intro l hl; cases hl) ?_)
        repeat (refine s57_L8i ?_; intros)
        refine JX.perm (M' := [_, _, _]) (List.Perm.swap _ _ _) ?_
        exact JX.roundF (k + 1, a2, c2, vs ++ [.agg (ints (usedV s p k))]) (by exact lea) ⟨by dsimp only; omega, by (try dsimp only); rw [hst]; exact allV_add (by exact lea) hv1 (hU _) nna⟩ (by (try dsimp only); omega) (by simp [flat_append]; rfl) (by exact sba) (by exact sba)
      · (refine JO.eff rfl rfl rfl (JEff.build (rep := rArr 5) (ys := [usedV s p k]) rfl rfl ⟨⟨hU _, nna⟩, trivial⟩ rfl rfl rfl rfl ?_); intro bb hbb hvv)
        refine JO.eff rfl rfl rfl (JEff.loadE (rVal) (x0 := .slice ra k rc) rfl (by (first | exact List.mem_cons_self | exact List.mem_cons_of_mem _ List.mem_cons_self | exact List.mem_cons_of_mem _ (List.mem_cons_of_mem _ List.mem_cons_self))) rfl ⟨rfl, rfl⟩ inferInstance rfl ?_)
        (refine JO.eff rfl rfl rfl (JEff.appendL (rep := rArr 5) rfl rfl rfl rfl (List.Perm.swap _ _ _) (by exact hvv.flat) (by intro c hc; exact flat_one (fun v hv => (hvv.size v hv).2) c hc) (by unfold big; omega) (by unfold big; omega) (by first | exact rowT_ok | (intro l hl; cases hl)) rfl ?_); intro a2 c2; clear hvv hbb)
        repeat (refine s57_L8i ?_; intros)
        refine JO.pure rfl rfl rfl (JPure.fieldP rfl rfl ?_)
        refine JO.eff rfl rfl rfl (JEff.store (rep := rVal) (x0 := .slice a2 (k + 1) c2) rfl rfl (V_val.2 ⟨rfl, rfl⟩) nna (List.Perm.swap _ _ _) (by simp [rVal]) (by intro l hl; cases hl) ?_)
        repeat (refine s57_L8i ?_; intros)
        refine JX.perm (M' := [_, _, _]) (List.Perm.swap _ _ _) ?_
        exact JX.roundF (k + 1, a2, c2, vs ++ [.agg (ints (usedV s p k))]) (by exact lea) ⟨by dsimp only; omega, by (try dsimp only); rw [hst]; exact allV_add (by exact lea) hv1 (hU _) nna⟩ (by (try dsimp only); omega) (by simp [flat_append]; rfl) (by exact sba) (by exact sba)
  · have hk' := dnlt hc
    obtain rfl : k = s.nodes.length := by omega
    have hkl := usedK_len s p s.nodes.length
    refine JC.freezeRow (rep := rArr 5) (bt := 40) hv1 hkl.symm (by unfold big; omega) (by unfold big; omega) (fun S9 hl9 hV9 => ?_)
    refine JC.freeze hkb (fun S10 hl10 hS10 => ?_)
    have hfin : PtrTo S10 ⟨kb, 0, none⟩ rLook ⟨s, p, usedAll s p, .map (some mb)⟩ :=
      cells_ptr (v := .agg #[n1, n2, n3, .slice a p.length c, .slice ra s.nodes.length rc, .map (some mb)]) hS10
        ⟨[n1, n2, n3], _, rfl, rSnap.mono (by exact lea) hcs, [_], _, rfl, Rp.V.one rfl (hv.mono (by exact lea)), [_], [_], rfl, Rp.V.one rfl (hV9.mono (by exact lea)), rfl, rfl⟩
    repeat (refine s57_L8i ?_; intros)
    refine JX.ret2 Tryz.results57 (ResV.tmp rfl) (ResV.tmp rfl) (List.Sublist.refl _) ?_
    exact .inr ⟨hok, _, _, rfl, hfin, rfl⟩
end Go.Dr
namespace Go.Dr
open Go.Proofs
set_option maxRecDepth 20000
set_option maxHeartbeats 2000000
set_option linter.unusedSimpArgs false
set_option linter.unusedVariables false
theorem capTo_next (s : Snap) (p : List Int) (n : Nat) : capTo s p (n + 1) 0 = capTo s p n 0 ++ capsK s p n 5 := by
  unfold capTo capsK
  rw [List.range_succ (n := n)]; simp
def ownTo (s : Snap) (p : List Int) : Nat → Nat → List Clause
  | 0, o => capsC s p ++ kindsTo s p 5 ++ spreadTo s p o
  | 1, o => capsC s p ++ kindsTo s p 5 ++ spreadTo s p s.owners.length ++ minTo s p o
  | _ + 2, _ => capsC s p ++ kindsTo s p 5 ++ spreadTo s p s.owners.length ++ minTo s p s.owners.length
theorem ownTo_next (s : Snap) (p : List Int) (t : Nat) : ownTo s p t s.owners.length = ownTo s p (t + 1) 0 := by
  match t with
  | 0 => simp [ownTo, minTo]
  | 1 => simp [ownTo]
  | t + 2 => simp [ownTo]
theorem ownTo_step (s : Snap) (p : List Int) (t o : Nat) (ht : t < 2) : ownTo s p t (o + 1) = ownTo s p t o ++ ownC1 s p ((t : Int) + 7) o := by
  match t with
  | 0 =>
    have : ¬ ((0 : Nat) : Int) + 7 = 8 := by omega
    unfold ownC1
    rw [if_neg this]
    show capsC s p ++ kindsTo s p 5 ++ spreadTo s p (o + 1) = capsC s p ++ kindsTo s p 5 ++ spreadTo s p o ++ spreadC1 s p o
    rw [spreadTo_step, List.append_assoc (capsC s p ++ kindsTo s p 5)]
  | 1 =>
    have : ((1 : Nat) : Int) + 7 = 8 := by omega
    unfold ownC1
    rw [if_pos this]
    show capsC s p ++ kindsTo s p 5 ++ spreadTo s p s.owners.length ++ minTo s p (o + 1) = capsC s p ++ kindsTo s p 5 ++ spreadTo s p s.owners.length ++ minTo s p o ++ [minC1 s p o]
    rw [minTo_step, List.append_assoc (capsC s p ++ kindsTo s p 5 ++ spreadTo s p s.owners.length)]
theorem ownTo_len (s : Snap) (p : List Int) (hok : checkP s p = 0) (t o : Nat) (ht : t ≤ 2) (ho : o ≤ s.owners.length) : (ownTo s p t o).length ≤ 400 := by
  obtain ⟨hs, hlen, hp24, hn8, ho8, hpr, hprn⟩ := placed_hyps hok
  have hcl : (capsC s p).length ≤ 40 := by unfold capsC; rw [capTo_len]; omega
  have hkl := kindsTo_len s p 5
  have h1 := spreadTo_len s p o
  have h2 := minTo_len s p o
  have h3 := spreadTo_len s p s.owners.length
  have h4 := minTo_len s p s.owners.length
  match t with
  | 0 => simp only [ownTo, List.length_append]; omega
  | 1 => simp only [ownTo, List.length_append]; omega
  | t + 2 => simp only [ownTo, List.length_append]; omega
theorem ownC1_len (s : Snap) (p : List Int) (kind : Int) (o : Nat) : (ownC1 s p kind o).length ≤ 1 := by
  unfold ownC1 spreadC1
  split
  · simp
  · split <;> simp
theorem p8_ofOwner {S : SHeap} {kp : Addr} {s : Snap} {p : List Int} {us : List (List Int)} {mb : Nat} {l : List (ByteArray × Value)} {o t : Nat} (hok : checkP s p = 0) (ho : o < s.owners.length) (ht : t < 2)
    (hL : PtrTo S kp rLook ⟨s, p, us, .map (some mb)⟩) (hco : Cache s S l) :
    FnC Tryz.prog 85 #[.pointer (some kp), .iface 121 (.int .i64 o), .int .i64 ((t : Int) + 7)] S Value.string mb (Cache s) l (fun w S' => (rSlice 32 rClause).V S' w (ownC1 s p ((t : Int) + 7) o)) := by
  match t with
  | 0 => exact p8_ofSpread hok ho hL hco
  | 1 => exact p8_ofMin hok ho hL hco
theorem p8_all {S : SHeap} {kp : Addr} {s : Snap} {p : List Int} {mb : Nat} {l : List (ByteArray × Value)} (hok : checkP s p = 0)
    (hL : PtrTo S kp rLook ⟨s, p, usedAll s p, .map (some mb)⟩) (hco : Cache s S l) :
    FnC Tryz.prog 58 #[.pointer (some kp)] S Value.string mb (Cache s) l (fun w S' => (rSlice 32 rClause).V S' w (allC s p)) := by
  obtain ⟨hs, hlen, hp24, hn8, ho8, hpr, hprn⟩ := placed_hyps hok
  (refine Fn.enter (args := [.pointer (some kp)]) Tryz.func58 rfl Tryz.ntmps58 rfl ?_; intro w0)
  repeat (first | (refine Walk ?_; intros) | refine JC.block ?_)
  (first | refine JC.newRow 40 (Rp.sz rClause) ?_ | refine JO.newRow 40 (Rp.sz rClause) ?_ | refine JX.newRow 40 (Rp.sz rClause) ?_)
  refine JC.loopF (σ := Nat × Option Addr × Nat × List Value × List (ByteArray × Value)) [(0, _), (13, _)] (fun q => [(2, .slice q.2.1 ((fun n => capTo s p n 0) q.1).length q.2.2.1), (14, ((fun n => .int .i64 n) q.1))]) (fun q => [.row w0.heap.size 40 (Rp.sz rClause) (.slice q.2.1 ((fun n => capTo s p n 0) q.1).length q.2.2.1) ((fun n => capTo s p n 0) q.1).length (flatCells q.2.2.2.1), .blk mb (mapK Value.string q.2.2.2.2)]) (fun Sn q => q.1 ≤ s.nodes.length ∧ allV rClause Sn q.2.2.2.1 ((fun n => capTo s p n 0) q.1) ∧ Cache s Sn q.2.2.2.2) (fun q => s.nodes.length - q.1) (0, none, 0, [], l) (by exact sba) (by exact sba) (by first | rfl | simp) (⟨Nat.zero_le _, trivial, hco⟩) ?_; rintro Sn ⟨n, ran, rcn, vsn, lmn⟩ hln ⟨hn, hvn, hcon⟩; (try dsimp only at hn hvn hcon); dsimp only [List.cons_append, List.nil_append]
  have hxl := capTo_len s p n 0
  repeat (first | (refine Walk ?_; intros) | refine JC.block ?_)
  refine JC.cond rfl (fun hc => ?_) (fun hc => ?_)
  · have hn' := dlt hc
    have hst := capTo_next s p n
    have hcl := capsK_len s p n 5
    repeat (first | (refine Walk ?_; intros) | refine JC.block ?_)
    refine JO.pure rfl rfl rfl (JPure.mkIface rfl rfl ?_)
    repeat (first | (refine Walk ?_; intros) | refine JC.block ?_)
    refine JO.eff rfl rfl rfl (JEff.callC (kv := Value.string) rfl (List.Perm.swap _ _ _) (by intro l hl; cases hl) (p8_ofNode hok hn' (by exact pta) (hcon.mono (by exact lea))) rfl ?_); intro w S2 l2 hl2 hw hco2
    obtain ⟨wa, wc, rfl, _⟩ := V_slice.1 hw
    repeat (first | (refine Walk ?_; intros) | refine JC.block ?_)
    refine JO.eff rfl rfl rfl (JEff.appendS (rep := rClause) rfl rfl hw rfl rfl (List.Perm.swap _ _ _) (by unfold big; omega) (by unfold big; omega) (by intro l hl; cases hl) rfl ?_); intro a2 c2 us1 hus1
    repeat (first | (refine Walk ?_; intros) | refine JC.block ?_)
    exact JX.roundF (n + 1, a2, c2, vsn ++ us1, l2) (by exact lea) ⟨by omega, by (try dsimp only); rw [hst]; exact allV.append hus1 (hvn.mono (by exact lea)), hco2.mono (by exact lea)⟩ (by (try dsimp only); omega) (by (try dsimp only); rw [hst]; simp [flat_append]) (by (try dsimp only); rw [hst, List.length_append]; exact sba) (by exact sba)
  · have hn' := dnlt hc
    obtain rfl : n = s.nodes.length := by omega
    have hcl : (capsC s p).length ≤ 40 := by unfold capsC; rw [capTo_len]; omega
    repeat (first | (refine Walk ?_; intros) | refine JC.block ?_)
    have h0 : capTo s p s.nodes.length 0 = capsC s p ++ kindsTo s p 0 := by simp [kindsTo, capsC]
    rw [h0] at hvn
    rw [h0]
    refine JC.loopF (σ := Nat × Option Addr × Nat × List Value × List (ByteArray × Value)) [(0, _)] (fun q => [(2, .slice q.2.1 ((fun j => capsC s p ++ kindsTo s p j) q.1).length q.2.2.1), (4, ((fun j => .int .i64 ((j : Int) + 2)) q.1))]) (fun q => [.row w0.heap.size 40 (Rp.sz rClause) (.slice q.2.1 ((fun j => capsC s p ++ kindsTo s p j) q.1).length q.2.2.1) ((fun j => capsC s p ++ kindsTo s p j) q.1).length (flatCells q.2.2.2.1), .blk mb (mapK Value.string q.2.2.2.2)]) (fun Sj q => q.1 ≤ 5 ∧ allV rClause Sj q.2.2.2.1 ((fun j => capsC s p ++ kindsTo s p j) q.1) ∧ Cache s Sj q.2.2.2.2) (fun q => 5 - q.1) (0, ran, rcn, vsn, lmn) (by exact sba) (by exact sba) (by first | rfl | simp) (⟨Nat.zero_le _, hvn, hcon⟩) ?_; rintro Sj ⟨j, raj, rcj, vsj, lmj⟩ hlj ⟨hj, hvj, hcoj⟩; (try dsimp only at hj hvj hcoj); dsimp only [List.cons_append, List.nil_append]
    have hkl := kindsTo_len s p j
    have hkl2 : j * p.length ≤ 5 * 24 := Nat.mul_le_mul (by omega) (by omega)
    have hXl : (capsC s p ++ kindsTo s p j).length ≤ 200 := by rw [List.length_append]; omega
    repeat (first | (refine Walk ?_; intros) | refine JC.block ?_)
    refine JC.cond rfl (fun hc => ?_) (fun hc => ?_)
    · have hj' : j < 5 := by have := of_decide_eq_true hc; omega
      repeat (first | (refine Walk ?_; intros) | refine JC.block ?_)
      have h1 : capsC s p ++ kindsTo s p j = capsC s p ++ kindsTo s p j ++ podsTo s p ((j : Int) + 2) 0 := by simp [podsTo]
      rw [h1] at hvj
      rw [h1]
      refine JC.loopF (σ := Nat × Option Addr × Nat × List Value × List (ByteArray × Value)) [(0, _), (4, _), (32, _)] (fun q => [(2, .slice q.2.1 ((fun i => capsC s p ++ kindsTo s p j ++ podsTo s p ((j : Int) + 2) i) q.1).length q.2.2.1), (33, ((fun i => .int .i64 i) q.1))]) (fun q => [.row w0.heap.size 40 (Rp.sz rClause) (.slice q.2.1 ((fun i => capsC s p ++ kindsTo s p j ++ podsTo s p ((j : Int) + 2) i) q.1).length q.2.2.1) ((fun i => capsC s p ++ kindsTo s p j ++ podsTo s p ((j : Int) + 2) i) q.1).length (flatCells q.2.2.2.1), .blk mb (mapK Value.string q.2.2.2.2)]) (fun Si q => q.1 ≤ p.length ∧ allV rClause Si q.2.2.2.1 ((fun i => capsC s p ++ kindsTo s p j ++ podsTo s p ((j : Int) + 2) i) q.1) ∧ Cache s Si q.2.2.2.2) (fun q => p.length - q.1) (0, raj, rcj, vsj, lmj) (by exact sba) (by exact sba) (by first | rfl | simp) (⟨Nat.zero_le _, hvj.mono (by exact lea), hcoj.mono (by exact lea)⟩) ?_; rintro Si ⟨i, rai, rci, vsi, lmi⟩ hli ⟨hi, hvi, hcoi⟩; (try dsimp only at hi hvi hcoi); dsimp only [List.cons_append, List.nil_append]
      have hpl := podsTo_len s p ((j : Int) + 2) i
      have hp1 := podC1_len s p ((j : Int) + 2) i
      have hYl : (capsC s p ++ kindsTo s p j ++ podsTo s p ((j : Int) + 2) i).length ≤ 300 := by rw [List.length_append]; omega
      repeat (first | (refine Walk ?_; intros) | refine JC.block ?_)
      refine JC.cond rfl (fun hc2 => ?_) (fun hc2 => ?_)
      · have hi' := dlt hc2
        have hst : capsC s p ++ kindsTo s p j ++ podsTo s p ((j : Int) + 2) (i + 1) = capsC s p ++ kindsTo s p j ++ podsTo s p ((j : Int) + 2) i ++ podC1 s p ((j : Int) + 2) i := by rw [podsTo_step, List.append_assoc (capsC s p ++ kindsTo s p j)]
        repeat (first | (refine Walk ?_; intros) | refine JC.block ?_)
        refine JO.pure rfl rfl rfl (JPure.mkIface rfl rfl ?_)
        repeat (first | (refine Walk ?_; intros) | refine JC.block ?_)
        refine JO.eff rfl rfl rfl (JEff.callC (kv := Value.string) rfl (List.Perm.swap _ _ _) (by intro l hl; cases hl) (p8_ofPod hok hi' (by omega) (by omega) (by exact pta) (hcoi.mono (by exact lea))) rfl ?_); intro w S2 l2 hl2 hw hco2
        obtain ⟨wa, wc, rfl, _⟩ := V_slice.1 hw
        repeat (first | (refine Walk ?_; intros) | refine JC.block ?_)
        refine JO.eff rfl rfl rfl (JEff.appendS (rep := rClause) rfl rfl hw rfl rfl (List.Perm.swap _ _ _) (by unfold big; omega) (by unfold big; omega) (by intro l hl; cases hl) rfl ?_); intro a2 c2 us1 hus1
        repeat (first | (refine Walk ?_; intros) | refine JC.block ?_)
        exact JX.roundF (i + 1, a2, c2, vsi ++ us1, l2) (by exact lea) ⟨by omega, by (try dsimp only); rw [hst]; exact allV.append hus1 (hvi.mono (by exact lea)), hco2.mono (by exact lea)⟩ (by (try dsimp only); omega) (by (try dsimp only); rw [hst]; (simp [flat_append] <;> omega)) (by (try dsimp only); rw [hst, List.length_append (bs := podC1 s p ((j : Int) + 2) i)]; exact sba) (by exact sba)
      · have hi' := dnlt hc2
        obtain rfl : i = p.length := by omega
        have h2 : capsC s p ++ kindsTo s p j ++ podsTo s p ((j : Int) + 2) p.length = capsC s p ++ kindsTo s p (j + 1) := by rw [kindsTo_step, List.append_assoc]
        rw [h2] at hvi
        rw [h2]
        repeat (first | (refine Walk ?_; intros) | refine JC.block ?_)
        exact JX.roundF (j + 1, rai, rci, vsi, lmi) (by exact lea) ⟨by omega, hvi.mono (by exact lea), hcoi.mono (by exact lea)⟩ (by (try dsimp only); omega) rfl (by exact sba) (by exact sba)
    · obtain rfl : j = 5 := by have := of_decide_eq_false hc; omega
      repeat (first | (refine Walk ?_; intros) | refine JC.block ?_)
      have h3 : capsC s p ++ kindsTo s p 5 = ownTo s p 0 0 := by simp [ownTo, spreadTo, minTo]
      rw [h3] at hvj
      rw [h3]
      refine JC.loopF (σ := Nat × Option Addr × Nat × List Value × List (ByteArray × Value)) [(0, _)] (fun q => [(2, .slice q.2.1 ((fun t => ownTo s p t 0) q.1).length q.2.2.1), (6, ((fun t => .int .i64 ((t : Int) + 7)) q.1))]) (fun q => [.row w0.heap.size 40 (Rp.sz rClause) (.slice q.2.1 ((fun t => ownTo s p t 0) q.1).length q.2.2.1) ((fun t => ownTo s p t 0) q.1).length (flatCells q.2.2.2.1), .blk mb (mapK Value.string q.2.2.2.2)]) (fun St q => q.1 ≤ 2 ∧ allV rClause St q.2.2.2.1 ((fun t => ownTo s p t 0) q.1) ∧ Cache s St q.2.2.2.2) (fun q => 2 - q.1) (0, raj, rcj, vsj, lmj) (by exact sba) (by exact sba) (by first | rfl | simp) (⟨Nat.zero_le _, hvj.mono (by exact lea), hcoj.mono (by exact lea)⟩) ?_; rintro St ⟨t, rat, rct, vst, lmt⟩ hlt ⟨ht, hvt, hcot⟩; (try dsimp only at ht hvt hcot); dsimp only [List.cons_append, List.nil_append]
      have hXl := ownTo_len s p hok t 0 (by omega) (by omega)
      repeat (first | (refine Walk ?_; intros) | refine JC.block ?_)
      refine JC.cond rfl (fun hc => ?_) (fun hc => ?_)
      · have ht' : t < 2 := by have := of_decide_eq_true hc; omega
        repeat (first | (refine Walk ?_; intros) | refine JC.block ?_)
        refine JC.loopF (σ := Nat × Option Addr × Nat × List Value × List (ByteArray × Value)) [(0, _), (6, _), (53, _)] (fun q => [(2, .slice q.2.1 ((fun o => ownTo s p t o) q.1).length q.2.2.1), (54, ((fun o => .int .i64 o) q.1))]) (fun q => [.row w0.heap.size 40 (Rp.sz rClause) (.slice q.2.1 ((fun o => ownTo s p t o) q.1).length q.2.2.1) ((fun o => ownTo s p t o) q.1).length (flatCells q.2.2.2.1), .blk mb (mapK Value.string q.2.2.2.2)]) (fun So q => q.1 ≤ s.owners.length ∧ allV rClause So q.2.2.2.1 ((fun o => ownTo s p t o) q.1) ∧ Cache s So q.2.2.2.2) (fun q => s.owners.length - q.1) (0, rat, rct, vst, lmt) (by exact sba) (by exact sba) (by first | rfl | simp) (⟨Nat.zero_le _, hvt.mono (by exact lea), hcot.mono (by exact lea)⟩) ?_; rintro So ⟨o, rao, rco, vso, lmo⟩ hlo ⟨ho, hvo, hcoo⟩; (try dsimp only at ho hvo hcoo); dsimp only [List.cons_append, List.nil_append]
        have hYl := ownTo_len s p hok t o (by omega) (by omega)
        repeat (first | (refine Walk ?_; intros) | refine JC.block ?_)
        refine JC.cond rfl (fun hc2 => ?_) (fun hc2 => ?_)
        · have ho' := dlt hc2
          have hst := ownTo_step s p t o ht'
          have hp1 := ownC1_len s p ((t : Int) + 7) o
          repeat (first | (refine Walk ?_; intros) | refine JC.block ?_)
          refine JO.pure rfl rfl rfl (JPure.mkIface rfl rfl ?_)
          repeat (first | (refine Walk ?_; intros) | refine JC.block ?_)
          refine JO.eff rfl rfl rfl (JEff.callC (kv := Value.string) rfl (List.Perm.swap _ _ _) (by intro l hl; cases hl) (p8_ofOwner hok ho' (by omega) (by exact pta) (hcoo.mono (by exact lea))) rfl ?_); intro w S2 l2 hl2 hw hco2
          obtain ⟨wa, wc, rfl, _⟩ := V_slice.1 hw
          repeat (first | (refine Walk ?_; intros) | refine JC.block ?_)
          refine JO.eff rfl rfl rfl (JEff.appendS (rep := rClause) rfl rfl hw rfl rfl (List.Perm.swap _ _ _) (by unfold big; omega) (by unfold big; omega) (by intro l hl; cases hl) rfl ?_); intro a2 c2 us1 hus1
          repeat (first | (refine Walk ?_; intros) | refine JC.block ?_)
          exact JX.roundF (o + 1, a2, c2, vso ++ us1, l2) (by exact lea) ⟨by omega, by (try dsimp only); rw [hst]; exact allV.append hus1 (hvo.mono (by exact lea)), hco2.mono (by exact lea)⟩ (by (try dsimp only); omega) (by (try dsimp only); rw [hst]; simp [flat_append]) (by (try dsimp only); rw [hst, List.length_append]; exact sba) (by exact sba)
        · have ho' := dnlt hc2
          obtain rfl : o = s.owners.length := by omega
          rw [ownTo_next] at hvo
          rw [ownTo_next]
          repeat (first | (refine Walk ?_; intros) | refine JC.block ?_)
          exact JX.roundF (t + 1, rao, rco, vso, lmo) (by exact lea) ⟨by omega, hvo.mono (by exact lea), hcoo.mono (by exact lea)⟩ (by (try dsimp only); omega) rfl (by exact sba) (by exact sba)
      · obtain rfl : t = 2 := by have := of_decide_eq_false hc; omega
        have hfin : ownTo s p 2 0 = allC s p := by simp [ownTo, allC]
        rw [hfin] at hvt hXl
        rw [hfin]
        repeat (first | (refine Walk ?_; intros) | refine JC.block ?_)
        refine JX.freezeRow (rep := rClause) (bt := 32) hvt rfl (by unfold big; omega) (by unfold big; omega) (fun S9 hl9 hV9 => ?_)
        refine JX.ret1 Tryz.results58 (ResV.tmp rfl) (List.Sublist.refl _) ?_
        exact ⟨hV9, _, rfl, hcot.mono (by exact lea)⟩
end Go.Dr
namespace Go.Dr
open Go.Proofs
set_option maxRecDepth 20000
set_option maxHeartbeats 2000000
set_option linter.unusedSimpArgs false
set_option linter.unusedVariables false
theorem slice_bytes {α : Type} {bt : Nat} {rep : Rp α} {S : SHeap} {v : Value} {xs : List α} (h : (rSlice bt rep).V S v xs) : xs.length * bt ≤ big := by
  obtain ⟨_, _, _, _, h, _⟩ := V_slice.1 h; exact h
end Go.Dr
namespace Go.Dr
open Go.Proofs
set_option maxRecDepth 20000
set_option maxHeartbeats 2000000
set_option linter.unusedSimpArgs false
set_option linter.unusedVariables false
theorem p8_All {S : SHeap} {u v : Value} {s : Snap} {p : List Int} (hu : rSnap.V S u s) (hv : (rSlice 8 rI64).V S v p) : FnLE Tryz.prog 17 #[u, v] S 32 rClause (allL s p) (.int .i64 (checkP s p)) := by
  obtain ⟨a, c, rfl, _⟩ := V_slice.1 hv
  (refine Fn.enter (args := [u, .slice a p.length c]) Tryz.func17 rfl Tryz.ntmps17 rfl ?_; intro w0)
  repeat (first | (refine Walk ?_; intros) | refine JC.block ?_ | (refine WBox ?_; intros))
  refine JO.eff rfl rfl rfl (JEff.callM (Mc := []) rfl (List.Perm.refl _) (mayAll rfl) (p8_see (s := s) (p := p) (by exact vta) (by exact vta)) rfl ?_); intro w S2 M2 hl2 hw
  rcases hw with ⟨he, rfl, rfl⟩ | ⟨hok, kp, mb, rfl, hL, rfl⟩
  · have he2 : decide (checkP s p = 0) = false := by simpa using he
    repeat (first | (refine Walk ?_; intros) | refine JC.block ?_ | (refine WBox ?_; intros))
    refine JC.cond rfl (fun h1 => ?_) (fun h1 => ?_)
    · repeat (first | (refine Walk ?_; intros) | refine JC.block ?_ | (refine WBox ?_; intros))
      (refine JX.ret2 Tryz.results17 (ResV.tmp rfl) (ResV.tmp rfl) (List.nil_sublist _) ?_)
      exact ⟨rfl, _, rfl, by rw [allL, if_neg he]; exact V_nil⟩
    · (exfalso; first | (simp only [decide_eq_true_eq, decide_eq_false_iff_not, Bool.not_eq_true', Bool.not_eq_false', Bool.and_eq_true, Bool.or_eq_true, Bool.and_eq_false_iff, Bool.or_eq_false_iff] at *; omega) | (simp_all; done) | (simp_all; omega))
  · repeat (first | (refine Walk ?_; intros) | refine JC.block ?_ | (refine WBox ?_; intros))
    refine JO.eff rfl rfl rfl (JEff.callC (kv := Value.string) rfl (List.Perm.refl _) (by intro l hl; cases hl) (p8_all hok hL Cache.nil) rfl ?_); intro w S3 l3 hl3 hw hco3
    repeat (first | (refine Walk ?_; intros) | refine JC.block ?_ | (refine WBox ?_; intros))
    (refine JX.ret2 Tryz.results17 (ResV.tmp rfl) (ResV.tmp rfl) (List.nil_sublist _) ?_)
    exact ⟨rfl, _, by rw [hok], by rw [allL, if_pos hok]; exact hw⟩
theorem p8_Of1 {S : SHeap} {u : Value} {x : Clause} {q1 q2 q3 : Addr} {kind a b : Int} (hu : rClause.V S u x) (h1 : PtrTo S q1 rI64 kind) (h2 : PtrTo S q2 rI64 a) (h3 : PtrTo S q3 rI64 b) :
    FnV Tryz.prog 67 #[u, .pointer (some q1), .pointer (some q2), .pointer (some q3)] S (.bool (isC kind a b x)) := by
  (refine Fn.enter (args := [u, .pointer (some q1), .pointer (some q2), .pointer (some q3)]) Tryz.func67 rfl Tryz.ntmps67 rfl ?_; intro w0)
  repeat' (first | (refine Walk ?_; intros) | refine JC.block ?_ | (refine WBox ?_; intros) | (refine JO.guard rfl rfl rfl rfl ?_ ?_ <;> intro _) | (refine JC.cond rfl ?_ ?_ <;> intro _))
  all_goals ((refine JX.ret1 Tryz.results67 (ResV.tmp rfl) (List.nil_sublist _) ?_); refine ⟨rfl, ?_⟩; simp_all [isC])
theorem s24_L8k {P K : Prop} (k : K) (h : Goal K → P := by
  intro zk
  (first | refine Walk ?_ | refine JC.block ?_ | (refine JO.eff rfl rfl rfl (JEff.callLE rfl (p8_All (by exact vta) (by exact vta)) rfl ?_); intro zqa zqb zqc zqd zqe zqf) | (refine WBox ?_))
  (repeat (first | revert zqg | revert zqf | revert zqe | revert zqd | revert zqc | revert zqb | revert zqa))
  exact zk.k) : P := h ⟨k⟩
theorem p8_Of {S : SHeap} {u v : Value} {s : Snap} {p : List Int} (kind a b : Int) (hk : Rng kind) (ha : Rng a) (hb : Rng b) (hu : rSnap.V S u s) (hv : (rSlice 8 rI64).V S v p) : FnV Tryz.prog 24 #[u, v, .int .i64 kind, .int .i64 a, .int .i64 b] S (.tuple #[.int .i64 (ofC s p kind a b).1, .bool (ofC s p kind a b).2]) := by
  (refine Fn.enter (args := [u, v, .int .i64 kind, .int .i64 a, .int .i64 b]) Tryz.func24 rfl Tryz.ntmps24 rfl ?_; intro w0)
  repeat (refine s24_L8k ?_; intros)
  (refine JO.eff rfl rfl rfl (JEff.callV rfl (p_IndexFunc_Clause (isC kind a b) (by exact vta) inferInstance (fun S' hl u x hx => p8_Of1 hx (by exact pta) (by exact pta) (by exact pta))) rfl ?_); intro _ _)
  unfold ofC
  rcases idx_find (f := isC kind a b) (xs := allL s p) with ⟨i, o, h1, h2, h3⟩ | ⟨h1, h3⟩
  · rw [h1, h3]
    repeat' (first | (refine s24_L8k ?_; intros) | (refine JO.guard rfl rfl rfl rfl ?_ ?_ <;> intro _) | (refine JC.cond rfl ?_ ?_ <;> intro _))
    all_goals first
      | ((refine JX.ret2 Tryz.results24 (ResV.tmp rfl) (ResV.tmp rfl) (List.nil_sublist _) ?_); exact ⟨rfl, rfl⟩)
      | (exfalso; first | (simp only [decide_eq_true_eq, decide_eq_false_iff_not, Bool.not_eq_true', Bool.not_eq_false', Bool.and_eq_true, Bool.or_eq_true, Bool.and_eq_false_iff, Bool.or_eq_false_iff] at *; omega) | (simp_all; done) | (simp_all; omega))
  · rw [h1, h3]
    repeat' (first | (refine s24_L8k ?_; intros) | (refine JO.guard rfl rfl rfl rfl ?_ ?_ <;> intro _) | (refine JC.cond rfl ?_ ?_ <;> intro _))
    all_goals first
      | ((refine JX.ret2 Tryz.results24 (ResV.tmp rfl) (ResV.tmp rfl) (List.nil_sublist _) ?_); exact ⟨rfl, rfl⟩)
      | (exfalso; first | (simp only [decide_eq_true_eq, decide_eq_false_iff_not, Bool.not_eq_true', Bool.not_eq_false', Bool.and_eq_true, Bool.or_eq_true, Bool.and_eq_false_iff, Bool.or_eq_false_iff] at *; omega) | (simp_all; done) | (simp_all; omega))
theorem s64_L8k {P K : Prop} (k : K) (h : Goal K → P := by
  intro zk
  (first | refine Walk ?_ | refine JC.block ?_ | (refine JO.eff rfl rfl rfl (JEff.callLE rfl (p8_All (by exact vta) (by exact vta)) rfl ?_); intro zqa zqb zqc zqd zqe zqf) | (refine WBox ?_) | (refine WNew ?_) | (refine WPut ?_))
  (repeat (first | revert zqg | revert zqf | revert zqe | revert zqd | revert zqc | revert zqb | revert zqa))
  exact zk.k) : P := h ⟨k⟩
theorem p8_but {S : SHeap} {u v : Value} {s : Snap} {p : List Int} {f : FuncId} {fs cs : Array Value} (F : Clause → Bool) (hu : rSnap.V S u s) (hv : (rSlice 8 rI64).V S v p) (hE : Ent Tryz.prog f)
    (hf : ∀ (S' : SHeap) (v : Value) (x : Clause), S.le S' → rClause.V S' v x → FnV Tryz.prog f (fs.toList ++ [v] ++ cs.toList).toArray S' (.bool (F x))) : FnL Tryz.prog 64 #[u, v, .func (.func f) fs cs] S 32 rClause ((allL s p).filter F) := by
  (refine Fn.enter (args := [u, v, .func (.func f) fs cs]) Tryz.func64 rfl Tryz.ntmps64 rfl ?_; intro w0)
  repeat (refine s64_L8k ?_; intros)
  have hLb := slice_bytes (by assumption : (rSlice 32 rClause).V _ _ (allL s p))
  unfold big at hLb
  generalize hLe : allL s p = L at *
  (first | refine JC.newRow 40 (Rp.sz rClause) ?_ | refine JO.newRow 40 (Rp.sz rClause) ?_ | refine JX.newRow 40 (Rp.sz rClause) ?_)
  refine JC.loopF (σ := Nat × Option Addr × Nat × List Value) [(2, _), (17, _), (18, _)] (fun q => [(6, .slice q.2.1 ((fun k => (L.take k).filter F) q.1).length q.2.2.1), (19, ((fun k => .int .i64 k) q.1))]) (fun q => [.row w0.heap.size 40 (Rp.sz rClause) (.slice q.2.1 ((fun k => (L.take k).filter F) q.1).length q.2.2.1) ((fun k => (L.take k).filter F) q.1).length (flatCells q.2.2.2)]) (fun Sk q => q.1 ≤ L.length ∧ allV rClause Sk q.2.2.2 ((fun k => (L.take k).filter F) q.1) ∧ ((fun k => True) q.1)) (fun q => L.length - q.1) (0, none, 0, []) (by exact sba) (by exact sba) (by first | rfl | simp) (⟨Nat.zero_le _, trivial, trivial⟩) ?_; rintro Sk ⟨k, rak, rck, vsk⟩ hlk ⟨hk, hvk, hik⟩; (try dsimp only at hk hvk hik); dsimp only [List.cons_append, List.nil_append]
  have hfl := filter_len L F k
  repeat (refine s64_L8k ?_; intros)
  refine JC.cond rfl (fun hc => ?_) (fun hc => ?_)
  · have hk' := dlt hc
    obtain ⟨x, hx, _⟩ := drop_at hk'
    have hst := filter_step (f := F) hx
    repeat (refine s64_L8k ?_; intros)
    (refine JO.eff rfl rfl rfl (JEff.dynV rfl (by assumption) rfl (hf _ _ x (by exact lea) (by exact vta)) rfl ?_); intro _ _)
    repeat (refine s64_L8k ?_; intros)
    refine JC.cond rfl (fun hq => ?_) (fun hq => ?_)
    · rw [hq, if_pos rfl] at hst
      repeat (refine s64_L8k ?_; intros)
      have hvx := (by assumption : rClause.V _ _ x)
      (refine JO.eff rfl rfl rfl (JEff.build (rep := rClause) (ys := [x]) rfl rfl ⟨⟨(hvx.mono (by exact lea)), nna⟩, trivial⟩ rfl rfl rfl rfl ?_); intro bb hbb hvv); (repeat (first | (refine Walk ?_; intros) | refine JC.block ?_)); (refine JO.eff rfl rfl rfl (JEff.appendL (rep := rClause) rfl rfl rfl rfl (List.Perm.swap _ _ _) (by exact hvv.flat) (by intro c hc; exact flat_one (fun v hv => (hvv.size v hv).2) c hc) (by first | omega | (unfold big; omega)) (by unfold big; omega) (by first | exact rowT_ok | (intro l hl; cases hl)) rfl ?_); intro a2 c2; clear hvv hbb)
      repeat (refine s64_L8k ?_; intros)
      exact JX.roundF (k + 1, a2, c2, vsk ++ [(_)]) (by exact lea) ⟨by omega, by (try dsimp only); rw [hst]; exact allV_add (by exact lea) hvk (hvx.mono (by exact lea)) nna, (trivial)⟩ (by (try dsimp only); omega) (by (try dsimp only); rw [hst]; (simp [flat_append] <;> omega)) (by (try dsimp only); rw [hst]; simp only [List.length_append, List.length_cons, List.length_nil]; exact sba) (by exact sba)
    · rw [hq, if_neg (by simp), List.append_nil] at hst
      repeat (refine s64_L8k ?_; intros)
      exact JX.roundF (k + 1, rak, rck, vsk) (by exact lea) ⟨by omega, by (try dsimp only); rw [hst]; exact hvk.mono (by exact lea), (trivial)⟩ (by (try dsimp only); omega) (by (try dsimp only); rw [hst]) (by (try dsimp only); rw [hst]; exact sba) (by exact sba)
  · have hk' := dnlt hc
    obtain rfl : k = L.length := by omega
    rw [List.take_length] at hvk hfl ⊢
    repeat (refine s64_L8k ?_; intros)
    refine JX.freezeRow (rep := rClause) (bt := 32) hvk rfl (by unfold big; omega) (by unfold big; omega) (fun S9 hl9 hV9 => ?_)
    (refine JX.ret1 Tryz.results64 (ResV.tmp rfl) (List.nil_sublist _) ?_)
    exact ⟨rfl, hV9⟩
theorem p8_Broken1 {S : SHeap} {u : Value} {x : Clause} (hu : rClause.V S u x) : FnV Tryz.prog 65 #[u] S (.bool (badC x)) := by
  (refine Fn.enter (args := [u]) Tryz.func65 rfl Tryz.ntmps65 rfl ?_; intro w0)
  repeat (first | (refine Walk ?_; intros) | refine JC.block ?_ | (refine WBox ?_; intros))
  (refine JX.ret1 Tryz.results65 (ResV.tmp rfl) (List.nil_sublist _) ?_)
  exact ⟨rfl, by simp [badC]⟩
theorem p8_Broken {S : SHeap} {u v : Value} {s : Snap} {p : List Int} (hu : rSnap.V S u s) (hv : (rSlice 8 rI64).V S v p) : FnL Tryz.prog 20 #[u, v] S 32 rClause (brokenC s p) := by
  (refine Fn.enter (args := [u, v]) Tryz.func20 rfl Tryz.ntmps20 rfl ?_; intro w0)
  repeat (first | (refine Walk ?_; intros) | refine JC.block ?_ | (refine WBox ?_; intros))
  refine JO.eff rfl rfl rfl (JEff.callL rfl (p8_but badC (by exact vta) (by exact vta) inferInstance (fun S' v x hl hx => p8_Broken1 hx)) rfl ?_); intro a1 c1 S2 hl2 hV2 hb2
  repeat (first | (refine Walk ?_; intros) | refine JC.block ?_ | (refine WBox ?_; intros))
  (refine JX.ret1 Tryz.results20 (ResV.tmp rfl) (List.nil_sublist _) ?_)
  exact ⟨rfl, hV2⟩
theorem p8_Pod1 {S : SHeap} {u : Value} {x : Clause} {q : Addr} {pod : Int} (hu : rClause.V S u x) (hq : PtrTo S q rI64 pod) : FnV Tryz.prog 68 #[u, .pointer (some q)] S (.bool (aboutC pod x)) := by
  (refine Fn.enter (args := [u, .pointer (some q)]) Tryz.func68 rfl Tryz.ntmps68 rfl ?_; intro w0)
  repeat' (first | (refine Walk ?_; intros) | refine JC.block ?_ | (refine WBox ?_; intros) | (refine JO.guard rfl rfl rfl rfl ?_ ?_ <;> intro _) | (refine JC.cond rfl ?_ ?_ <;> intro _))
  all_goals ((refine JX.ret1 Tryz.results68 (ResV.tmp rfl) (List.nil_sublist _) ?_); refine ⟨rfl, ?_⟩; first | (simp_all [aboutC]; done) | (simp_all [aboutC]; omega) | (simp_all [aboutC]; intros; omega))
theorem p8_Pod {S : SHeap} {u v : Value} {s : Snap} {p : List Int} (pod : Int) (hpr : Rng pod) (hu : rSnap.V S u s) (hv : (rSlice 8 rI64).V S v p) : FnL Tryz.prog 26 #[u, v, .int .i64 pod] S 32 rClause (podC s p pod) := by
  (refine Fn.enter (args := [u, v, .int .i64 pod]) Tryz.func26 rfl Tryz.ntmps26 rfl ?_; intro w0)
  repeat (first | (refine Walk ?_; intros) | refine JC.block ?_ | (refine WBox ?_; intros))
  refine JO.eff rfl rfl rfl (JEff.callL rfl (p8_but (aboutC pod) (by exact vta) (by exact vta) inferInstance (fun S' v x hl hx => p8_Pod1 hx (by exact pta))) rfl ?_); intro a1 c1 S2 hl2 hV2 hb2
  repeat (first | (refine Walk ?_; intros) | refine JC.block ?_ | (refine WBox ?_; intros))
  (refine JX.ret1 Tryz.results26 (ResV.tmp rfl) (List.nil_sublist _) ?_)
  exact ⟨rfl, hV2⟩
end Go.Dr
namespace Go.Dr
def zoneS : ByteArray := ⟨#[122, 111, 110, 101]⟩
def nd8 (n : UInt8) (ls : List Label) : Node := ⟨⟨#[n]⟩, [15, 0, 0, 0, 0], ls, [], false, false⟩
def noNear : Near := ⟨⟨#[]⟩, []⟩
def pod8 (n : UInt8) : Pod := ⟨⟨#[n]⟩, ⟨#[111]⟩, [10, 0, 0, 0, 0], [], [], [], noNear, noNear, ⟨#[]⟩⟩
def nodes8 : List Node := [nd8 97 [⟨zoneS, ⟨#[120]⟩⟩], nd8 98 [⟨zoneS, ⟨#[121]⟩⟩], nd8 99 []]
def pods8 : List Pod := [pod8 112, pod8 113, pod8 114]
def chapM (m : Int) : Snap := ⟨nodes8, pods8, [⟨⟨#[111]⟩, m, zoneS, 1, false⟩]⟩
def chap8 : Snap := chapM 3
def byB (s : Snap) (p : List Int) (c : Clause) : Bool := (ofC s p c.kind c.a c.b).2 && decide ((ofC s p c.kind c.a c.b).1 = c.by_)
end Go.Dr
namespace Go.Dr
open Go.Proofs
set_option maxRecDepth 20000
set_option maxHeartbeats 2000000
set_option linter.unusedSimpArgs false
set_option linter.unusedVariables false
theorem q8_by {S : SHeap} {u v cv : Value} {s : Snap} {p : List Int} {c : Clause} (hu : rSnap.V S u s) (hv : (rSlice 8 rI64).V S v p) (hc : rClause.V S cv c) : FnV Tryz.prog 30 #[u, v, cv] S (.bool (byB s p c)) := by
  (refine Fn.enter (args := [u, v, cv]) Tryz.func30 rfl Tryz.ntmps30 rfl ?_; intro w0)
  repeat' (first | (refine Walk ?_; intros) | refine JC.block ?_ | (refine JO.eff rfl rfl rfl (JEff.callV rfl (p8_Of _ _ _ (by first | assumption | (unfold Rng; omega)) (by first | assumption | (unfold Rng; omega)) (by first | assumption | (unfold Rng; omega)) (by exact vta) (by exact vta)) rfl ?_); intro _ _) | (refine WBox ?_; intros) | (refine JO.guard rfl rfl rfl rfl ?_ ?_ <;> intro _) | (refine JC.cond rfl ?_ ?_ <;> intro _))
  all_goals ((refine JX.ret1 Tryz.results30 (ResV.tmp rfl) (List.nil_sublist _) ?_); refine ⟨rfl, ?_⟩; simp_all [byB])
end Go.Dr
namespace Go.Dr
section
variable {C : Cx} {R : Rg} {Q : Post} {S S' : SHeap} {M M' : List MEnt} {e : Env} {rest : List Nat}
variable {d : Nat} {ty : TypeId} {pos : String} {aft : Array Edge} {g : Option (Nat × Bool)} {an : Bool}
theorem JPure.sliceT {T : TypeId} {x lo hi : Operand} {s : ByteArray} {kl kh : IntKind} {l h : Int} (hx : ev e x = some (.string s)) (hlo : ev e lo = some (.int kl l)) (hhi : ev e hi = some (.int kh h)) [hu : Und C.P T .string] (hdN : Nat.blt d C.N = true)
    (h0 : 0 ≤ l) (h1 : l ≤ h) (h2 : h ≤ s.size) (k : JO C R rest Q S M ((d, .string (s.extract l.toNat h.toNat)) :: e)) : JPure C R an ⟨some d, .slice T x (some lo) (some hi) none, ty, pos, aft, g⟩ rest Q S M e := by
  refine JPure.of rfl hdN (fun act w' hh => ?_) k
  have bl : (Instr.sliceBound (.int kl l) h.toNat .sliceB).run C.P w' = .ok l.toNat w' := run_sliceBound (P := C.P) w' kl l h.toNat _ h0 (by omega)
  have bh : (Instr.sliceBound (.int kh h) s.size .sliceAlen).run C.P w' = .ok h.toNat w' := run_sliceBound (P := C.P) w' kh h s.size _ (by omega) h2
  have hm : (Instr.slice T (.string s) (some (.int kl l)) (some (.int kh h)) none).run C.P w' = .ok (.string (s.extract l.toNat h.toNat)) w' := by
    simp [Instr.slice, run_underlying hu.h, Instr.sliceBounds, bl, bh]
  have hs : (Instr.sliceAt T (.string s) (some (.int kl l)) (some (.int kh h)) none).run C.P w' = (Instr.slice T (.string s) (some (.int kl l)) (some (.int kh h)) none).run C.P w' := by
    simp [Instr.sliceAt, run_underlying hu.h]
  simp only [execOp, hh.eval hx, Option.map_some, Option.map_none, hh.eval hlo, hh.eval hhi, Sem.run_bind, hs, hm, Result.andThen_ok, Sem.run_pure]
end
end Go.Dr
namespace Go.Dr
open Go.Proofs
set_option maxRecDepth 20000
set_option maxHeartbeats 2000000
set_option linter.unusedSimpArgs false
set_option linter.unusedVariables false
theorem R_vec {S : SHeap} {a b c d e : Int} (h : ∀ x ∈ [a, b, c, d, e], Rng x) : (rArr 5).R S [.int .i64 a, .int .i64 b, .int .i64 c, .int .i64 d, .int .i64 e] [a, b, c, d, e] := ⟨rfl, rfl, h⟩
theorem sz1 (n : UInt8) : (⟨#[n]⟩ : ByteArray).size ≤ big := by show 1 ≤ big; decide
theorem sz0 : (⟨#[]⟩ : ByteArray).size ≤ big := by decide
theorem szZ : zoneS.size ≤ big := by decide
theorem V_lab {S : SHeap} {a b : ByteArray} (h1 : a.size ≤ big) (h2 : b.size ≤ big) : rLabel.V S (.agg (flatCells [.string a, .string b]).toArray) ⟨a, b⟩ := ⟨_, map_R (seq1 (R_str h1) (R_str h2)), rfl⟩
theorem V_node8 {S : SHeap} {n : UInt8} {v : Value} {ls : List Label} (h : (rSlice 32 rLabel).V S v ls) : rNode.V S (.agg (flatCells [.string ⟨#[n]⟩, .agg (ints [15, 0, 0, 0, 0]), v, .slice none 0 0, .bool false, .bool false]).toArray) (nd8 n ls) := by
  obtain ⟨a, c, rfl, _⟩ := V_slice.1 h
  exact ⟨[_, _, _, _, _, _, _, _, _, _], map_R (seq1 (R_str (sz1 _)) (seq5 (R_vec (by simp [Rng])) (seq1 (h.one rfl) (seq1 (V_nil.one rfl) (seq1 R_bool R_bool))))), rfl⟩
theorem V_owner8 {S : SHeap} {m : Int} (hm : Rng m) : rOwner.V S (.agg (flatCells [.string ⟨#[111]⟩, .int .i64 m, .string zoneS, .int .i64 1, .bool false]).toArray) ⟨⟨#[111]⟩, m, zoneS, 1, false⟩ :=
  ⟨[_, _, _, _, _], map_R (seq1 (R_str (sz1 _)) (seq1 (R_i64 hm) (seq1 (R_str szZ) (seq1 (R_i64 (by simp [Rng])) R_bool)))), rfl⟩
theorem V_pod8 {S : SHeap} {n : ByteArray} {x : UInt8} (h : n = ⟨#[x]⟩) : rPod.V S (.agg (flatCells [.string n, .string ⟨#[111]⟩, .agg (flatCells [.int .i64 10, .int .i64 0, .int .i64 0, .int .i64 0, .int .i64 0]).toArray, .slice none 0 0, .slice none 0 0, .slice none 0 0, .agg #[.string ⟨#[]⟩, .slice none 0 0], .agg #[.string ⟨#[]⟩, .slice none 0 0], .string ⟨#[]⟩]).toArray) (pod8 x) := by
  subst h
  exact ⟨[_, _, _, _, _, _, _, _, _, _, _, _, _, _, _], map_R (seq1 (R_str (sz1 _)) (seq1 (R_str (sz1 _)) (seq5 (R_vec (by simp [Rng])) (seq1 (V_nil.one rfl) (seq1 (V_nil.one rfl) (seq1 (V_nil.one rfl)
    (seq2 (map_R (seq1 (R_str sz0) (V_nil.one rfl))) (seq2 (map_R (seq1 (R_str sz0) (V_nil.one rfl))) (R_str sz0))))))))), rfl⟩
theorem V_vec15 {S : SHeap} : (rArr 5).V S (.agg (flatCells [.int .i64 15, .int .i64 0, .int .i64 0, .int .i64 0, .int .i64 0]).toArray) [15, 0, 0, 0, 0] := V_arr.2 ⟨rfl, rfl, by simp [Rng]⟩
theorem pqr_at {k : Nat} {x : UInt8} (h : ([112, 113, 114] : List UInt8)[k]? = some x) : (⟨#[112, 113, 114]⟩ : ByteArray).extract ((k : Int)).toNat (((k : Int) + 1)).toNat = ⟨#[x]⟩ := by
  match k with
  | 0 => cases h; decide +kernel
  | 1 => cases h; decide +kernel
  | 2 => cases h; decide +kernel
  | k + 3 => simp at h
theorem q8_chapter {S : SHeap} : FnR Tryz.prog 31 #[] S (fun w S' => rSnap.V S' w chap8) := by
  haveI : TyR Tryz.prog 23 rVal := ⟨(inferInstance : TyR Tryz.prog 23 (rSlice 240 rPod)).b⟩
  have hmr : Rng 3 := by simp [Rng]
  (refine Fn.enter (args := []) Tryz.func31 rfl Tryz.ntmps31 rfl ?_; intro w0)
  repeat (first | (refine Walk ?_; intros) | refine JC.block ?_)
  (refine JO.eff rfl rfl rfl (JEff.alloc rfl ?_); intro rb hrb)
  repeat (first | (refine Walk ?_; intros) | refine JC.block ?_)
  (refine JO.eff rfl rfl rfl (JEff.alloc rfl ?_); intro vb hvb)
  repeat (first | (refine Walk ?_; intros) | refine JC.block ?_)
  refine JO.eff rfl rfl rfl (JEff.storeW rfl rfl V_vec15 nna (List.Perm.refl _) rfl (by intro l hl; cases hl) ?_)
  refine JO.freezeV V_vec15 nna hvb (by intro l hl; cases hl) ?_; intro S1 hl1 hpv
  repeat (first | (refine Walk ?_; intros) | refine JC.block ?_)
  obtain ⟨rfl, _, _⟩ := V_arr.1 (by assumption : (rArr 5).V _ _ [15, 0, 0, 0, 0])
  (refine JO.eff rfl rfl rfl (JEff.buildS (bt := 32) (rep := rLabel) (ys := [(⟨zoneS, ⟨#[120]⟩⟩ : Label)]) rfl rfl (⟨⟨V_lab (by decide) (by decide), nna⟩, trivial⟩) rfl rfl rfl (by decide) rfl ?_); intro S2 a2 hl2 hV2)
  repeat (first | (refine Walk ?_; intros) | refine JC.block ?_)
  obtain ⟨rfl, _, _⟩ := V_arr.1 (by assumption : (rArr 5).V _ _ [15, 0, 0, 0, 0])
  (refine JO.eff rfl rfl rfl (JEff.buildS (bt := 32) (rep := rLabel) (ys := [(⟨zoneS, ⟨#[121]⟩⟩ : Label)]) rfl rfl (⟨⟨V_lab (by decide) (by decide), nna⟩, trivial⟩) rfl rfl rfl (by decide) rfl ?_); intro S3 a3 hl3 hV3)
  repeat (first | (refine Walk ?_; intros) | refine JC.block ?_)
  obtain ⟨rfl, _, _⟩ := V_arr.1 (by assumption : (rArr 5).V _ _ [15, 0, 0, 0, 0])
  (refine JO.eff rfl rfl rfl (JEff.buildS (bt := 112) (rep := rNode) (ys := nodes8) rfl rfl ⟨⟨V_node8 (hV2.mono hl3), nna⟩, ⟨V_node8 hV3, nna⟩, ⟨V_node8 V_nil, nna⟩, trivial⟩ rfl rfl rfl (by decide) rfl ?_); intro S4 a4 hl4 hV4)
  repeat (first | (refine Walk ?_; intros) | refine JC.block ?_)
  (refine JO.eff rfl rfl rfl (JEff.buildS (bt := 56) (rep := rOwner) (ys := [(⟨⟨#[111]⟩, 3, zoneS, 1, false⟩ : Owner)]) rfl rfl (⟨⟨V_owner8 hmr, nna⟩, trivial⟩) rfl rfl rfl (by decide) rfl ?_); intro S5 a5 hl5 hV5)
  repeat (first | (refine Walk ?_; intros) | refine JC.block ?_)
  (refine JO.eff rfl rfl rfl (JEff.alloc rfl ?_); intro sb hsb)
  repeat (first | (refine Walk ?_; intros) | refine JC.block ?_)
  refine JO.eff rfl rfl rfl (JEff.storeW rfl rfl (V_snap (x := ⟨nodes8, [], [⟨⟨#[111]⟩, 3, zoneS, 1, false⟩]⟩) (hV4.mono (by exact lea)) V_nil (hV5.mono (by exact lea))) nna (List.Perm.refl _) rfl (by intro l hl; cases hl) ?_)
  repeat (first | (refine Walk ?_; intros) | refine JC.block ?_)
  refine JC.newRow 64 (Rp.sz rPod) ?_
  refine JC.loopF (σ := Nat × Option Addr × Nat × List Value) [(0, _), (2, _)] (fun q => [(3, .int .i64 q.1)])
    (fun q => [.row w0.heap.size 64 (Rp.sz rPod) (.slice q.2.1 q.1 q.2.2.1) q.1 (flatCells q.2.2.2), .blk sb (.cells #[.slice a4 3 3, .slice q.2.1 q.1 q.2.2.1, .slice a5 1 1] 26 (0, 0)), .blk rb (.cells #[.slice none 0 0, .slice none 0 0, .slice none 0 0] 26 (0, 0))])
    (fun Sk q => q.1 ≤ 3 ∧ allV rPod Sk q.2.2.2 (pods8.take q.1)) (fun q => 3 - q.1) (0, none, 0, []) (by exact sba) (by exact sba) (by rfl) ⟨Nat.zero_le _, trivial⟩ ?_
  rintro Sk ⟨k, ra, rc, vs⟩ hlk ⟨hk, hv1⟩
  dsimp only at hk hv1
  dsimp only [List.cons_append, List.nil_append]
  repeat (first | (refine Walk ?_; intros) | refine JC.block ?_)
  refine JC.cond rfl (fun hc => ?_) (fun hc => ?_)
  · have hk' : k < 3 := by have := of_decide_eq_true hc; omega
    obtain ⟨x, hx⟩ : ∃ x, ([112, 113, 114] : List UInt8)[k]? = some x := ⟨_, List.getElem?_eq_getElem (by simpa using hk')⟩
    have hst : pods8.take (k + 1) = pods8.take k ++ [pod8 x] := by
      match k with
      | 0 => cases hx; rfl
      | 1 => cases hx; rfl
      | 2 => cases hx; rfl
      | k + 3 => omega
    have hP := fun S => V_pod8 (S := S) (pqr_at hx)
    have hvl := hv1.length
    have hpl : (pods8.take k).length = k := by rw [List.length_take]; show min k 3 = k; omega
    rw [hpl] at hvl
    repeat (first | (refine Walk ?_; intros) | refine JC.block ?_)
    refine JC.drawTreeF 6 rfl [10] [1] [0, 2, 3, 4, 5, 6, 7] (.alt (ofL [1, 8, 9, 10, 11] .nil) (ofL [8, 1, 9, 10, 11] .nil)) Tryz_mixed (by decide +kernel) ?_
    refine JO.pure rfl rfl rfl (JPure.fieldP rfl rfl ?_)
    repeat (first | (refine Walk ?_; intros) | refine JC.block ?_)
    refine JO.pure rfl rfl rfl (JPure.sliceT rfl rfl rfl rfl (by omega) (by omega) (by show (k : Int) + 1 ≤ 3; omega) ?_)
    repeat (first | (refine Walk ?_; intros) | refine JC.block ?_)
    refine JO.alt ?_ ?_
    · refine JO.eff rfl rfl rfl (JEff.loadE (rVal) (x0 := .slice ra k rc) rfl (by (first | exact List.mem_cons_self | exact List.mem_cons_of_mem _ List.mem_cons_self | exact List.mem_cons_of_mem _ (List.mem_cons_of_mem _ List.mem_cons_self))) rfl ⟨rfl, rfl⟩ inferInstance rfl ?_)
      repeat (first | (refine Walk ?_; intros) | refine JC.block ?_)
      (refine JO.eff rfl rfl rfl (JEff.build (rep := rPod) (ys := [pod8 x]) rfl rfl ⟨⟨hP _, nna⟩, trivial⟩ rfl rfl rfl rfl ?_); intro bb hbb hvv)
      repeat (first | (refine Walk ?_; intros) | refine JC.block ?_)
      (refine JO.eff rfl rfl rfl (JEff.appendL (rep := rPod) rfl rfl rfl rfl (List.Perm.swap _ _ _) (by exact hvv.flat) (by intro c hc; exact flat_one (fun v hv => (hvv.size v hv).2) c hc) (by unfold big; omega) (by unfold big; omega) (by first | exact rowT_ok | (intro l hl; cases hl)) rfl ?_); intro a2 c2; clear hvv hbb)
      repeat (first | (refine Walk ?_; intros) | refine JC.block ?_)
      refine JO.pure rfl rfl rfl (JPure.fieldP rfl rfl ?_)
      refine JO.eff rfl rfl rfl (JEff.store (rep := rVal) (x0 := .slice a2 (k + 1) c2) rfl rfl (V_val.2 ⟨rfl, rfl⟩) nna (List.Perm.swap _ _ _) (by simp [rVal]) (by intro l hl; cases hl) ?_)
      repeat (first | (refine Walk ?_; intros) | refine JC.block ?_)
      refine JX.perm (M' := [_, _, _]) (List.Perm.trans (List.Perm.swap _ _ _) (List.Perm.refl _)) ?_
      exact JX.roundF (k + 1, a2, c2, vs ++ [_]) (by exact lea) ⟨by dsimp only; omega, by (try dsimp only); rw [hst]; exact allV_add (by exact lea) hv1 (hP _) nna⟩ (by (try dsimp only); omega) (by simp [flat_append]; rfl) (by exact sba) (by exact sba)
    · (refine JO.eff rfl rfl rfl (JEff.build (rep := rPod) (ys := [pod8 x]) rfl rfl ⟨⟨hP _, nna⟩, trivial⟩ rfl rfl rfl rfl ?_); intro bb hbb hvv)
      repeat (first | (refine Walk ?_; intros) | refine JC.block ?_)
      refine JO.eff rfl rfl rfl (JEff.loadE (rVal) (x0 := .slice ra k rc) rfl (by (first | exact List.mem_cons_self | exact List.mem_cons_of_mem _ List.mem_cons_self | exact List.mem_cons_of_mem _ (List.mem_cons_of_mem _ List.mem_cons_self))) rfl ⟨rfl, rfl⟩ inferInstance rfl ?_)
      repeat (first | (refine Walk ?_; intros) | refine JC.block ?_)
      (refine JO.eff rfl rfl rfl (JEff.appendL (rep := rPod) rfl rfl rfl rfl (List.Perm.swap _ _ _) (by exact hvv.flat) (by intro c hc; exact flat_one (fun v hv => (hvv.size v hv).2) c hc) (by unfold big; omega) (by unfold big; omega) (by first | exact rowT_ok | (intro l hl; cases hl)) rfl ?_); intro a2 c2; clear hvv hbb)
      repeat (first | (refine Walk ?_; intros) | refine JC.block ?_)
      refine JO.pure rfl rfl rfl (JPure.fieldP rfl rfl ?_)
      refine JO.eff rfl rfl rfl (JEff.store (rep := rVal) (x0 := .slice a2 (k + 1) c2) rfl rfl (V_val.2 ⟨rfl, rfl⟩) nna (List.Perm.swap _ _ _) (by simp [rVal]) (by intro l hl; cases hl) ?_)
      repeat (first | (refine Walk ?_; intros) | refine JC.block ?_)
      refine JX.perm (M' := [_, _, _]) (List.Perm.trans (List.Perm.swap _ _ _) (List.Perm.refl _)) ?_
      exact JX.roundF (k + 1, a2, c2, vs ++ [_]) (by exact lea) ⟨by dsimp only; omega, by (try dsimp only); rw [hst]; exact allV_add (by exact lea) hv1 (hP _) nna⟩ (by (try dsimp only); omega) (by simp [flat_append]; rfl) (by exact sba) (by exact sba)
  · obtain rfl : k = 3 := by have := of_decide_eq_false hc; omega
    refine JC.freezeRow (rep := rPod) (bt := 240) (xs := pods8) hv1 rfl (by decide) (by decide) (fun S9 hl9 hV9 => ?_)
    refine JC.freeze hsb (fun S10 hl10 hS10 => ?_)
    have hfin : PtrTo S10 ⟨sb, 0, none⟩ rSnap (chapM 3) :=
      cells_ptr (v := .agg #[.slice a4 3 3, .slice ra 3 rc, .slice a5 1 1]) hS10 (map_R (seq1 ((hV4.mono (by exact lea)).one rfl) (seq1 ((hV9.mono (by exact lea)).one rfl) ((hV5.mono (by exact lea)).one rfl))))
    repeat (first | (refine Walk ?_; intros) | refine JC.block ?_)
    refine JO.eff rfl rfl rfl (JEff.storeW rfl rfl (by assumption : rSnap.V _ _ (chapM 3)) nna (List.Perm.refl _) rfl (by intro l hl; cases hl) ?_)
    refine JO.freezeV (by assumption : rSnap.V _ _ (chapM 3)) nna hrb (by intro l hl; cases hl) ?_; intro S11 hl11 hpo
    repeat (first | (refine Walk ?_; intros) | refine JC.block ?_)
    exact JX.retCell Tryz.results31 rfl hpo (List.nil_sublist _) (fun w hw => ⟨rfl, hw⟩)
end Go.Dr
namespace Go.Dr
set_option linter.unusedSimpArgs false
set_option linter.unusedVariables false
def SHeap.del (S : SHeap) (b : Nat) : SHeap := fun k => if k = b then none else S k
theorem SHeap.del_self (S : SHeap) (b : Nat) : S.del b b = none := by simp [SHeap.del]
theorem SHeap.del_other {S : SHeap} {b k : Nat} (h : k ≠ b) : S.del b k = S k := by simp [SHeap.del, h]
theorem SHeap.le_del {S S' : SHeap} {b : Nat} (h : S.le S') (hb : S b = none) : S.le (S'.del b) := fun k o hk => by
  have hne : k ≠ b := fun e => by rw [e, hb] at hk; cases hk
  rw [SHeap.del_other hne]; exact h k o hk
theorem Wd.thaw {w0 w : World} {B0 : List Nat} {S0 S : SHeap} {M : List MEnt} {b : Nat} {o : Obj} (h : Wd w0 B0 S0 S M w) (h0 : S0 b = none) (hb : w0.heap.size ≤ b) (hS : S b = some o) : Wd w0 B0 S0 (S.del b) (.blk b o :: M) w where
  os := h.os
  tape := h.tape
  output := h.output
  size := h.size
  keep := h.keep
  le := SHeap.le_del h.le h0
  new := fun k hk => by
    by_cases e : k = b
    · subst e; exact .inr hb
    · exact h.new k (by rwa [SHeap.del_other e] at hk)
  agree := fun k o' hk => by
    have hne : k ≠ b := fun e => by rw [e, SHeap.del_self] at hk; cases hk
    rw [SHeap.del_other hne] at hk; exact h.agree k o' hk
  ok := fun m hm => by
    rcases List.mem_cons.1 hm with rfl | hm
    · exact h.agree b o hS
    · exact h.ok m hm
  sep := by
    refine List.pairwise_cons.2 ⟨?_, h.sep⟩
    intro m hm k hk hk'
    simp only [MEnt.own, Option.some.injEq] at hk
    subst hk
    have := (h.out m hm _ hk').1
    rw [hS] at this; cases this
  out := fun m hm k hk => by
    rcases List.mem_cons.1 hm with rfl | hm
    · simp only [MEnt.own, Option.some.injEq] at hk
      subst hk
      exact ⟨SHeap.del_self _ _, .inl hb⟩
    · obtain ⟨h1, h2⟩ := h.out m hm k hk
      refine ⟨?_, h2⟩
      unfold SHeap.del
      split
      · rfl
      · exact h1
section
variable {C : Cx} {R : Rg} {Q : Post} {S S' : SHeap} {M M' : List MEnt} {e : Env} {rest : List Nat} {L : List Nat}
variable {d : Nat} {ty : TypeId} {pos : String} {aft : Array Edge} {g : Option (Nat × Bool)}
theorem JO.out (k : (∀ m ∈ M, ∀ b, m.own = some b → S b = none) → JO C R L Q S M e) : JO C R L Q S M e := ⟨fun a w hw => (k fun m hm b hb => (hw.wd.out m hm b hb).1).run a w hw⟩
theorem JO.blkNew {b : Nat} {o : Obj} (h0 : C.B0 = []) (k : C.S0 b = none → C.w0.heap.size ≤ b → JO C R L Q S (.blk b o :: M) e) : JO C R L Q S (.blk b o :: M) e := ⟨fun a w hw => by
  have h1 := hw.wd.out (.blk b o) (by simp) b rfl
  have h2 := h1.2
  rw [h0] at h2
  refine (k ?_ (h2.resolve_right (by simp))).run a w hw
  cases h : C.S0 b with
  | none => rfl
  | some o' => have := hw.wd.le b o' h; rw [h1.1] at this; cases this⟩
theorem JC.blkNew {x : Code} {b : Nat} {o : Obj} (h0 : C.B0 = []) (k : C.S0 b = none → C.w0.heap.size ≤ b → JC C x Q S (.blk b o :: M) e) : JC C x Q S (.blk b o :: M) e := ⟨fun a w hw => by
  have h1 := hw.wd.out (.blk b o) (by simp) b rfl
  have h2 := h1.2
  rw [h0] at h2
  refine (k ?_ (h2.resolve_right (by simp))).run a w hw
  cases h : C.S0 b with
  | none => rfl
  | some o' => have := hw.wd.le b o' h; rw [h1.1] at this; cases this⟩
theorem JX.thaw {x : Exit} {b : Nat} {o : Obj} (h0 : C.S0 b = none) (hb : C.w0.heap.size ≤ b) (hS : S b = some o) (k : JX C x Q (S.del b) (.blk b o :: M) e) : JX C x Q S M e := ⟨fun a w hw => k.run a w ⟨hw.env, hw.defers, hw.wd.thaw h0 hb hS⟩⟩
class IfaceT (P : Program) (T : TypeId) : Prop where
  h : P.underlying T = some (.interface (P.methodsAt T))
end
end Go.Dr
namespace Go.Dr
section
variable {C : Cx} {Q : Post} {S : SHeap} {M : List MEnt} {e : Env}
theorem JC.thaw {x : Code} {b : Nat} {o : Obj} (h0 : C.S0 b = none) (hb : C.w0.heap.size ≤ b) (hS : S b = some o) (k : JC C x Q (S.del b) (.blk b o :: M) e) : JC C x Q S M e := ⟨fun a w hw => k.run a w ⟨hw.env, hw.defers, hw.wd.thaw h0 hb hS⟩⟩
theorem JC.out {x : Code} (k : (∀ m ∈ M, ∀ b, m.own = some b → S b = none) → JC C x Q S M e) : JC C x Q S M e := ⟨fun a w hw => (k fun m hm b hb => (hw.wd.out m hm b hb).1).run a w hw⟩
end
section
variable {C : Cx} {R : Rg} {Q : Post} {S : SHeap} {M : List MEnt} {e : Env} {rest : List Nat}
variable {ty : TypeId} {pos : String} {aft : Array Edge} {g : Option (Nat × Bool)}
theorem JEff.storeTo (c' : Array Value) {α : Type} {T t : TypeId} {x y : Operand} {b off : Nat} {c : Array Value} {v : Value} {rep : Rp α} {x0 : α} {Mr : List MEnt} (hx : ev e x = some (.pointer (some ⟨b, off, none⟩))) (hy : ev e y = some v)
    (hv : rep.V S v x0) (hn : rep.agg = false → ∀ cs, v ≠ .agg cs) [ht : TyR C.P T rep] (hM : (MEnt.blk b (.cells c t (0, 0)) :: Mr).Perm M) (hl : off + rep.sz ≤ c.size) (hT : ∀ l, R.T = some l → b ∈ l)
    (hc : (c.toList.take off ++ v.cells.toList ++ c.toList.drop (off + rep.sz)).toArray = c')
    (k : JO C R rest Q S (.blk b (.cells c' t (0, 0)) :: Mr) e) : JEff C R ⟨none, .store T x y, ty, pos, aft, g⟩ rest Q S M e := by
  refine JEff.store hx hy hv hn hM hl hT ?_
  rw [hc]; exact k
end
theorem none_le {S S' : SHeap} {b : Nat} (h : S.le S') (hb : S' b = none) : S b = none := by
  cases hs : S b with
  | none => rfl
  | some o => have := h b o hs; rw [hb] at this; cases this
theorem ne_none {S : SHeap} {b c : Nat} {o : Obj} (hb : S b = none) (hc : S c = some o) : c ≠ b := fun e => by rw [e, hb] at hc; cases hc
def rRaw3 : Rp (Value × Value × Value) := rSeq rVal (rSeq rVal rVal)
instance : Fld rRaw3 0 rVal (fun x => x.1) := ⟨Part.first⟩
instance : Fld rRaw3 1 rVal (fun x => x.2.1) := ⟨Part.next Part.first rfl⟩
instance : Fld rRaw3 2 rVal (fun x => x.2.2) := ⟨Part.next (Part.last rfl) rfl⟩
theorem V_raw3 {S : SHeap} {a1 a2 a3 : Option Addr} {n1 n2 n3 c1 c2 c3 : Nat} : rRaw3.V S (.agg #[.slice a1 n1 c1, .slice a2 n2 c2, .slice a3 n3 c3]) (.slice a1 n1 c1, .slice a2 n2 c2, .slice a3 n3 c3) :=
  ⟨[_, _, _], ⟨[_], [_, _], rfl, ⟨rfl, rfl⟩, [_], [_], rfl, ⟨rfl, rfl⟩, rfl, rfl⟩, rfl⟩
end Go.Dr
