/- Part 9 of the rules and of the walks that the proofs of this seat rest on; no condition. -/
import Derived.Test.YtdidkjghemcipaaGreatA07
import Derived.Deep.Slices
import Derived.OpenShut
import Derived.SizedLaws
import Derived.Carry
import Derived.Below
set_option linter.unusedVariables false
set_option linter.unusedSimpArgs false
namespace Go.Dr
open Go.Proofs
set_option maxRecDepth 20000
set_option maxHeartbeats 2000000
set_option linter.unusedSimpArgs false
set_option linter.unusedVariables false
theorem w_Same {S : SHeap} {u v : Value} {xs : List Clause} (hu : (rSlice 32 rClause).V S u xs) (hv : (rSlice 32 rClause).V S v xs) : FnV Tryz.prog 19 #[u, v] S (.bool true) := by
  have h := r8_Same hu hv
  rw [decide_eq_true rfl] at h; exact h
theorem w_EqInts {S : SHeap} {u v : Value} {xs : List Int} (hu : (rSlice 8 rI64).V S u xs) (hv : (rSlice 8 rI64).V S v xs) : FnV Tryz.prog 22 #[u, v] S (.bool true) := by
  have h := r0_EqInts hu hv
  rw [decide_eq_true rfl] at h; exact h
theorem s3_L08d {P K : Prop} (k : K) (h : Goal K → P := by
  intro zk
  (first | refine Walk ?_ | refine JC.block ?_ | refine JC.drawN 5 rfl [0, 1, 2, 3, 4, 5, 6, 7, 8, 9, 10, 12, 13, 11, 14, 15, 16, 17, 18, 19, 20, 21, 22, 23, 24, 25] [0, 1, 3, 4, 5, 6, 7, 8, 9, 10, 16, 17, 18, 19, 21, 22, 24, 25] Tryz_mixed (by decide +kernel) ?_ | (refine JO.eff rfl rfl rfl (JEff.callR rfl (q8_cut (by exact vta)) rfl ?_); intro zqa zqb zqc zqd) | (refine JO.eff rfl rfl rfl (JEff.callL rfl (r0_CopyInts (by exact vta)) rfl ?_); intro zqa zqb zqc zqd zqe zqf) | (refine JO.eff rfl rfl rfl (JEff.callLE rfl (p8_All (by exact vta) (by exact vta)) rfl ?_); intro zqa zqb zqc zqd zqe zqf) | (refine JO.eff rfl rfl rfl (JEff.callLE rfl (r8_All (by exact vta) (by exact vta)) rfl ?_); intro zqa zqb zqc zqd zqe zqf) | (refine JO.eff rfl rfl rfl (JEff.callV rfl (r8_Same (by exact vta) (by exact vta)) rfl ?_); intro zqa zqb) | (refine JO.eff rfl rfl rfl (JEff.callL rfl (p8_Broken (by exact vta) (by exact vta)) rfl ?_); intro zqa zqb zqc zqd zqe zqf) | (refine JO.eff rfl rfl rfl (JEff.callL rfl (r8_Broken (by exact vta) (by exact vta)) rfl ?_); intro zqa zqb zqc zqd zqe zqf) | (refine JO.eff rfl rfl rfl (JEff.callV rfl (r0_EqInts (by exact vta) (by exact vta)) rfl ?_); intro zqa zqb) | (refine JO.eff rfl rfl rfl (JEff.callV rfl (q8_works) rfl ?_); intro zqa zqb))
  (repeat (first | revert zqg | revert zqf | revert zqe | revert zqd | revert zqc | revert zqb | revert zqa))
  exact zk.k) : P := h ⟨k⟩
theorem a8_ClauseAll {S : SHeap} {u v : Value} {s : Snap} {p : List Int} (hu : rSnap.V S u s) (hv : (rSlice 8 rI64).V S v p) : FnV Tryz.prog 3 #[u, v] S (.bool true) := by
  obtain ⟨cs, rfl, hcs⟩ := V_agg rfl hu
  (refine Fn.enter (args := [.agg cs.toArray, v]) Tryz.func3 rfl Tryz.ntmps3 rfl ?_; intro w0)
  repeat (refine s3_L08d ?_; intros)
  refine JO.eff rfl rfl rfl (JEff.box rfl rfl ?_); intro bb hbb
  repeat (refine s3_L08d ?_; intros)
  refine JO.pure rfl rfl rfl (JPure.loadM (rep := rSnap) (x0 := s) (mid := cs) rfl (by (first | exact List.mem_cons_self | exact List.mem_cons_of_mem _ List.mem_cons_self | exact List.mem_cons_of_mem _ (List.mem_cons_of_mem _ List.mem_cons_self))) (by show cs.take 3 = cs; exact List.take_of_length_le (by rw [rSnap.len hcs]; exact Nat.le_refl _)) (rSnap.mono (by exact lea) hcs) (.inl rfl) rfl ?_)
  refine JO.eff rfl rfl rfl (JEff.callR rfl (q8_cut (Rp.val_V (rSnap.mono (by exact lea) hcs))) rfl ?_); intro cw S1 hl1 hcw
  repeat (refine s3_L08d ?_; intros)
  refine JO.eff rfl rfl rfl (JEff.storeW rfl rfl hcw nna (List.Perm.refl _) (by show 3 = cs.length; exact (rSnap.len hcs).symm) (by intro l hl; cases hl) ?_)
  refine JO.freezeV hcw nna hbb (by intro l hl; cases hl) ?_; intro S2 hl2 hpb
  repeat (first | (refine Walk ?_; intros) | refine JC.block ?_ | refine JC.drawN 5 rfl [0, 1, 2, 3, 4, 5, 6, 7, 8, 9, 10, 12, 13, 11, 14, 15, 16, 17, 18, 19, 20, 21, 22, 23, 24, 25] [0, 1, 3, 4, 5, 6, 7, 8, 9, 10, 16, 17, 18, 19, 21, 22, 24, 25] Tryz_mixed (by decide +kernel) ?_ | (refine JO.eff rfl rfl rfl (JEff.callV rfl (w_Same (by exact vta) (by exact vta)) rfl ?_); intro _ _) | (refine JO.eff rfl rfl rfl (JEff.callV rfl (w_EqInts (by exact vta) (by exact vta)) rfl ?_); intro _ _) | (refine JO.eff rfl rfl rfl (JEff.callR rfl (q8_cut (by exact vta)) rfl ?_); intro _ _ _ _) | (refine JO.eff rfl rfl rfl (JEff.callL rfl (r0_CopyInts (by exact vta)) rfl ?_); intro _ _ _ _ _ _) | (refine JO.eff rfl rfl rfl (JEff.callLE rfl (p8_All (by exact vta) (by exact vta)) rfl ?_); intro _ _ _ _ _ _) | (refine JO.eff rfl rfl rfl (JEff.callLE rfl (r8_All (by exact vta) (by exact vta)) rfl ?_); intro _ _ _ _ _ _) | (refine JO.eff rfl rfl rfl (JEff.callV rfl (r8_Same (by exact vta) (by exact vta)) rfl ?_); intro _ _) | (refine JO.eff rfl rfl rfl (JEff.callL rfl (p8_Broken (by exact vta) (by exact vta)) rfl ?_); intro _ _ _ _ _ _) | (refine JO.eff rfl rfl rfl (JEff.callL rfl (r8_Broken (by exact vta) (by exact vta)) rfl ?_); intro _ _ _ _ _ _) | (refine JO.eff rfl rfl rfl (JEff.callV rfl (r0_EqInts (by exact vta) (by exact vta)) rfl ?_); intro _ _) | (refine JO.eff rfl rfl rfl (JEff.callV rfl (q8_works) rfl ?_); intro _ _))
  rw [decide_eq_true (rfl : checkP (cutS s) p = checkP (cutS s) p)]
  repeat (first | (refine Walk ?_; intros) | refine JC.block ?_ | refine JC.drawN 5 rfl [0, 1, 2, 3, 4, 5, 6, 7, 8, 9, 10, 12, 13, 11, 14, 15, 16, 17, 18, 19, 20, 21, 22, 23, 24, 25] [0, 1, 3, 4, 5, 6, 7, 8, 9, 10, 16, 17, 18, 19, 21, 22, 24, 25] Tryz_mixed (by decide +kernel) ?_ | (refine JO.eff rfl rfl rfl (JEff.callV rfl (w_Same (by exact vta) (by exact vta)) rfl ?_); intro _ _) | (refine JO.eff rfl rfl rfl (JEff.callV rfl (w_EqInts (by exact vta) (by exact vta)) rfl ?_); intro _ _) | (refine JO.eff rfl rfl rfl (JEff.callR rfl (q8_cut (by exact vta)) rfl ?_); intro _ _ _ _) | (refine JO.eff rfl rfl rfl (JEff.callL rfl (r0_CopyInts (by exact vta)) rfl ?_); intro _ _ _ _ _ _) | (refine JO.eff rfl rfl rfl (JEff.callLE rfl (p8_All (by exact vta) (by exact vta)) rfl ?_); intro _ _ _ _ _ _) | (refine JO.eff rfl rfl rfl (JEff.callLE rfl (r8_All (by exact vta) (by exact vta)) rfl ?_); intro _ _ _ _ _ _) | (refine JO.eff rfl rfl rfl (JEff.callV rfl (r8_Same (by exact vta) (by exact vta)) rfl ?_); intro _ _) | (refine JO.eff rfl rfl rfl (JEff.callL rfl (p8_Broken (by exact vta) (by exact vta)) rfl ?_); intro _ _ _ _ _ _) | (refine JO.eff rfl rfl rfl (JEff.callL rfl (r8_Broken (by exact vta) (by exact vta)) rfl ?_); intro _ _ _ _ _ _) | (refine JO.eff rfl rfl rfl (JEff.callV rfl (r0_EqInts (by exact vta) (by exact vta)) rfl ?_); intro _ _) | (refine JO.eff rfl rfl rfl (JEff.callV rfl (q8_works) rfl ?_); intro _ _))
  (refine JX.ret1 Tryz.results3 (ResV.tmp rfl) (List.nil_sublist _) ?_)
  exact ⟨rfl, rfl⟩
theorem s4_L08d {P K : Prop} (k : K) (h : Goal K → P := by
  intro zk
  (first | refine Walk ?_ | refine JC.block ?_ | refine JC.drawN 4 rfl [0, 1, 2, 3, 4, 5, 6, 7, 8, 9, 10, 11, 12, 14, 15, 16, 17, 13, 18, 19, 20, 21, 22, 23, 24] [0, 1, 2, 3, 4, 5, 6, 7, 8, 9, 10, 11, 12, 20, 21, 23, 24] Tryz_mixed (by decide +kernel) ?_ | (refine JO.eff rfl rfl rfl (JEff.callR rfl (q8_cut (by exact vta)) rfl ?_); intro zqa zqb zqc zqd) | (refine JO.eff rfl rfl rfl (JEff.callV rfl (r8_Same (by exact vta) (by exact vta)) rfl ?_); intro zqa zqb) | (refine JO.eff rfl rfl rfl (JEff.callV rfl (q8_works) rfl ?_); intro zqa zqb) | (refine JO.eff rfl rfl rfl (JEff.callV rfl (p8_Of _ _ _ (by first | assumption | (unfold Rng; omega)) (by first | assumption | (unfold Rng; omega)) (by first | assumption | (unfold Rng; omega)) (by exact vta) (by exact vta)) rfl ?_); intro zqa zqb) | (refine JO.eff rfl rfl rfl (JEff.callV rfl (r8_Of _ _ _ (by exact vta) (by exact vta)) rfl ?_); intro zqa zqb) | (refine JO.eff rfl rfl rfl (JEff.callL rfl (p8_Pod _ (by first | assumption | (unfold Rng; omega)) (by exact vta) (by exact vta)) rfl ?_); intro zqa zqb zqc zqd zqe zqf) | (refine JO.eff rfl rfl rfl (JEff.callL rfl (r8_Pod _ (by exact vta) (by exact vta)) rfl ?_); intro zqa zqb zqc zqd zqe zqf))
  (repeat (first | revert zqg | revert zqf | revert zqe | revert zqd | revert zqc | revert zqb | revert zqa))
  exact zk.k) : P := h ⟨k⟩
theorem a8_ClauseOne {S : SHeap} {u v cv : Value} {s : Snap} {p : List Int} {c : Clause} (hu : rSnap.V S u s) (hv : (rSlice 8 rI64).V S v p) (hc : rClause.V S cv c) : FnV Tryz.prog 4 #[u, v, cv] S (.bool true) := by
  obtain ⟨cs, rfl, hcs⟩ := V_agg rfl hu
  obtain ⟨-, hcr⟩ := V_clause.1 hc
  obtain ⟨hr1, hr2, hr3, hr4⟩ := hcr
  (refine Fn.enter (args := [.agg cs.toArray, v, cv]) Tryz.func4 rfl Tryz.ntmps4 rfl ?_; intro w0)
  repeat (refine s4_L08d ?_; intros)
  refine JO.eff rfl rfl rfl (JEff.box rfl rfl ?_); intro bb hbb
  refine WBox ?_; intros
  repeat (refine s4_L08d ?_; intros)
  refine JO.pure rfl rfl rfl (JPure.loadM (rep := rSnap) (x0 := s) (mid := cs) rfl (by (first | exact List.mem_cons_self | exact List.mem_cons_of_mem _ List.mem_cons_self | exact List.mem_cons_of_mem _ (List.mem_cons_of_mem _ List.mem_cons_self))) (by show cs.take 3 = cs; exact List.take_of_length_le (by rw [rSnap.len hcs]; exact Nat.le_refl _)) (rSnap.mono (by exact lea) hcs) (.inl rfl) rfl ?_)
  refine JO.eff rfl rfl rfl (JEff.callR rfl (q8_cut (Rp.val_V (rSnap.mono (by exact lea) hcs))) rfl ?_); intro cw S1 hl1 hcw
  repeat (refine s4_L08d ?_; intros)
  refine JO.eff rfl rfl rfl (JEff.storeW rfl rfl hcw nna (List.Perm.refl _) (by show 3 = cs.length; exact (rSnap.len hcs).symm) (by intro l hl; cases hl) ?_)
  refine JO.freezeV hcw nna hbb (by intro l hl; cases hl) ?_; intro S2 hl2 hpb
  repeat (refine s4_L08d ?_; intros)
  rw [decide_eq_true (rfl : (ofC (cutS s) p c.kind c.a c.b).1 = (ofC (cutS s) p c.kind c.a c.b).1)]
  repeat (refine s4_L08d ?_; intros)
  rw [beq_self_eq_true ((ofC (cutS s) p c.kind c.a c.b).2)]
  repeat (first | (refine Walk ?_; intros) | refine JC.block ?_ | refine JC.drawN 4 rfl [0, 1, 2, 3, 4, 5, 6, 7, 8, 9, 10, 11, 12, 14, 15, 16, 17, 13, 18, 19, 20, 21, 22, 23, 24] [0, 1, 2, 3, 4, 5, 6, 7, 8, 9, 10, 11, 12, 20, 21, 23, 24] Tryz_mixed (by decide +kernel) ?_ | (refine JO.eff rfl rfl rfl (JEff.callV rfl (w_Same (by exact vta) (by exact vta)) rfl ?_); intro _ _) | (refine JO.eff rfl rfl rfl (JEff.callR rfl (q8_cut (by exact vta)) rfl ?_); intro _ _ _ _) | (refine JO.eff rfl rfl rfl (JEff.callV rfl (r8_Same (by exact vta) (by exact vta)) rfl ?_); intro _ _) | (refine JO.eff rfl rfl rfl (JEff.callV rfl (q8_works) rfl ?_); intro _ _) | (refine JO.eff rfl rfl rfl (JEff.callV rfl (p8_Of _ _ _ (by first | assumption | (unfold Rng; omega)) (by first | assumption | (unfold Rng; omega)) (by first | assumption | (unfold Rng; omega)) (by exact vta) (by exact vta)) rfl ?_); intro _ _) | (refine JO.eff rfl rfl rfl (JEff.callV rfl (r8_Of _ _ _ (by exact vta) (by exact vta)) rfl ?_); intro _ _) | (refine JO.eff rfl rfl rfl (JEff.callL rfl (p8_Pod _ (by first | assumption | (unfold Rng; omega)) (by exact vta) (by exact vta)) rfl ?_); intro _ _ _ _ _ _) | (refine JO.eff rfl rfl rfl (JEff.callL rfl (r8_Pod _ (by exact vta) (by exact vta)) rfl ?_); intro _ _ _ _ _ _))
  (refine JX.ret1 Tryz.results4 (ResV.tmp rfl) (List.nil_sublist _) ?_)
  exact ⟨rfl, rfl⟩
end Go.Dr
namespace Go.Dr
open Go.RowKit
def heapS (w : World) : SHeap := fun b => w.heap[b]?
theorem agree_heapS (w : World) : Agree (heapS w) w := fun _ _ h => h
theorem heapS_cell {w : World} {a : Addr} {v : Value} (h : w.cell? a = some v) : (heapS w).cell? a = some v := by
  unfold World.cell? at h
  unfold SHeap.cell? heapS
  exact h
class RdR {α : Type} (P : Program) (T : TypeId) (rep : Rp α) : Prop where
  rd : ∀ {H : Type} {enc : TypeId × Value → H} {w : World} {base : Nat} {spare : Nat → Bool} {held : Bool} {fuel : Nat} {cs : List Value} {d : DataW H} {ps : List MemPlace},
    DataW.trod enc P w base spare held fuel T cs = some (d, ps) → (∀ n ∈ d.weights P T, n ≤ reachBytes) → ∃ x, rep.R (heapS w) cs x
theorem cells_sz {α : Type} {P : Program} {T : TypeId} {rep : Rp α} (h : TyR P T rep) : P.cellsOf T = rep.sz := by
  obtain ⟨i, hi, hs⟩ := h.i
  unfold Program.cellsOf
  rw [hi]
  exact hs
theorem bytes_of {P : Program} {E : TypeId} {bt : Nat} (h : Byt P E bt) : P.bytesOf E = bt := by
  have := h.h
  unfold Program.bytesOf
  rw [this]; rfl
instance {P : Program} {T : TypeId} [h : Und P T (.int .i64)] : RdR P T rI64 where
  rd ht _ := by
    obtain ⟨n, rfl, _, hw⟩ := DataW.trod_int h.h ht
    refine ⟨n, rfl, ?_⟩
    simp only [Lit.wf, Bool.and_eq_true, decide_eq_true_eq] at hw
    exact hw
instance {P : Program} {T : TypeId} [h : Und P T .bool] : RdR P T rBool where
  rd ht _ := by
    obtain ⟨b, rfl, _⟩ := DataW.trod_bool h.h ht
    exact ⟨b, rfl⟩
theorem reach_big : reachBytes ≤ big := by decide
instance {P : Program} {T : TypeId} [h : Und P T .string] : RdR P T rStr where
  rd ht hw := by
    obtain ⟨s, rfl, hd, hs⟩ := DataW.trod_string h.h ht
    cases hd
    refine ⟨s, rfl, ?_⟩
    have := hw s.data.toList.length (by simp [DataW.weights])
    have e : s.data.toList.length = s.size := Array.length_toList
    have := reach_big
    omega
theorem list_of {α : Type} : ∀ {n : Nat} {q : Nat → α → Prop}, (∀ i, i < n → ∃ x, q i x) → ∃ l : List α, l.length = n ∧ ∀ i x, l[i]? = some x → q i x
  | 0, _, _ => ⟨[], rfl, fun i x h => by simp at h⟩
  | n + 1, q, h => by
    obtain ⟨x, hx⟩ := h 0 (by omega)
    obtain ⟨l, hl, hq⟩ := list_of (n := n) (q := fun i => q (i + 1)) (fun i hi => h (i + 1) (by omega))
    refine ⟨x :: l, by simp [hl], fun i y hy => ?_⟩
    cases i with
    | zero => cases hy; exact hx
    | succ i => exact hq i y hy
theorem weights_all {H : Type} {P : Program} {e : TypeId} : ∀ {l : List (DataW H)} {d : DataW H} {n : Nat}, d ∈ l → n ∈ d.weights P e → n ∈ DataW.weightsAll P e l
  | a :: l, d, n, hd, hn => by
    simp only [DataW.weightsAll, List.mem_append]
    rcases List.mem_cons.1 hd with rfl | hd
    · exact .inl hn
    · exact .inr (weights_all hd hn)
instance {α : Type} {P : Program} {T E : TypeId} {bt : Nat} {rep : Rp α} [hu : Und P T (.slice E)] [hr : RdR P E rep] [ht : TyR P E rep] [hb : Byt P E bt] [hz : NeZero bt] : RdR P T (rSlice bt rep) where
  rd h hw := by
    rcases Deep.open_slice hu.h h with ⟨rfl, _⟩ | ⟨a, len, cap, m, n, D, Pl, rfl, _, hlc, hcm, hm, hx, hel⟩
    · exact ⟨[], none, 0, 0, rfl, rfl, Nat.le_refl _, by simp, Nat.zero_le _, fun i x h => by simp at h⟩
    · cases hx
      have hmb : len ≤ m := by rw [hm]; split <;> omega
      have hrb := reach_big
      have hbt1 : 1 ≤ bt := Nat.one_le_iff_ne_zero.2 hz.out
      have hlen1 : len * 1 ≤ len * bt := Nat.mul_le_mul_left _ hbt1
      have hwt := hw ((((List.range len).map D).length + ((List.range (m - len)).map fun j => D (len + j)).length) * P.bytesOf E) (by simp [DataW.weights, hu.h])
      rw [bytes_of hb] at hwt
      simp only [List.length_map, List.length_range] at hwt
      have hlen : len * bt ≤ (len + (m - len)) * bt := Nat.mul_le_mul_right _ (by omega)
      obtain ⟨xs, hxl, hxs⟩ := list_of (n := len) (q := fun i x => PtrTo (heapS _) (a.add (i * rep.sz)) rep x) (fun i hi => by
        obtain ⟨cs', h1, h2⟩ := hel i (by omega)
        obtain ⟨_, hcl, hcs⟩ := World.cells?_some h1
        obtain ⟨x, hx⟩ := hr.rd h2 (fun k hk => hw k (by
          simp only [DataW.weights, hu.h, List.mem_cons, List.mem_append]
          exact .inr (.inl (weights_all (List.mem_map.2 ⟨i, by simpa using hi, rfl⟩) hk))))
        rw [cells_sz ht] at hcs hcl
        refine ⟨x, cs', hx, fun j v hv => heapS_cell ?_⟩
        have hj := (List.getElem?_eq_some_iff.1 hv).1
        rw [hcs j (by omega)]; exact hv)
      refine ⟨xs, some a, len, cap, rfl, hxl, hlc, by omega, by omega, fun i x h => ⟨a, rfl, hxs i x h⟩⟩
instance {P : Program} {T E : TypeId} {n : Nat} [hu : Und P T (.array n E)] [he : Und P E (.int .i64)] [ht : TyR P E rI64] [htt : TyR P T (rArr n)] : RdR P T (rArr n) where
  rd h _ := by
    rename_i cs d ps _
    obtain ⟨xs, m, rfl, _, hcl, hxl, hx⟩ := DataW.trod_array hu.h h
    have hsz : P.cellsOf E = 1 := cells_sz ht
    rw [cells_sz htt] at hcl
    have hcl : cs.length = n := hcl
    obtain ⟨l, hll, hl⟩ := list_of (n := n) (q := fun i (z : Int) => cs[i]? = some (.int .i64 z) ∧ Rng z) (fun i hi => by
      have h1 := hx i hi
      rw [hsz, Nat.mul_one, List.getElem?_eq_getElem (by omega)] at h1
      obtain ⟨z, hz, _, hw⟩ := DataW.trod_int he.h h1
      refine ⟨z, ?_, ?_⟩
      · have : ((cs.drop i).take 1)[0]? = some (.int .i64 z) := by rw [hz]; rfl
        rw [List.getElem?_take, if_pos (by omega), List.getElem?_drop] at this
        simpa using this
      · simp only [Lit.wf, Bool.and_eq_true, decide_eq_true_eq] at hw
        exact hw)
    refine ⟨l, hll, ?_, fun x hx => ?_⟩
    · apply List.ext_getElem?
      intro i
      rw [List.getElem?_map]
      by_cases hi : i < n
      · have hg : l[i]? = some l[i] := List.getElem?_eq_getElem (by omega)
        rw [hg, (hl i _ hg).1]; rfl
      · rw [List.getElem?_eq_none (by omega), List.getElem?_eq_none (by omega)]; rfl
    · obtain ⟨i, hi⟩ := List.getElem?_of_mem hx
      exact (hl i x hi).2
structure RdF {α : Type} (P : Program) (off : Nat) (fs : List Field) (rep : Rp α) : Prop where
  run : ∀ {H : Type} {enc : TypeId × Value → H} {w : World} {base : Nat} {spare : Nat → Bool} {held : Bool} {m : Nat} {cs : List Value} {xs : List (DataW H × List MemPlace)}, cs.length = off + rep.sz → xs.length = fs.length →
    (∀ (i : Nat) (f : Field), fs[i]? = some f → DataW.trod enc P w base spare held m f.type ((cs.drop f.offset).take (P.cellsOf f.type)) = xs[i]?) →
    (∀ n ∈ DataW.weightsEach P (fs.map (·.type)) (xs.map (·.1)), n ≤ reachBytes) → ∃ x, rep.R (heapS w) (cs.drop off) x
theorem RdF.last {α : Type} {P : Program} {off : Nat} {f : Field} {rep : Rp α} (ho : f.offset = off) (hr : RdR P f.type rep) (hs : P.cellsOf f.type = rep.sz) : RdF P off [f] rep := ⟨by
  intro H enc w base spare held m cs xs hc hl hx hw
  match xs, hl with
  | [y], _ =>
    have h1 := hx 0 f rfl
    rw [ho, hs, List.take_of_length_le (by rw [List.length_drop]; omega)] at h1
    refine hr.rd (d := y.1) (ps := y.2) h1 (fun n hn => hw n ?_)
    simp only [List.map_cons, DataW.weightsEach, List.mem_append]
    exact .inl hn⟩
theorem RdF.cons {α β : Type} {P : Program} {off : Nat} {f : Field} {fs : List Field} {a : Rp α} {b : Rp β} (ho : f.offset = off) (hr : RdR P f.type a) (hs : P.cellsOf f.type = a.sz) (h : RdF P (off + a.sz) fs b) : RdF P off (f :: fs) (rSeq a b) := ⟨by
  intro H enc w base spare held m cs xs hc hl hx hw
  match xs, hl with
  | y :: ys, hl =>
    have hc : cs.length = off + (a.sz + b.sz) := hc
    have h1 := hx 0 f rfl
    rw [ho, hs] at h1
    obtain ⟨x1, hx1⟩ := hr.rd (d := y.1) (ps := y.2) h1 (fun n hn => hw n (by
      simp only [List.map_cons, DataW.weightsEach, List.mem_append]
      exact .inl hn))
    obtain ⟨x2, hx2⟩ := h.run (cs := cs) (xs := ys) (by omega) (by simpa using hl) (fun i g hg => hx (i + 1) g hg) (fun n hn => hw n (by
      simp only [List.map_cons, DataW.weightsEach, List.mem_append]
      exact .inr hn))
    refine ⟨(x1, x2), (cs.drop off).take a.sz, cs.drop (off + a.sz), ?_, hx1, hx2⟩
    rw [← List.drop_drop, List.take_append_drop]⟩
theorem RdR.struct {α : Type} {P : Program} {T : TypeId} {fs : Array Field} {rep : Rp α} (hu : P.underlying T = some (.struct fs)) (hs : P.cellsOf T = rep.sz) (h : RdF P 0 fs.toList rep) : RdR P T rep where
  rd ht hw := by
    obtain ⟨xs, n, rfl, hx, hcl, hxl, hel⟩ := DataW.trod_struct hu ht
    cases hx
    obtain ⟨x, hx⟩ := h.run (xs := xs) (by rw [hcl, hs]; omega) (by simpa using hxl) (fun i f hf => hel i f (by simpa using hf)) (fun k hk => hw k (by simpa [DataW.weights, hu] using hk))
    exact ⟨x, by simpa using hx⟩
theorem RdR.map {α γ : Type} {P : Program} {T : TypeId} {a : Rp α} {f : γ → α} (g : α → γ) (hg : ∀ y, f (g y) = y) (h : RdR P T a) : RdR P T (rMap f a) where
  rd ht hw := by
    obtain ⟨x, hx⟩ := h.rd ht hw
    exact ⟨g x, by show a.R _ _ (f (g x)); rw [hg]; exact hx⟩
theorem notAgg_ok {P : Program} {W : World} {base : Nat} {T : TypeId} {v : Value} {d : TypeDesc} (hu : P.underlying T = some d) (ha : isAggD d = false) (h : Value.okWide P W .any base T v) : ∀ cs, v ≠ .agg cs := by
  rintro cs rfl
  unfold Value.okWide at h
  rw [hu] at h
  cases d <;> first | (cases ha; done) | (simp only [Cell.okWide, Cell.ok, hu] at h; done) | (simp [Cell.okWide, Cell.ok, hu] at h)
theorem agg_ok {P : Program} {W : World} {base : Nat} {T : TypeId} {v : Value} {d : TypeDesc} (hu : P.underlying T = some d) (ha : isAggD d = true) (h : Value.okWide P W .any base T v) : ∃ cs, v = .agg cs := by
  unfold Value.okWide at h
  rw [hu] at h
  cases d <;> first | (cases ha; done) | (obtain ⟨cs, h, _⟩ := h; exact ⟨cs, h⟩)
theorem rd_arg {α : Type} {H : Type} {enc : TypeId × Value → H} {P : Program} {W : World} {base : Nat} {T : TypeId} {v : Value} {d : DataW H} {ps : List MemPlace} (rep : Rp α) [ht : TyR P T rep] [hr : RdR P T rep] (hok : Value.okWide P W .any base T v)
    (h : DataW.Trod enc P W 0 (fun _ => true) true T v d ps) (hw : ∀ n ∈ d.weights P T, n ≤ reachBytes) : ∃ x, rep.V (heapS W) v x := by
  obtain ⟨fuel, hf⟩ := h
  obtain ⟨x, hx⟩ := hr.rd hf hw
  obtain ⟨dd, hd, ha⟩ := ht.u
  cases hag : rep.agg with
  | true =>
    obtain ⟨cs, rfl⟩ := agg_ok hd (ha.trans hag) hok
    exact ⟨x, cs.toList, by simpa [Value.cells] using hx, by simp [hag]⟩
  | false =>
    have hn := notAgg_ok hd (ha.trans hag) hok
    have hc : v.cells = #[v] := by cases v <;> first | rfl | exact absurd rfl (hn _)
    rw [hc] at hx
    exact ⟨x, [v], hx, by simp [hag]⟩
theorem sized_arg {H : Type} {P : Program} {ts : List TypeId} {ds : List (DataW H)} (h : (DataW.weightsEach P ts ds).all (· ≤ reachBytes) = true) {j : Nat} {t : TypeId} {d : DataW H} (ht : ts[j]? = some t) (hd : ds[j]? = some d) : ∀ n ∈ d.weights P t, n ≤ reachBytes := fun n hn => by
  have := List.all_eq_true.1 h _ (DataW.weights_mem_each ht hd n hn)
  simpa using this
theorem FnV.calls {P : Program} {f : FuncId} {args : Array Value} {r : Value} {W : World} (h : FnV P f args (heapS W) r) : Calls P f args W fun e W' => e = .returned r ∧ Below W.heap.size W W' := by
  refine (h W (agree_heapS W) (by simp) .nil (by simp)).mono ?_
  rintro e w' ⟨v, S', M', rfl, hw, rfl, rfl⟩
  exact ⟨rfl, hw.below⟩
end Go.Dr
namespace Go.Dr
open Go.Proofs
set_option maxRecDepth 20000
instance : RdR Tryz.prog 52 rLabel := RdR.map (fun y => ⟨y.1, y.2⟩) (fun _ => rfl) (RdR.struct Tryz.underlying52 (by kernel_rfl) (RdF.cons rfl (show RdR Tryz.prog 9 rStr from inferInstance) (by kernel_rfl) (RdF.last rfl (show RdR Tryz.prog 9 rStr from inferInstance) (by kernel_rfl))))
instance : RdR Tryz.prog 59 rTerm := RdR.map (fun y => ⟨y.1, y.2.1, y.2.2⟩) (fun _ => rfl) (RdR.struct Tryz.underlying59 (by kernel_rfl) (RdF.cons rfl (show RdR Tryz.prog 3 rI64 from inferInstance) (by kernel_rfl) (RdF.cons rfl (show RdR Tryz.prog 9 rStr from inferInstance) (by kernel_rfl) (RdF.last rfl (show RdR Tryz.prog 9 rStr from inferInstance) (by kernel_rfl)))))
instance : RdR Tryz.prog 62 rNear := RdR.map (fun y => ⟨y.1, y.2⟩) (fun _ => rfl) (RdR.struct Tryz.underlying62 (by kernel_rfl) (RdF.cons rfl (show RdR Tryz.prog 9 rStr from inferInstance) (by kernel_rfl) (RdF.last rfl (show RdR Tryz.prog 60 (rSlice 40 rTerm) from inferInstance) (by kernel_rfl))))
instance : RdR Tryz.prog 57 rNode := RdR.map (fun y => ⟨y.1, y.2.1, y.2.2.1, y.2.2.2.1, y.2.2.2.2.1, y.2.2.2.2.2⟩) (fun _ => rfl) (RdR.struct Tryz.underlying57 (by kernel_rfl) (RdF.cons rfl (show RdR Tryz.prog 9 rStr from inferInstance) (by kernel_rfl) (RdF.cons rfl (show RdR Tryz.prog 55 (rArr 5) from inferInstance) (by kernel_rfl) (RdF.cons rfl (show RdR Tryz.prog 53 (rSlice 32 rLabel) from inferInstance) (by kernel_rfl) (RdF.cons rfl (show RdR Tryz.prog 53 (rSlice 32 rLabel) from inferInstance) (by kernel_rfl) (RdF.cons rfl (show RdR Tryz.prog 4 rBool from inferInstance) (by kernel_rfl) (RdF.last rfl (show RdR Tryz.prog 4 rBool from inferInstance) (by kernel_rfl))))))))
instance : RdR Tryz.prog 64 rPod := RdR.map (fun y => ⟨y.1, y.2.1, y.2.2.1, y.2.2.2.1, y.2.2.2.2.1, y.2.2.2.2.2.1, y.2.2.2.2.2.2.1, y.2.2.2.2.2.2.2.1, y.2.2.2.2.2.2.2.2⟩) (fun _ => rfl) (RdR.struct Tryz.underlying64 (by kernel_rfl) (RdF.cons rfl (show RdR Tryz.prog 9 rStr from inferInstance) (by kernel_rfl) (RdF.cons rfl (show RdR Tryz.prog 9 rStr from inferInstance) (by kernel_rfl) (RdF.cons rfl (show RdR Tryz.prog 55 (rArr 5) from inferInstance) (by kernel_rfl) (RdF.cons rfl (show RdR Tryz.prog 53 (rSlice 32 rLabel) from inferInstance) (by kernel_rfl) (RdF.cons rfl (show RdR Tryz.prog 60 (rSlice 40 rTerm) from inferInstance) (by kernel_rfl) (RdF.cons rfl (show RdR Tryz.prog 53 (rSlice 32 rLabel) from inferInstance) (by kernel_rfl) (RdF.cons rfl (show RdR Tryz.prog 62 rNear from inferInstance) (by kernel_rfl) (RdF.cons rfl (show RdR Tryz.prog 62 rNear from inferInstance) (by kernel_rfl) (RdF.last rfl (show RdR Tryz.prog 9 rStr from inferInstance) (by kernel_rfl)))))))))))
instance : RdR Tryz.prog 48 rOwner := RdR.map (fun y => ⟨y.1, y.2.1, y.2.2.1, y.2.2.2.1, y.2.2.2.2⟩) (fun _ => rfl) (RdR.struct Tryz.underlying48 (by kernel_rfl) (RdF.cons rfl (show RdR Tryz.prog 9 rStr from inferInstance) (by kernel_rfl) (RdF.cons rfl (show RdR Tryz.prog 3 rI64 from inferInstance) (by kernel_rfl) (RdF.cons rfl (show RdR Tryz.prog 9 rStr from inferInstance) (by kernel_rfl) (RdF.cons rfl (show RdR Tryz.prog 3 rI64 from inferInstance) (by kernel_rfl) (RdF.last rfl (show RdR Tryz.prog 4 rBool from inferInstance) (by kernel_rfl)))))))
instance : RdR Tryz.prog 26 rSnap := RdR.map (fun y => ⟨y.1, y.2.1, y.2.2⟩) (fun _ => rfl) (RdR.struct Tryz.underlying26 (by kernel_rfl) (RdF.cons rfl (show RdR Tryz.prog 22 (rSlice 112 rNode) from inferInstance) (by kernel_rfl) (RdF.cons rfl (show RdR Tryz.prog 23 (rSlice 240 rPod) from inferInstance) (by kernel_rfl) (RdF.last rfl (show RdR Tryz.prog 24 (rSlice 56 rOwner) from inferInstance) (by kernel_rfl)))))
instance : RdR Tryz.prog 74 rStep := RdR.map (fun y => ⟨y.1, y.2.1, y.2.2⟩) (fun _ => rfl) (RdR.struct Tryz.underlying74 (by kernel_rfl) (RdF.cons rfl (show RdR Tryz.prog 3 rI64 from inferInstance) (by kernel_rfl) (RdF.cons rfl (show RdR Tryz.prog 3 rI64 from inferInstance) (by kernel_rfl) (RdF.last rfl (show RdR Tryz.prog 3 rI64 from inferInstance) (by kernel_rfl)))))
instance : RdR Tryz.prog 40 rClause := RdR.map (fun y => ⟨y.1, y.2.1, y.2.2.1, y.2.2.2⟩) (fun _ => rfl) (RdR.struct Tryz.underlying40 (by kernel_rfl) (RdF.cons rfl (show RdR Tryz.prog 3 rI64 from inferInstance) (by kernel_rfl) (RdF.cons rfl (show RdR Tryz.prog 3 rI64 from inferInstance) (by kernel_rfl) (RdF.cons rfl (show RdR Tryz.prog 3 rI64 from inferInstance) (by kernel_rfl) (RdF.last rfl (show RdR Tryz.prog 3 rI64 from inferInstance) (by kernel_rfl))))))
end Go.Dr
namespace Go.Dr
def findC (l : List Clause) (c : Clause) : Int := match l.find? (isC c.kind c.a c.b) with | some d => d.by_ | none => 0
def worseF (l : List Clause) (c : Clause) : Bool := decide (findC l c < c.by_)
def worseV (s : Snap) (p q : List Int) : List Clause × Int :=
  if ¬ checkP s p = 0 then ([], checkP s p) else if ¬ checkP s q = 0 then ([], checkP s q) else ((allL s q).filter (worseF (allL s p)), 0)
def weight (c : Clause) : Int := if c.kind = 1 then min c.by_ 1 else c.by_
def sumC (l : List Clause) : Int := (l.map weight).sum
def sumV (s : Snap) (p : List Int) : Int := sumC (allL s p)
def safeB (s : Snap) (p : List Int) : Bool := decide (checkP s p = 0) && decide (sumV s p = 0)
end Go.Dr
namespace Go.Dr
open Go.Proofs
set_option maxRecDepth 20000
set_option maxHeartbeats 2000000
set_option linter.unusedSimpArgs false
set_option linter.unusedVariables false
theorem allC_rng {s : Snap} {p : List Int} (hok : checkP s p = 0) : (allC s p).length ≤ 400 ∧ ∀ c ∈ allC s p, 0 ≤ c.by_ ∧ c.by_ ≤ Qty := by
  obtain ⟨hs, hlen, hodd⟩ := checkP_ok hok
  have hsh := (checkS_ok hs).1
  obtain ⟨hn8, hp24, ho8⟩ := shaped_small hsh
  obtain ⟨hwl, htl⟩ := shaped_lists hsh
  have hof := of8_rng (s := s) (p := p) (by omega) hwl htl
  constructor
  · unfold allC
    have h1 : (capsC s p).length ≤ 40 := by unfold capsC; rw [capTo_len]; omega
    have h2 := kindsTo_len s p 5
    have h3 := spreadTo_len s p s.owners.length
    have h4 := minTo_len s p s.owners.length
    simp only [List.length_append]
    omega
  · intro c hc
    unfold allC at hc
    simp only [List.mem_append] at hc
    rcases hc with ((hc | hc) | hc) | hc
    · unfold capsC capTo at hc
      simp only [List.range_zero, List.map_nil, List.append_nil, List.mem_flatMap, List.mem_range, List.mem_map] at hc
      obtain ⟨n, hn, k, hk, rfl⟩ := hc
      obtain ⟨hul, hur⟩ := used_fine hs hlen (n : Int)
      have hu : 0 ≤ at0 (usedV s p n) k ∧ at0 (usedV s p n) k ≤ Qty := by
        have : (usedV s p n)[k]? = some ((usedV s p n)[k]'(by omega)) := List.getElem?_eq_getElem (by omega)
        rw [at0_some this]
        exact hur _ (List.getElem_mem _)
      have hcp : 0 ≤ at0 (capOf s n) k := by
        unfold at0
        rw [List.getD_eq_getElem?_getD]
        cases h : (capOf s n)[k]? with
        | none => simp
        | some y =>
          unfold capOf at h
          obtain ⟨x, hx⟩ : ∃ x, s.nodes[n]? = some x := ⟨_, List.getElem?_eq_getElem hn⟩
          rw [hx] at h
          exact (shaped_cap hsh x (List.mem_of_getElem? hx) y (List.mem_of_getElem? h)).1
      simp only [capN]
      unfold Qty at *
      omega
    · unfold kindsTo podsTo at hc
      simp only [List.mem_flatMap, List.mem_range] at hc
      obtain ⟨t, _, i, _, hc⟩ := hc
      unfold podC1 at hc
      split at hc
      · simp only [List.mem_singleton] at hc
        subst hc
        have := hof ((t : Int) + 2) i
        simp only [Qty]; omega
      · cases hc
    · unfold spreadTo at hc
      simp only [List.mem_flatMap, List.mem_range] at hc
      obtain ⟨o, ho, hc⟩ := hc
      unfold spreadC1 at hc
      split at hc
      · cases hc
      · simp only [List.mem_singleton] at hc
        subst hc
        obtain ⟨ow, how⟩ : ∃ ow, s.owners[o]? = some ow := ⟨_, List.getElem?_eq_getElem ho⟩
        have hsr := shaped_owner hsh ow (List.mem_of_getElem? how)
        have := skewV_rng (o := o) (p := p) (s := s) (by omega) hlen (by omega) (by simp [skewOf, how]; omega)
        simp only [Qty]; omega
    · unfold minTo at hc
      simp only [List.mem_map, List.mem_range] at hc
      obtain ⟨o, ho, rfl⟩ := hc
      obtain ⟨ow, how⟩ : ∃ ow, s.owners[o]? = some ow := ⟨_, List.getElem?_eq_getElem ho⟩
      have hsr := shaped_owner hsh ow (List.mem_of_getElem? how)
      have hplr := placed_rng (s := s) (p := p) (o := o) hlen
      have hmo : minOf s o = ow.min := by simp [minOf, how]
      simp only [minC1, hmo, Qty]; omega
theorem allL_rng (s : Snap) (p : List Int) : (allL s p).length ≤ 400 ∧ ∀ c ∈ allL s p, 0 ≤ c.by_ ∧ c.by_ ≤ Qty := by
  unfold allL
  split
  · rename_i h; exact allC_rng h
  · simp
theorem sum_take_rng {l : List Clause} (h : ∀ c ∈ l, 0 ≤ c.by_ ∧ c.by_ ≤ Qty) : ∀ k, 0 ≤ sumC (l.take k) ∧ sumC (l.take k) ≤ Qty * k
  | 0 => by simp [sumC]
  | k + 1 => by
    have ih := sum_take_rng h k
    rw [List.take_add_one]
    cases hx : l[k]? with
    | none => simp only [Option.toList_none, List.append_nil]; unfold Qty at *; omega
    | some x =>
      have hx' := h x (List.mem_of_getElem? hx)
      unfold sumC at *
      simp only [Option.toList_some, List.map_append, List.sum_append, List.map_cons, List.map_nil, List.sum_cons, List.sum_nil]
      unfold weight Qty at *
      split <;> omega
theorem sumC_step {l : List Clause} {k : Nat} {x : Clause} (hx : l[k]? = some x) : sumC (l.take (k + 1)) = sumC (l.take k) + weight x := by
  unfold sumC
  rw [List.take_add_one, hx]; simp
theorem s76_L9r {P K : Prop} (k : K) (h : Goal K → P := by
  intro zk
  (first | refine Walk ?_ | refine JC.block ?_ | refine JC.drawN 4 rfl [0, 1, 2, 3, 4, 5, 6, 7, 8, 9, 10, 11, 12, 13, 14, 15, 16, 17, 18, 19, 20, 21, 22, 23, 24, 25, 26, 27] [0, 1, 2, 3, 4, 5, 6, 7, 8, 9, 10, 11, 12, 13, 14, 15, 16, 17, 18, 19, 20, 21, 22, 23, 24, 25, 26, 27] Tryz_mixed (by decide +kernel) ?_ | (refine WBox ?_))
  (repeat (first | revert zqg | revert zqf | revert zqe | revert zqd | revert zqc | revert zqb | revert zqa))
  exact zk.k) : P := h ⟨k⟩
theorem r9_find {S : SHeap} {u v : Value} {L : List Clause} {c : Clause} (hu : (rSlice 32 rClause).V S u L) (hv : rClause.V S v c) : FnV Tryz.prog 76 #[u, v] S (.int .i64 (findC L c)) := by
  obtain ⟨a0, c0, rfl, _, _, hb, _⟩ := V_slice.1 hu
  unfold big at hb
  (refine Fn.enter (args := [.slice a0 L.length c0, v]) Tryz.func76 rfl Tryz.ntmps76 rfl ?_; intro w0)
  repeat (refine s76_L9r ?_; intros)
  unfold findC
  refine JC.loopF0 [(0, _), (3, _)] (fun (k : Nat) => [(5, .int .i64 k)]) (fun Sk k => k ≤ L.length ∧ ((L.drop k).find? (isC c.kind c.a c.b) = L.find? (isC c.kind c.a c.b))) (fun k => L.length - k) 0 (by exact sba) (by exact sba) ⟨Nat.zero_le _, rfl⟩ ?_; intro Sk k hlk hik; obtain ⟨hk, hik⟩ := hik; (try dsimp only at hk hik); dsimp only [List.cons_append, List.nil_append]
  repeat (refine s76_L9r ?_; intros)
  refine JC.cond rfl (fun hc => ?_) (fun hc => ?_)
  · have hk' := dlt hc
    obtain ⟨x, hx, hd⟩ := drop_at hk'
    rw [hd, List.find?_cons] at hik
    repeat' (first | (refine s76_L9r ?_; intros) | (refine JO.guard rfl rfl rfl rfl ?_ ?_ <;> intro _) | (refine JC.cond rfl ?_ ?_ <;> intro _))
    all_goals first
      | ((refine JX.ret1 Tryz.results76 (ResV.tmp rfl) (List.nil_sublist _) ?_); have hx : isC c.kind c.a c.b x = true := (by simp [isC, *]); rw [hx] at hik; exact ⟨rfl, by rw [← hik]⟩)
      | (exfalso; simp_all; done)
      | (have hx : isC c.kind c.a c.b x = false := (by simp_all [isC]); rw [hx] at hik; exact JX.roundF (k + 1) (by exact lea) ⟨by omega, hik⟩ (by (try dsimp only); omega) rfl (by exact sba) (by exact sba))
  · have hk' := dnlt hc
    rw [List.drop_eq_nil_of_le hk'] at hik
    repeat (refine s76_L9r ?_; intros)
    (refine JX.ret1 Tryz.results76 (ResV.tmp rfl) (List.nil_sublist _) ?_)
    exact ⟨rfl, by rw [← hik]; rfl⟩
theorem s38_L9r {P K : Prop} (k : K) (h : Goal K → P := by
  intro zk
  (first | refine Walk ?_ | refine JC.block ?_ | (refine JO.eff rfl rfl rfl (JEff.callLE rfl (r8_All (by exact vta) (by exact vta)) rfl ?_); intro zqa zqb zqc zqd zqe zqf) | (refine WBox ?_))
  (repeat (first | revert zqg | revert zqf | revert zqe | revert zqd | revert zqc | revert zqb | revert zqa))
  exact zk.k) : P := h ⟨k⟩
theorem r9_Sum {S : SHeap} {u v : Value} {s : Snap} {p : List Int} (hu : rSnap.V S u s) (hv : (rSlice 8 rI64).V S v p) : FnV Tryz.prog 38 #[u, v] S (.tuple #[.int .i64 (sumV s p), .int .i64 (checkP s p)]) := by
  (refine Fn.enter (args := [u, v]) Tryz.func38 rfl Tryz.ntmps38 rfl ?_; intro w0)
  repeat (refine s38_L9r ?_; intros)
  obtain ⟨hL, hR⟩ := allL_rng s p
  unfold sumV
  generalize allL s p = L at *
  refine JC.loopF0 [(6, _), (7, _)] (fun (k : Nat) => [(8, .int .i64 (sumC (L.take k))), (9, .int .i64 k)]) (fun Sk k => k ≤ L.length ∧ (True)) (fun k => L.length - k) 0 (by exact sba) (by exact sba) ⟨Nat.zero_le _, trivial⟩ ?_; intro Sk k hlk hik; obtain ⟨hk, hik⟩ := hik; (try dsimp only at hk hik); dsimp only [List.cons_append, List.nil_append]
  repeat (refine s38_L9r ?_; intros)
  refine JC.cond rfl (fun hc => ?_) (fun hc => ?_)
  · have hk' := dlt hc
    obtain ⟨x, hx, hd⟩ := drop_at hk'
    have hst := sumC_step hx
    have hxr := hR x (List.mem_of_getElem? hx)
    have hsr := sum_take_rng hR k
    unfold Qty at hxr hsr
    repeat (refine s38_L9r ?_; intros)
    refine JC.cond rfl (fun h1 => ?_) (fun h1 => ?_)
    · have h1 := of_decide_eq_true h1
      rw [weight, if_pos h1] at hst
      repeat (refine s38_L9r ?_; intros)
      (refine JX.roundF (k + 1) (by exact lea) ⟨by omega, (trivial)⟩ (by (try dsimp only); omega) rfl ?_ (by exact sba); (try dsimp only); rw [hst]; exact sba; done)
    · have h1 := of_decide_eq_false h1
      rw [weight, if_neg h1] at hst
      repeat (refine s38_L9r ?_; intros)
      (refine JX.roundF (k + 1) (by exact lea) ⟨by omega, (trivial)⟩ (by (try dsimp only); omega) rfl ?_ (by exact sba); (try dsimp only); rw [hst]; exact sba; done)
  · have hk' := dnlt hc
    rw [List.take_of_length_le hk']
    repeat (refine s38_L9r ?_; intros)
    (refine JX.ret2 Tryz.results38 (ResV.tmp rfl) (ResV.tmp rfl) (List.nil_sublist _) ?_)
    exact ⟨rfl, rfl⟩
theorem r9_Safe {S : SHeap} {u v : Value} {s : Snap} {p : List Int} (hu : rSnap.V S u s) (hv : (rSlice 8 rI64).V S v p) : FnV Tryz.prog 34 #[u, v] S (.tuple #[.bool (safeB s p), .int .i64 (checkP s p)]) := by
  (refine Fn.enter (args := [u, v]) Tryz.func34 rfl Tryz.ntmps34 rfl ?_; intro w0)
  repeat' (first | (refine Walk ?_; intros) | refine JC.block ?_ | (refine JO.eff rfl rfl rfl (JEff.callV rfl (r9_Sum (by exact vta) (by exact vta)) rfl ?_); intro _ _) | (refine WBox ?_; intros) | (refine JO.guard rfl rfl rfl rfl ?_ ?_ <;> intro _) | (refine JC.cond rfl ?_ ?_ <;> intro _))
  all_goals ((refine JX.ret2 Tryz.results34 (ResV.tmp rfl) (ResV.tmp rfl) (List.nil_sublist _) ?_); refine ⟨rfl, ?_⟩; unfold safeB; simp [*])
theorem s36_L9r {P K : Prop} (k : K) (h : Goal K → P := by
  intro zk
  (first | refine Walk ?_ | refine JC.block ?_ | refine JC.drawN 11 rfl [0, 1, 2, 3, 4, 5, 6, 7, 8, 9, 10, 11] [5, 6, 7, 8, 9, 11] Tryz_mixed (by decide +kernel) ?_ | (refine JO.eff rfl rfl rfl (JEff.callLE rfl (r8_All (by exact vta) (by exact vta)) rfl ?_); intro zqa zqb zqc zqd zqe zqf) | (refine JO.eff rfl rfl rfl (JEff.callV rfl (r9_find (by exact vta) (by exact vta)) rfl ?_); intro zqa zqb) | (refine WBox ?_))
  (repeat (first | revert zqg | revert zqf | revert zqe | revert zqd | revert zqc | revert zqb | revert zqa))
  exact zk.k) : P := h ⟨k⟩
theorem r9_Worse {S : SHeap} {u v v2 : Value} {s : Snap} {p q : List Int} (hu : rSnap.V S u s) (hv : (rSlice 8 rI64).V S v p) (hv2 : (rSlice 8 rI64).V S v2 q) : FnLE Tryz.prog 36 #[u, v, v2] S 32 rClause (worseV s p q).1 (.int .i64 (worseV s p q).2) := by
  (refine Fn.enter (args := [u, v, v2]) Tryz.func36 rfl Tryz.ntmps36 rfl ?_; intro w0)
  repeat (refine s36_L9r ?_; intros)
  refine JC.cond rfl (fun h1 => ?_) (fun h1 => ?_)
  · have h1 : ¬ checkP s p = 0 := by simpa using h1
    repeat (refine s36_L9r ?_; intros)
    (refine JX.ret2 Tryz.results36 (ResV.tmp rfl) (ResV.tmp rfl) (List.nil_sublist _) ?_)
    unfold worseV
    rw [if_pos h1]
    exact ⟨rfl, _, rfl, V_nil⟩
  have h1 : ¬ ¬ checkP s p = 0 := by simpa using h1
  repeat (refine s36_L9r ?_; intros)
  refine JC.cond rfl (fun h2 => ?_) (fun h2 => ?_)
  · have h2 : ¬ checkP s q = 0 := by simpa using h2
    repeat (refine s36_L9r ?_; intros)
    (refine JX.ret2 Tryz.results36 (ResV.tmp rfl) (ResV.tmp rfl) (List.nil_sublist _) ?_)
    unfold worseV
    rw [if_neg h1, if_pos h2]
    exact ⟨rfl, _, rfl, V_nil⟩
  have h2 : ¬ ¬ checkP s q = 0 := by simpa using h2
  unfold worseV
  rw [if_neg h1, if_neg h2]
  generalize allL s p = LA at *
  generalize hL : allL s q = L at *
  have hb32 := slice_bytes (by assumption : (rSlice 32 rClause).V _ _ L)
  unfold big at hb32
  repeat (refine s36_L9r ?_; intros)
  (first | refine JC.newRow 40 (Rp.sz rClause) ?_ | refine JO.newRow 40 (Rp.sz rClause) ?_ | refine JX.newRow 40 (Rp.sz rClause) ?_)
  refine JC.loopF (σ := Nat × Option Addr × Nat × List Value) [(8, _), (10, _)] (fun q => [(12, .slice q.2.1 ((fun k => (L.take k).filter (worseF LA)) q.1).length q.2.2.1), (13, ((fun k => .int .i64 k) q.1))]) (fun q => [.row w0.heap.size 40 (Rp.sz rClause) (.slice q.2.1 ((fun k => (L.take k).filter (worseF LA)) q.1).length q.2.2.1) ((fun k => (L.take k).filter (worseF LA)) q.1).length (flatCells q.2.2.2)]) (fun Sk q => q.1 ≤ L.length ∧ allV rClause Sk q.2.2.2 ((fun k => (L.take k).filter (worseF LA)) q.1) ∧ ((fun k => True) q.1)) (fun q => L.length - q.1) (0, none, 0, []) (by exact sba) (by exact sba) (by first | rfl | simp) (⟨Nat.zero_le _, trivial, trivial⟩) ?_; rintro Sk ⟨k, rak, rck, vsk⟩ hlk ⟨hk, hvk, hik⟩; (try dsimp only at hk hvk hik); dsimp only [List.cons_append, List.nil_append]
  have hfl := filter_len L (worseF LA) k
  repeat (refine s36_L9r ?_; intros)
  refine JC.cond rfl (fun hc => ?_) (fun hc => ?_)
  · have hk' := dlt hc
    obtain ⟨x, hx, _⟩ := drop_at hk'
    have hst := filter_step (f := worseF LA) hx
    repeat (refine s36_L9r ?_; intros)
    refine JC.cond rfl (fun hf => ?_) (fun hf => ?_)
    · rw [show worseF LA x = true from hf, if_pos rfl] at hst
      repeat (refine s36_L9r ?_; intros)
      (refine JO.eff rfl rfl rfl (JEff.build (rep := rClause) (ys := [x]) rfl rfl ⟨⟨((by exact vta)), nna⟩, trivial⟩ rfl rfl rfl rfl ?_); intro bb hbb hvv); (repeat (first | (refine Walk ?_; intros) | refine JC.block ?_)); (refine JO.eff rfl rfl rfl (JEff.appendL (rep := rClause) rfl rfl rfl rfl (List.Perm.swap _ _ _) (by exact hvv.flat) (by intro c hc; exact flat_one (fun v hv => (hvv.size v hv).2) c hc) (by first | omega | (unfold big; omega)) (by unfold big; omega) (by first | exact rowT_ok | (intro l hl; cases hl)) rfl ?_); intro a2 c2; clear hvv hbb)
      repeat (refine s36_L9r ?_; intros)
      exact JX.roundF (k + 1, a2, c2, vsk ++ [_]) (by exact lea) ⟨by omega, by (try dsimp only); rw [hst]; exact allV_add (by exact lea) hvk (by assumption) nna, trivial⟩ (by (try dsimp only); omega) (by (try dsimp only); rw [hst]; (simp [flat_append] <;> omega)) (by (try dsimp only); rw [hst]; simp only [List.length_append, List.length_cons, List.length_nil]; exact sba) (by exact sba)
    · rw [show worseF LA x = false from hf, if_neg (by simp), List.append_nil] at hst
      repeat (refine s36_L9r ?_; intros)
      exact JX.roundF (k + 1, rak, rck, vsk) (by exact lea) ⟨by omega, by (try dsimp only); rw [hst]; exact hvk.mono (by exact lea), (trivial)⟩ (by (try dsimp only); omega) (by (try dsimp only); rw [hst]) (by (try dsimp only); rw [hst]; exact sba) (by exact sba)
  · have hk' := dnlt hc
    rw [List.take_of_length_le hk'] at hvk hfl ⊢
    repeat (refine s36_L9r ?_; intros)
    refine JX.freezeRow (rep := rClause) (bt := 32) hvk rfl (by unfold big; omega) (by unfold big; omega) (fun S9 hl9 hV9 => ?_)
    (refine JX.ret2 Tryz.results36 (ResV.tmp rfl) (ResV.tmp rfl) (List.nil_sublist _) ?_)
    exact ⟨rfl, _, rfl, hV9⟩
end Go.Dr
namespace Go.Dr
def ltC (c d : Clause) : Prop := c.kind < d.kind ∨ (c.kind = d.kind ∧ (c.a < d.a ∨ (c.a = d.a ∧ c.b < d.b)))
theorem pw_flat {f : Nat → List Clause} {R : Clause → Clause → Prop} : ∀ {n : Nat}, (∀ i, i < n → (f i).Pairwise R) → (∀ i j, i < j → j < n → ∀ x ∈ f i, ∀ y ∈ f j, R x y) → ((List.range n).flatMap f).Pairwise R
  | 0, _, _ => by simp
  | n + 1, h1, h2 => by
    rw [List.range_succ, List.flatMap_append]
    refine List.pairwise_append.2 ⟨pw_flat (fun i hi => h1 i (by omega)) (fun i j hij hj => h2 i j hij (by omega)), by simpa using h1 n (by omega), ?_⟩
    intro x hx y hy
    obtain ⟨i, hi, hxi⟩ := List.mem_flatMap.1 hx
    have hi : i < n := by simpa using hi
    exact h2 i n hi (by omega) x hxi y (by simpa using hy)
theorem mem_pods {s : Snap} {p : List Int} {kind : Int} {n : Nat} {c : Clause} (h : c ∈ podsTo s p kind n) : ∃ i, i < n ∧ c = ⟨kind, i, 0, (of8 s p kind i).1⟩ ∧ (of8 s p kind i).2 = true := by
  obtain ⟨i, hi, hc⟩ := List.mem_flatMap.1 h
  unfold podC1 at hc
  split at hc
  · rename_i h1
    exact ⟨i, by simpa using hi, by simpa using hc, h1⟩
  · simp at hc
theorem mem_caps {s : Snap} {p : List Int} {c : Clause} (h : c ∈ capsC s p) : ∃ n k, n < s.nodes.length ∧ k < 5 ∧ c = capN s p n k := by
  unfold capsC capTo at h
  simp only [List.range_zero, List.map_nil, List.append_nil] at h
  obtain ⟨n, hn, hc⟩ := List.mem_flatMap.1 h
  obtain ⟨k, hk, rfl⟩ := List.mem_map.1 hc
  exact ⟨n, k, by simpa using hn, by simpa using hk, rfl⟩
theorem mem_kinds {s : Snap} {p : List Int} {c : Clause} {j : Nat} (h : c ∈ kindsTo s p j) : ∃ t i, t < j ∧ i < p.length ∧ c = ⟨(t : Int) + 2, i, 0, (of8 s p ((t : Int) + 2) i).1⟩ ∧ (of8 s p ((t : Int) + 2) i).2 = true := by
  obtain ⟨t, ht, hc⟩ := List.mem_flatMap.1 h
  obtain ⟨i, hi, hc, h2⟩ := mem_pods hc
  exact ⟨t, i, by simpa using ht, hi, hc, h2⟩
theorem mem_spread {s : Snap} {p : List Int} {c : Clause} {n : Nat} (h : c ∈ spreadTo s p n) : ∃ o, o < n ∧ c = ⟨7, o, 0, skewV s p o⟩ ∧ topoOf s o ≠ noS := by
  obtain ⟨o, ho, hc⟩ := List.mem_flatMap.1 h
  unfold spreadC1 at hc
  split at hc
  · simp at hc
  · rename_i h1
    exact ⟨o, by simpa using ho, by simpa using hc, h1⟩
theorem mem_min {s : Snap} {p : List Int} {c : Clause} {n : Nat} (h : c ∈ minTo s p n) : ∃ o, o < n ∧ c = minC1 s p o := by
  obtain ⟨o, ho, hc⟩ := List.mem_map.1 h
  exact ⟨o, by simpa using ho, hc.symm⟩
theorem allC_order (s : Snap) (p : List Int) : (allC s p).Pairwise ltC := by
  have h1 : (capsC s p).Pairwise ltC := by
    unfold capsC capTo
    simp only [List.range_zero, List.map_nil, List.append_nil]
    refine pw_flat (fun n _ => ?_) (fun i j hij hj x hx y hy => ?_)
    · refine List.pairwise_map.2 (List.Pairwise.imp ?_ List.pairwise_lt_range)
      intro a b hab
      exact .inr ⟨rfl, .inr ⟨rfl, by show (a : Int) < b; omega⟩⟩
    · obtain ⟨a, _, rfl⟩ := List.mem_map.1 hx
      obtain ⟨b, _, rfl⟩ := List.mem_map.1 hy
      exact .inr ⟨rfl, .inl (by show (i : Int) < j; omega)⟩
  have h2 : (kindsTo s p 5).Pairwise ltC := by
    refine pw_flat (fun t _ => ?_) (fun i j hij hj x hx y hy => ?_)
    · refine pw_flat (fun i _ => ?_) (fun i j hij hj x hx y hy => ?_)
      · unfold podC1; split <;> simp
      · unfold podC1 at hx hy
        split at hx <;> split at hy <;> first | (simp at hx; done) | (simp at hy; done) | skip
        simp only [List.mem_singleton] at hx hy
        subst hx; subst hy
        exact .inr ⟨rfl, .inl (by show (i : Int) < j; omega)⟩
    · obtain ⟨a, _, rfl, _⟩ := mem_pods hx
      obtain ⟨b, _, rfl, _⟩ := mem_pods hy
      exact .inl (by show (i : Int) + 2 < (j : Int) + 2; omega)
  have h3 : (spreadTo s p s.owners.length).Pairwise ltC := by
    refine pw_flat (fun o _ => ?_) (fun i j hij hj x hx y hy => ?_)
    · unfold spreadC1; split <;> simp
    · unfold spreadC1 at hx hy
      split at hx <;> split at hy <;> first | (simp at hx; done) | (simp at hy; done) | skip
      simp only [List.mem_singleton] at hx hy
      subst hx; subst hy
      exact .inr ⟨rfl, .inl (by show (i : Int) < j; omega)⟩
  have h4 : (minTo s p s.owners.length).Pairwise ltC := by
    refine List.pairwise_map.2 (List.Pairwise.imp ?_ List.pairwise_lt_range)
    intro a b hab
    exact .inr ⟨rfl, .inl (by show (a : Int) < b; omega)⟩
  unfold allC
  refine List.pairwise_append.2 ⟨List.pairwise_append.2 ⟨List.pairwise_append.2 ⟨h1, h2, ?_⟩, h3, ?_⟩, h4, ?_⟩
  · intro x hx y hy
    obtain ⟨n, k, _, _, rfl⟩ := mem_caps hx
    obtain ⟨t, i, _, _, rfl, _⟩ := mem_kinds hy
    exact .inl (by show (1 : Int) < (t : Int) + 2; omega)
  · intro x hx y hy
    obtain ⟨o, _, rfl, _⟩ := mem_spread hy
    rcases List.mem_append.1 hx with hx | hx
    · obtain ⟨n, k, _, _, rfl⟩ := mem_caps hx
      exact .inl (by show (1 : Int) < 7; omega)
    · obtain ⟨t, i, _, _, rfl, _⟩ := mem_kinds hx
      exact .inl (by show (t : Int) + 2 < 7; omega)
  · intro x hx y hy
    obtain ⟨o, _, rfl⟩ := mem_min hy
    rcases List.mem_append.1 hx with hx | hx
    · rcases List.mem_append.1 hx with hx | hx
      · obtain ⟨n, k, _, _, rfl⟩ := mem_caps hx
        exact .inl (by show (1 : Int) < 8; omega)
      · obtain ⟨t, i, _, _, rfl, _⟩ := mem_kinds hx
        exact .inl (by show (t : Int) + 2 < 8; omega)
    · obtain ⟨o', _, rfl, _⟩ := mem_spread hx
      exact .inl (by show (7 : Int) < 8; omega)
theorem allL_order (s : Snap) (p : List Int) : (allL s p).Pairwise ltC := by
  unfold allL
  split
  · exact allC_order s p
  · exact .nil
def nameC (c : Clause) : Int × Int × Int := (c.kind, c.a, c.b)
theorem ltC_name {c d : Clause} (h : ltC c d) : nameC c ≠ nameC d := by
  intro e
  simp only [nameC, Prod.mk.injEq] at e
  unfold ltC at h
  omega
theorem allL_names (s : Snap) (p : List Int) : (allL s p).Pairwise (fun c d => nameC c ≠ nameC d) := (allL_order s p).imp ltC_name
theorem isC_name (c d : Clause) : isC c.kind c.a c.b d = decide (nameC d = nameC c) := by
  unfold isC nameC
  rw [Bool.eq_iff_iff]
  simp [and_assoc]
theorem find_self {l : List Clause} (h : l.Pairwise (fun c d => nameC c ≠ nameC d)) {c : Clause} (hc : c ∈ l) : l.find? (isC c.kind c.a c.b) = some c := by
  induction l with
  | nil => cases hc
  | cons x l ih =>
    obtain ⟨h1, h2⟩ := List.pairwise_cons.1 h
    rw [List.find?_cons, isC_name]
    rcases List.mem_cons.1 hc with rfl | hc
    · simp
    · have := h1 c hc
      rw [decide_eq_false this]
      exact ih h2 hc
end Go.Dr
namespace Go.Dr
set_option linter.unusedSimpArgs false
set_option linter.unusedVariables false
theorem run_forIn_unit {P : Program} {α : Type} {g : α → PUnit → Sem (ForInStep PUnit)} {w : World} : ∀ (l : List α), (∀ x ∈ l, (g x ⟨⟩).run P w = .ok (.yield ⟨⟩) w) → (forIn l PUnit.unit g).run P w = .ok ⟨⟩ w
  | [], _ => by simp [Sem.run_pure]
  | x :: l, h => by
    simp only [List.forIn_cons, Sem.run_bind, h x (by simp), Result.andThen_ok]
    exact run_forIn_unit l (fun y hy => h y (by simp [hy]))
theorem flat_field {P : Program} {w : World} : ∀ (fs : List Field) (ks : List Kd) (pre xs : List Value), flatB P pre.length fs ks = true → fits ks xs = true →
    ∀ f ∈ fs, ∃ d v, P.underlying f.type = some d ∧ MapKept.IsKey d v ∧ (part f.type (pre ++ xs).toArray f.offset).run P w = .ok v w
  | [], _, _, _, _, _ => by intro f hf; cases hf
  | _ :: _, [], _, _, h, _ => by cases h
  | f0 :: fs, k :: ks, pre, xs, h, h1 => by
    simp only [flatB, Bool.and_eq_true, Bool.not_eq_true'] at h
    obtain ⟨⟨⟨hn, ho⟩, hk⟩, hr⟩ := h
    have ho := Nat.eq_of_beq_eq_true ho
    have hd := kd_desc hk
    have ha : isAggD (kdD k) = false := by cases k <;> rfl
    obtain ⟨x, xs', rfl, hx, h1'⟩ : ∃ x xs', xs = x :: xs' ∧ MapKept.IsKey (kdD k) x ∧ fits ks xs' = true := by
      cases k with
      | int => match xs, h1 with | .int .i64 a :: xs', h1 => exact ⟨_, _, rfl, by simp [kdD, MapKept.IsKey], h1⟩
      | str => match xs, h1 with | .string a :: xs', h1 => exact ⟨_, _, rfl, by simp [kdD, MapKept.IsKey], h1⟩
      | bool => match xs, h1 with | .bool a :: xs', h1 => exact ⟨_, _, rfl, by simp [kdD, MapKept.IsKey], h1⟩
    intro f hf
    rcases List.mem_cons.1 hf with rfl | hf
    · exact ⟨_, x, hd, hx, by rw [ho]; exact run_part1 hd ha pre x xs' w⟩
    · have := flat_field (w := w) fs ks (pre ++ [x]) xs' (by simpa using hr) h1' f hf
      simpa using this
theorem check_flat {P : Program} {T : TypeId} {ks : List Kd} (h : FlatS P T ks) {xs : List Value} (hx : fits ks xs = true) (e : Bool) (w : World) : (Instr.checkKey e 10000 T (.agg xs.toArray)).run P w = .ok () w := by
  have hb := h.b
  unfold flatT at hb
  split at hb
  · rename_i fs hu
    have hfl := flat_field (w := w) fs.toList ks [] xs hb hx
    unfold Instr.checkKey
    simp only [Sem.run_bind, run_underlying hu, Result.andThen_ok]
    rw [← Array.forIn_toList]
    have := run_forIn_unit (P := P) (w := w) (g := fun (f : Field) (r : PUnit) => (do
      if f.name ≠ "_" then Instr.checkKey e 9999 f.type (← part f.type xs.toArray f.offset)
      pure (ForInStep.yield PUnit.unit) : Sem (ForInStep PUnit))) fs.toList (fun f hf => by
        obtain ⟨d, v, hd, hv, hp⟩ := hfl f hf
        simp only [List.nil_append] at hp
        by_cases hn : f.name ≠ "_"
        · simp only [if_pos hn, Sem.run_bind, hp, Result.andThen_ok, MapKept.run_checkKey hd hv, Sem.run_pure]
        · simp only [if_neg hn, Sem.run_bind, Result.andThen_ok, Sem.run_pure])
    simp [Sem.run_bind, Sem.run_pure, Result.andThen_ok] at this ⊢
    rw [this]
    rfl
  · cases hb
theorem find_asking {κ : Type} [DecidableEq κ] {P : Program} {T : TypeId} {ks : List Kd} (h : FlatS P T ks) {ls : κ → List Value} (hf : ∀ k, fits ks (ls k) = true) (hc : ∀ a b, ceqs (ls a) (ls b) = decide (a = b)) (s : κ) (w : World) : ∀ (l : List (κ × Value)) (n i : Nat),
    ((Instr.findAsking T (.agg (ls s).toArray) (esK (fun k => .agg (ls k).toArray) n l) i).run P w = .ok none w ∧ ∀ p ∈ l, p.1 ≠ s) ∨
    ∃ j p, (Instr.findAsking T (.agg (ls s).toArray) (esK (fun k => .agg (ls k).toArray) n l) i).run P w = .ok (some (i + j, p.2)) w ∧ l[j]? = some p ∧ p.1 = s
  | [], n, i => .inl ⟨by simp [Instr.findAsking, esK, Sem.run_pure], by intro p hp; cases hp⟩
  | (k, v) :: l, n, i => by
    have heq : (Op.equal T (.agg (ls s).toArray) (.agg (ls k).toArray)).run P w = .ok (decide (s = k)) w := by
      have := run_eq_flat h (hf s) (hf k) w
      rw [hc] at this
      exact this
    by_cases hs : s = k
    · refine .inr ⟨0, (k, v), ?_, rfl, hs.symm⟩
      simp only [esK, Instr.findAsking, Sem.run_bind, heq, Result.andThen_ok, decide_eq_true hs, if_true, Sem.run_pure]
      rfl
    · have hstep : (Instr.findAsking T (.agg (ls s).toArray) (esK (fun k => .agg (ls k).toArray) n ((k, v) :: l)) i).run P w = (Instr.findAsking T (.agg (ls s).toArray) (esK (fun k => .agg (ls k).toArray) (n + 1) l) (i + 1)).run P w := by
        simp only [esK, Instr.findAsking, Sem.run_bind, heq, Result.andThen_ok, decide_eq_false hs, Bool.false_eq_true, if_false]
      rw [hstep]
      rcases find_asking h hf hc s w l (n + 1) (i + 1) with ⟨h1, h2⟩ | ⟨j, p, h1, h2, h3⟩
      · refine .inl ⟨h1, fun p hp => ?_⟩
        rcases List.mem_cons.1 hp with rfl | hp
        · exact fun e => hs e.symm
        · exact h2 p hp
      · exact .inr ⟨j + 1, p, by rw [h1]; congr 3; omega, by simpa using h2, h3⟩
theorem sameBits_flat : ∀ (ks : List Kd) (xs : List Value), fits ks xs = true → (xs.zip xs).all (fun (x, y) => Instr.sameBits 9999 x y) = true
  | [], [], _ => rfl
  | .int :: ks, .int .i64 a :: vs, h => by simp only [List.zip_cons_cons, List.all_cons, sameBits_flat ks vs h, Bool.and_true]; simp [Instr.sameBits]
  | .str :: ks, .string a :: vs, h => by simp only [List.zip_cons_cons, List.all_cons, sameBits_flat ks vs h, Bool.and_true]; simp [Instr.sameBits, MapKept.bytes_beq]
  | .bool :: ks, .bool a :: vs, h => by simp only [List.zip_cons_cons, List.all_cons, sameBits_flat ks vs h, Bool.and_true]; simp [Instr.sameBits]
theorem key_flat {κ : Type} [DecidableEq κ] {P : Program} {T : TypeId} {ks : List Kd} (h : FlatS P T ks) {ls : κ → List Value} (hf : ∀ k, fits ks (ls k) = true) (hc : ∀ a b, ceqs (ls a) (ls b) = decide (a = b)) : Key P T (fun k => .agg (ls k).toArray) where
  check e k w := check_flat h (hf k) e w
  find k l w := by
    have hb := h.b
    unfold flatT at hb
    split at hb
    · rename_i fs hu
      have hask : (Instr.findKey T (.agg (ls k).toArray) (esK (fun k => .agg (ls k).toArray) 0 l)).run P w = (Instr.findAsking T (.agg (ls k).toArray) (esK (fun k => .agg (ls k).toArray) 0 l) 0).run P w := by
        cases l with
        | nil => simp [Instr.findKey, run_underlying hu, Result.andThen, esK, Instr.findNow, Instr.findAsking, Sem.run_pure]
        | cons p l => simp [Instr.findKey, run_underlying hu, Result.andThen, esK, Instr.findNow, Instr.sameNow]
      rw [hask]
      rcases find_asking h hf hc k w l 0 0 with h1 | ⟨j, p, h1, h2⟩
      · exact .inl h1
      · exact .inr ⟨j, p, by rw [h1]; simp, h2⟩
    · cases hb
  stays k w := by
    have : Instr.sameBits 10000 (.agg (ls k).toArray) (.agg (ls k).toArray) = true := by
      simp only [Instr.sameBits, sameBits_flat ks _ (hf k)]
      simp
    simp [Instr.keyThatStays, this, Sem.run_pure]
section
variable {C : Cx} {R : Rg} {Q : Post} {S S' S1 : SHeap} {M M' : List MEnt} {e e' : Env} {rest : List Nat}
variable {d : Nat} {ty : TypeId} {pos : String} {aft : Array Edge} {g : Option (Nat × Bool)} {an : Bool}
theorem JEff.rangeN {T K E : TypeId} {x : Operand} (hx : ev e x = some (.map none)) [hu : Und C.P T (.map K E)] (hdN : Nat.blt d C.N = true)
    (k : ∀ r, C.w0.heap.size ≤ r → JO C R rest Q S (.blk r (.mapIter none 0 #[] 0) :: M) ((d, .pointer (some ⟨r, 0, none⟩)) :: e)) : JEff C R ⟨some d, .range T x, ty, pos, aft, g⟩ rest Q S M e :=
  JEff.ofRun rfl rfl hdN fun a w hw => ⟨.pointer (some ⟨w.heap.size, 0, none⟩), w.alloc (.mapIter none 0 #[] 0), by
      simp [execOp, hw.env.eval hx, run_range_nilMap w T K E hu.h], subX_alloc _ _ _, by simp,
    S, _, hw.wd.alloc _, SHeap.le.refl _, k _ hw.wd.size⟩
theorem JEff.nextN {x : Operand} {r a b : Nat} {s : Array Nat} (hx : ev e x = some (.pointer (some ⟨r, 0, none⟩))) (hM : MEnt.blk r (.mapIter none a s b) ∈ M) (hdN : Nat.blt d C.N = true)
    (k : JO C R rest Q S M ((d, .tuple #[.bool false]) :: e)) : JEff C R ⟨some d, .next x false, ty, pos, aft, g⟩ rest Q S M e :=
  JEff.ofRun rfl rfl hdN fun aa w hw => by
    have hr : w.heap[r]? = some (.mapIter none a s b) := hw.wd.ok _ hM
    exact ⟨_, w, by simp [execOp, hw.env.eval hx, Instr.next, getObj, Sem.run_bind, Sem.run, hr, Result.andThen], SubX.refl _ _, Nat.le_refl _, S, M, hw.wd, SHeap.le.refl _, k⟩
end
end Go.Dr
namespace Go.Dr
open Go.Proofs
set_option maxRecDepth 20000
set_option maxHeartbeats 2000000
set_option linter.unusedSimpArgs false
set_option linter.unusedVariables false
def nm (c : Clause) : Step := ⟨c.kind, c.a, c.b⟩
def kvN (x : Step) : Value := .agg [Value.int .i64 x.kind, .int .i64 x.pod, .int .i64 x.node].toArray
instance : TyR Tryz.prog 104 rStep := ⟨by kernel_rfl⟩
instance : FlatS Tryz.prog 104 [.int, .int, .int] := ⟨by kernel_rfl, by kernel_rfl, by kernel_rfl⟩
instance : Key Tryz.prog 104 kvN := key_flat (κ := Step) (ls := fun x => [Value.int .i64 x.kind, .int .i64 x.pod, .int .i64 x.node]) (inferInstance : FlatS Tryz.prog 104 [.int, .int, .int]) (fun _ => rfl) (fun a b => by cases a; cases b; rw [Bool.eq_iff_iff]; simp [ceqs])
theorem nm_eq {c d : Clause} : nm c = nm d ↔ nameC c = nameC d := by cases c; cases d; simp [nm, nameC]
theorem p9_of {S : SHeap} {u : Value} {x : Clause} (hu : rClause.V S u x) : FnV Tryz.prog 75 #[u] S (kvN (nm x)) := by
  obtain ⟨rfl, h1, h2, h3, h4⟩ := V_clause.1 hu
  (refine Fn.enter (args := [.agg #[.int .i64 x.kind, .int .i64 x.a, .int .i64 x.b, .int .i64 x.by_]]) Tryz.func75 rfl Tryz.ntmps75 rfl ?_; intro w0)
  repeat (first | (refine Walk ?_; intros) | refine JC.block ?_ | (refine WBox ?_; intros))
  (refine JO.eff rfl rfl rfl (JEff.alloc rfl ?_); intro cb hcb)
  repeat (first | (refine Walk ?_; intros) | refine JC.block ?_ | (refine WBox ?_; intros))
  have hV : ∀ S, rStep.V S (kvN (nm x)) (nm x) := fun S => V_step.2 ⟨rfl, h1, h2, h3⟩
  refine JO.eff rfl rfl rfl (JEff.storeW rfl rfl (hV _) nna (List.Perm.refl _) rfl (by intro l hl; cases hl) ?_)
  refine JO.freezeV (hV _) nna hcb (by intro l hl; cases hl) ?_; intro S2 hl2 hpo
  repeat (first | (refine Walk ?_; intros) | refine JC.block ?_ | (refine WBox ?_; intros))
  exact JX.retCell Tryz.results75 rfl hpo (List.nil_sublist _) (fun w hw => ⟨rfl, by obtain ⟨rfl, _⟩ := V_step.1 hw; rfl⟩)
def bys (l : List Clause) : List (Step × Value) := l.map (fun c => (nm c, Value.int .i64 c.by_))
theorem bys_step {l : List Clause} {k : Nat} {x : Clause} (hx : l[k]? = some x) : bys (l.take (k + 1)) = bys (l.take k) ++ [(nm x, Value.int .i64 x.by_)] := by
  unfold bys
  rw [List.take_add_one, hx]; simp
theorem bys_new {l : List Clause} (h : l.Pairwise (fun c d => nameC c ≠ nameC d)) {k : Nat} {x : Clause} (hx : l[k]? = some x) : ∀ p ∈ bys (l.take k), p.1 ≠ nm x := by
  intro p hp e
  obtain ⟨c, hc, rfl⟩ := List.mem_map.1 hp
  obtain ⟨i, hi, hci⟩ := List.mem_take_iff_getElem.1 hc
  obtain ⟨hk, rfl⟩ := List.getElem?_eq_some_iff.1 hx
  exact List.pairwise_iff_getElem.1 h i k (by omega) hk (by omega) (by rw [hci]; exact nm_eq.1 e)
theorem bys_distinct {l : List Clause} (h : l.Pairwise (fun c d => nameC c ≠ nameC d)) : DistinctK (bys l) := by
  intro i j p q hi hj hpq
  unfold bys at hi hj
  rw [List.getElem?_map] at hi hj
  obtain ⟨c, hc, rfl⟩ := Option.map_eq_some_iff.1 hi
  obtain ⟨d, hd, rfl⟩ := Option.map_eq_some_iff.1 hj
  obtain ⟨h1, rfl⟩ := List.getElem?_eq_some_iff.1 hc
  obtain ⟨h2, rfl⟩ := List.getElem?_eq_some_iff.1 hd
  have hpq := nm_eq.1 hpq
  rcases Nat.lt_trichotomy i j with a | a | a
  · exact absurd hpq (List.pairwise_iff_getElem.1 h i j h1 h2 a)
  · exact a
  · exact absurd hpq.symm (List.pairwise_iff_getElem.1 h j i h2 h1 a)
def LookAns (s : Snap) (p : List Int) (w : Value) (S' : SHeap) : Prop :=
  (¬ checkP s p = 0 ∧ w = .tuple #[.map none, .slice none 0 0, .int .i64 (checkP s p)]) ∨
  (checkP s p = 0 ∧ ∃ b a c, w = .tuple #[.map (some b), .slice a (allL s p).length c, .int .i64 0] ∧ S' b = some (mapK kvN (bys (allL s p))) ∧ (rSlice 32 rClause).V S' (.slice a (allL s p).length c) (allL s p))
theorem s73_L9a {P K : Prop} (k : K) (h : Goal K → P := by
  intro zk
  (first | refine Walk ?_ | refine JC.block ?_ | refine JC.drawN 8 rfl [0, 1, 3, 4, 2, 5] [1] Tryz_mixed (by decide +kernel) ?_ | (refine JO.eff rfl rfl rfl (JEff.callLE rfl (p8_All (by exact vta) (by exact vta)) rfl ?_); intro zqa zqb zqc zqd zqe zqf) | (refine JO.eff rfl rfl rfl (JEff.callV rfl (p9_of (by exact vta)) rfl ?_); intro zqa zqb) | (refine WBox ?_) | (refine WNew ?_) | (refine WPut ?_))
  (repeat (first | revert zqg | revert zqf | revert zqe | revert zqd | revert zqc | revert zqb | revert zqa))
  exact zk.k) : P := h ⟨k⟩
theorem p9_look {S : SHeap} {u v : Value} {s : Snap} {p : List Int} (hu : rSnap.V S u s) (hv : (rSlice 8 rI64).V S v p) : FnR Tryz.prog 73 #[u, v] S (LookAns s p) := by
  (refine Fn.enter (args := [u, v]) Tryz.func73 rfl Tryz.ntmps73 rfl ?_; intro w0)
  repeat (refine s73_L9a ?_; intros)
  refine JC.cond rfl (fun h1 => ?_) (fun h1 => ?_)
  · have h1 : ¬ checkP s p = 0 := by simpa using h1
    repeat (refine s73_L9a ?_; intros)
    (refine JX.ret3 Tryz.results73 (ResV.tmp rfl) (ResV.tmp rfl) (ResV.tmp rfl) (List.nil_sublist _) ?_)
    exact ⟨rfl, .inl ⟨h1, rfl⟩⟩
  have hok : checkP s p = 0 := by simpa using h1
  have hnames := allL_names s p
  obtain ⟨hLl, hLr⟩ := allL_rng s p
  generalize hL : allL s p = L at *
  have hb32 := slice_bytes (by assumption : (rSlice 32 rClause).V _ _ L)
  unfold big at hb32
  repeat (refine s73_L9a ?_; intros)
  refine JO.eff rfl rfl rfl (JEff.makeMapK kvN rfl ?_); intro mb hmb
  repeat (refine s73_L9a ?_; intros)
  refine JC.loopF (σ := Nat) [(7, _), (9, _), (22, _), (23, _)] (fun q => [(24, .int .i64 (q : Int))]) (fun q => [.blk mb (mapK kvN (bys (L.take q)))]) (fun Si q => q ≤ L.length) (fun q => L.length - q) (0) (by exact sba) (by exact sba) rfl (Nat.zero_le _) ?_; rintro Si k hli hii; (try dsimp only at hii); dsimp only [List.cons_append, List.nil_append]
  repeat (refine s73_L9a ?_; intros)
  refine JC.cond rfl (fun hc => ?_) (fun hc => ?_)
  · have hk' := dlt hc
    obtain ⟨x, hx, _⟩ := drop_at hk'
    have hst := bys_step hx
    have hnew := bys_new hnames hx
    repeat (refine s73_L9a ?_; intros)
    refine JO.eff rfl rfl rfl (JEff.putK (kv := kvN) (s := nm x) rfl rfl rfl (List.Perm.refl _) (by intro l hl; cases hl) (fun _ => ?_) (fun j q hj hq => absurd hq (hnew q (List.mem_of_getElem? hj))))
    rw [← hst]
    repeat (refine s73_L9a ?_; intros)
    exact JX.roundF (k + 1) (by exact lea) (by omega) (by (try dsimp only); omega) rfl (by exact sba) (by exact sba)
  · have hk' := dnlt hc
    obtain rfl : k = L.length := by omega
    rw [List.take_length]
    refine JC.freeze hmb (fun S10 hl10 hS10 => ?_)
    repeat (refine s73_L9a ?_; intros)
    (refine JX.ret3 Tryz.results73 (ResV.tmp rfl) (ResV.tmp rfl) (ResV.tmp rfl) (List.nil_sublist _) ?_)
    subst hL
    exact ⟨rfl, .inr ⟨hok, _, _, _, rfl, hS10, by exact vta⟩⟩
theorem bys_none {L : List Clause} {x : Clause} (h : ∀ p ∈ bys L, p.1 ≠ nm x) : findC L x = 0 := by
  unfold findC
  rw [List.find?_eq_none.2]
  intro c hc
  rw [isC_name]
  have := h (nm c, Value.int .i64 c.by_) (List.mem_map.2 ⟨c, hc, rfl⟩)
  intro e
  exact this (nm_eq.2 (of_decide_eq_true e))
theorem bys_some {L : List Clause} (hn : L.Pairwise (fun c d => nameC c ≠ nameC d)) {x : Clause} {j : Nat} {q : Step × Value} (hj : (bys L)[j]? = some q) (hq : q.1 = nm x) : q.2 = .int .i64 (findC L x) := by
  unfold bys at hj
  rw [List.getElem?_map] at hj
  obtain ⟨c, hc, rfl⟩ := Option.map_eq_some_iff.1 hj
  have he := nm_eq.1 hq
  have hf := find_self hn (List.mem_of_getElem? hc)
  simp only [nameC, Prod.mk.injEq] at he
  unfold findC
  rw [← he.1, ← he.2.1, ← he.2.2, hf]
theorem s74_L9a {P K : Prop} (k : K) (h : Goal K → P := by
  intro zk
  (first | refine Walk ?_ | refine JC.block ?_ | refine JC.drawN 1 rfl [0, 1, 2, 3, 4, 5, 6, 7] [3, 5, 6, 7] Tryz_mixed (by decide +kernel) ?_ | (refine JO.eff rfl rfl rfl (JEff.callV rfl (p9_of (by exact vta)) rfl ?_); intro zqa zqb) | (refine WBox ?_))
  (repeat (first | revert zqg | revert zqf | revert zqe | revert zqd | revert zqc | revert zqb | revert zqa))
  exact zk.k) : P := h ⟨k⟩
theorem p9_Worse1 {S : SHeap} {u : Value} {x : Clause} {L : List Clause} {q : Addr} {b : Nat} (hn : L.Pairwise (fun c d => nameC c ≠ nameC d)) (hu : rClause.V S u x) (hq : PtrTo S q rVal (.map (some b))) (hS : S b = some (mapK kvN (bys L))) : FnV Tryz.prog 74 #[u, .pointer (some q)] S (.bool (worseF L x)) := by
  (refine Fn.enter (args := [u, .pointer (some q)]) Tryz.func74 rfl Tryz.ntmps74 rfl ?_; intro w0)
  repeat (refine s74_L9a ?_; intros)
  refine JO.pure rfl rfl rfl (JPure.lookS (kv := kvN) (s := nm x) rfl rfl (by first | exact hS | exact (by assumption : SHeap.le _ _) _ _ hS | exact SHeap.le.trans (by assumption) (by assumption) _ _ hS) (bys_distinct hn) rfl (fun hno => ?_) (fun j q hj hq => ?_))
  · have hf := bys_none hno
    repeat (refine s74_L9a ?_; intros)
    (refine JX.ret1 Tryz.results74 (ResV.tmp rfl) (List.nil_sublist _) ?_)
    exact ⟨rfl, by simp [worseF, hf]⟩
  · have hf := bys_some hn hj hq
    rw [hf]
    repeat (refine s74_L9a ?_; intros)
    (refine JX.ret1 Tryz.results74 (ResV.tmp rfl) (List.nil_sublist _) ?_)
    exact ⟨rfl, by simp [worseF]⟩
theorem perm_sum {a b : List Int} (h : a.Perm b) : a.sum = b.sum := by
  induction h with
  | nil => rfl
  | cons x _ ih => simp [ih]
  | swap x y l => simp only [List.sum_cons]; omega
  | trans _ _ h1 h2 => exact h1.trans h2
theorem V_mem_rng {S : SHeap} {v : Value} {L : List Clause} (h : (rSlice 32 rClause).V S v L) {j : Nat} {x : Clause} (hx : L[j]? = some x) : Rng x.kind ∧ Rng x.a ∧ Rng x.b := by
  obtain ⟨_, _, _, _, _, _, hp⟩ := V_slice.1 h
  obtain ⟨_, _, cs, hcs, _⟩ := hp j x hx
  have := (R_clause.1 hcs).2
  exact ⟨this.1, this.2.1, this.2.2.1⟩
def wAt (L : List Clause) (j : Nat) : Int := match L[j]? with | some c => weight c | none => 0
theorem wAt_range (L : List Clause) : (List.range L.length).map (wAt L) = L.map weight := by
  apply List.ext_getElem?
  intro i
  rw [List.getElem?_map, List.getElem?_map]
  by_cases hi : i < L.length
  · rw [List.getElem?_range hi, List.getElem?_eq_getElem hi]
    simp [wAt, hi]
  · rw [List.getElem?_eq_none (by simpa using hi), List.getElem?_eq_none (by simpa using hi)]; rfl
theorem wAt_rng {L : List Clause} (h : ∀ c ∈ L, 0 ≤ c.by_ ∧ c.by_ ≤ Qty) (j : Nat) : 0 ≤ wAt L j ∧ wAt L j ≤ Qty := by
  unfold wAt
  split
  · rename_i c hc
    have := h c (List.mem_of_getElem? hc)
    unfold weight Qty at *
    split <;> omega
  · unfold Qty; omega
theorem wSum_rng {L : List Clause} (h : ∀ c ∈ L, 0 ≤ c.by_ ∧ c.by_ ≤ Qty) : ∀ l : List Nat, 0 ≤ (l.map (wAt L)).sum ∧ (l.map (wAt L)).sum ≤ Qty * l.length
  | [] => by simp
  | j :: l => by
    have h1 := wAt_rng h j
    have h2 := wSum_rng h l
    simp only [List.map_cons, List.sum_cons, List.length_cons]
    unfold Qty at *
    omega
theorem p9_Sum {S : SHeap} {u v : Value} {s : Snap} {p : List Int} (hu : rSnap.V S u s) (hv : (rSlice 8 rI64).V S v p) : FnV Tryz.prog 37 #[u, v] S (.tuple #[.int .i64 (sumV s p), .int .i64 (checkP s p)]) := by
  (refine Fn.enter (args := [u, v]) Tryz.func37 rfl Tryz.ntmps37 rfl ?_; intro w0)
  repeat (first | (refine Walk ?_; intros) | refine JC.block ?_ | (refine WBox ?_; intros) | (refine WNew ?_; intros) | (refine WPut ?_; intros))
  (refine JO.eff rfl rfl rfl (JEff.callR rfl (p9_look (s := s) (p := p) (by exact vta) (by exact vta)) rfl ?_); intro w S2 hl2 hw)
  rcases hw with ⟨he, rfl⟩ | ⟨hok, b, a, c, rfl, hSb, hVb⟩
  · repeat (first | (refine Walk ?_; intros) | refine JC.block ?_ | (refine WBox ?_; intros) | (refine WNew ?_; intros) | (refine WPut ?_; intros))
    refine JO.eff rfl rfl rfl (JEff.rangeN rfl rfl ?_); intro r hr
    repeat (first | (refine Walk ?_; intros) | refine JC.block ?_ | (refine WBox ?_; intros) | (refine WNew ?_; intros) | (refine WPut ?_; intros))
    refine JC.loopF (σ := Nat) [(5, _), (18, _)] (fun q => [(4, .int .i64 0)]) (fun q => [.blk r (.mapIter none 0 #[] 0)]) (fun Si q => True) (fun q => 0) (0) (by exact sba) (by exact sba) rfl (trivial) ?_; rintro Si k hli hii; (try dsimp only at hii); dsimp only [List.cons_append, List.nil_append]
    repeat (first | (refine Walk ?_; intros) | refine JC.block ?_ | (refine WBox ?_; intros) | (refine WNew ?_; intros) | (refine WPut ?_; intros))
    refine JO.eff rfl rfl rfl (JEff.nextN rfl (by (first | exact List.mem_cons_self | exact List.mem_cons_of_mem _ List.mem_cons_self | exact List.mem_cons_of_mem _ (List.mem_cons_of_mem _ List.mem_cons_self))) rfl ?_)
    repeat (first | (refine Walk ?_; intros) | refine JC.block ?_ | (refine WBox ?_; intros) | (refine WNew ?_; intros) | (refine WPut ?_; intros))
    (refine JX.ret2 Tryz.results37 (ResV.tmp rfl) (ResV.tmp rfl) (List.nil_sublist _) ?_)
    exact ⟨rfl, by unfold sumV allL; rw [if_neg he]; rfl⟩
  · have hnames := allL_names s p
    obtain ⟨hLl, hLr⟩ := allL_rng s p
    unfold sumV
    generalize hL : allL s p = L at *
    repeat (first | (refine Walk ?_; intros) | refine JC.block ?_ | (refine WBox ?_; intros) | (refine WNew ?_; intros) | (refine WPut ?_; intros))
    refine JO.eff rfl rfl rfl (JEff.rangeK (kv := kvN) rfl hSb rfl ?_); intro r hr
    repeat (first | (refine Walk ?_; intros) | refine JC.block ?_ | (refine WBox ?_; intros) | (refine WNew ?_; intros) | (refine WPut ?_; intros))
    have hbl : (bys L).length = L.length := by simp [bys]
    refine JC.loopF (σ := Array Nat) [(5, _), (18, _)] (fun q => [(4, .int .i64 ((q.toList.map (wAt L)).sum))]) (fun q => [.blk r (.mapIter (some b) (bys L).length q (bys L).length)]) (fun Si q => q.toList.Nodup ∧ (∀ j ∈ q.toList, j < L.length)) (fun q => L.length - q.size) (#[]) (by exact sba) (by exact sba) rfl (⟨List.nodup_nil, (by intro j hj; cases hj)⟩) ?_; rintro Si seen hli hii; (try dsimp only at hii); dsimp only [List.cons_append, List.nil_append]
    obtain ⟨hi1, hi2⟩ := hii
    have hSi := hli _ _ hSb
    have hlen := nd_len hi1 hi2
    have hsum := wSum_rng hLr seen.toList
    unfold Qty at hsum
    repeat (first | (refine Walk ?_; intros) | refine JC.block ?_ | (refine WBox ?_; intros) | (refine WNew ?_; intros) | (refine WPut ?_; intros))
    refine JO.eff rfl rfl rfl (JEff.nextK (kv := kvN) rfl hSi (List.Perm.refl _) (by intro l hl; cases hl) rfl (fun j p hj hjn => ?_) (fun hall => ?_))
    · have hj0 := hj
      unfold bys at hj0
      rw [List.getElem?_map] at hj0
      obtain ⟨x, hx, rfl⟩ := Option.map_eq_some_iff.1 hj0
      have hjl := (List.getElem?_eq_some_iff.1 hx).1
      have hn2 : (seen.toList ++ [j]).Nodup := by
        rw [List.nodup_append]
        refine ⟨hi1, by simp, ?_⟩
        intro a ha c hc he
        simp at hc
        subst hc; subst he
        exact hjn (by simpa using ha)
      have hb2 : ∀ i ∈ seen.toList ++ [j], i < L.length := by
        intro i hi
        rcases List.mem_append.1 hi with h | h
        · exact hi2 i h
        · simp at h; subst h; exact hjl
      have hlen2 := nd_len hn2 hb2
      have hsz : (seen.push j).size = seen.size + 1 := by simp
      have hsl : seen.size + 1 ≤ L.length := by simpa using hlen2
      have hwj : wAt L j = weight x := by simp [wAt, hx]
      have hst : (((seen.push j).toList).map (wAt L)).sum = ((seen.toList).map (wAt L)).sum + weight x := by simp [hwj]
      have hxr := hLr x (List.mem_of_getElem? hx)
      unfold Qty at hxr
      repeat (first | (refine Walk ?_; intros) | refine JC.block ?_ | (refine WBox ?_; intros) | (refine WNew ?_; intros) | (refine WPut ?_; intros))
      refine JO.eff rfl rfl rfl (JEff.entryK (kv := kvN) rfl hSi (by (first | exact List.mem_cons_self | exact List.mem_cons_of_mem _ List.mem_cons_self | exact List.mem_cons_of_mem _ (List.mem_cons_of_mem _ List.mem_cons_self))) hj rfl ?_)
      have hVx : rStep.V Si (kvN (nm x)) (nm x) := by
        have hVb2 := hVb.mono hli
        exact V_step.2 ⟨rfl, (V_mem_rng hVb2 hx).1, (V_mem_rng hVb2 hx).2.1, (V_mem_rng hVb2 hx).2.2⟩
      dsimp only
      repeat (first | (refine Walk ?_; intros) | refine JC.block ?_ | (refine WBox ?_; intros) | (refine WNew ?_; intros) | (refine WPut ?_; intros))
      refine JC.cond rfl (fun hcap => ?_) (fun hcap => ?_)
      · have hcap : x.kind = 1 := by have := of_decide_eq_true hcap; exact this
        rw [weight, if_pos hcap] at hst
        repeat (first | (refine Walk ?_; intros) | refine JC.block ?_ | (refine WBox ?_; intros) | (refine WNew ?_; intros) | (refine WPut ?_; intros))
        exact JX.roundF (seen.push j) (by exact lea) ⟨by simpa using hn2, by simpa using hb2⟩ (by (try dsimp only); omega) rfl (by (try dsimp only); rw [hst]; exact sba) (by exact sba)
      · have hcap : ¬ x.kind = 1 := by have := of_decide_eq_false hcap; exact this
        rw [weight, if_neg hcap] at hst
        repeat (first | (refine Walk ?_; intros) | refine JC.block ?_ | (refine WBox ?_; intros) | (refine WNew ?_; intros) | (refine WPut ?_; intros))
        exact JX.roundF (seen.push j) (by exact lea) ⟨by simpa using hn2, by simpa using hb2⟩ (by (try dsimp only); omega) rfl (by (try dsimp only); rw [hst]; exact sba) (by exact sba)
    · have hfin : (seen.toList.map (wAt L)).sum = sumC L := by
        unfold sumC
        rw [← wAt_range]
        exact perm_sum (List.Perm.map _ ((List.perm_ext_iff_of_nodup hi1 List.nodup_range).2 (fun a => ⟨fun h => by simpa using hi2 a h, fun h => by have := hall a (by rw [hbl]; simpa using h); simpa using this⟩)))
      repeat (first | (refine Walk ?_; intros) | refine JC.block ?_ | (refine WBox ?_; intros) | (refine WNew ?_; intros) | (refine WPut ?_; intros))
      (refine JX.ret2 Tryz.results37 (ResV.tmp rfl) (ResV.tmp rfl) (List.nil_sublist _) ?_)
      exact ⟨rfl, by rw [hfin, hok]⟩
theorem p9_Safe {S : SHeap} {u v : Value} {s : Snap} {p : List Int} (hu : rSnap.V S u s) (hv : (rSlice 8 rI64).V S v p) : FnV Tryz.prog 33 #[u, v] S (.tuple #[.bool (safeB s p), .int .i64 (checkP s p)]) := by
  (refine Fn.enter (args := [u, v]) Tryz.func33 rfl Tryz.ntmps33 rfl ?_; intro w0)
  repeat' (first | (refine Walk ?_; intros) | refine JC.block ?_ | (refine JO.eff rfl rfl rfl (JEff.callV rfl (p9_Sum (by exact vta) (by exact vta)) rfl ?_); intro _ _) | (refine WBox ?_; intros) | (refine JO.guard rfl rfl rfl rfl ?_ ?_ <;> intro _) | (refine JC.cond rfl ?_ ?_ <;> intro _))
  all_goals ((refine JX.ret2 Tryz.results33 (ResV.tmp rfl) (ResV.tmp rfl) (List.nil_sublist _) ?_); refine ⟨rfl, ?_⟩; unfold safeB; simp [*])
theorem p9_Worse {S : SHeap} {u v v2 : Value} {s : Snap} {p q : List Int} (hu : rSnap.V S u s) (hv : (rSlice 8 rI64).V S v p) (hv2 : (rSlice 8 rI64).V S v2 q) : FnLE Tryz.prog 35 #[u, v, v2] S 32 rClause (worseV s p q).1 (.int .i64 (worseV s p q).2) := by
  (refine Fn.enter (args := [u, v, v2]) Tryz.func35 rfl Tryz.ntmps35 rfl ?_; intro w0)
  repeat (first | (refine Walk ?_; intros) | refine JC.block ?_ | (refine WBox ?_; intros) | (refine WNew ?_; intros) | (refine WPut ?_; intros))
  (refine JO.eff rfl rfl rfl (JEff.callR rfl (p9_look (s := s) (p := p) (by exact vta) (by exact vta)) rfl ?_); intro w S2 hl2 hw)
  rcases hw with ⟨he, rfl⟩ | ⟨hok, b, a, c, rfl, hSb, hVb⟩
  · repeat (first | (refine Walk ?_; intros) | refine JC.block ?_ | (refine WBox ?_; intros) | (refine WNew ?_; intros) | (refine WPut ?_; intros))
    refine JC.cond rfl (fun h1 => ?_) (fun h1 => ?_)
    · repeat (first | (refine Walk ?_; intros) | refine JC.block ?_ | (refine WBox ?_; intros) | (refine WNew ?_; intros) | (refine WPut ?_; intros))
      (refine JX.ret2 Tryz.results35 (ResV.tmp rfl) (ResV.tmp rfl) (List.nil_sublist _) ?_)
      unfold worseV
      rw [if_pos he]
      exact ⟨rfl, _, rfl, V_nil⟩
    · (exfalso; first | (simp only [decide_eq_true_eq, decide_eq_false_iff_not, Bool.not_eq_true', Bool.not_eq_false', Bool.and_eq_true, Bool.or_eq_true, Bool.and_eq_false_iff, Bool.or_eq_false_iff] at *; omega) | (simp_all; done) | (simp_all; omega))
  · repeat (first | (refine Walk ?_; intros) | refine JC.block ?_ | (refine WBox ?_; intros) | (refine WNew ?_; intros) | (refine WPut ?_; intros))
    (refine JO.eff rfl rfl rfl (JEff.callR rfl (p9_look (s := s) (p := q) (by exact vta) (by exact vta)) rfl ?_); intro w S3 hl3 hw)
    obtain ⟨m, a3, c3, rfl, hV3⟩ : ∃ m a c, w = .tuple #[m, .slice a (allL s q).length c, .int .i64 (checkP s q)] ∧ (rSlice 32 rClause).V S3 (.slice a (allL s q).length c) (allL s q) := by
      rcases hw with ⟨he, rfl⟩ | ⟨hokq, b3, a3, c3, rfl, _, hV3⟩
      · have : allL s q = [] := by unfold allL; rw [if_neg he]
        rw [this]
        exact ⟨_, _, _, rfl, V_nil⟩
      · exact ⟨_, _, _, by rw [hokq], hV3⟩
    have hwv : worseV s p q = ((allL s q).filter (worseF (allL s p)), checkP s q) := by
      unfold worseV
      rw [if_neg (by simpa using hok)]
      split
      · rename_i he
        have : allL s q = [] := by unfold allL; rw [if_neg he]
        rw [this]; rfl
      · rename_i he
        have he : checkP s q = 0 := Classical.not_not.1 he
        rw [he]
    rw [hwv]
    have hnames := allL_names s p
    generalize allL s p = LA at *
    generalize hL : allL s q = L at *
    have hb32 := slice_bytes hV3
    unfold big at hb32
    repeat (first | (refine Walk ?_; intros) | refine JC.block ?_ | (refine WBox ?_; intros) | (refine WNew ?_; intros) | (refine WPut ?_; intros))
    (first | refine JC.newRow 40 (Rp.sz rClause) ?_ | refine JO.newRow 40 (Rp.sz rClause) ?_ | refine JX.newRow 40 (Rp.sz rClause) ?_)
    refine JC.loopF (σ := Nat × Option Addr × Nat × List Value) [(7, _), (10, _), (33, _), (34, _)] (fun q => [(6, .slice q.2.1 ((fun k => (L.take k).filter (worseF LA)) q.1).length q.2.2.1), (35, ((fun k => .int .i64 k) q.1))]) (fun q => [.row w0.heap.size 40 (Rp.sz rClause) (.slice q.2.1 ((fun k => (L.take k).filter (worseF LA)) q.1).length q.2.2.1) ((fun k => (L.take k).filter (worseF LA)) q.1).length (flatCells q.2.2.2)]) (fun Sk q => q.1 ≤ L.length ∧ allV rClause Sk q.2.2.2 ((fun k => (L.take k).filter (worseF LA)) q.1) ∧ ((fun k => True) q.1)) (fun q => L.length - q.1) (0, none, 0, []) (by exact sba) (by exact sba) (by first | rfl | simp) (⟨Nat.zero_le _, trivial, trivial⟩) ?_; rintro Sk ⟨k, rak, rck, vsk⟩ hlk ⟨hk, hvk, hik⟩; (try dsimp only at hk hvk hik); dsimp only [List.cons_append, List.nil_append]
    have hfl := filter_len L (worseF LA) k
    repeat (first | (refine Walk ?_; intros) | refine JC.block ?_ | (refine WBox ?_; intros) | (refine WNew ?_; intros) | (refine WPut ?_; intros))
    refine JC.cond rfl (fun hc => ?_) (fun hc => ?_)
    · have hk' := dlt hc
      obtain ⟨x, hx, _⟩ := drop_at hk'
      have hst := filter_step (f := worseF LA) hx
      repeat (first | (refine Walk ?_; intros) | refine JC.block ?_ | (refine WBox ?_; intros) | (refine WNew ?_; intros) | (refine WPut ?_; intros))
      (refine JO.eff rfl rfl rfl (JEff.dynV rfl inferInstance rfl (p9_Worse1 (x := x) hnames (by exact vta) (by exact pta) ((show S2.le _ by exact lea) _ _ hSb)) rfl ?_); intro _ _)
      repeat (first | (refine Walk ?_; intros) | refine JC.block ?_ | (refine WBox ?_; intros) | (refine WNew ?_; intros) | (refine WPut ?_; intros))
      refine JC.cond rfl (fun hq => ?_) (fun hq => ?_)
      · rw [hq, if_pos rfl] at hst
        repeat (first | (refine Walk ?_; intros) | refine JC.block ?_ | (refine WBox ?_; intros) | (refine WNew ?_; intros) | (refine WPut ?_; intros))
        have hvx := (by assumption : rClause.V _ _ x)
        (refine JO.eff rfl rfl rfl (JEff.build (rep := rClause) (ys := [x]) rfl rfl ⟨⟨(hvx.mono (by exact lea)), nna⟩, trivial⟩ rfl rfl rfl rfl ?_); intro bb hbb hvv); (repeat (first | (refine Walk ?_; intros) | refine JC.block ?_)); (refine JO.eff rfl rfl rfl (JEff.appendL (rep := rClause) rfl rfl rfl rfl (List.Perm.swap _ _ _) (by exact hvv.flat) (by intro c hc; exact flat_one (fun v hv => (hvv.size v hv).2) c hc) (by first | omega | (unfold big; omega)) (by unfold big; omega) (by first | exact rowT_ok | (intro l hl; cases hl)) rfl ?_); intro a2 c2; clear hvv hbb)
        repeat (first | (refine Walk ?_; intros) | refine JC.block ?_ | (refine WBox ?_; intros) | (refine WNew ?_; intros) | (refine WPut ?_; intros))
        exact JX.roundF (k + 1, a2, c2, vsk ++ [(_)]) (by exact lea) ⟨by omega, by (try dsimp only); rw [hst]; exact allV_add (by exact lea) hvk (hvx.mono (by exact lea)) nna, (trivial)⟩ (by (try dsimp only); omega) (by (try dsimp only); rw [hst]; (simp [flat_append] <;> omega)) (by (try dsimp only); rw [hst]; simp only [List.length_append, List.length_cons, List.length_nil]; exact sba) (by exact sba)
      · rw [hq, if_neg (by simp), List.append_nil] at hst
        repeat (first | (refine Walk ?_; intros) | refine JC.block ?_ | (refine WBox ?_; intros) | (refine WNew ?_; intros) | (refine WPut ?_; intros))
        exact JX.roundF (k + 1, rak, rck, vsk) (by exact lea) ⟨by omega, by (try dsimp only); rw [hst]; exact hvk.mono (by exact lea), (trivial)⟩ (by (try dsimp only); omega) (by (try dsimp only); rw [hst]) (by (try dsimp only); rw [hst]; exact sba) (by exact sba)
    · have hk' := dnlt hc
      obtain rfl : k = L.length := by omega
      rw [List.take_length] at hvk hfl ⊢
      repeat (first | (refine Walk ?_; intros) | refine JC.block ?_ | (refine WBox ?_; intros) | (refine WNew ?_; intros) | (refine WPut ?_; intros))
      refine JX.freezeRow (rep := rClause) (bt := 32) hvk rfl (by unfold big; omega) (by unfold big; omega) (fun S9 hl9 hV9 => ?_)
      (refine JX.ret2 Tryz.results35 (ResV.tmp rfl) (ResV.tmp rfl) (List.nil_sublist _) ?_)
      exact ⟨rfl, _, rfl, hV9⟩
end Go.Dr
namespace Go.Dr
open Go.Proofs
set_option maxRecDepth 20000
set_option maxHeartbeats 2000000
set_option linter.unusedSimpArgs false
set_option linter.unusedVariables false
theorem s32_L09a {P K : Prop} (k : K) (h : Goal K → P := by
  intro zk
  (first | refine Walk ?_ | refine JC.block ?_ | refine JC.drawN 1 rfl [0, 1, 2, 3, 4, 5, 6, 7, 8, 9, 10, 11, 12, 13, 14, 15, 16, 17, 18, 19, 20, 21, 22] [0, 1, 2, 3, 4, 5, 6, 7, 8, 9, 10, 11, 12, 13, 14, 15, 16, 17, 18, 19, 20, 21] Tryz_mixed (by decide +kernel) ?_ | (refine WBox ?_))
  (repeat (first | revert zqg | revert zqf | revert zqe | revert zqd | revert zqc | revert zqb | revert zqa))
  exact zk.k) : P := h ⟨k⟩
theorem q9_cut {S : SHeap} {u : Value} {s : Snap} (hu : rSnap.V S u s) : FnR Tryz.prog 32 #[u] S (fun w S' => rSnap.V S' w (cutS s)) := by
  (refine Fn.enter (args := [u]) Tryz.func32 rfl Tryz.ntmps32 rfl ?_; intro w0)
  repeat (refine s32_L09a ?_; intros)
  (refine JO.eff rfl rfl rfl (JEff.alloc rfl ?_); intro cb hcb)
  repeat (refine s32_L09a ?_; intros)
  refine JO.pure rfl rfl rfl (JPure.sliceS (xs := s.nodes) (rep := rNode) (bt := 112) rfl (by exact vta) rfl rfl rfl (by omega) (by omega) (by omega) ?_); intro a1 c1 y1 hy1 hV1 hyl1 hyb1
  repeat (refine s32_L09a ?_; intros)
  refine JO.pure rfl rfl rfl (JPure.sliceS (xs := s.pods) (rep := rPod) (bt := 240) rfl (by exact vta) rfl rfl rfl (by omega) (by omega) (by omega) ?_); intro a2 c2 y2 hy2 hV2 hyl2 hyb2
  repeat (refine s32_L09a ?_; intros)
  refine JO.pure rfl rfl rfl (JPure.sliceS (xs := s.owners) (rep := rOwner) (bt := 56) rfl (by exact vta) rfl rfl rfl (by omega) (by omega) (by omega) ?_); intro a3 c3 y3 hy3 hV3 hyl3 hyb3
  repeat (refine s32_L09a ?_; intros)
  have e1 : y1 = s.nodes.take 12 := hy1.trans (cut_len s.nodes 12)
  have e2 : y2 = s.pods.take 30 := hy2.trans (cut_len s.pods 30)
  have e3 : y3 = s.owners.take 12 := hy3.trans (cut_len s.owners 12)
  subst e1; subst e2; subst e3
  have hV := V_snap (x := cutS s) hV1 hV2 hV3
  refine JO.eff rfl rfl rfl (JEff.storeW rfl rfl hV nna (List.Perm.refl _) rfl (by intro l hl; cases hl) ?_)
  refine JO.freezeV hV nna hcb (by intro l hl; cases hl) ?_; intro S2 hl2 hpo
  repeat (refine s32_L09a ?_; intros)
  exact JX.retCell Tryz.results32 rfl hpo (List.nil_sublist _) (fun w hw => ⟨rfl, hw⟩)
theorem q9_chapter {S : SHeap} : FnR Tryz.prog 40 #[] S (fun w S' => rSnap.V S' w chap8) := by
  haveI : TyR Tryz.prog 23 rVal := ⟨(inferInstance : TyR Tryz.prog 23 (rSlice 240 rPod)).b⟩
  have hmr : Rng 3 := by simp [Rng]
  (refine Fn.enter (args := []) Tryz.func40 rfl Tryz.ntmps40 rfl ?_; intro w0)
  repeat (first | (refine Walk ?_; intros) | refine JC.block ?_)
  (refine JO.eff rfl rfl rfl (JEff.alloc rfl ?_); intro rb hrb)
  repeat (first | (refine Walk ?_; intros) | refine JC.block ?_)
  (refine JO.eff rfl rfl rfl (JEff.alloc rfl ?_); intro vb hvb)
  repeat (first | (refine Walk ?_; intros) | refine JC.block ?_)
  refine JO.eff rfl rfl rfl (JEff.storeW rfl rfl V_vec15 nna (List.Perm.refl _) rfl (by intro l hl; cases hl) ?_)
  refine JO.freezeV V_vec15 nna hvb (by intro l hl; cases hl) ?_; intro S1 hl1 hpv
  repeat (first | (refine Walk ?_; intros) | refine JC.block ?_)
  obtain ⟨rfl, _, _⟩ := V_arr.1 (by assumption : (rArr 5).V _ _ [15, 0, 0, 0, 0])
  (refine JO.eff rfl rfl rfl (JEff.buildS (bt := 32) (rep := rLabel) (ys := [(⟨zoneS, ⟨#[120]⟩⟩ : Label)]) rfl rfl (⟨⟨V_lab (by decide) (by decide), nna⟩, trivial⟩) rfl rfl rfl (by decide) rfl ?_); intro S2 a2 hl2 hV2)
  repeat (first | (refine Walk ?_; intros) | refine JC.block ?_)
  obtain ⟨rfl, _, _⟩ := V_arr.1 (by assumption : (rArr 5).V _ _ [15, 0, 0, 0, 0])
  (refine JO.eff rfl rfl rfl (JEff.buildS (bt := 32) (rep := rLabel) (ys := [(⟨zoneS, ⟨#[121]⟩⟩ : Label)]) rfl rfl (⟨⟨V_lab (by decide) (by decide), nna⟩, trivial⟩) rfl rfl rfl (by decide) rfl ?_); intro S3 a3 hl3 hV3)
  repeat (first | (refine Walk ?_; intros) | refine JC.block ?_)
  obtain ⟨rfl, _, _⟩ := V_arr.1 (by assumption : (rArr 5).V _ _ [15, 0, 0, 0, 0])
  (refine JO.eff rfl rfl rfl (JEff.buildS (bt := 112) (rep := rNode) (ys := nodes8) rfl rfl ⟨⟨V_node8 (hV2.mono hl3), nna⟩, ⟨V_node8 hV3, nna⟩, ⟨V_node8 V_nil, nna⟩, trivial⟩ rfl rfl rfl (by decide) rfl ?_); intro S4 a4 hl4 hV4)
  repeat (first | (refine Walk ?_; intros) | refine JC.block ?_)
  (refine JO.eff rfl rfl rfl (JEff.buildS (bt := 56) (rep := rOwner) (ys := [(⟨⟨#[111]⟩, 3, zoneS, 1, false⟩ : Owner)]) rfl rfl (⟨⟨V_owner8 hmr, nna⟩, trivial⟩) rfl rfl rfl (by decide) rfl ?_); intro S5 a5 hl5 hV5)
  repeat (first | (refine Walk ?_; intros) | refine JC.block ?_)
  (refine JO.eff rfl rfl rfl (JEff.alloc rfl ?_); intro sb hsb)
  repeat (first | (refine Walk ?_; intros) | refine JC.block ?_)
  refine JO.eff rfl rfl rfl (JEff.storeW rfl rfl (V_snap (x := ⟨nodes8, [], [⟨⟨#[111]⟩, 3, zoneS, 1, false⟩]⟩) (hV4.mono (by exact lea)) V_nil (hV5.mono (by exact lea))) nna (List.Perm.refl _) rfl (by intro l hl; cases hl) ?_)
  repeat (first | (refine Walk ?_; intros) | refine JC.block ?_)
  refine JC.newRow 64 (Rp.sz rPod) ?_
  refine JC.loopF (σ := Nat × Option Addr × Nat × List Value) [(0, _), (2, _)] (fun q => [(3, .int .i64 q.1)])
    (fun q => [.row w0.heap.size 64 (Rp.sz rPod) (.slice q.2.1 q.1 q.2.2.1) q.1 (flatCells q.2.2.2), .blk sb (.cells #[.slice a4 3 3, .slice q.2.1 q.1 q.2.2.1, .slice a5 1 1] 26 (0, 0)), .blk rb (.cells #[.slice none 0 0, .slice none 0 0, .slice none 0 0] 26 (0, 0))])
    (fun Sk q => q.1 ≤ 3 ∧ allV rPod Sk q.2.2.2 (pods8.take q.1)) (fun q => 3 - q.1) (0, none, 0, []) (by exact sba) (by exact sba) (by rfl) ⟨Nat.zero_le _, trivial⟩ ?_
  rintro Sk ⟨k, ra, rc, vs⟩ hlk ⟨hk, hv1⟩
  dsimp only at hk hv1
  dsimp only [List.cons_append, List.nil_append]
  repeat (first | (refine Walk ?_; intros) | refine JC.block ?_)
  refine JC.cond rfl (fun hc => ?_) (fun hc => ?_)
  · have hk' : k < 3 := by have := of_decide_eq_true hc; omega
    obtain ⟨x, hx⟩ : ∃ x, ([112, 113, 114] : List UInt8)[k]? = some x := ⟨_, List.getElem?_eq_getElem (by simpa using hk')⟩
    have hst : pods8.take (k + 1) = pods8.take k ++ [pod8 x] := by
      match k with
      | 0 => cases hx; rfl
      | 1 => cases hx; rfl
      | 2 => cases hx; rfl
      | k + 3 => omega
    have hP := fun S => V_pod8 (S := S) (pqr_at hx)
    have hvl := hv1.length
    have hpl : (pods8.take k).length = k := by rw [List.length_take]; show min k 3 = k; omega
    rw [hpl] at hvl
    repeat (first | (refine Walk ?_; intros) | refine JC.block ?_)
    refine JC.drawTreeF 6 rfl [10] [1] [0, 2, 3, 4, 5, 6, 7] (.alt (ofL [1, 8, 9, 10, 11] .nil) (ofL [8, 1, 9, 10, 11] .nil)) Tryz_mixed (by decide +kernel) ?_
    refine JO.pure rfl rfl rfl (JPure.fieldP rfl rfl ?_)
    repeat (first | (refine Walk ?_; intros) | refine JC.block ?_)
    refine JO.pure rfl rfl rfl (JPure.sliceT rfl rfl rfl rfl (by omega) (by omega) (by show (k : Int) + 1 ≤ 3; omega) ?_)
    repeat (first | (refine Walk ?_; intros) | refine JC.block ?_)
    refine JO.alt ?_ ?_
    · refine JO.eff rfl rfl rfl (JEff.loadE (rVal) (x0 := .slice ra k rc) rfl (by (first | exact List.mem_cons_self | exact List.mem_cons_of_mem _ List.mem_cons_self | exact List.mem_cons_of_mem _ (List.mem_cons_of_mem _ List.mem_cons_self))) rfl ⟨rfl, rfl⟩ inferInstance rfl ?_)
      repeat (first | (refine Walk ?_; intros) | refine JC.block ?_)
      (refine JO.eff rfl rfl rfl (JEff.build (rep := rPod) (ys := [pod8 x]) rfl rfl ⟨⟨hP _, nna⟩, trivial⟩ rfl rfl rfl rfl ?_); intro bb hbb hvv)
      repeat (first | (refine Walk ?_; intros) | refine JC.block ?_)
      (refine JO.eff rfl rfl rfl (JEff.appendL (rep := rPod) rfl rfl rfl rfl (List.Perm.swap _ _ _) (by exact hvv.flat) (by intro c hc; exact flat_one (fun v hv => (hvv.size v hv).2) c hc) (by unfold big; omega) (by unfold big; omega) (by first | exact rowT_ok | (intro l hl; cases hl)) rfl ?_); intro a2 c2; clear hvv hbb)
      repeat (first | (refine Walk ?_; intros) | refine JC.block ?_)
      refine JO.pure rfl rfl rfl (JPure.fieldP rfl rfl ?_)
      refine JO.eff rfl rfl rfl (JEff.store (rep := rVal) (x0 := .slice a2 (k + 1) c2) rfl rfl (V_val.2 ⟨rfl, rfl⟩) nna (List.Perm.swap _ _ _) (by simp [rVal]) (by intro l hl; cases hl) ?_)
      repeat (first | (refine Walk ?_; intros) | refine JC.block ?_)
      refine JX.perm (M' := [_, _, _]) (List.Perm.trans (List.Perm.swap _ _ _) (List.Perm.refl _)) ?_
      exact JX.roundF (k + 1, a2, c2, vs ++ [_]) (by exact lea) ⟨by dsimp only; omega, by (try dsimp only); rw [hst]; exact allV_add (by exact lea) hv1 (hP _) nna⟩ (by (try dsimp only); omega) (by simp [flat_append]; rfl) (by exact sba) (by exact sba)
    · (refine JO.eff rfl rfl rfl (JEff.build (rep := rPod) (ys := [pod8 x]) rfl rfl ⟨⟨hP _, nna⟩, trivial⟩ rfl rfl rfl rfl ?_); intro bb hbb hvv)
      repeat (first | (refine Walk ?_; intros) | refine JC.block ?_)
      refine JO.eff rfl rfl rfl (JEff.loadE (rVal) (x0 := .slice ra k rc) rfl (by (first | exact List.mem_cons_self | exact List.mem_cons_of_mem _ List.mem_cons_self | exact List.mem_cons_of_mem _ (List.mem_cons_of_mem _ List.mem_cons_self))) rfl ⟨rfl, rfl⟩ inferInstance rfl ?_)
      repeat (first | (refine Walk ?_; intros) | refine JC.block ?_)
      (refine JO.eff rfl rfl rfl (JEff.appendL (rep := rPod) rfl rfl rfl rfl (List.Perm.swap _ _ _) (by exact hvv.flat) (by intro c hc; exact flat_one (fun v hv => (hvv.size v hv).2) c hc) (by unfold big; omega) (by unfold big; omega) (by first | exact rowT_ok | (intro l hl; cases hl)) rfl ?_); intro a2 c2; clear hvv hbb)
      repeat (first | (refine Walk ?_; intros) | refine JC.block ?_)
      refine JO.pure rfl rfl rfl (JPure.fieldP rfl rfl ?_)
      refine JO.eff rfl rfl rfl (JEff.store (rep := rVal) (x0 := .slice a2 (k + 1) c2) rfl rfl (V_val.2 ⟨rfl, rfl⟩) nna (List.Perm.swap _ _ _) (by simp [rVal]) (by intro l hl; cases hl) ?_)
      repeat (first | (refine Walk ?_; intros) | refine JC.block ?_)
      refine JX.perm (M' := [_, _, _]) (List.Perm.trans (List.Perm.swap _ _ _) (List.Perm.refl _)) ?_
      exact JX.roundF (k + 1, a2, c2, vs ++ [_]) (by exact lea) ⟨by dsimp only; omega, by (try dsimp only); rw [hst]; exact allV_add (by exact lea) hv1 (hP _) nna⟩ (by (try dsimp only); omega) (by simp [flat_append]; rfl) (by exact sba) (by exact sba)
  · obtain rfl : k = 3 := by have := of_decide_eq_false hc; omega
    refine JC.freezeRow (rep := rPod) (bt := 240) (xs := pods8) hv1 rfl (by decide) (by decide) (fun S9 hl9 hV9 => ?_)
    refine JC.freeze hsb (fun S10 hl10 hS10 => ?_)
    have hfin : PtrTo S10 ⟨sb, 0, none⟩ rSnap (chapM 3) :=
      cells_ptr (v := .agg #[.slice a4 3 3, .slice ra 3 rc, .slice a5 1 1]) hS10 (map_R (seq1 ((hV4.mono (by exact lea)).one rfl) (seq1 ((hV9.mono (by exact lea)).one rfl) ((hV5.mono (by exact lea)).one rfl))))
    repeat (first | (refine Walk ?_; intros) | refine JC.block ?_)
    refine JO.eff rfl rfl rfl (JEff.storeW rfl rfl (by assumption : rSnap.V _ _ (chapM 3)) nna (List.Perm.refl _) rfl (by intro l hl; cases hl) ?_)
    refine JO.freezeV (by assumption : rSnap.V _ _ (chapM 3)) nna hrb (by intro l hl; cases hl) ?_; intro S11 hl11 hpo
    repeat (first | (refine Walk ?_; intros) | refine JC.block ?_)
    exact JX.retCell Tryz.results40 rfl hpo (List.nil_sublist _) (fun w hw => ⟨rfl, hw⟩)
theorem w9_Safe {S : SHeap} {u v : Value} {s : Snap} {p : List Int} {b : Bool} {e : Int} (h : (safeB s p, checkP s p) = (b, e)) (hu : rSnap.V S u s) (hv : (rSlice 8 rI64).V S v p) : FnV Tryz.prog 33 #[u, v] S (.tuple #[.bool b, .int .i64 e]) := by
  obtain ⟨rfl, rfl⟩ := Prod.mk.injEq .. ▸ h
  exact p9_Safe hu hv
theorem w9_Sum {S : SHeap} {u v : Value} {s : Snap} {p : List Int} {n e : Int} (h : (sumV s p, checkP s p) = (n, e)) (hu : rSnap.V S u s) (hv : (rSlice 8 rI64).V S v p) : FnV Tryz.prog 37 #[u, v] S (.tuple #[.int .i64 n, .int .i64 e]) := by
  obtain ⟨rfl, rfl⟩ := Prod.mk.injEq .. ▸ h
  exact p9_Sum hu hv
theorem w9_Worse {S : SHeap} {u v v2 : Value} {s : Snap} {p q : List Int} {l : List Clause} {e : Int} (h : worseV s p q = (l, e)) (hu : rSnap.V S u s) (hv : (rSlice 8 rI64).V S v p) (hv2 : (rSlice 8 rI64).V S v2 q) : FnLE Tryz.prog 35 #[u, v, v2] S 32 rClause l (.int .i64 e) := by
  have hh := p9_Worse hu hv hv2
  rw [h] at hh; exact hh
theorem f9_S1 : (safeB chap8 [0, 1, 2], checkP chap8 [0, 1, 2]) = (true, 0) := by decide +kernel
theorem f9_S2 : (safeB chap8 [0, 0, 2], checkP chap8 [0, 0, 2]) = (false, 0) := by decide +kernel
theorem f9_N : (sumV chap8 [0, 0, -1], checkP chap8 [0, 0, -1]) = (3, 0) := by decide +kernel
theorem f9_W1 : worseV chap8 [0, 1, 2] [0, 0, 2] = ([⟨1, 0, 0, 5⟩, ⟨7, 0, 0, 1⟩], 0) := by decide +kernel
theorem f9_W2 : worseV chap8 [0, 0, 2] [0, 1, 2] = ([], 0) := by decide +kernel
theorem f9_S3 : (safeB chap8 [0, 1], checkP chap8 [0, 1]) = (false, 2) := by decide +kernel
theorem s39_L09a {P K : Prop} (k : K) (h : Goal K → P := by
  intro zk
  (first | refine Walk ?_ | refine JC.block ?_ | (refine JO.eff rfl rfl rfl (JEff.callV rfl (p9_Safe (by exact vta) (by exact vta)) rfl ?_); intro zqa zqb) | (refine JO.eff rfl rfl rfl (JEff.callLE rfl (p9_Worse (by exact vta) (by exact vta) (by exact vta)) rfl ?_); intro zqa zqb zqc zqd zqe zqf) | (refine JO.eff rfl rfl rfl (JEff.callV rfl (p9_Sum (by exact vta) (by exact vta)) rfl ?_); intro zqa zqb) | (refine JO.eff rfl rfl rfl (JEff.callR rfl (q9_chapter) rfl ?_); intro zqa zqb zqc zqd) | (refine WNew ?_) | (refine WPut ?_))
  (repeat (first | revert zqg | revert zqf | revert zqe | revert zqd | revert zqc | revert zqb | revert zqa))
  exact zk.k) : P := h ⟨k⟩
theorem q9_works {S : SHeap} : FnV Tryz.prog 39 #[] S (.bool true) := by
  have hz0 : ([⟨1, 0, 0, 5⟩, ⟨7, 0, 0, 1⟩] : List Clause)[(0 : Int).toNat]? = some ⟨1, 0, 0, 5⟩ := rfl
  have hz1 : ([⟨1, 0, 0, 5⟩, ⟨7, 0, 0, 1⟩] : List Clause)[(1 : Int).toNat]? = some ⟨7, 0, 0, 1⟩ := rfl
  (refine Fn.enter (args := []) Tryz.func39 rfl Tryz.ntmps39 rfl ?_; intro w0)
  repeat (refine s39_L09a ?_; intros)
  (refine JO.eff rfl rfl rfl (JEff.buildS (bt := 8) (rep := rI64) (ys := [(0 : Int), 1, 2]) rfl rfl (⟨⟨V_num, nna⟩, ⟨V_num, nna⟩, ⟨V_num, nna⟩, trivial⟩) rfl rfl rfl (by decide) rfl ?_); intro S2 a2 hl2 hV2)
  repeat (first | (refine Walk ?_; intros) | refine JC.block ?_ | (refine JO.eff rfl rfl rfl (JEff.callV rfl (w9_Safe f9_S1 (by exact vta) (by exact vta)) rfl ?_); intro _ _) | (refine JO.eff rfl rfl rfl (JEff.callV rfl (p9_Safe (by exact vta) (by exact vta)) rfl ?_); intro _ _) | (refine JO.eff rfl rfl rfl (JEff.callLE rfl (p9_Worse (by exact vta) (by exact vta) (by exact vta)) rfl ?_); intro _ _ _ _ _ _) | (refine JO.eff rfl rfl rfl (JEff.callV rfl (p9_Sum (by exact vta) (by exact vta)) rfl ?_); intro _ _) | (refine JO.eff rfl rfl rfl (JEff.callR rfl (q9_chapter) rfl ?_); intro _ _ _ _) | (refine WNew ?_; intros) | (refine WPut ?_; intros))
  (refine JO.eff rfl rfl rfl (JEff.buildS (bt := 8) (rep := rI64) (ys := [(0 : Int), 0, 2]) rfl rfl (⟨⟨V_num, nna⟩, ⟨V_num, nna⟩, ⟨V_num, nna⟩, trivial⟩) rfl rfl rfl (by decide) rfl ?_); intro S3 a3 hl3 hV3)
  repeat (first | (refine Walk ?_; intros) | refine JC.block ?_ | (refine JO.eff rfl rfl rfl (JEff.callV rfl (w9_Safe f9_S2 (by exact vta) hV3) rfl ?_); intro _ _) | (refine JO.eff rfl rfl rfl (JEff.callV rfl (p9_Safe (by exact vta) (by exact vta)) rfl ?_); intro _ _) | (refine JO.eff rfl rfl rfl (JEff.callLE rfl (p9_Worse (by exact vta) (by exact vta) (by exact vta)) rfl ?_); intro _ _ _ _ _ _) | (refine JO.eff rfl rfl rfl (JEff.callV rfl (p9_Sum (by exact vta) (by exact vta)) rfl ?_); intro _ _) | (refine JO.eff rfl rfl rfl (JEff.callR rfl (q9_chapter) rfl ?_); intro _ _ _ _) | (refine WNew ?_; intros) | (refine WPut ?_; intros))
  (refine JO.eff rfl rfl rfl (JEff.buildS (bt := 8) (rep := rI64) (ys := [(0 : Int), 0, -1]) rfl rfl (⟨⟨V_num, nna⟩, ⟨V_num, nna⟩, ⟨V_num, nna⟩, trivial⟩) rfl rfl rfl (by decide) rfl ?_); intro S4 a4 hl4 hV4)
  repeat (first | (refine Walk ?_; intros) | refine JC.block ?_ | (refine JO.eff rfl rfl rfl (JEff.callV rfl (w9_Sum f9_N (by exact vta) hV4) rfl ?_); intro _ _) | (refine JO.eff rfl rfl rfl (JEff.callV rfl (p9_Safe (by exact vta) (by exact vta)) rfl ?_); intro _ _) | (refine JO.eff rfl rfl rfl (JEff.callLE rfl (p9_Worse (by exact vta) (by exact vta) (by exact vta)) rfl ?_); intro _ _ _ _ _ _) | (refine JO.eff rfl rfl rfl (JEff.callV rfl (p9_Sum (by exact vta) (by exact vta)) rfl ?_); intro _ _) | (refine JO.eff rfl rfl rfl (JEff.callR rfl (q9_chapter) rfl ?_); intro _ _ _ _) | (refine WNew ?_; intros) | (refine WPut ?_; intros))
  (refine JO.eff rfl rfl rfl (JEff.buildS (bt := 8) (rep := rI64) (ys := [(0 : Int), 1, 2]) rfl rfl (⟨⟨V_num, nna⟩, ⟨V_num, nna⟩, ⟨V_num, nna⟩, trivial⟩) rfl rfl rfl (by decide) rfl ?_); intro S5 a5 hl5 hV5)
  repeat (refine s39_L09a ?_; intros)
  (refine JO.eff rfl rfl rfl (JEff.buildS (bt := 8) (rep := rI64) (ys := [(0 : Int), 0, 2]) rfl rfl (⟨⟨V_num, nna⟩, ⟨V_num, nna⟩, ⟨V_num, nna⟩, trivial⟩) rfl rfl rfl (by decide) rfl ?_); intro S6 a6 hl6 hV6)
  repeat (first | (refine Walk ?_; intros) | refine JC.block ?_ | (refine JO.eff rfl rfl rfl (JEff.callLE rfl (w9_Worse f9_W1 (by exact vta) (hV5.mono hl6) hV6) rfl ?_); intro _ _ _ _ _ _) | (refine JO.eff rfl rfl rfl (JEff.callV rfl (p9_Safe (by exact vta) (by exact vta)) rfl ?_); intro _ _) | (refine JO.eff rfl rfl rfl (JEff.callLE rfl (p9_Worse (by exact vta) (by exact vta) (by exact vta)) rfl ?_); intro _ _ _ _ _ _) | (refine JO.eff rfl rfl rfl (JEff.callV rfl (p9_Sum (by exact vta) (by exact vta)) rfl ?_); intro _ _) | (refine JO.eff rfl rfl rfl (JEff.callR rfl (q9_chapter) rfl ?_); intro _ _ _ _) | (refine WNew ?_; intros) | (refine WPut ?_; intros))
  (refine JO.eff rfl rfl rfl (JEff.buildS (bt := 8) (rep := rI64) (ys := [(0 : Int), 0, 2]) rfl rfl (⟨⟨V_num, nna⟩, ⟨V_num, nna⟩, ⟨V_num, nna⟩, trivial⟩) rfl rfl rfl (by decide) rfl ?_); intro S7 a7 hl7 hV7)
  repeat (refine s39_L09a ?_; intros)
  (refine JO.eff rfl rfl rfl (JEff.buildS (bt := 8) (rep := rI64) (ys := [(0 : Int), 1, 2]) rfl rfl (⟨⟨V_num, nna⟩, ⟨V_num, nna⟩, ⟨V_num, nna⟩, trivial⟩) rfl rfl rfl (by decide) rfl ?_); intro S8 a8 hl8 hV8)
  repeat (first | (refine Walk ?_; intros) | refine JC.block ?_ | (refine JO.eff rfl rfl rfl (JEff.callLE rfl (w9_Worse f9_W2 (by exact vta) (hV7.mono hl8) hV8) rfl ?_); intro _ _ _ _ _ _) | (refine JO.eff rfl rfl rfl (JEff.callV rfl (p9_Safe (by exact vta) (by exact vta)) rfl ?_); intro _ _) | (refine JO.eff rfl rfl rfl (JEff.callLE rfl (p9_Worse (by exact vta) (by exact vta) (by exact vta)) rfl ?_); intro _ _ _ _ _ _) | (refine JO.eff rfl rfl rfl (JEff.callV rfl (p9_Sum (by exact vta) (by exact vta)) rfl ?_); intro _ _) | (refine JO.eff rfl rfl rfl (JEff.callR rfl (q9_chapter) rfl ?_); intro _ _ _ _) | (refine WNew ?_; intros) | (refine WPut ?_; intros))
  (refine JO.eff rfl rfl rfl (JEff.buildS (bt := 8) (rep := rI64) (ys := [(0 : Int), 1]) rfl rfl (⟨⟨V_num, nna⟩, ⟨V_num, nna⟩, trivial⟩) rfl rfl rfl (by decide) rfl ?_); intro S9 a9 hl9 hV9)
  repeat (first | (refine Walk ?_; intros) | refine JC.block ?_ | (refine JO.eff rfl rfl rfl (JEff.callV rfl (w9_Safe f9_S3 (by exact vta) hV9) rfl ?_); intro _ _) | refine JO.pure rfl rfl rfl (JPure.eqR rfl vta rfl V_cl rfl rfl ?_) | (refine JO.eff rfl rfl rfl (JEff.callV rfl (p9_Safe (by exact vta) (by exact vta)) rfl ?_); intro _ _) | (refine JO.eff rfl rfl rfl (JEff.callLE rfl (p9_Worse (by exact vta) (by exact vta) (by exact vta)) rfl ?_); intro _ _ _ _ _ _) | (refine JO.eff rfl rfl rfl (JEff.callV rfl (p9_Sum (by exact vta) (by exact vta)) rfl ?_); intro _ _) | (refine JO.eff rfl rfl rfl (JEff.callR rfl (q9_chapter) rfl ?_); intro _ _ _ _) | (refine WNew ?_; intros) | (refine WPut ?_; intros))
  (refine JX.ret1 Tryz.results39 (ResV.tmp rfl) (List.nil_sublist _) ?_)
  exact ⟨rfl, rfl⟩
end Go.Dr
namespace Go.Dr
open Go.Proofs
set_option maxRecDepth 20000
set_option maxHeartbeats 2000000
set_option linter.unusedSimpArgs false
set_option linter.unusedVariables false
theorem s8_L09b {P K : Prop} (k : K) (h : Goal K → P := by
  intro zk
  (first | refine Walk ?_ | refine JC.block ?_ | (refine JO.eff rfl rfl rfl (JEff.callL rfl (r0_CopyInts (by exact vta)) rfl ?_); intro zqa zqb zqc zqd zqe zqf) | (refine JO.eff rfl rfl rfl (JEff.callV rfl (r8_Same (by exact vta) (by exact vta)) rfl ?_); intro zqa zqb) | (refine JO.eff rfl rfl rfl (JEff.callV rfl (r0_EqInts (by exact vta) (by exact vta)) rfl ?_); intro zqa zqb) | (refine JO.eff rfl rfl rfl (JEff.callR rfl (q9_cut (by exact vta)) rfl ?_); intro zqa zqb zqc zqd) | (refine JO.eff rfl rfl rfl (JEff.callV rfl (p9_Safe (by exact vta) (by exact vta)) rfl ?_); intro zqa zqb) | (refine JO.eff rfl rfl rfl (JEff.callV rfl (r9_Safe (by exact vta) (by exact vta)) rfl ?_); intro zqa zqb) | (refine JO.eff rfl rfl rfl (JEff.callLE rfl (p9_Worse (by exact vta) (by exact vta) (by exact vta)) rfl ?_); intro zqa zqb zqc zqd zqe zqf) | (refine JO.eff rfl rfl rfl (JEff.callLE rfl (r9_Worse (by exact vta) (by exact vta) (by exact vta)) rfl ?_); intro zqa zqb zqc zqd zqe zqf) | (refine JO.eff rfl rfl rfl (JEff.callV rfl (p9_Sum (by exact vta) (by exact vta)) rfl ?_); intro zqa zqb) | (refine JO.eff rfl rfl rfl (JEff.callV rfl (r9_Sum (by exact vta) (by exact vta)) rfl ?_); intro zqa zqb) | (refine JO.eff rfl rfl rfl (JEff.callV rfl (q9_works) rfl ?_); intro zqa zqb))
  (repeat (first | revert zqg | revert zqf | revert zqe | revert zqd | revert zqc | revert zqb | revert zqa))
  exact zk.k) : P := h ⟨k⟩
theorem a9_SafeTells {S : SHeap} {u v v2 : Value} {s : Snap} {p q : List Int} (hu : rSnap.V S u s) (hv : (rSlice 8 rI64).V S v p) (hv2 : (rSlice 8 rI64).V S v2 q) : FnV Tryz.prog 8 #[u, v, v2] S (.bool true) := by
  obtain ⟨cs, rfl, hcs⟩ := V_agg rfl hu
  (refine Fn.enter (args := [.agg cs.toArray, v, v2]) Tryz.func8 rfl Tryz.ntmps8 rfl ?_; intro w0)
  repeat (refine s8_L09b ?_; intros)
  refine JO.eff rfl rfl rfl (JEff.box rfl rfl ?_); intro bb hbb
  repeat (refine s8_L09b ?_; intros)
  refine JO.pure rfl rfl rfl (JPure.loadM (rep := rSnap) (x0 := s) (mid := cs) rfl (by (first | exact List.mem_cons_self | exact List.mem_cons_of_mem _ List.mem_cons_self | exact List.mem_cons_of_mem _ (List.mem_cons_of_mem _ List.mem_cons_self))) (by show cs.take 3 = cs; exact List.take_of_length_le (by rw [rSnap.len hcs]; exact Nat.le_refl _)) (rSnap.mono (by exact lea) hcs) (.inl rfl) rfl ?_)
  refine JO.eff rfl rfl rfl (JEff.callR rfl (q9_cut (Rp.val_V (rSnap.mono (by exact lea) hcs))) rfl ?_); intro cw S1 hl1 hcw
  repeat (refine s8_L09b ?_; intros)
  refine JO.eff rfl rfl rfl (JEff.storeW rfl rfl hcw nna (List.Perm.refl _) (by show 3 = cs.length; exact (rSnap.len hcs).symm) (by intro l hl; cases hl) ?_)
  refine JO.freezeV hcw nna hbb (by intro l hl; cases hl) ?_; intro S2 hl2 hpb
  repeat (refine s8_L09b ?_; intros)
  rw [beq_self_eq_true (safeB (cutS s) p)]
  repeat (refine s8_L09b ?_; intros)
  rw [decide_eq_true (rfl : checkP (cutS s) p = checkP (cutS s) p)]
  repeat (first | (refine Walk ?_; intros) | refine JC.block ?_ | (refine JO.eff rfl rfl rfl (JEff.callV rfl (w_Same (by exact vta) (by exact vta)) rfl ?_); intro _ _) | (refine JO.eff rfl rfl rfl (JEff.callL rfl (r0_CopyInts (by exact vta)) rfl ?_); intro _ _ _ _ _ _) | (refine JO.eff rfl rfl rfl (JEff.callV rfl (r8_Same (by exact vta) (by exact vta)) rfl ?_); intro _ _) | (refine JO.eff rfl rfl rfl (JEff.callV rfl (r0_EqInts (by exact vta) (by exact vta)) rfl ?_); intro _ _) | (refine JO.eff rfl rfl rfl (JEff.callR rfl (q9_cut (by exact vta)) rfl ?_); intro _ _ _ _) | (refine JO.eff rfl rfl rfl (JEff.callV rfl (p9_Safe (by exact vta) (by exact vta)) rfl ?_); intro _ _) | (refine JO.eff rfl rfl rfl (JEff.callV rfl (r9_Safe (by exact vta) (by exact vta)) rfl ?_); intro _ _) | (refine JO.eff rfl rfl rfl (JEff.callLE rfl (p9_Worse (by exact vta) (by exact vta) (by exact vta)) rfl ?_); intro _ _ _ _ _ _) | (refine JO.eff rfl rfl rfl (JEff.callLE rfl (r9_Worse (by exact vta) (by exact vta) (by exact vta)) rfl ?_); intro _ _ _ _ _ _) | (refine JO.eff rfl rfl rfl (JEff.callV rfl (p9_Sum (by exact vta) (by exact vta)) rfl ?_); intro _ _) | (refine JO.eff rfl rfl rfl (JEff.callV rfl (r9_Sum (by exact vta) (by exact vta)) rfl ?_); intro _ _) | (refine JO.eff rfl rfl rfl (JEff.callV rfl (q9_works) rfl ?_); intro _ _))
  rw [decide_eq_true (rfl : (worseV (cutS s) p q).2 = (worseV (cutS s) p q).2)]
  repeat (refine s8_L09b ?_; intros)
  rw [decide_eq_true (rfl : sumV (cutS s) p = sumV (cutS s) p)]
  repeat (refine s8_L09b ?_; intros)
  rw [decide_eq_true (rfl : checkP (cutS s) p = checkP (cutS s) p)]
  repeat (first | (refine Walk ?_; intros) | refine JC.block ?_ | (refine JO.eff rfl rfl rfl (JEff.callV rfl (w_EqInts (by exact vta) (by exact vta)) rfl ?_); intro _ _) | (refine JO.eff rfl rfl rfl (JEff.callL rfl (r0_CopyInts (by exact vta)) rfl ?_); intro _ _ _ _ _ _) | (refine JO.eff rfl rfl rfl (JEff.callV rfl (r8_Same (by exact vta) (by exact vta)) rfl ?_); intro _ _) | (refine JO.eff rfl rfl rfl (JEff.callV rfl (r0_EqInts (by exact vta) (by exact vta)) rfl ?_); intro _ _) | (refine JO.eff rfl rfl rfl (JEff.callR rfl (q9_cut (by exact vta)) rfl ?_); intro _ _ _ _) | (refine JO.eff rfl rfl rfl (JEff.callV rfl (p9_Safe (by exact vta) (by exact vta)) rfl ?_); intro _ _) | (refine JO.eff rfl rfl rfl (JEff.callV rfl (r9_Safe (by exact vta) (by exact vta)) rfl ?_); intro _ _) | (refine JO.eff rfl rfl rfl (JEff.callLE rfl (p9_Worse (by exact vta) (by exact vta) (by exact vta)) rfl ?_); intro _ _ _ _ _ _) | (refine JO.eff rfl rfl rfl (JEff.callLE rfl (r9_Worse (by exact vta) (by exact vta) (by exact vta)) rfl ?_); intro _ _ _ _ _ _) | (refine JO.eff rfl rfl rfl (JEff.callV rfl (p9_Sum (by exact vta) (by exact vta)) rfl ?_); intro _ _) | (refine JO.eff rfl rfl rfl (JEff.callV rfl (r9_Sum (by exact vta) (by exact vta)) rfl ?_); intro _ _) | (refine JO.eff rfl rfl rfl (JEff.callV rfl (q9_works) rfl ?_); intro _ _))
  (refine JX.ret1 Tryz.results8 (ResV.tmp rfl) (List.nil_sublist _) ?_)
  exact ⟨rfl, rfl⟩
theorem g9_S : (safeB ⟨[], [], []⟩ [], checkP ⟨[], [], []⟩ []) = (true, 0) := by decide +kernel
theorem g9_N1 : (sumV chap8 [-1, -1, -1], checkP chap8 [-1, -1, -1]) = (3, 0) := by decide +kernel
theorem g9_W1 : worseV chap8 [-1, -1, -1] [0, 0, 0] = ([⟨1, 0, 0, 15⟩, ⟨7, 0, 0, 2⟩], 0) := by decide +kernel
theorem g9_W2 : worseV chap8 [0, 0, 3] [0, 0, 0] = ([], 2) := by decide +kernel
theorem g9_W3 : worseV chap8 [0, 0, 0] [0, 0, 3] = ([], 2) := by decide +kernel
theorem g9_N2 : (sumV chap8 [0, 0, 0], checkP chap8 [0, 0, 0]) = (3, 0) := by decide +kernel
theorem s9_L09b {P K : Prop} (k : K) (h : Goal K → P := by
  intro zk
  (first | refine Walk ?_ | refine JC.block ?_ | (refine JO.eff rfl rfl rfl (JEff.callV rfl (p9_Safe (by exact vta) (by exact vta)) rfl ?_); intro zqa zqb) | (refine JO.eff rfl rfl rfl (JEff.callLE rfl (p9_Worse (by exact vta) (by exact vta) (by exact vta)) rfl ?_); intro zqa zqb zqc zqd zqe zqf) | (refine JO.eff rfl rfl rfl (JEff.callV rfl (p9_Sum (by exact vta) (by exact vta)) rfl ?_); intro zqa zqb) | (refine JO.eff rfl rfl rfl (JEff.callV rfl (q9_works) rfl ?_); intro zqa zqb) | (refine JO.eff rfl rfl rfl (JEff.callR rfl (q9_chapter) rfl ?_); intro zqa zqb zqc zqd) | (refine WNew ?_) | (refine WPut ?_))
  (repeat (first | revert zqg | revert zqf | revert zqe | revert zqd | revert zqc | revert zqb | revert zqa))
  exact zk.k) : P := h ⟨k⟩
theorem a9_SafeNames {S : SHeap} : FnV Tryz.prog 9 #[] S (.bool true) := by
  (refine Fn.enter (args := []) Tryz.func9 rfl Tryz.ntmps9 rfl ?_; intro w0)
  repeat (first | (refine Walk ?_; intros) | refine JC.block ?_ | (refine JO.eff rfl rfl rfl (JEff.callV rfl (w9_Safe g9_S (V_snap (x := ⟨[], [], []⟩) V_nil V_nil V_nil) V_nil) rfl ?_); intro _ _) | (refine JO.eff rfl rfl rfl (JEff.callV rfl (p9_Safe (by exact vta) (by exact vta)) rfl ?_); intro _ _) | (refine JO.eff rfl rfl rfl (JEff.callLE rfl (p9_Worse (by exact vta) (by exact vta) (by exact vta)) rfl ?_); intro _ _ _ _ _ _) | (refine JO.eff rfl rfl rfl (JEff.callV rfl (p9_Sum (by exact vta) (by exact vta)) rfl ?_); intro _ _) | (refine JO.eff rfl rfl rfl (JEff.callV rfl (q9_works) rfl ?_); intro _ _) | (refine JO.eff rfl rfl rfl (JEff.callR rfl (q9_chapter) rfl ?_); intro _ _ _ _) | (refine WNew ?_; intros) | (refine WPut ?_; intros))
  (refine JO.eff rfl rfl rfl (JEff.buildS (bt := 8) (rep := rI64) (ys := [(-1 : Int), -1, -1]) rfl rfl (⟨⟨V_num, nna⟩, ⟨V_num, nna⟩, ⟨V_num, nna⟩, trivial⟩) rfl rfl rfl (by decide) rfl ?_); intro S2 a2 hl2 hV2)
  repeat (first | (refine Walk ?_; intros) | refine JC.block ?_ | (refine JO.eff rfl rfl rfl (JEff.callV rfl (w9_Sum g9_N1 (by exact vta) hV2) rfl ?_); intro _ _) | (refine JO.eff rfl rfl rfl (JEff.callV rfl (p9_Safe (by exact vta) (by exact vta)) rfl ?_); intro _ _) | (refine JO.eff rfl rfl rfl (JEff.callLE rfl (p9_Worse (by exact vta) (by exact vta) (by exact vta)) rfl ?_); intro _ _ _ _ _ _) | (refine JO.eff rfl rfl rfl (JEff.callV rfl (p9_Sum (by exact vta) (by exact vta)) rfl ?_); intro _ _) | (refine JO.eff rfl rfl rfl (JEff.callV rfl (q9_works) rfl ?_); intro _ _) | (refine JO.eff rfl rfl rfl (JEff.callR rfl (q9_chapter) rfl ?_); intro _ _ _ _) | (refine WNew ?_; intros) | (refine WPut ?_; intros))
  (refine JO.eff rfl rfl rfl (JEff.buildS (bt := 8) (rep := rI64) (ys := [(-1 : Int), -1, -1]) rfl rfl (⟨⟨V_num, nna⟩, ⟨V_num, nna⟩, ⟨V_num, nna⟩, trivial⟩) rfl rfl rfl (by decide) rfl ?_); intro S5 a5 hl5 hV5)
  repeat (refine s9_L09b ?_; intros)
  (refine JO.eff rfl rfl rfl (JEff.buildS (bt := 8) (rep := rI64) (ys := [(0 : Int), 0, 0]) rfl rfl (⟨⟨V_num, nna⟩, ⟨V_num, nna⟩, ⟨V_num, nna⟩, trivial⟩) rfl rfl rfl (by decide) rfl ?_); intro S6 a6 hl6 hV6)
  repeat (first | (refine Walk ?_; intros) | refine JC.block ?_ | (refine JO.eff rfl rfl rfl (JEff.callLE rfl (w9_Worse g9_W1 (by exact vta) (hV5.mono hl6) hV6) rfl ?_); intro _ _ _ _ _ _) | (refine JO.eff rfl rfl rfl (JEff.callV rfl (p9_Safe (by exact vta) (by exact vta)) rfl ?_); intro _ _) | (refine JO.eff rfl rfl rfl (JEff.callLE rfl (p9_Worse (by exact vta) (by exact vta) (by exact vta)) rfl ?_); intro _ _ _ _ _ _) | (refine JO.eff rfl rfl rfl (JEff.callV rfl (p9_Sum (by exact vta) (by exact vta)) rfl ?_); intro _ _) | (refine JO.eff rfl rfl rfl (JEff.callV rfl (q9_works) rfl ?_); intro _ _) | (refine JO.eff rfl rfl rfl (JEff.callR rfl (q9_chapter) rfl ?_); intro _ _ _ _) | (refine WNew ?_; intros) | (refine WPut ?_; intros))
  (refine JO.eff rfl rfl rfl (JEff.buildS (bt := 8) (rep := rI64) (ys := [(0 : Int), 0, 3]) rfl rfl (⟨⟨V_num, nna⟩, ⟨V_num, nna⟩, ⟨V_num, nna⟩, trivial⟩) rfl rfl rfl (by decide) rfl ?_); intro S7 a7 hl7 hV7)
  repeat (refine s9_L09b ?_; intros)
  (refine JO.eff rfl rfl rfl (JEff.buildS (bt := 8) (rep := rI64) (ys := [(0 : Int), 0, 0]) rfl rfl (⟨⟨V_num, nna⟩, ⟨V_num, nna⟩, ⟨V_num, nna⟩, trivial⟩) rfl rfl rfl (by decide) rfl ?_); intro S8 a8 hl8 hV8)
  repeat (first | (refine Walk ?_; intros) | refine JC.block ?_ | (refine JO.eff rfl rfl rfl (JEff.callLE rfl (w9_Worse g9_W2 (by exact vta) (hV7.mono hl8) hV8) rfl ?_); intro _ _ _ _ _ _) | (refine JO.eff rfl rfl rfl (JEff.callV rfl (p9_Safe (by exact vta) (by exact vta)) rfl ?_); intro _ _) | (refine JO.eff rfl rfl rfl (JEff.callLE rfl (p9_Worse (by exact vta) (by exact vta) (by exact vta)) rfl ?_); intro _ _ _ _ _ _) | (refine JO.eff rfl rfl rfl (JEff.callV rfl (p9_Sum (by exact vta) (by exact vta)) rfl ?_); intro _ _) | (refine JO.eff rfl rfl rfl (JEff.callV rfl (q9_works) rfl ?_); intro _ _) | (refine JO.eff rfl rfl rfl (JEff.callR rfl (q9_chapter) rfl ?_); intro _ _ _ _) | (refine WNew ?_; intros) | (refine WPut ?_; intros))
  (refine JO.eff rfl rfl rfl (JEff.buildS (bt := 8) (rep := rI64) (ys := [(0 : Int), 0, 0]) rfl rfl (⟨⟨V_num, nna⟩, ⟨V_num, nna⟩, ⟨V_num, nna⟩, trivial⟩) rfl rfl rfl (by decide) rfl ?_); intro S9 a9 hl9 hV9)
  repeat (refine s9_L09b ?_; intros)
  (refine JO.eff rfl rfl rfl (JEff.buildS (bt := 8) (rep := rI64) (ys := [(0 : Int), 0, 3]) rfl rfl (⟨⟨V_num, nna⟩, ⟨V_num, nna⟩, ⟨V_num, nna⟩, trivial⟩) rfl rfl rfl (by decide) rfl ?_); intro S10 a10 hl10 hV10)
  repeat (first | (refine Walk ?_; intros) | refine JC.block ?_ | (refine JO.eff rfl rfl rfl (JEff.callLE rfl (w9_Worse g9_W3 (by exact vta) (hV9.mono hl10) hV10) rfl ?_); intro _ _ _ _ _ _) | (refine JO.eff rfl rfl rfl (JEff.callV rfl (p9_Safe (by exact vta) (by exact vta)) rfl ?_); intro _ _) | (refine JO.eff rfl rfl rfl (JEff.callLE rfl (p9_Worse (by exact vta) (by exact vta) (by exact vta)) rfl ?_); intro _ _ _ _ _ _) | (refine JO.eff rfl rfl rfl (JEff.callV rfl (p9_Sum (by exact vta) (by exact vta)) rfl ?_); intro _ _) | (refine JO.eff rfl rfl rfl (JEff.callV rfl (q9_works) rfl ?_); intro _ _) | (refine JO.eff rfl rfl rfl (JEff.callR rfl (q9_chapter) rfl ?_); intro _ _ _ _) | (refine WNew ?_; intros) | (refine WPut ?_; intros))
  (refine JO.eff rfl rfl rfl (JEff.buildS (bt := 8) (rep := rI64) (ys := [(0 : Int), 0, 0]) rfl rfl (⟨⟨V_num, nna⟩, ⟨V_num, nna⟩, ⟨V_num, nna⟩, trivial⟩) rfl rfl rfl (by decide) rfl ?_); intro S11 a11 hl11 hV11)
  repeat (first | (refine Walk ?_; intros) | refine JC.block ?_ | (refine JO.eff rfl rfl rfl (JEff.callV rfl (w9_Sum g9_N2 (by exact vta) hV11) rfl ?_); intro _ _) | (refine JO.eff rfl rfl rfl (JEff.callV rfl (p9_Safe (by exact vta) (by exact vta)) rfl ?_); intro _ _) | (refine JO.eff rfl rfl rfl (JEff.callLE rfl (p9_Worse (by exact vta) (by exact vta) (by exact vta)) rfl ?_); intro _ _ _ _ _ _) | (refine JO.eff rfl rfl rfl (JEff.callV rfl (p9_Sum (by exact vta) (by exact vta)) rfl ?_); intro _ _) | (refine JO.eff rfl rfl rfl (JEff.callV rfl (q9_works) rfl ?_); intro _ _) | (refine JO.eff rfl rfl rfl (JEff.callR rfl (q9_chapter) rfl ?_); intro _ _ _ _) | (refine WNew ?_; intros) | (refine WPut ?_; intros))
  (refine JX.ret1 Tryz.results9 (ResV.tmp rfl) (List.nil_sublist _) ?_)
  exact ⟨rfl, rfl⟩
end Go.Dr
namespace Go.Dr
open Go.Proofs
set_option maxRecDepth 20000
set_option maxHeartbeats 2000000
set_option linter.unusedSimpArgs false
set_option linter.unusedVariables false
theorem step_rng {S : SHeap} {v : Value} {x : Step} (h : rStep.V S v x) : Rng x.kind ∧ Rng x.pod ∧ Rng x.node := (V_step.1 h).2
theorem s80_L7x {P K : Prop} (k : K) (h : Goal K → P := by
  intro zk
  (first | refine Walk ?_ | refine JC.block ?_ | refine JC.drawN 8 rfl [0, 1, 2, 3, 4, 5, 6, 7, 8, 9, 10, 11, 12, 13, 14, 15, 16, 17, 18, 19, 20, 21, 22, 23] [0, 1, 2, 3, 4, 5, 6, 7, 8, 9, 10, 11, 12, 13, 14, 15, 16, 17, 18, 19, 20, 21, 22, 23] Tryz_mixed (by decide +kernel) ?_ | (refine JO.eff rfl rfl rfl (JEff.callV rfl (r7_Check (by exact vta) (by exact vta)) rfl ?_); intro zqa zqb) | (refine WBox ?_))
  (repeat (first | revert zqg | revert zqf | revert zqe | revert zqd | revert zqc | revert zqb | revert zqa))
  exact zk.k) : P := h ⟨k⟩
theorem r7_Apply {S : SHeap} {u v xv : Value} {s : Snap} {p : List Int} {x : Step} (hu : rSnap.V S u s) (hv : (rSlice 8 rI64).V S v p) (hx : rStep.V S xv x) : FnLE Tryz.prog 80 #[u, v, xv] S 8 rI64 (applyP s p x).1 (.int .i64 (applyP s p x).2) := by
  have hv0 := hv
  obtain ⟨a, c, rfl, _, hb8, hb, hpr⟩ := V_slice.1 hv
  unfold big at hb8 hb
  have hprn : ∀ z ∈ p, Rng z := fun z hz => by
    obtain ⟨q, cs, h, _⟩ := slice_at hv z hz
    exact h.2
  obtain ⟨hxr1, hxr2, hxr3⟩ := step_rng hx
  (refine Fn.enter (args := [u, .slice a p.length c, xv]) Tryz.func80 rfl Tryz.ntmps80 rfl ?_; intro w0)
  repeat (refine s80_L7x ?_; intros)
  refine JC.cond rfl (fun he => ?_) (fun he => ?_)
  · have he : z0 (checkP s p) = false := by simpa [z0] using he
    repeat (refine s80_L7x ?_; intros)
    (refine JX.ret2 Tryz.results80 (ResV.tmp rfl) (ResV.tmp rfl) (List.nil_sublist _) ?_)
    exact ⟨rfl, _, by rw [applyP, he]; rfl, by rw [applyP, he]; exact V_nil⟩
  have he : z0 (checkP s p) = true := by simpa [z0] using he
  have hok : checkP s p = 0 := by simpa [z0] using he
  obtain ⟨hs, hlen, hodd⟩ := checkP_ok hok
  obtain ⟨hn8, hp24, ho8⟩ := shaped_small (checkS_ok hs).1
  obtain ⟨kd, pd, nd⟩ := x
  dsimp only at hxr1 hxr2 hxr3
  unfold Rng at hxr2 hxr3
  have hap0 : applyP s p ⟨kd, pd, nd⟩ = (if !decide (kd = 1) && !decide (kd = 2) then ([], 2)
    else if decide (pd < 0) || decide ((p.length : Int) ≤ pd) || decide (nd < 0) || (decide (kd = 2) && decide ((s.nodes.length : Int) ≤ nd)) || (decide (kd = 1) && !decide (nd = 0)) then ([], 9)
    else if (decide (at0 p pd.toNat = -1) == decide (kd = 1)) || (decide (kd = 2) && lostAt s nd) then ([], 110)
    else (p.set pd.toNat (if kd = 2 then nd else -1), 0)) := by rw [applyP, he]; rfl
  by_cases hk1 : kd = 1
  · subst hk1
    by_cases hbad : pd < 0 ∨ (p.length : Int) ≤ pd ∨ nd < 0 ∨ ¬ nd = 0
    · have hap : applyP s p ⟨1, pd, nd⟩ = ([], 9) := by rw [hap0]; simp; intro h1 h2 h3 h4; omega
      rw [hap]
      repeat' (first | (refine s80_L7x ?_; intros) | (refine JO.guard rfl rfl rfl rfl ?_ ?_ <;> intro _) | (refine JC.cond rfl ?_ ?_ <;> intro _))
      all_goals first
        | ((refine JX.ret2 Tryz.results80 (ResV.tmp rfl) (ResV.tmp rfl) (List.nil_sublist _) ?_); exact ⟨rfl, _, rfl, V_nil⟩)
        | (clear hap hap0; (exfalso; first | (simp only [decide_eq_true_eq, decide_eq_false_iff_not, Bool.not_eq_true', Bool.not_eq_false', Bool.and_eq_true, Bool.or_eq_true, Bool.and_eq_false_iff, Bool.or_eq_false_iff] at *; omega) | (simp_all; done) | (simp_all; omega)))
    · obtain ⟨i, rfl⟩ : ∃ i : Nat, pd = i := ⟨pd.toNat, by omega⟩
      obtain rfl : nd = 0 := by omega
      have hi : i < p.length := by omega
      obtain ⟨z, hz, _⟩ := drop_at hi
      have ecast : ((i : Int)).toNat = i := by omega
      have hz0 := at0_some hz
      have hz' : p[((i : Int)).toNat]? = some z := by rw [ecast]; exact hz
      have e1 : decide ((i : Int) < 0) = false := by simp
      have e2 : decide ((p.length : Int) ≤ (i : Int)) = false := by simp; omega
      have hap : applyP s p ⟨1, i, 0⟩ = (if z = -1 then ([], 110) else (p.set i (-1), 0)) := by rw [hap0]; simp only [e1, e2, ecast, hz0]; by_cases h : z = -1 <;> simp [h]
      have hzr := hprn z (List.mem_of_getElem? hz)
      by_cases hz1 : z = -1
      · rw [hap, if_pos hz1]
        repeat' (first | (refine s80_L7x ?_; intros) | (refine JO.guard rfl rfl rfl rfl ?_ ?_ <;> intro _) | (refine JC.cond rfl ?_ ?_ <;> intro _))
        all_goals first
          | ((refine JX.ret2 Tryz.results80 (ResV.tmp rfl) (ResV.tmp rfl) (List.nil_sublist _) ?_); exact ⟨rfl, _, rfl, V_nil⟩)
          | (clear hap hap0; (exfalso; first | (simp only [decide_eq_true_eq, decide_eq_false_iff_not, Bool.not_eq_true', Bool.not_eq_false', Bool.and_eq_true, Bool.or_eq_true, Bool.and_eq_false_iff, Bool.or_eq_false_iff] at *; omega) | (simp_all; done) | (simp_all; omega)))
      rw [hap, if_neg hz1]
      repeat' (first | (refine s80_L7x ?_; intros) | (refine JO.guard rfl rfl rfl rfl ?_ ?_ <;> intro _) | (refine JC.cond rfl ?_ ?_ <;> intro _))
      all_goals first
        | (clear hap hap0; (exfalso; first | (simp only [decide_eq_true_eq, decide_eq_false_iff_not, Bool.not_eq_true', Bool.not_eq_false', Bool.and_eq_true, Bool.or_eq_true, Bool.and_eq_false_iff, Bool.or_eq_false_iff] at *; omega) | (simp_all; done) | (simp_all; omega)))
        | skip
      repeat (refine s80_L7x ?_; intros)
      refine JO.eff rfl rfl rfl (JEff.build0 rI64 rfl ?_); intro b0
      repeat (refine s80_L7x ?_; intros)
      (refine JO.eff rfl rfl rfl (JEff.appendS (rep := rI64) rfl rfl (hv0.mono (by exact lea)) rfl rfl (List.Perm.refl _) (by unfold big; omega) (by unfold big; omega) (by intro l hl; cases hl) rfl ?_); intro a2 c2 us1 hus1)
      rw [List.nil_append, flat_int hus1, Nat.zero_add]
      refine JO.rowBlk (by omega) (fun b tl hab hbb hnc => ?_)
      subst hab
      repeat (refine s80_L7x ?_; intros)
      refine JO.pure rfl rfl rfl (JPure.indexRI rfl rfl rfl (by dsimp only; omega) (by dsimp only; omega) ?_)
      refine JO.eff rfl rfl rfl (JEff.storeIT (i := i) rfl rfl (by unfold Rng; omega) (List.Perm.refl _) (by omega) (by intro l hl; cases hl) ?_)
      repeat (refine s80_L7x ?_; intros)
      refine JX.freezeIT (by simp) hnc (by unfold big; omega) (fun y hy => by rcases List.mem_or_eq_of_mem_set hy with hy | rfl; exact hprn y hy; unfold Rng; omega) hbb (fun S9 hl9 hV9 => ?_)
      (refine JX.ret2 Tryz.results80 (ResV.tmp rfl) (ResV.tmp rfl) (List.nil_sublist _) ?_)
      exact ⟨rfl, _, rfl, hV9⟩
  · by_cases hk2 : kd = 2
    · subst hk2
      by_cases hbad : pd < 0 ∨ (p.length : Int) ≤ pd ∨ nd < 0 ∨ (s.nodes.length : Int) ≤ nd
      · have hap : applyP s p ⟨2, pd, nd⟩ = ([], 9) := by rw [hap0]; simp; intro h1 h2 h3 h4; omega
        rw [hap]
        repeat' (first | (refine s80_L7x ?_; intros) | (refine JO.guard rfl rfl rfl rfl ?_ ?_ <;> intro _) | (refine JC.cond rfl ?_ ?_ <;> intro _))
        all_goals first
          | ((refine JX.ret2 Tryz.results80 (ResV.tmp rfl) (ResV.tmp rfl) (List.nil_sublist _) ?_); exact ⟨rfl, _, rfl, V_nil⟩)
          | (clear hap hap0; (exfalso; first | (simp only [decide_eq_true_eq, decide_eq_false_iff_not, Bool.not_eq_true', Bool.not_eq_false', Bool.and_eq_true, Bool.or_eq_true, Bool.and_eq_false_iff, Bool.or_eq_false_iff] at *; omega) | (simp_all; done) | (simp_all; omega)))
      · obtain ⟨i, rfl⟩ : ∃ i : Nat, pd = i := ⟨pd.toNat, by omega⟩
        obtain ⟨m, rfl⟩ : ∃ m : Nat, nd = m := ⟨nd.toNat, by omega⟩
        have hi : i < p.length := by omega
        obtain ⟨z, hz, _⟩ := drop_at hi
        obtain ⟨nn, hnn, _⟩ := drop_at (l := s.nodes) (show m < s.nodes.length by omega)
        have ecast : ((i : Int)).toNat = i := by omega
        have ecast2 : ((m : Int)).toNat = m := by omega
        have hz0 := at0_some hz
        have hz' : p[((i : Int)).toNat]? = some z := by rw [ecast]; exact hz
        have hnn' : s.nodes[((m : Int)).toNat]? = some nn := by rw [ecast2]; exact hnn
        have hlo : lostAt s m = nn.lost := by simp [lostAt, hnn]
        have e1 : decide ((i : Int) < 0) = false := by simp
        have e2 : decide ((p.length : Int) ≤ (i : Int)) = false := by simp; omega
        have e3 : decide ((m : Int) < 0) = false := by simp
        have e4 : decide ((s.nodes.length : Int) ≤ (m : Int)) = false := by simp; omega
        have hap : applyP s p ⟨2, i, m⟩ = (if ¬ z = -1 ∨ nn.lost = true then ([], 110) else (p.set i m, 0)) := by rw [hap0]; simp only [e1, e2, e3, e4, ecast, hz0, hlo]; by_cases h : z = -1 <;> simp [h]
        have hzr := hprn z (List.mem_of_getElem? hz)
        by_cases hst : ¬ z = -1 ∨ nn.lost = true
        · rw [hap, if_pos hst]
          repeat' (first | (refine s80_L7x ?_; intros) | (refine JO.guard rfl rfl rfl rfl ?_ ?_ <;> intro _) | (refine JC.cond rfl ?_ ?_ <;> intro _))
          all_goals first
            | ((refine JX.ret2 Tryz.results80 (ResV.tmp rfl) (ResV.tmp rfl) (List.nil_sublist _) ?_); exact ⟨rfl, _, rfl, V_nil⟩)
            | (clear hap hap0; (exfalso; first | (simp only [decide_eq_true_eq, decide_eq_false_iff_not, Bool.not_eq_true', Bool.not_eq_false', Bool.and_eq_true, Bool.or_eq_true, Bool.and_eq_false_iff, Bool.or_eq_false_iff] at *; omega) | (simp_all; done) | (simp_all; omega)))
        rw [hap, if_neg hst]
        repeat' (first | (refine s80_L7x ?_; intros) | (refine JO.guard rfl rfl rfl rfl ?_ ?_ <;> intro _) | (refine JC.cond rfl ?_ ?_ <;> intro _))
        all_goals first
          | (clear hap hap0; (exfalso; first | (simp only [decide_eq_true_eq, decide_eq_false_iff_not, Bool.not_eq_true', Bool.not_eq_false', Bool.and_eq_true, Bool.or_eq_true, Bool.and_eq_false_iff, Bool.or_eq_false_iff] at *; omega) | (simp_all; done) | (simp_all; omega)))
          | skip
        repeat (refine s80_L7x ?_; intros)
        refine JO.eff rfl rfl rfl (JEff.build0 rI64 rfl ?_); intro b0
        repeat (refine s80_L7x ?_; intros)
        (refine JO.eff rfl rfl rfl (JEff.appendS (rep := rI64) rfl rfl (hv0.mono (by exact lea)) rfl rfl (List.Perm.refl _) (by unfold big; omega) (by unfold big; omega) (by intro l hl; cases hl) rfl ?_); intro a2 c2 us1 hus1)
        rw [List.nil_append, flat_int hus1, Nat.zero_add]
        refine JO.rowBlk (by omega) (fun b tl hab hbb hnc => ?_)
        subst hab
        repeat (refine s80_L7x ?_; intros)
        refine JO.pure rfl rfl rfl (JPure.indexRI rfl rfl rfl (by dsimp only; omega) (by dsimp only; omega) ?_)
        refine JO.eff rfl rfl rfl (JEff.storeIT (i := i) rfl rfl (by unfold Rng; omega) (List.Perm.refl _) (by omega) (by intro l hl; cases hl) ?_)
        repeat (refine s80_L7x ?_; intros)
        refine JO.pure rfl rfl rfl (JPure.indexRI rfl rfl rfl (by dsimp only; omega) (by dsimp only; omega) ?_)
        refine JO.eff rfl rfl rfl (JEff.storeIT (i := i) rfl rfl (by unfold Rng; omega) (List.Perm.refl _) (by rw [List.length_set]; omega) (by intro l hl; cases hl) ?_)
        repeat (refine s80_L7x ?_; intros)
        rw [List.set_set]
        refine JX.freezeIT (by simp) hnc (by unfold big; omega) (fun y hy => by rcases List.mem_or_eq_of_mem_set hy with hy | rfl; exact hprn y hy; unfold Rng; omega) hbb (fun S9 hl9 hV9 => ?_)
        (refine JX.ret2 Tryz.results80 (ResV.tmp rfl) (ResV.tmp rfl) (List.nil_sublist _) ?_)
        exact ⟨rfl, _, rfl, hV9⟩
    · have hap : applyP s p ⟨kd, pd, nd⟩ = ([], 2) := by rw [hap0]; simp [hk1, hk2]
      rw [hap]
      repeat' (first | (refine s80_L7x ?_; intros) | (refine JO.guard rfl rfl rfl rfl ?_ ?_ <;> intro _) | (refine JC.cond rfl ?_ ?_ <;> intro _))
      all_goals first
        | ((refine JX.ret2 Tryz.results80 (ResV.tmp rfl) (ResV.tmp rfl) (List.nil_sublist _) ?_); exact ⟨rfl, _, rfl, V_nil⟩)
        | (clear hap hap0; (exfalso; first | (simp only [decide_eq_true_eq, decide_eq_false_iff_not, Bool.not_eq_true', Bool.not_eq_false', Bool.and_eq_true, Bool.or_eq_true, Bool.and_eq_false_iff, Bool.or_eq_false_iff] at *; omega) | (simp_all; done) | (simp_all; omega)))
end Go.Dr
namespace Go.Dr
def noC : Clause := ⟨0, 0, 0, 0⟩
def cordonAt (s : Snap) (n : Int) : Bool := match s.nodes[n.toNat]? with | some x => x.cordon | none => false
def stepV (s : Snap) (p : List Int) (x : Step) : List Int × Clause × Int :=
  if ¬ (applyP s p x).2 = 0 then ([], noC, (applyP s p x).2)
  else if x.kind = 2 ∧ cordonAt s x.node = true then ([], noC, 100)
  else match (worseV s p (applyP s p x).1).1 with
    | c :: _ => ([], c, 100)
    | [] => ((applyP s p x).1, noC, 0)
def mayV (s : Snap) (p : List Int) (x : Step) : Bool := decide ((stepV s p x).2.2 = 0)
def waysV (s : Snap) (p : List Int) (pod : Int) : List Int := ((List.range s.nodes.length).filter (fun (n : Nat) => mayV s p ⟨2, pod, (n : Int)⟩)).map (fun (n : Nat) => (n : Int))
def runGo (s : Snap) : List Int → Int → List Step → List Int × Int × Int
  | q, i, [] => (q, i, 0)
  | q, i, x :: l => if ¬ (stepV s q x).2.2 = 0 then ([], i, (stepV s q x).2.2) else runGo s (stepV s q x).1 (i + 1) l
def runV (s : Snap) (p : List Int) (l : List Step) : List Int × Int × Int := if ¬ checkP s p = 0 then ([], 0, checkP s p) else runGo s p 0 l
end Go.Dr
namespace Go.Dr
open Go.Proofs
set_option maxRecDepth 20000
set_option maxHeartbeats 2000000
set_option linter.unusedSimpArgs false
set_option linter.unusedVariables false
theorem noC_rng : Rng noC.kind ∧ Rng noC.a ∧ Rng noC.b ∧ Rng noC.by_ := by simp [noC, Rng]
theorem V_noC {S : SHeap} : rClause.V S (.agg (flatCells [.int .i64 0, .int .i64 0, .int .i64 0, .int .i64 0]).toArray) noC := V_clause.2 ⟨by simp [flatCells, Value.cells, noC], noC_rng⟩
theorem apply_ok {s : Snap} {p : List Int} {x : Step} (h : (applyP s p x).2 = 0) : checkP s p = 0 ∧ (x.kind = 2 → 0 ≤ x.node ∧ x.node < s.nodes.length) := by
  unfold applyP at h
  split at h
  · rename_i h1; simp [z0] at h1; exact absurd h h1
  · rename_i h1
    have h1 : checkP s p = 0 := by simpa [z0] using h1
    refine ⟨h1, fun hk => ?_⟩
    split at h
    · cases h
    · split at h
      · cases h
      · rename_i h3
        simp [hk] at h3
        omega
theorem s46_L10r {P K : Prop} (k : K) (h : Goal K → P := by
  intro zk
  (first | refine Walk ?_ | refine JC.block ?_ | refine JC.drawN 8 rfl [0, 1, 2, 3, 4, 5] [0, 1, 2, 3, 5] Tryz_mixed (by decide +kernel) ?_ | (refine JO.eff rfl rfl rfl (JEff.callLE rfl (r9_Worse (by exact vta) (by exact vta) (by exact vta)) rfl ?_); intro zqa zqb zqc zqd zqe zqf) | (refine JO.eff rfl rfl rfl (JEff.callLE rfl (r7_Apply (by exact vta) (by exact vta) (by exact vta)) rfl ?_); intro zqa zqb zqc zqd zqe zqf) | (refine WBox ?_))
  (repeat (first | revert zqg | revert zqf | revert zqe | revert zqd | revert zqc | revert zqb | revert zqa))
  exact zk.k) : P := h ⟨k⟩
theorem r10_Step {S : SHeap} {u v xv : Value} {s : Snap} {p : List Int} {x : Step} (hu : rSnap.V S u s) (hv : (rSlice 8 rI64).V S v p) (hx : rStep.V S xv x) :
    FnSt Tryz.prog 46 #[u, v, xv] S (stepV s p x).1 (stepV s p x).2.1 (.int .i64 (stepV s p x).2.2) := by
  (refine Fn.enter (args := [u, v, xv]) Tryz.func46 rfl Tryz.ntmps46 rfl ?_; intro w0)
  repeat (refine s46_L10r ?_; intros)
  (refine JO.eff rfl rfl rfl (JEff.alloc rfl ?_); intro b7 hb7)
  repeat (refine s46_L10r ?_; intros)
  refine JC.cond rfl (fun he => ?_) (fun he => ?_)
  · have he : ¬ (applyP s p x).2 = 0 := by simpa using he
    have hN := V_noC (S := S)
    repeat (refine s46_L10r ?_; intros)
    (refine JO.eff rfl rfl rfl (JEff.storeW rfl rfl (by exact vta) nna pma rfl (by intro l hl; cases hl) ?_))
    repeat (refine s46_L10r ?_; intros)
    refine JX.ret3 Tryz.results46 (ResV.tmp rfl) (ResV.clause (S1 := S) rfl (by (first | exact List.mem_cons_self | exact List.mem_cons_of_mem _ List.mem_cons_self | exact List.mem_cons_of_mem _ (List.mem_cons_of_mem _ List.mem_cons_self))) V_noC) (ResV.tmp rfl) (List.nil_sublist _) ?_
    unfold stepV
    rw [if_pos he]
    exact ⟨rfl, _, rfl, V_nil, V_clV noC_rng⟩
  have he : (applyP s p x).2 = 0 := by simpa using he
  have he' : ¬ ¬ (applyP s p x).2 = 0 := by simpa using he
  obtain ⟨hok, hnode⟩ := apply_ok he
  by_cases hk : x.kind = 2
  · obtain ⟨h0, h1⟩ := hnode hk
    obtain ⟨nd, hnd, _⟩ := drop_at (l := s.nodes) (show x.node.toNat < s.nodes.length by omega)
    have hco : cordonAt s x.node = nd.cordon := by simp [cordonAt, hnd]
    repeat (refine s46_L10r ?_; intros)
    refine JO.guard rfl rfl rfl rfl (fun g1 => ?_) (fun g1 => ?_)
    · repeat (refine s46_L10r ?_; intros)
      refine JC.cond rfl (fun g2 => ?_) (fun g2 => ?_)
      · have hN := V_noC (S := S)
        repeat (refine s46_L10r ?_; intros)
        (refine JO.eff rfl rfl rfl (JEff.storeW rfl rfl (by exact vta) nna pma rfl (by intro l hl; cases hl) ?_))
        repeat (refine s46_L10r ?_; intros)
        refine JX.ret3 Tryz.results46 (ResV.tmp rfl) (ResV.clause (S1 := S) rfl (by (first | exact List.mem_cons_self | exact List.mem_cons_of_mem _ List.mem_cons_self | exact List.mem_cons_of_mem _ (List.mem_cons_of_mem _ List.mem_cons_self))) V_noC) (ResV.tmp rfl) (List.nil_sublist _) ?_
        unfold stepV
        rw [if_neg he', if_pos ⟨hk, by rw [hco]; exact g2⟩]
        exact ⟨rfl, _, rfl, V_nil, V_clV noC_rng⟩
      · have hnc : ¬ (x.kind = 2 ∧ cordonAt s x.node = true) := by rw [hco, g2]; simp
        repeat (refine s46_L10r ?_; intros)
        refine JC.cond rfl (fun g3 => ?_) (fun g3 => ?_)
        · obtain ⟨y, L', hL⟩ : ∃ y L', (worseV s p (applyP s p x).1).1 = y :: L' := by
            cases hh : (worseV s p (applyP s p x).1).1 with
            | nil => rw [hh] at g3; simp at g3
            | cons y L' => exact ⟨y, L', rfl⟩
          have hy0 : (worseV s p (applyP s p x).1).1[(0 : Int).toNat]? = some y := by rw [hL]; rfl
          repeat (refine s46_L10r ?_; intros)
          have hvy := (by assumption : rClause.V _ _ y)
          (refine JO.eff rfl rfl rfl (JEff.storeW rfl rfl (by exact vta) nna pma rfl (by intro l hl; cases hl) ?_))
          repeat (refine s46_L10r ?_; intros)
          refine JX.ret3 Tryz.results46 (ResV.tmp rfl) (ResV.clause rfl (by (first | exact List.mem_cons_self | exact List.mem_cons_of_mem _ List.mem_cons_self | exact List.mem_cons_of_mem _ (List.mem_cons_of_mem _ List.mem_cons_self))) hvy) (ResV.tmp rfl) (List.nil_sublist _) ?_
          unfold stepV
          rw [if_neg he', if_neg hnc, hL]
          exact ⟨rfl, _, rfl, V_nil, V_clV (V_clause.1 hvy).2⟩
        · have hL : (worseV s p (applyP s p x).1).1 = [] := by
            cases hh : (worseV s p (applyP s p x).1).1 with
            | nil => rfl
            | cons y L' => rw [hh] at g3; simp at g3
          have hN := V_noC (S := S)
          repeat (refine s46_L10r ?_; intros)
          (refine JO.eff rfl rfl rfl (JEff.storeW rfl rfl (by exact vta) nna pma rfl (by intro l hl; cases hl) ?_))
          repeat (refine s46_L10r ?_; intros)
          refine JX.ret3 Tryz.results46 (ResV.tmp rfl) (ResV.clause (S1 := S) rfl (by (first | exact List.mem_cons_self | exact List.mem_cons_of_mem _ List.mem_cons_self | exact List.mem_cons_of_mem _ (List.mem_cons_of_mem _ List.mem_cons_self))) V_noC) (ResV.tmp rfl) (List.nil_sublist _) ?_
          unfold stepV
          rw [if_neg he', if_neg hnc, hL]
          exact ⟨rfl, _, rfl, by exact vta, V_clV noC_rng⟩
    · (exfalso; first | (simp only [decide_eq_true_eq, decide_eq_false_iff_not, Bool.not_eq_true', Bool.not_eq_false', Bool.and_eq_true, Bool.or_eq_true, Bool.and_eq_false_iff, Bool.or_eq_false_iff] at *; omega) | (simp_all; done) | (simp_all; omega))
  · have hnc : ¬ (x.kind = 2 ∧ cordonAt s x.node = true) := fun h => hk h.1
    repeat (refine s46_L10r ?_; intros)
    refine JO.guard rfl rfl rfl rfl (fun g1 => ?_) (fun g1 => ?_)
    · (exfalso; first | (simp only [decide_eq_true_eq, decide_eq_false_iff_not, Bool.not_eq_true', Bool.not_eq_false', Bool.and_eq_true, Bool.or_eq_true, Bool.and_eq_false_iff, Bool.or_eq_false_iff] at *; omega) | (simp_all; done) | (simp_all; omega))
    · repeat (refine s46_L10r ?_; intros)
      refine JC.cond rfl (fun g3 => ?_) (fun g3 => ?_)
      · obtain ⟨y, L', hL⟩ : ∃ y L', (worseV s p (applyP s p x).1).1 = y :: L' := by
          cases hh : (worseV s p (applyP s p x).1).1 with
          | nil => rw [hh] at g3; simp at g3
          | cons y L' => exact ⟨y, L', rfl⟩
        have hy0 : (worseV s p (applyP s p x).1).1[(0 : Int).toNat]? = some y := by rw [hL]; rfl
        repeat (refine s46_L10r ?_; intros)
        have hvy := (by assumption : rClause.V _ _ y)
        (refine JO.eff rfl rfl rfl (JEff.storeW rfl rfl (by exact vta) nna pma rfl (by intro l hl; cases hl) ?_))
        repeat (refine s46_L10r ?_; intros)
        refine JX.ret3 Tryz.results46 (ResV.tmp rfl) (ResV.clause rfl (by (first | exact List.mem_cons_self | exact List.mem_cons_of_mem _ List.mem_cons_self | exact List.mem_cons_of_mem _ (List.mem_cons_of_mem _ List.mem_cons_self))) hvy) (ResV.tmp rfl) (List.nil_sublist _) ?_
        unfold stepV
        rw [if_neg he', if_neg hnc, hL]
        exact ⟨rfl, _, rfl, V_nil, V_clV (V_clause.1 hvy).2⟩
      · have hL : (worseV s p (applyP s p x).1).1 = [] := by
          cases hh : (worseV s p (applyP s p x).1).1 with
          | nil => rfl
          | cons y L' => rw [hh] at g3; simp at g3
        have hN := V_noC (S := S)
        repeat (refine s46_L10r ?_; intros)
        (refine JO.eff rfl rfl rfl (JEff.storeW rfl rfl (by exact vta) nna pma rfl (by intro l hl; cases hl) ?_))
        repeat (refine s46_L10r ?_; intros)
        refine JX.ret3 Tryz.results46 (ResV.tmp rfl) (ResV.clause (S1 := S) rfl (by (first | exact List.mem_cons_self | exact List.mem_cons_of_mem _ List.mem_cons_self | exact List.mem_cons_of_mem _ (List.mem_cons_of_mem _ List.mem_cons_self))) V_noC) (ResV.tmp rfl) (List.nil_sublist _) ?_
        unfold stepV
        rw [if_neg he', if_neg hnc, hL]
        exact ⟨rfl, _, rfl, by exact vta, V_clV noC_rng⟩
theorem r10_May {S : SHeap} {u v xv : Value} {s : Snap} {p : List Int} {x : Step} (hu : rSnap.V S u s) (hv : (rSlice 8 rI64).V S v p) (hx : rStep.V S xv x) : FnV Tryz.prog 48 #[u, v, xv] S (.bool (mayV s p x)) := by
  (refine Fn.enter (args := [u, v, xv]) Tryz.func48 rfl Tryz.ntmps48 rfl ?_; intro w0)
  repeat (first | (refine Walk ?_; intros) | refine JC.block ?_ | (refine JO.eff rfl rfl rfl (JEff.callSt rfl (r10_Step (by exact vta) (by exact vta) (by exact vta)) rfl ?_); intro _ _ _ _ _ _ _) | (refine WBox ?_; intros) | (refine WNew ?_; intros) | (refine WPut ?_; intros))
  (refine JX.ret1 Tryz.results48 (ResV.tmp rfl) (List.nil_sublist _) ?_)
  exact ⟨rfl, rfl⟩
def waysK (s : Snap) (p : List Int) (pod : Int) (k : Nat) : List Int := ((List.range k).filter (fun (n : Nat) => mayV s p ⟨2, pod, (n : Int)⟩)).map (fun (n : Nat) => (n : Int))
theorem waysK_step (s : Snap) (p : List Int) (pod : Int) (k : Nat) : waysK s p pod (k + 1) = waysK s p pod k ++ (if mayV s p ⟨2, pod, k⟩ = true then [(k : Int)] else []) := by
  unfold waysK
  rw [List.range_succ, List.filter_append, List.map_append]
  congr 1
  cases h : mayV s p ⟨2, pod, k⟩ <;> simp [List.filter_cons, h]
theorem waysK_len (s : Snap) (p : List Int) (pod : Int) (k : Nat) : (waysK s p pod k).length ≤ k := by
  unfold waysK
  rw [List.length_map]
  exact Nat.le_trans (List.length_filter_le _ _) (by simp)
theorem s53_L10r {P K : Prop} (k : K) (h : Goal K → P := by
  intro zk
  (first | refine Walk ?_ | refine JC.block ?_ | (refine JO.eff rfl rfl rfl (JEff.callV rfl (r10_May (by exact vta) (by exact vta) (by exact vta)) rfl ?_); intro zqa zqb) | (refine WBox ?_))
  (repeat (first | revert zqg | revert zqf | revert zqe | revert zqd | revert zqc | revert zqb | revert zqa))
  exact zk.k) : P := h ⟨k⟩
theorem r10_Ways {S : SHeap} {u v : Value} {s : Snap} {p : List Int} (pod : Int) (hu : rSnap.V S u s) (hv : (rSlice 8 rI64).V S v p) (hn : s.nodes.length ≤ 1000) (hpr : Rng pod) : FnL Tryz.prog 53 #[u, v, .int .i64 pod] S 8 rI64 (waysV s p pod) := by
  (refine Fn.enter (args := [u, v, .int .i64 pod]) Tryz.func53 rfl Tryz.ntmps53 rfl ?_; intro w0)
  repeat (refine s53_L10r ?_; intros)
  (first | refine JC.newRow 3 1 ?_ | refine JO.newRow 3 1 ?_ | refine JX.newRow 3 1 ?_)
  refine JC.loopF (σ := Nat × Option Addr × Nat × List Value) [(1, _), (2, _), (3, _)] (fun q => [(7, .slice q.2.1 ((fun k => waysK s p pod k) q.1).length q.2.2.1), (8, ((fun k => .int .i64 k) q.1))]) (fun q => [.row w0.heap.size 3 (Rp.sz rI64) (.slice q.2.1 ((fun k => waysK s p pod k) q.1).length q.2.2.1) ((fun k => waysK s p pod k) q.1).length (flatCells q.2.2.2)]) (fun Sk q => q.1 ≤ s.nodes.length ∧ allV rI64 Sk q.2.2.2 ((fun k => waysK s p pod k) q.1) ∧ ((fun k => True) q.1)) (fun q => s.nodes.length - q.1) (0, none, 0, []) (by exact sba) (by exact sba) (by first | rfl | simp) (⟨Nat.zero_le _, trivial, trivial⟩) ?_; rintro Sk ⟨k, rak, rck, vsk⟩ hlk ⟨hk, hvk, hik⟩; (try dsimp only at hk hvk hik); dsimp only [List.cons_append, List.nil_append]
  have hfl := waysK_len s p pod k
  repeat (refine s53_L10r ?_; intros)
  refine JC.cond rfl (fun hc => ?_) (fun hc => ?_)
  · have hk' := dlt hc
    have hst := waysK_step s p pod k
    have hxv : rStep.V Sk (.agg (flatCells [.int .i64 2, .int .i64 pod, .int .i64 k]).toArray) ⟨2, pod, k⟩ := V_step.2 ⟨by simp [flatCells, Value.cells], by simp [Rng], hpr, by unfold Rng; dsimp only; omega⟩
    repeat (refine s53_L10r ?_; intros)
    refine JC.cond rfl (fun hf => ?_) (fun hf => ?_)
    · rw [hf, if_pos rfl] at hst
      repeat (refine s53_L10r ?_; intros)
      (refine JO.eff rfl rfl rfl (JEff.build (rep := rI64) (ys := [(k : Int)]) rfl rfl ⟨⟨(V_i64.2 ⟨rfl, by unfold Rng; omega⟩), nna⟩, trivial⟩ rfl rfl rfl rfl ?_); intro bb hbb hvv); (repeat (first | (refine Walk ?_; intros) | refine JC.block ?_)); (refine JO.eff rfl rfl rfl (JEff.appendL (rep := rI64) rfl rfl rfl rfl (List.Perm.swap _ _ _) (by exact hvv.flat) (by intro c hc; exact flat_one (fun v hv => (hvv.size v hv).2) c hc) (by first | omega | (unfold big; omega)) (by unfold big; omega) (by first | exact rowT_ok | (intro l hl; cases hl)) rfl ?_); intro a2 c2; clear hvv hbb)
      repeat (refine s53_L10r ?_; intros)
      exact JX.roundF (k + 1, a2, c2, vsk ++ [(.int .i64 k)]) (by exact lea) ⟨by omega, by (try dsimp only); rw [hst]; exact allV_add (by exact lea) hvk (V_i64.2 ⟨rfl, by unfold Rng; omega⟩) nna, (trivial)⟩ (by (try dsimp only); omega) (by (try dsimp only); rw [hst]; (simp [flat_append] <;> omega)) (by (try dsimp only); rw [hst]; simp only [List.length_append, List.length_cons, List.length_nil]; exact sba) (by exact sba)
    · rw [hf, if_neg (by simp), List.append_nil] at hst
      repeat (refine s53_L10r ?_; intros)
      exact JX.roundF (k + 1, rak, rck, vsk) (by exact lea) ⟨by omega, by (try dsimp only); rw [hst]; exact hvk.mono (by exact lea), (trivial)⟩ (by (try dsimp only); omega) (by (try dsimp only); rw [hst]) (by (try dsimp only); rw [hst]; exact sba) (by exact sba)
  · have hk' := dnlt hc
    obtain rfl : k = s.nodes.length := by omega
    repeat (refine s53_L10r ?_; intros)
    refine JX.freezeRow (rep := rI64) (bt := 8) hvk rfl (by unfold big; omega) (by unfold big; omega) (fun S9 hl9 hV9 => ?_)
    (refine JX.ret1 Tryz.results53 (ResV.tmp rfl) (List.nil_sublist _) ?_)
    exact ⟨rfl, hV9⟩
end Go.Dr
namespace Go.Dr
open Go.Proofs
set_option maxRecDepth 20000
set_option maxHeartbeats 2000000
set_option linter.unusedSimpArgs false
set_option linter.unusedVariables false
theorem p_Clone_int {S : SHeap} {u : Value} {l : List Int} (hu : (rSlice 8 rI64).V S u l) : FnRow Tryz.prog 78 #[u] S 3 rI64 l := by
  have hu0 := hu
  obtain ⟨a, c, rfl, _, hb16, hb, _⟩ := V_slice.1 hu
  unfold big at hb16 hb
  (refine FnRow.enter (args := [.slice a l.length c]) Tryz.func78 rfl Tryz.ntmps78 rfl ?_; intro w0)
  repeat (first | (refine Walk ?_; intros) | refine JC.block ?_)
  refine JO.pure rfl rfl rfl (JPure.eqNil rfl rfl rfl ?_)
  repeat (first | (refine Walk ?_; intros) | refine JC.block ?_)
  refine JC.cond rfl (fun hn => ?_) (fun hn => ?_)
  · have ha : a = none := by simpa using hn
    subst ha
    have hl : l = [] := nil_slice hu0
    subst hl
    repeat (first | (refine Walk ?_; intros) | refine JC.block ?_)
    (first | refine JC.newRow 3 (Rp.sz rI64) ?_ | refine JO.newRow 3 (Rp.sz rI64) ?_ | refine JX.newRow 3 (Rp.sz rI64) ?_)
    exact JX.retRow (vs := []) Tryz.results78 (ResV.tmp rfl) rfl trivial
  · repeat (first | (refine Walk ?_; intros) | refine JC.block ?_)
    refine JO.eff rfl rfl rfl (JEff.build0 rI64 rfl ?_); intro b0
    repeat (first | (refine Walk ?_; intros) | refine JC.block ?_)
    (refine JO.eff rfl rfl rfl (JEff.appendS (rep := rI64) rfl rfl (hu0.mono (by exact lea)) rfl rfl (List.Perm.refl _) (by unfold big; omega) (by unfold big; omega) (by intro l hl; cases hl) rfl ?_); intro a2 c2 us1 hus1)
    repeat (first | (refine Walk ?_; intros) | refine JC.block ?_)
    exact JX.retRow Tryz.results78 (ResV.tmp rfl) (Nat.zero_add _) hus1
end Go.Dr
