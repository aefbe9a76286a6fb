/- Part 9 of the rules and of the walks that the proofs of this seat rest on; no condition. -/
import Derived.Test.YtdidkjghemcipaaGreatA07
import Derived.Deep.Slices
import Derived.OpenShut
import Derived.SizedLaws
import Derived.Carry
import Derived.Below
set_option linter.unusedVariables false
set_option linter.unusedSimpArgs false
namespace Go.Dr
open Go.Proofs
set_option maxRecDepth 20000
set_option maxHeartbeats 2000000
set_option linter.unusedSimpArgs false
set_option linter.unusedVariables false
theorem w_Same {S : SHeap} {u v : Value} {xs : List Clause} (hu : (rSlice 32 rClause).V S u xs) (hv : (rSlice 32 rClause).V S v xs) : FnV Tryz.prog 19 #[u, v] S (.bool true) := by
  have h := r8_Same hu hv
  rw [decide_eq_true rfl] at h; exact h
theorem w_EqInts {S : SHeap} {u v : Value} {xs : List Int} (hu : (rSlice 8 rI64).V S u xs) (hv : (rSlice 8 rI64).V S v xs) : FnV Tryz.prog 22 #[u, v] S (.bool true) := by
  have h := r0_EqInts hu hv
  rw [decide_eq_true rfl] at h; exact h
theorem s3_L08d {P K : Prop} (k : K) (h : Goal K → P := by
  intro zk
  (first | refine Walk ?_ | refine JC.block ?_ | refine JC.drawN 5 rfl [0, 1, 2, 3, 4, 5, 6, 7, 8, 9, 10, 12, 13, 11, 14, 15, 16, 17, 18, 19, 20, 21, 22, 23, 24, 25] [0, 1, 3, 4, 5, 6, 7, 8, 9, 10, 16, 17, 18, 19, 21, 22, 24, 25] Tryz_mixed (by decide +kernel) ?_ | (refine JO.eff rfl rfl rfl (JEff.callR rfl (q8_cut (by exact vta)) rfl ?_); intro zqa zqb zqc zqd) | (refine JO.eff rfl rfl rfl (JEff.callL rfl (r0_CopyInts (by exact vta)) rfl ?_); intro zqa zqb zqc zqd zqe zqf) | (refine JO.eff rfl rfl rfl (JEff.callLE rfl (p8_All (by exact vta) (by exact vta)) rfl ?_); intro zqa zqb zqc zqd zqe zqf) | (refine JO.eff rfl rfl rfl (JEff.callLE rfl (r8_All (by exact vta) (by exact vta)) rfl ?_); intro zqa zqb zqc zqd zqe zqf) | (refine JO.eff rfl rfl rfl (JEff.callV rfl (r8_Same (by exact vta) (by exact vta)) rfl ?_); intro zqa zqb) | (refine JO.eff rfl rfl rfl (JEff.callL rfl (p8_Broken (by exact vta) (by exact vta)) rfl ?_); intro zqa zqb zqc zqd zqe zqf) | (refine JO.eff rfl rfl rfl (JEff.callL rfl (r8_Broken (by exact vta) (by exact vta)) rfl ?_); intro zqa zqb zqc zqd zqe zqf) | (refine JO.eff rfl rfl rfl (JEff.callV rfl (r0_EqInts (by exact vta) (by exact vta)) rfl ?_); intro zqa zqb) | (refine JO.eff rfl rfl rfl (JEff.callV rfl (q8_works) rfl ?_); intro zqa zqb))
  (repeat (first | revert zqg | revert zqf | revert zqe | revert zqd | revert zqc | revert zqb | revert zqa))
  exact zk.k) : P := h ⟨k⟩
theorem a8_ClauseAll {S : SHeap} {u v : Value} {s : Snap} {p : List Int} (hu : rSnap.V S u s) (hv : (rSlice 8 rI64).V S v p) : FnV Tryz.prog 3 #[u, v] S (.bool true) := by
  obtain ⟨cs, rfl, hcs⟩ := V_agg rfl hu
  (refine Fn.enter (args := [.agg cs.toArray, v]) Tryz.func3 rfl Tryz.ntmps3 rfl ?_; intro w0)
  repeat (refine s3_L08d ?_; intros)
  refine JO.eff rfl rfl rfl (JEff.box rfl rfl ?_); intro bb hbb
  repeat (refine s3_L08d ?_; intros)
  refine JO.pure rfl rfl rfl (JPure.loadM (rep := rSnap) (x0 := s) (mid := cs) rfl (by (first | exact List.mem_cons_self | exact List.mem_cons_of_mem _ List.mem_cons_self | exact List.mem_cons_of_mem _ (List.mem_cons_of_mem _ List.mem_cons_self))) (by show cs.take 3 = cs; exact List.take_of_length_le (by rw [rSnap.len hcs]; exact Nat.le_refl _)) (rSnap.mono (by exact lea) hcs) (.inl rfl) rfl ?_)
  refine JO.eff rfl rfl rfl (JEff.callR rfl (q8_cut (Rp.val_V (rSnap.mono (by exact lea) hcs))) rfl ?_); intro cw S1 hl1 hcw
  repeat (refine s3_L08d ?_; intros)
  refine JO.eff rfl rfl rfl (JEff.storeW rfl rfl hcw nna (List.Perm.refl _) (by show 3 = cs.length; exact (rSnap.len hcs).symm) (by intro l hl; cases hl) ?_)
  refine JO.freezeV hcw nna hbb (by intro l hl; cases hl) ?_; intro S2 hl2 hpb
  repeat (first | (refine Walk ?_; intros) | refine JC.block ?_ | refine JC.drawN 5 rfl [0, 1, 2, 3, 4, 5, 6, 7, 8, 9, 10, 12, 13, 11, 14, 15, 16, 17, 18, 19, 20, 21, 22, 23, 24, 25] [0, 1, 3, 4, 5, 6, 7, 8, 9, 10, 16, 17, 18, 19, 21, 22, 24, 25] Tryz_mixed (by decide +kernel) ?_ | (refine JO.eff rfl rfl rfl (JEff.callV rfl (w_Same (by exact vta) (by exact vta)) rfl ?_); intro _ _) | (refine JO.eff rfl rfl rfl (JEff.callV rfl (w_EqInts (by exact vta) (by exact vta)) rfl ?_); intro _ _) | (refine JO.eff rfl rfl rfl (JEff.callR rfl (q8_cut (by exact vta)) rfl ?_); intro _ _ _ _) | (refine JO.eff rfl rfl rfl (JEff.callL rfl (r0_CopyInts (by exact vta)) rfl ?_); intro _ _ _ _ _ _) | (refine JO.eff rfl rfl rfl (JEff.callLE rfl (p8_All (by exact vta) (by exact vta)) rfl ?_); intro _ _ _ _ _ _) | (refine JO.eff rfl rfl rfl (JEff.callLE rfl (r8_All (by exact vta) (by exact vta)) rfl ?_); intro _ _ _ _ _ _) | (refine JO.eff rfl rfl rfl (JEff.callV rfl (r8_Same (by exact vta) (by exact vta)) rfl ?_); intro _ _) | (refine JO.eff rfl rfl rfl (JEff.callL rfl (p8_Broken (by exact vta) (by exact vta)) rfl ?_); intro _ _ _ _ _ _) | (refine JO.eff rfl rfl rfl (JEff.callL rfl (r8_Broken (by exact vta) (by exact vta)) rfl ?_); intro _ _ _ _ _ _) | (refine JO.eff rfl rfl rfl (JEff.callV rfl (r0_EqInts (by exact vta) (by exact vta)) rfl ?_); intro _ _) | (refine JO.eff rfl rfl rfl (JEff.callV rfl (q8_works) rfl ?_); intro _ _))
  rw [decide_eq_true (rfl : checkP (cutS s) p = checkP (cutS s) p)]
  repeat (first | (refine Walk ?_; intros) | refine JC.block ?_ | refine JC.drawN 5 rfl [0, 1, 2, 3, 4, 5, 6, 7, 8, 9, 10, 12, 13, 11, 14, 15, 16, 17, 18, 19, 20, 21, 22, 23, 24, 25] [0, 1, 3, 4, 5, 6, 7, 8, 9, 10, 16, 17, 18, 19, 21, 22, 24, 25] Tryz_mixed (by decide +kernel) ?_ | (refine JO.eff rfl rfl rfl (JEff.callV rfl (w_Same (by exact vta) (by exact vta)) rfl ?_); intro _ _) | (refine JO.eff rfl rfl rfl (JEff.callV rfl (w_EqInts (by exact vta) (by exact vta)) rfl ?_); intro _ _) | (refine JO.eff rfl rfl rfl (JEff.callR rfl (q8_cut (by exact vta)) rfl ?_); intro _ _ _ _) | (refine JO.eff rfl rfl rfl (JEff.callL rfl (r0_CopyInts (by exact vta)) rfl ?_); intro _ _ _ _ _ _) | (refine JO.eff rfl rfl rfl (JEff.callLE rfl (p8_All (by exact vta) (by exact vta)) rfl ?_); intro _ _ _ _ _ _) | (refine JO.eff rfl rfl rfl (JEff.callLE rfl (r8_All (by exact vta) (by exact vta)) rfl ?_); intro _ _ _ _ _ _) | (refine JO.eff rfl rfl rfl (JEff.callV rfl (r8_Same (by exact vta) (by exact vta)) rfl ?_); intro _ _) | (refine JO.eff rfl rfl rfl (JEff.callL rfl (p8_Broken (by exact vta) (by exact vta)) rfl ?_); intro _ _ _ _ _ _) | (refine JO.eff rfl rfl rfl (JEff.callL rfl (r8_Broken (by exact vta) (by exact vta)) rfl ?_); intro _ _ _ _ _ _) | (refine JO.eff rfl rfl rfl (JEff.callV rfl (r0_EqInts (by exact vta) (by exact vta)) rfl ?_); intro _ _) | (refine JO.eff rfl rfl rfl (JEff.callV rfl (q8_works) rfl ?_); intro _ _))
  (refine JX.ret1 Tryz.results3 (ResV.tmp rfl) (List.nil_sublist _) ?_)
  exact ⟨rfl, rfl⟩
theorem s4_L08d {P K : Prop} (k : K) (h : Goal K → P := by
  intro zk
  (first | refine Walk ?_ | refine JC.block ?_ | refine JC.drawN 4 rfl [0, 1, 2, 3, 4, 5, 6, 7, 8, 9, 10, 11, 12, 14, 15, 16, 17, 13, 18, 19, 20, 21, 22, 23, 24] [0, 1, 2, 3, 4, 5, 6, 7, 8, 9, 10, 11, 12, 20, 21, 23, 24] Tryz_mixed (by decide +kernel) ?_ | (refine JO.eff rfl rfl rfl (JEff.callR rfl (q8_cut (by exact vta)) rfl ?_); intro zqa zqb zqc zqd) | (refine JO.eff rfl rfl rfl (JEff.callV rfl (r8_Same (by exact vta) (by exact vta)) rfl ?_); intro zqa zqb) | (refine JO.eff rfl rfl rfl (JEff.callV rfl (q8_works) rfl ?_); intro zqa zqb) | (refine JO.eff rfl rfl rfl (JEff.callV rfl (p8_Of _ _ _ (by first | assumption | (unfold Rng; omega)) (by first | assumption | (unfold Rng; omega)) (by first | assumption | (unfold Rng; omega)) (by exact vta) (by exact vta)) rfl ?_); intro zqa zqb) | (refine JO.eff rfl rfl rfl (JEff.callV rfl (r8_Of _ _ _ (by exact vta) (by exact vta)) rfl ?_); intro zqa zqb) | (refine JO.eff rfl rfl rfl (JEff.callL rfl (p8_Pod _ (by first | assumption | (unfold Rng; omega)) (by exact vta) (by exact vta)) rfl ?_); intro zqa zqb zqc zqd zqe zqf) | (refine JO.eff rfl rfl rfl (JEff.callL rfl (r8_Pod _ (by exact vta) (by exact vta)) rfl ?_); intro zqa zqb zqc zqd zqe zqf))
  (repeat (first | revert zqg | revert zqf | revert zqe | revert zqd | revert zqc | revert zqb | revert zqa))
  exact zk.k) : P := h ⟨k⟩
theorem a8_ClauseOne {S : SHeap} {u v cv : Value} {s : Snap} {p : List Int} {c : Clause} (hu : rSnap.V S u s) (hv : (rSlice 8 rI64).V S v p) (hc : rClause.V S cv c) : FnV Tryz.prog 4 #[u, v, cv] S (.bool true) := by
  obtain ⟨cs, rfl, hcs⟩ := V_agg rfl hu
  obtain ⟨-, hcr⟩ := V_clause.1 hc
  obtain ⟨hr1, hr2, hr3, hr4⟩ := hcr
  (refine Fn.enter (args := [.agg cs.toArray, v, cv]) Tryz.func4 rfl Tryz.ntmps4 rfl ?_; intro w0)
  repeat (refine s4_L08d ?_; intros)
  refine JO.eff rfl rfl rfl (JEff.box rfl rfl ?_); intro bb hbb
  refine WBox ?_; intros
  repeat (refine s4_L08d ?_; intros)
  refine JO.pure rfl rfl rfl (JPure.loadM (rep := rSnap) (x0 := s) (mid := cs) rfl (by (first | exact List.mem_cons_self | exact List.mem_cons_of_mem _ List.mem_cons_self | exact List.mem_cons_of_mem _ (List.mem_cons_of_mem _ List.mem_cons_self))) (by show cs.take 3 = cs; exact List.take_of_length_le (by rw [rSnap.len hcs]; exact Nat.le_refl _)) (rSnap.mono (by exact lea) hcs) (.inl rfl) rfl ?_)
  refine JO.eff rfl rfl rfl (JEff.callR rfl (q8_cut (Rp.val_V (rSnap.mono (by exact lea) hcs))) rfl ?_); intro cw S1 hl1 hcw
  repeat (refine s4_L08d ?_; intros)
  refine JO.eff rfl rfl rfl (JEff.storeW rfl rfl hcw nna (List.Perm.refl _) (by show 3 = cs.length; exact (rSnap.len hcs).symm) (by intro l hl; cases hl) ?_)
  refine JO.freezeV hcw nna hbb (by intro l hl; cases hl) ?_; intro S2 hl2 hpb
  repeat (refine s4_L08d ?_; intros)
  rw [decide_eq_true (rfl : (ofC (cutS s) p c.kind c.a c.b).1 = (ofC (cutS s) p c.kind c.a c.b).1)]
  repeat (refine s4_L08d ?_; intros)
  rw [beq_self_eq_true ((ofC (cutS s) p c.kind c.a c.b).2)]
  repeat (first | (refine Walk ?_; intros) | refine JC.block ?_ | refine JC.drawN 4 rfl [0, 1, 2, 3, 4, 5, 6, 7, 8, 9, 10, 11, 12, 14, 15, 16, 17, 13, 18, 19, 20, 21, 22, 23, 24] [0, 1, 2, 3, 4, 5, 6, 7, 8, 9, 10, 11, 12, 20, 21, 23, 24] Tryz_mixed (by decide +kernel) ?_ | (refine JO.eff rfl rfl rfl (JEff.callV rfl (w_Same (by exact vta) (by exact vta)) rfl ?_); intro _ _) | (refine JO.eff rfl rfl rfl (JEff.callR rfl (q8_cut (by exact vta)) rfl ?_); intro _ _ _ _) | (refine JO.eff rfl rfl rfl (JEff.callV rfl (r8_Same (by exact vta) (by exact vta)) rfl ?_); intro _ _) | (refine JO.eff rfl rfl rfl (JEff.callV rfl (q8_works) rfl ?_); intro _ _) | (refine JO.eff rfl rfl rfl (JEff.callV rfl (p8_Of _ _ _ (by first | assumption | (unfold Rng; omega)) (by first | assumption | (unfold Rng; omega)) (by first | assumption | (unfold Rng; omega)) (by exact vta) (by exact vta)) rfl ?_); intro _ _) | (refine JO.eff rfl rfl rfl (JEff.callV rfl (r8_Of _ _ _ (by exact vta) (by exact vta)) rfl ?_); intro _ _) | (refine JO.eff rfl rfl rfl (JEff.callL rfl (p8_Pod _ (by first | assumption | (unfold Rng; omega)) (by exact vta) (by exact vta)) rfl ?_); intro _ _ _ _ _ _) | (refine JO.eff rfl rfl rfl (JEff.callL rfl (r8_Pod _ (by exact vta) (by exact vta)) rfl ?_); intro _ _ _ _ _ _))
  (refine JX.ret1 Tryz.results4 (ResV.tmp rfl) (List.nil_sublist _) ?_)
  exact ⟨rfl, rfl⟩
end Go.Dr
namespace Go.Dr
open Go.RowKit
def heapS (w : World) : SHeap := fun b => w.heap[b]?
theorem agree_heapS (w : World) : Agree (heapS w) w := fun _ _ h => h
theorem heapS_cell {w : World} {a : Addr} {v : Value} (h : w.cell? a = some v) : (heapS w).cell? a = some v := by
  unfold World.cell? at h
  unfold SHeap.cell? heapS
  exact h
class RdR {α : Type} (P : Program) (T : TypeId) (rep : Rp α) : Prop where
  rd : ∀ {H : Type} {enc : TypeId × Value → H} {w : World} {base : Nat} {spare : Nat → Bool} {held : Bool} {fuel : Nat} {cs : List Value} {d : DataW H} {ps : List MemPlace},
    DataW.trod enc P w base spare held fuel T cs = some (d, ps) → (∀ n ∈ d.weights P T, n ≤ reachBytes) → ∃ x, rep.R (heapS w) cs x
theorem cells_sz {α : Type} {P : Program} {T : TypeId} {rep : Rp α} (h : TyR P T rep) : P.cellsOf T = rep.sz := by
  obtain ⟨i, hi, hs⟩ := h.i
  unfold Program.cellsOf
  rw [hi]
  exact hs
theorem bytes_of {P : Program} {E : TypeId} {bt : Nat} (h : Byt P E bt) : P.bytesOf E = bt := by
  have := h.h
  unfold Program.bytesOf
  rw [this]; rfl
instance {P : Program} {T : TypeId} [h : Und P T (.int .i64)] : RdR P T rI64 where
  rd ht _ := by
    obtain ⟨n, rfl, _, hw⟩ := DataW.trod_int h.h ht
    refine ⟨n, rfl, ?_⟩
    simp only [Lit.wf, Bool.and_eq_true, decide_eq_true_eq] at hw
    exact hw
instance {P : Program} {T : TypeId} [h : Und P T .bool] : RdR P T rBool where
  rd ht _ := by
    obtain ⟨b, rfl, _⟩ := DataW.trod_bool h.h ht
    exact ⟨b, rfl⟩
theorem reach_big : reachBytes ≤ big := by decide
instance {P : Program} {T : TypeId} [h : Und P T .string] : RdR P T rStr where
  rd ht hw := by
    obtain ⟨s, rfl, hd, hs⟩ := DataW.trod_string h.h ht
    cases hd
    refine ⟨s, rfl, ?_⟩
    have := hw s.data.toList.length (by simp [DataW.weights])
    have e : s.data.toList.length = s.size := Array.length_toList
    have := reach_big
    omega
theorem list_of {α : Type} : ∀ {n : Nat} {q : Nat → α → Prop}, (∀ i, i < n → ∃ x, q i x) → ∃ l : List α, l.length = n ∧ ∀ i x, l[i]? = some x → q i x
  | 0, _, _ => ⟨[], rfl, fun i x h => by simp at h⟩
  | n + 1, q, h => by
    obtain ⟨x, hx⟩ := h 0 (by omega)
    obtain ⟨l, hl, hq⟩ := list_of (n := n) (q := fun i => q (i + 1)) (fun i hi => h (i + 1) (by omega))
    refine ⟨x :: l, by simp [hl], fun i y hy => ?_⟩
    cases i with
    | zero => cases hy; exact hx
    | succ i => exact hq i y hy
theorem weights_all {H : Type} {P : Program} {e : TypeId} : ∀ {l : List (DataW H)} {d : DataW H} {n : Nat}, d ∈ l → n ∈ d.weights P e → n ∈ DataW.weightsAll P e l
  | a :: l, d, n, hd, hn => by
    simp only [DataW.weightsAll, List.mem_append]
    rcases List.mem_cons.1 hd with rfl | hd
    · exact .inl hn
    · exact .inr (weights_all hd hn)
instance {α : Type} {P : Program} {T E : TypeId} {bt : Nat} {rep : Rp α} [hu : Und P T (.slice E)] [hr : RdR P E rep] [ht : TyR P E rep] [hb : Byt P E bt] [hz : NeZero bt] : RdR P T (rSlice bt rep) where
  rd h hw := by
    rcases Deep.open_slice hu.h h with ⟨rfl, _⟩ | ⟨a, len, cap, m, n, D, Pl, rfl, _, hlc, hcm, hm, hx, hel⟩
    · exact ⟨[], none, 0, 0, rfl, rfl, Nat.le_refl _, by simp, Nat.zero_le _, fun i x h => by simp at h⟩
    · cases hx
      have hmb : len ≤ m := by rw [hm]; split <;> omega
      have hrb := reach_big
      have hbt1 : 1 ≤ bt := Nat.one_le_iff_ne_zero.2 hz.out
      have hlen1 : len * 1 ≤ len * bt := Nat.mul_le_mul_left _ hbt1
      have hwt := hw ((((List.range len).map D).length + ((List.range (m - len)).map fun j => D (len + j)).length) * P.bytesOf E) (by simp [DataW.weights, hu.h])
      rw [bytes_of hb] at hwt
      simp only [List.length_map, List.length_range] at hwt
      have hlen : len * bt ≤ (len + (m - len)) * bt := Nat.mul_le_mul_right _ (by omega)
      obtain ⟨xs, hxl, hxs⟩ := list_of (n := len) (q := fun i x => PtrTo (heapS _) (a.add (i * rep.sz)) rep x) (fun i hi => by
        obtain ⟨cs', h1, h2⟩ := hel i (by omega)
        obtain ⟨_, hcl, hcs⟩ := World.cells?_some h1
        obtain ⟨x, hx⟩ := hr.rd h2 (fun k hk => hw k (by
          simp only [DataW.weights, hu.h, List.mem_cons, List.mem_append]
          exact .inr (.inl (weights_all (List.mem_map.2 ⟨i, by simpa using hi, rfl⟩) hk))))
        rw [cells_sz ht] at hcs hcl
        refine ⟨x, cs', hx, fun j v hv => heapS_cell ?_⟩
        have hj := (List.getElem?_eq_some_iff.1 hv).1
        rw [hcs j (by omega)]; exact hv)
      refine ⟨xs, some a, len, cap, rfl, hxl, hlc, by omega, by omega, fun i x h => ⟨a, rfl, hxs i x h⟩⟩
instance {P : Program} {T E : TypeId} {n : Nat} [hu : Und P T (.array n E)] [he : Und P E (.int .i64)] [ht : TyR P E rI64] [htt : TyR P T (rArr n)] : RdR P T (rArr n) where
  rd h _ := by
    rename_i cs d ps _
    obtain ⟨xs, m, rfl, _, hcl, hxl, hx⟩ := DataW.trod_array hu.h h
    have hsz : P.cellsOf E = 1 := cells_sz ht
    rw [cells_sz htt] at hcl
    have hcl : cs.length = n := hcl
    obtain ⟨l, hll, hl⟩ := list_of (n := n) (q := fun i (z : Int) => cs[i]? = some (.int .i64 z) ∧ Rng z) (fun i hi => by
      have h1 := hx i hi
      rw [hsz, Nat.mul_one, List.getElem?_eq_getElem (by omega)] at h1
      obtain ⟨z, hz, _, hw⟩ := DataW.trod_int he.h h1
      refine ⟨z, ?_, ?_⟩
      · have : ((cs.drop i).take 1)[0]? = some (.int .i64 z) := by rw [hz]; rfl
        rw [List.getElem?_take, if_pos (by omega), List.getElem?_drop] at this
        simpa using this
      · simp only [Lit.wf, Bool.and_eq_true, decide_eq_true_eq] at hw
        exact hw)
    refine ⟨l, hll, ?_, fun x hx => ?_⟩
    · apply List.ext_getElem?
      intro i
      rw [List.getElem?_map]
      by_cases hi : i < n
      · have hg : l[i]? = some l[i] := List.getElem?_eq_getElem (by omega)
        rw [hg, (hl i _ hg).1]; rfl
      · rw [List.getElem?_eq_none (by omega), List.getElem?_eq_none (by omega)]; rfl
    · obtain ⟨i, hi⟩ := List.getElem?_of_mem hx
      exact (hl i x hi).2
structure RdF {α : Type} (P : Program) (off : Nat) (fs : List Field) (rep : Rp α) : Prop where
  run : ∀ {H : Type} {enc : TypeId × Value → H} {w : World} {base : Nat} {spare : Nat → Bool} {held : Bool} {m : Nat} {cs : List Value} {xs : List (DataW H × List MemPlace)}, cs.length = off + rep.sz → xs.length = fs.length →
    (∀ (i : Nat) (f : Field), fs[i]? = some f → DataW.trod enc P w base spare held m f.type ((cs.drop f.offset).take (P.cellsOf f.type)) = xs[i]?) →
    (∀ n ∈ DataW.weightsEach P (fs.map (·.type)) (xs.map (·.1)), n ≤ reachBytes) → ∃ x, rep.R (heapS w) (cs.drop off) x
theorem RdF.last {α : Type} {P : Program} {off : Nat} {f : Field} {rep : Rp α} (ho : f.offset = off) (hr : RdR P f.type rep) (hs : P.cellsOf f.type = rep.sz) : RdF P off [f] rep := ⟨by
  intro H enc w base spare held m cs xs hc hl hx hw
  match xs, hl with
  | [y], _ =>
    have h1 := hx 0 f rfl
    rw [ho, hs, List.take_of_length_le (by rw [List.length_drop]; omega)] at h1
    refine hr.rd (d := y.1) (ps := y.2) h1 (fun n hn => hw n ?_)
    simp only [List.map_cons, DataW.weightsEach, List.mem_append]
    exact .inl hn⟩
theorem RdF.cons {α β : Type} {P : Program} {off : Nat} {f : Field} {fs : List Field} {a : Rp α} {b : Rp β} (ho : f.offset = off) (hr : RdR P f.type a) (hs : P.cellsOf f.type = a.sz) (h : RdF P (off + a.sz) fs b) : RdF P off (f :: fs) (rSeq a b) := ⟨by
  intro H enc w base spare held m cs xs hc hl hx hw
  match xs, hl with
  | y :: ys, hl =>
    have hc : cs.length = off + (a.sz + b.sz) := hc
    have h1 := hx 0 f rfl
    rw [ho, hs] at h1
    obtain ⟨x1, hx1⟩ := hr.rd (d := y.1) (ps := y.2) h1 (fun n hn => hw n (by
      simp only [List.map_cons, DataW.weightsEach, List.mem_append]
      exact .inl hn))
    obtain ⟨x2, hx2⟩ := h.run (cs := cs) (xs := ys) (by omega) (by simpa using hl) (fun i g hg => hx (i + 1) g hg) (fun n hn => hw n (by
      simp only [List.map_cons, DataW.weightsEach, List.mem_append]
      exact .inr hn))
    refine ⟨(x1, x2), (cs.drop off).take a.sz, cs.drop (off + a.sz), ?_, hx1, hx2⟩
    rw [← List.drop_drop, List.take_append_drop]⟩
theorem RdR.struct {α : Type} {P : Program} {T : TypeId} {fs : Array Field} {rep : Rp α} (hu : P.underlying T = some (.struct fs)) (hs : P.cellsOf T = rep.sz) (h : RdF P 0 fs.toList rep) : RdR P T rep where
  rd ht hw := by
    obtain ⟨xs, n, rfl, hx, hcl, hxl, hel⟩ := DataW.trod_struct hu ht
    cases hx
    obtain ⟨x, hx⟩ := h.run (xs := xs) (by rw [hcl, hs]; omega) (by simpa using hxl) (fun i f hf => hel i f (by simpa using hf)) (fun k hk => hw k (by simpa [DataW.weights, hu] using hk))
    exact ⟨x, by simpa using hx⟩
theorem RdR.map {α γ : Type} {P : Program} {T : TypeId} {a : Rp α} {f : γ → α} (g : α → γ) (hg : ∀ y, f (g y) = y) (h : RdR P T a) : RdR P T (rMap f a) where
  rd ht hw := by
    obtain ⟨x, hx⟩ := h.rd ht hw
    exact ⟨g x, by show a.R _ _ (f (g x)); rw [hg]; exact hx⟩
theorem notAgg_ok {P : Program} {W : World} {base : Nat} {T : TypeId} {v : Value} {d : TypeDesc} (hu : P.underlying T = some d) (ha : isAggD d = false) (h : Value.okWide P W .any base T v) : ∀ cs, v ≠ .agg cs := by
  rintro cs rfl
  unfold Value.okWide at h
  rw [hu] at h
  cases d <;> first | (cases ha; done) | (simp only [Cell.okWide, Cell.ok, hu] at h; done) | (simp [Cell.okWide, Cell.ok, hu] at h)
theorem agg_ok {P : Program} {W : World} {base : Nat} {T : TypeId} {v : Value} {d : TypeDesc} (hu : P.underlying T = some d) (ha : isAggD d = true) (h : Value.okWide P W .any base T v) : ∃ cs, v = .agg cs := by
  unfold Value.okWide at h
  rw [hu] at h
  cases d <;> first | (cases ha; done) | (obtain ⟨cs, h, _⟩ := h; exact ⟨cs, h⟩)
theorem rd_arg {α : Type} {H : Type} {enc : TypeId × Value → H} {P : Program} {W : World} {base : Nat} {T : TypeId} {v : Value} {d : DataW H} {ps : List MemPlace} (rep : Rp α) [ht : TyR P T rep] [hr : RdR P T rep] (hok : Value.okWide P W .any base T v)
    (h : DataW.Trod enc P W 0 (fun _ => true) true T v d ps) (hw : ∀ n ∈ d.weights P T, n ≤ reachBytes) : ∃ x, rep.V (heapS W) v x := by
  obtain ⟨fuel, hf⟩ := h
  obtain ⟨x, hx⟩ := hr.rd hf hw
  obtain ⟨dd, hd, ha⟩ := ht.u
  cases hag : rep.agg with
  | true =>
    obtain ⟨cs, rfl⟩ := agg_ok hd (ha.trans hag) hok
    exact ⟨x, cs.toList, by simpa [Value.cells] using hx, by simp [hag]⟩
  | false =>
    have hn := notAgg_ok hd (ha.trans hag) hok
    have hc : v.cells = #[v] := by cases v <;> first | rfl | exact absurd rfl (hn _)
    rw [hc] at hx
    exact ⟨x, [v], hx, by simp [hag]⟩
theorem sized_arg {H : Type} {P : Program} {ts : List TypeId} {ds : List (DataW H)} (h : (DataW.weightsEach P ts ds).all (· ≤ reachBytes) = true) {j : Nat} {t : TypeId} {d : DataW H} (ht : ts[j]? = some t) (hd : ds[j]? = some d) : ∀ n ∈ d.weights P t, n ≤ reachBytes := fun n hn => by
  have := List.all_eq_true.1 h _ (DataW.weights_mem_each ht hd n hn)
  simpa using this
theorem FnV.calls {P : Program} {f : FuncId} {args : Array Value} {r : Value} {W : World} (h : FnV P f args (heapS W) r) : Calls P f args W fun e W' => e = .returned r ∧ Below W.heap.size W W' := by
  refine (h W (agree_heapS W) (by simp) .nil (by simp)).mono ?_
  rintro e w' ⟨v, S', M', rfl, hw, rfl, rfl⟩
  exact ⟨rfl, hw.below⟩
end Go.Dr
namespace Go.Dr
open Go.Proofs
set_option maxRecDepth 20000
instance : RdR Tryz.prog 52 rLabel := RdR.map (fun y => ⟨y.1, y.2⟩) (fun _ => rfl) (RdR.struct Tryz.underlying52 (by kernel_rfl) (RdF.cons rfl (show RdR Tryz.prog 9 rStr from inferInstance) (by kernel_rfl) (RdF.last rfl (show RdR Tryz.prog 9 rStr from inferInstance) (by kernel_rfl))))
instance : RdR Tryz.prog 59 rTerm := RdR.map (fun y => ⟨y.1, y.2.1, y.2.2⟩) (fun _ => rfl) (RdR.struct Tryz.underlying59 (by kernel_rfl) (RdF.cons rfl (show RdR Tryz.prog 3 rI64 from inferInstance) (by kernel_rfl) (RdF.cons rfl (show RdR Tryz.prog 9 rStr from inferInstance) (by kernel_rfl) (RdF.last rfl (show RdR Tryz.prog 9 rStr from inferInstance) (by kernel_rfl)))))
instance : RdR Tryz.prog 62 rNear := RdR.map (fun y => ⟨y.1, y.2⟩) (fun _ => rfl) (RdR.struct Tryz.underlying62 (by kernel_rfl) (RdF.cons rfl (show RdR Tryz.prog 9 rStr from inferInstance) (by kernel_rfl) (RdF.last rfl (show RdR Tryz.prog 60 (rSlice 40 rTerm) from inferInstance) (by kernel_rfl))))
instance : RdR Tryz.prog 57 rNode := RdR.map (fun y => ⟨y.1, y.2.1, y.2.2.1, y.2.2.2.1, y.2.2.2.2.1, y.2.2.2.2.2⟩) (fun _ => rfl) (RdR.struct Tryz.underlying57 (by kernel_rfl) (RdF.cons rfl (show RdR Tryz.prog 9 rStr from inferInstance) (by kernel_rfl) (RdF.cons rfl (show RdR Tryz.prog 55 (rArr 5) from inferInstance) (by kernel_rfl) (RdF.cons rfl (show RdR Tryz.prog 53 (rSlice 32 rLabel) from inferInstance) (by kernel_rfl) (RdF.cons rfl (show RdR Tryz.prog 53 (rSlice 32 rLabel) from inferInstance) (by kernel_rfl) (RdF.cons rfl (show RdR Tryz.prog 4 rBool from inferInstance) (by kernel_rfl) (RdF.last rfl (show RdR Tryz.prog 4 rBool from inferInstance) (by kernel_rfl))))))))
instance : RdR Tryz.prog 64 rPod := RdR.map (fun y => ⟨y.1, y.2.1, y.2.2.1, y.2.2.2.1, y.2.2.2.2.1, y.2.2.2.2.2.1, y.2.2.2.2.2.2.1, y.2.2.2.2.2.2.2.1, y.2.2.2.2.2.2.2.2⟩) (fun _ => rfl) (RdR.struct Tryz.underlying64 (by kernel_rfl) (RdF.cons rfl (show RdR Tryz.prog 9 rStr from inferInstance) (by kernel_rfl) (RdF.cons rfl (show RdR Tryz.prog 9 rStr from inferInstance) (by kernel_rfl) (RdF.cons rfl (show RdR Tryz.prog 55 (rArr 5) from inferInstance) (by kernel_rfl) (RdF.cons rfl (show RdR Tryz.prog 53 (rSlice 32 rLabel) from inferInstance) (by kernel_rfl) (RdF.cons rfl (show RdR Tryz.prog 60 (rSlice 40 rTerm) from inferInstance) (by kernel_rfl) (RdF.cons rfl (show RdR Tryz.prog 53 (rSlice 32 rLabel) from inferInstance) (by kernel_rfl) (RdF.cons rfl (show RdR Tryz.prog 62 rNear from inferInstance) (by kernel_rfl) (RdF.cons rfl (show RdR Tryz.prog 62 rNear from inferInstance) (by kernel_rfl) (RdF.last rfl (show RdR Tryz.prog 9 rStr from inferInstance) (by kernel_rfl)))))))))))
instance : RdR Tryz.prog 48 rOwner := RdR.map (fun y => ⟨y.1, y.2.1, y.2.2.1, y.2.2.2.1, y.2.2.2.2⟩) (fun _ => rfl) (RdR.struct Tryz.underlying48 (by kernel_rfl) (RdF.cons rfl (show RdR Tryz.prog 9 rStr from inferInstance) (by kernel_rfl) (RdF.cons rfl (show RdR Tryz.prog 3 rI64 from inferInstance) (by kernel_rfl) (RdF.cons rfl (show RdR Tryz.prog 9 rStr from inferInstance) (by kernel_rfl) (RdF.cons rfl (show RdR Tryz.prog 3 rI64 from inferInstance) (by kernel_rfl) (RdF.last rfl (show RdR Tryz.prog 4 rBool from inferInstance) (by kernel_rfl)))))))
instance : RdR Tryz.prog 26 rSnap := RdR.map (fun y => ⟨y.1, y.2.1, y.2.2⟩) (fun _ => rfl) (RdR.struct Tryz.underlying26 (by kernel_rfl) (RdF.cons rfl (show RdR Tryz.prog 22 (rSlice 112 rNode) from inferInstance) (by kernel_rfl) (RdF.cons rfl (show RdR Tryz.prog 23 (rSlice 240 rPod) from inferInstance) (by kernel_rfl) (RdF.last rfl (show RdR Tryz.prog 24 (rSlice 56 rOwner) from inferInstance) (by kernel_rfl)))))
instance : RdR Tryz.prog 74 rStep := RdR.map (fun y => ⟨y.1, y.2.1, y.2.2⟩) (fun _ => rfl) (RdR.struct Tryz.underlying74 (by kernel_rfl) (RdF.cons rfl (show RdR Tryz.prog 3 rI64 from inferInstance) (by kernel_rfl) (RdF.cons rfl (show RdR Tryz.prog 3 rI64 from inferInstance) (by kernel_rfl) (RdF.last rfl (show RdR Tryz.prog 3 rI64 from inferInstance) (by kernel_rfl)))))
instance : RdR Tryz.prog 40 rClause := RdR.map (fun y => ⟨y.1, y.2.1, y.2.2.1, y.2.2.2⟩) (fun _ => rfl) (RdR.struct Tryz.underlying40 (by kernel_rfl) (RdF.cons rfl (show RdR Tryz.prog 3 rI64 from inferInstance) (by kernel_rfl) (RdF.cons rfl (show RdR Tryz.prog 3 rI64 from inferInstance) (by kernel_rfl) (RdF.cons rfl (show RdR Tryz.prog 3 rI64 from inferInstance) (by kernel_rfl) (RdF.last rfl (show RdR Tryz.prog 3 rI64 from inferInstance) (by kernel_rfl))))))
end Go.Dr
namespace Go.Dr
def findC (l : List Clause) (c : Clause) : Int := match l.find? (isC c.kind c.a c.b) with | some d => d.by_ | none => 0
def worseF (l : List Clause) (c : Clause) : Bool := decide (findC l c < c.by_)
def worseV (s : Snap) (p q : List Int) : List Clause × Int :=
  if ¬ checkP s p = 0 then ([], checkP s p) else if ¬ checkP s q = 0 then ([], checkP s q) else ((allL s q).filter (worseF (allL s p)), 0)
def weight (c : Clause) : Int := if c.kind = 1 then min c.by_ 1 else c.by_
def sumC (l : List Clause) : Int := (l.map weight).sum
def sumV (s : Snap) (p : List Int) : Int := sumC (allL s p)
def safeB (s : Snap) (p : List Int) : Bool := decide (checkP s p = 0) && decide (sumV s p = 0)
end Go.Dr
namespace Go.Dr
def noC : Clause := ⟨0, 0, 0, 0⟩
def cordonAt (s : Snap) (n : Int) : Bool := match s.nodes[n.toNat]? with | some x => x.cordon | none => false
def stepV (s : Snap) (p : List Int) (x : Step) : List Int × Clause × Int :=
  if ¬ (applyP s p x).2 = 0 then ([], noC, (applyP s p x).2)
  else if x.kind = 2 ∧ cordonAt s x.node = true then ([], noC, 100)
  else match (worseV s p (applyP s p x).1).1 with
    | c :: _ => ([], c, 100)
    | [] => ((applyP s p x).1, noC, 0)
def mayV (s : Snap) (p : List Int) (x : Step) : Bool := decide ((stepV s p x).2.2 = 0)
def waysV (s : Snap) (p : List Int) (pod : Int) : List Int := ((List.range s.nodes.length).filter (fun (n : Nat) => mayV s p ⟨2, pod, (n : Int)⟩)).map (fun (n : Nat) => (n : Int))
def runGo (s : Snap) : List Int → Int → List Step → List Int × Int × Int
  | q, i, [] => (q, i, 0)
  | q, i, x :: l => if ¬ (stepV s q x).2.2 = 0 then ([], i, (stepV s q x).2.2) else runGo s (stepV s q x).1 (i + 1) l
def runV (s : Snap) (p : List Int) (l : List Step) : List Int × Int × Int := if ¬ checkP s p = 0 then ([], 0, checkP s p) else runGo s p 0 l
end Go.Dr
namespace Go.Dr
def ltC (c d : Clause) : Prop := c.kind < d.kind ∨ (c.kind = d.kind ∧ (c.a < d.a ∨ (c.a = d.a ∧ c.b < d.b)))
theorem pw_flat {f : Nat → List Clause} {R : Clause → Clause → Prop} : ∀ {n : Nat}, (∀ i, i < n → (f i).Pairwise R) → (∀ i j, i < j → j < n → ∀ x ∈ f i, ∀ y ∈ f j, R x y) → ((List.range n).flatMap f).Pairwise R
  | 0, _, _ => by simp
  | n + 1, h1, h2 => by
    rw [List.range_succ, List.flatMap_append]
    refine List.pairwise_append.2 ⟨pw_flat (fun i hi => h1 i (by omega)) (fun i j hij hj => h2 i j hij (by omega)), by simpa using h1 n (by omega), ?_⟩
    intro x hx y hy
    obtain ⟨i, hi, hxi⟩ := List.mem_flatMap.1 hx
    have hi : i < n := by simpa using hi
    exact h2 i n hi (by omega) x hxi y (by simpa using hy)
theorem mem_pods {s : Snap} {p : List Int} {kind : Int} {n : Nat} {c : Clause} (h : c ∈ podsTo s p kind n) : ∃ i, i < n ∧ c = ⟨kind, i, 0, (of8 s p kind i).1⟩ ∧ (of8 s p kind i).2 = true := by
  obtain ⟨i, hi, hc⟩ := List.mem_flatMap.1 h
  unfold podC1 at hc
  split at hc
  · rename_i h1
    exact ⟨i, by simpa using hi, by simpa using hc, h1⟩
  · simp at hc
theorem mem_caps {s : Snap} {p : List Int} {c : Clause} (h : c ∈ capsC s p) : ∃ n k, n < s.nodes.length ∧ k < 5 ∧ c = capN s p n k := by
  unfold capsC capTo at h
  simp only [List.range_zero, List.map_nil, List.append_nil] at h
  obtain ⟨n, hn, hc⟩ := List.mem_flatMap.1 h
  obtain ⟨k, hk, rfl⟩ := List.mem_map.1 hc
  exact ⟨n, k, by simpa using hn, by simpa using hk, rfl⟩
theorem mem_kinds {s : Snap} {p : List Int} {c : Clause} {j : Nat} (h : c ∈ kindsTo s p j) : ∃ t i, t < j ∧ i < p.length ∧ c = ⟨(t : Int) + 2, i, 0, (of8 s p ((t : Int) + 2) i).1⟩ ∧ (of8 s p ((t : Int) + 2) i).2 = true := by
  obtain ⟨t, ht, hc⟩ := List.mem_flatMap.1 h
  obtain ⟨i, hi, hc, h2⟩ := mem_pods hc
  exact ⟨t, i, by simpa using ht, hi, hc, h2⟩
theorem mem_spread {s : Snap} {p : List Int} {c : Clause} {n : Nat} (h : c ∈ spreadTo s p n) : ∃ o, o < n ∧ c = ⟨7, o, 0, skewV s p o⟩ ∧ topoOf s o ≠ noS := by
  obtain ⟨o, ho, hc⟩ := List.mem_flatMap.1 h
  unfold spreadC1 at hc
  split at hc
  · simp at hc
  · rename_i h1
    exact ⟨o, by simpa using ho, by simpa using hc, h1⟩
theorem mem_min {s : Snap} {p : List Int} {c : Clause} {n : Nat} (h : c ∈ minTo s p n) : ∃ o, o < n ∧ c = minC1 s p o := by
  obtain ⟨o, ho, hc⟩ := List.mem_map.1 h
  exact ⟨o, by simpa using ho, hc.symm⟩
theorem allC_order (s : Snap) (p : List Int) : (allC s p).Pairwise ltC := by
  have h1 : (capsC s p).Pairwise ltC := by
    unfold capsC capTo
    simp only [List.range_zero, List.map_nil, List.append_nil]
    refine pw_flat (fun n _ => ?_) (fun i j hij hj x hx y hy => ?_)
    · refine List.pairwise_map.2 (List.Pairwise.imp ?_ List.pairwise_lt_range)
      intro a b hab
      exact .inr ⟨rfl, .inr ⟨rfl, by show (a : Int) < b; omega⟩⟩
    · obtain ⟨a, _, rfl⟩ := List.mem_map.1 hx
      obtain ⟨b, _, rfl⟩ := List.mem_map.1 hy
      exact .inr ⟨rfl, .inl (by show (i : Int) < j; omega)⟩
  have h2 : (kindsTo s p 5).Pairwise ltC := by
    refine pw_flat (fun t _ => ?_) (fun i j hij hj x hx y hy => ?_)
    · refine pw_flat (fun i _ => ?_) (fun i j hij hj x hx y hy => ?_)
      · unfold podC1; split <;> simp
      · unfold podC1 at hx hy
        split at hx <;> split at hy <;> first | (simp at hx; done) | (simp at hy; done) | skip
        simp only [List.mem_singleton] at hx hy
        subst hx; subst hy
        exact .inr ⟨rfl, .inl (by show (i : Int) < j; omega)⟩
    · obtain ⟨a, _, rfl, _⟩ := mem_pods hx
      obtain ⟨b, _, rfl, _⟩ := mem_pods hy
      exact .inl (by show (i : Int) + 2 < (j : Int) + 2; omega)
  have h3 : (spreadTo s p s.owners.length).Pairwise ltC := by
    refine pw_flat (fun o _ => ?_) (fun i j hij hj x hx y hy => ?_)
    · unfold spreadC1; split <;> simp
    · unfold spreadC1 at hx hy
      split at hx <;> split at hy <;> first | (simp at hx; done) | (simp at hy; done) | skip
      simp only [List.mem_singleton] at hx hy
      subst hx; subst hy
      exact .inr ⟨rfl, .inl (by show (i : Int) < j; omega)⟩
  have h4 : (minTo s p s.owners.length).Pairwise ltC := by
    refine List.pairwise_map.2 (List.Pairwise.imp ?_ List.pairwise_lt_range)
    intro a b hab
    exact .inr ⟨rfl, .inl (by show (a : Int) < b; omega)⟩
  unfold allC
  refine List.pairwise_append.2 ⟨List.pairwise_append.2 ⟨List.pairwise_append.2 ⟨h1, h2, ?_⟩, h3, ?_⟩, h4, ?_⟩
  · intro x hx y hy
    obtain ⟨n, k, _, _, rfl⟩ := mem_caps hx
    obtain ⟨t, i, _, _, rfl, _⟩ := mem_kinds hy
    exact .inl (by show (1 : Int) < (t : Int) + 2; omega)
  · intro x hx y hy
    obtain ⟨o, _, rfl, _⟩ := mem_spread hy
    rcases List.mem_append.1 hx with hx | hx
    · obtain ⟨n, k, _, _, rfl⟩ := mem_caps hx
      exact .inl (by show (1 : Int) < 7; omega)
    · obtain ⟨t, i, _, _, rfl, _⟩ := mem_kinds hx
      exact .inl (by show (t : Int) + 2 < 7; omega)
  · intro x hx y hy
    obtain ⟨o, _, rfl⟩ := mem_min hy
    rcases List.mem_append.1 hx with hx | hx
    · rcases List.mem_append.1 hx with hx | hx
      · obtain ⟨n, k, _, _, rfl⟩ := mem_caps hx
        exact .inl (by show (1 : Int) < 8; omega)
      · obtain ⟨t, i, _, _, rfl, _⟩ := mem_kinds hx
        exact .inl (by show (t : Int) + 2 < 8; omega)
    · obtain ⟨o', _, rfl, _⟩ := mem_spread hx
      exact .inl (by show (7 : Int) < 8; omega)
theorem allL_order (s : Snap) (p : List Int) : (allL s p).Pairwise ltC := by
  unfold allL
  split
  · exact allC_order s p
  · exact .nil
def nameC (c : Clause) : Int × Int × Int := (c.kind, c.a, c.b)
theorem ltC_name {c d : Clause} (h : ltC c d) : nameC c ≠ nameC d := by
  intro e
  simp only [nameC, Prod.mk.injEq] at e
  unfold ltC at h
  omega
theorem allL_names (s : Snap) (p : List Int) : (allL s p).Pairwise (fun c d => nameC c ≠ nameC d) := (allL_order s p).imp ltC_name
theorem isC_name (c d : Clause) : isC c.kind c.a c.b d = decide (nameC d = nameC c) := by
  unfold isC nameC
  rw [Bool.eq_iff_iff]
  simp [and_assoc]
theorem find_self {l : List Clause} (h : l.Pairwise (fun c d => nameC c ≠ nameC d)) {c : Clause} (hc : c ∈ l) : l.find? (isC c.kind c.a c.b) = some c := by
  induction l with
  | nil => cases hc
  | cons x l ih =>
    obtain ⟨h1, h2⟩ := List.pairwise_cons.1 h
    rw [List.find?_cons, isC_name]
    rcases List.mem_cons.1 hc with rfl | hc
    · simp
    · have := h1 c hc
      rw [decide_eq_false this]
      exact ih h2 hc
end Go.Dr
namespace Go.Dr
theorem checkP_set {s : Snap} {p : List Int} {i : Nat} {v : Int} (h : checkP s p = 0) (hv : oddP s v = false) : checkP s (p.set i v) = 0 := by
  obtain ⟨h1, h2, h3⟩ := checkP_ok h
  unfold checkP
  have e1 : z0 (checkS s) = true := by simp [z0, h1]
  have e2 : (p.set i v).any (oddP s) = false := by
    rw [List.any_eq_false]
    intro x hx
    rcases List.mem_or_eq_of_mem_set hx with hx | rfl
    · rw [h3 x hx]; simp
    · rw [hv]; simp
  rw [e1, e2, List.length_set, h2]
  simp
theorem odd_none (s : Snap) : oddP s (-1) = false := by simp [oddP]; omega
theorem apply_set {s : Snap} {p : List Int} {x : Step} (h : (applyP s p x).2 = 0) : ∃ v, (applyP s p x).1 = p.set x.pod.toNat v ∧ x.pod.toNat < p.length ∧ 0 ≤ x.pod ∧ oddP s v = false ∧ checkP s p = 0 ∧
    ((x.kind = 1 ∧ v = -1 ∧ x.node = 0 ∧ at0 p x.pod.toNat ≠ -1) ∨ (x.kind = 2 ∧ v = x.node ∧ 0 ≤ x.node ∧ x.node < s.nodes.length ∧ lostAt s x.node = false ∧ at0 p x.pod.toNat = -1)) := by
  unfold applyP at h ⊢
  split at h
  · rename_i h1; simp [z0] at h1; exact absurd h h1
  rename_i h1
  rw [if_neg h1]
  have hok : checkP s p = 0 := by simpa [z0] using h1
  split at h
  · cases h
  rename_i h2
  rw [if_neg h2]
  split at h
  · cases h
  rename_i h3
  rw [if_neg h3]
  split at h
  · cases h
  rename_i h4
  rw [if_neg h4]
  simp only [Bool.and_eq_true, Bool.not_eq_true', decide_eq_false_iff_not, not_and, Classical.not_not] at h2
  simp only [Bool.or_eq_true, decide_eq_true_eq, Bool.and_eq_true, Bool.not_eq_true', decide_eq_false_iff_not, not_or, not_and, Classical.not_not] at h3
  obtain ⟨⟨⟨⟨a1, a2⟩, a3⟩, a4⟩, a5⟩ := h3
  have hp : x.pod.toNat < p.length := by omega
  by_cases hk : x.kind = 2
  · have hk1 : ¬ x.kind = 1 := by omega
    simp only [hk, Bool.or_eq_true, Bool.and_eq_true, not_or, not_and, Bool.not_eq_true, decide_true, true_implies] at h4
    obtain ⟨b1, b2⟩ := h4
    have b1 : at0 p x.pod.toNat = -1 := by
      by_cases e : at0 p x.pod.toNat = -1
      · exact e
      · rw [decide_eq_false e] at b1; simp at b1
    refine ⟨x.node, by rw [if_pos hk], hp, by omega, ?_, hok, .inr ⟨hk, rfl, by omega, by have := a4 hk; omega, b2, b1⟩⟩
    unfold oddP
    have := a4 hk
    simp [b2]; omega
  · have hk1 : x.kind = 1 := by
      by_cases e : x.kind = 1
      · exact e
      · exact absurd (h2 e) hk
    have b1 : ¬ at0 p x.pod.toNat = -1 := by
      intro e
      apply h4
      rw [decide_eq_true e, decide_eq_true hk1]; simp
    exact ⟨-1, by rw [if_neg hk], hp, by omega, odd_none s, hok, .inl ⟨hk1, rfl, a5 hk1, b1⟩⟩
theorem apply_check {s : Snap} {p : List Int} {x : Step} (h : (applyP s p x).2 = 0) : checkP s (applyP s p x).1 = 0 ∧ (applyP s p x).1.length = p.length ∧ 0 < p.length := by
  obtain ⟨v, h1, h2, _, h3, h4, _⟩ := apply_set h
  rw [h1]
  exact ⟨checkP_set h4 h3, by simp, by omega⟩
theorem worse_ok {s : Snap} {p q : List Int} (h1 : checkP s p = 0) (h2 : checkP s q = 0) : worseV s p q = ((allL s q).filter (worseF (allL s p)), 0) := by
  unfold worseV; rw [if_neg (by simpa using h1), if_neg (by simpa using h2)]
end Go.Dr
namespace Go.Dr
open Go.Proofs
set_option maxRecDepth 20000
set_option maxHeartbeats 2000000
set_option linter.unusedSimpArgs false
set_option linter.unusedVariables false
theorem allC_rng {s : Snap} {p : List Int} (hok : checkP s p = 0) : (allC s p).length ≤ 400 ∧ ∀ c ∈ allC s p, 0 ≤ c.by_ ∧ c.by_ ≤ Qty := by
  obtain ⟨hs, hlen, hodd⟩ := checkP_ok hok
  have hsh := (checkS_ok hs).1
  obtain ⟨hn8, hp24, ho8⟩ := shaped_small hsh
  obtain ⟨hwl, htl⟩ := shaped_lists hsh
  have hof := of8_rng (s := s) (p := p) (by omega) hwl htl
  constructor
  · unfold allC
    have h1 : (capsC s p).length ≤ 40 := by unfold capsC; rw [capTo_len]; omega
    have h2 := kindsTo_len s p 5
    have h3 := spreadTo_len s p s.owners.length
    have h4 := minTo_len s p s.owners.length
    simp only [List.length_append]
    omega
  · intro c hc
    unfold allC at hc
    simp only [List.mem_append] at hc
    rcases hc with ((hc | hc) | hc) | hc
    · unfold capsC capTo at hc
      simp only [List.range_zero, List.map_nil, List.append_nil, List.mem_flatMap, List.mem_range, List.mem_map] at hc
      obtain ⟨n, hn, k, hk, rfl⟩ := hc
      obtain ⟨hul, hur⟩ := used_fine hs hlen (n : Int)
      have hu : 0 ≤ at0 (usedV s p n) k ∧ at0 (usedV s p n) k ≤ Qty := by
        have : (usedV s p n)[k]? = some ((usedV s p n)[k]'(by omega)) := List.getElem?_eq_getElem (by omega)
        rw [at0_some this]
        exact hur _ (List.getElem_mem _)
      have hcp : 0 ≤ at0 (capOf s n) k := by
        unfold at0
        rw [List.getD_eq_getElem?_getD]
        cases h : (capOf s n)[k]? with
        | none => simp
        | some y =>
          unfold capOf at h
          obtain ⟨x, hx⟩ : ∃ x, s.nodes[n]? = some x := ⟨_, List.getElem?_eq_getElem hn⟩
          rw [hx] at h
          exact (shaped_cap hsh x (List.mem_of_getElem? hx) y (List.mem_of_getElem? h)).1
      simp only [capN]
      unfold Qty at *
      omega
    · unfold kindsTo podsTo at hc
      simp only [List.mem_flatMap, List.mem_range] at hc
      obtain ⟨t, _, i, _, hc⟩ := hc
      unfold podC1 at hc
      split at hc
      · simp only [List.mem_singleton] at hc
        subst hc
        have := hof ((t : Int) + 2) i
        simp only [Qty]; omega
      · cases hc
    · unfold spreadTo at hc
      simp only [List.mem_flatMap, List.mem_range] at hc
      obtain ⟨o, ho, hc⟩ := hc
      unfold spreadC1 at hc
      split at hc
      · cases hc
      · simp only [List.mem_singleton] at hc
        subst hc
        obtain ⟨ow, how⟩ : ∃ ow, s.owners[o]? = some ow := ⟨_, List.getElem?_eq_getElem ho⟩
        have hsr := shaped_owner hsh ow (List.mem_of_getElem? how)
        have := skewV_rng (o := o) (p := p) (s := s) (by omega) hlen (by omega) (by simp [skewOf, how]; omega)
        simp only [Qty]; omega
    · unfold minTo at hc
      simp only [List.mem_map, List.mem_range] at hc
      obtain ⟨o, ho, rfl⟩ := hc
      obtain ⟨ow, how⟩ : ∃ ow, s.owners[o]? = some ow := ⟨_, List.getElem?_eq_getElem ho⟩
      have hsr := shaped_owner hsh ow (List.mem_of_getElem? how)
      have hplr := placed_rng (s := s) (p := p) (o := o) hlen
      have hmo : minOf s o = ow.min := by simp [minOf, how]
      simp only [minC1, hmo, Qty]; omega
theorem allL_rng (s : Snap) (p : List Int) : (allL s p).length ≤ 400 ∧ ∀ c ∈ allL s p, 0 ≤ c.by_ ∧ c.by_ ≤ Qty := by
  unfold allL
  split
  · rename_i h; exact allC_rng h
  · simp
theorem sum_take_rng {l : List Clause} (h : ∀ c ∈ l, 0 ≤ c.by_ ∧ c.by_ ≤ Qty) : ∀ k, 0 ≤ sumC (l.take k) ∧ sumC (l.take k) ≤ Qty * k
  | 0 => by simp [sumC]
  | k + 1 => by
    have ih := sum_take_rng h k
    rw [List.take_add_one]
    cases hx : l[k]? with
    | none => simp only [Option.toList_none, List.append_nil]; unfold Qty at *; omega
    | some x =>
      have hx' := h x (List.mem_of_getElem? hx)
      unfold sumC at *
      simp only [Option.toList_some, List.map_append, List.sum_append, List.map_cons, List.map_nil, List.sum_cons, List.sum_nil]
      unfold weight Qty at *
      split <;> omega
theorem sumC_step {l : List Clause} {k : Nat} {x : Clause} (hx : l[k]? = some x) : sumC (l.take (k + 1)) = sumC (l.take k) + weight x := by
  unfold sumC
  rw [List.take_add_one, hx]; simp
theorem s76_L9r {P K : Prop} (k : K) (h : Goal K → P := by
  intro zk
  (first | refine Walk ?_ | refine JC.block ?_ | refine JC.drawN 4 rfl [0, 1, 2, 3, 4, 5, 6, 7, 8, 9, 10, 11, 12, 13, 14, 15, 16, 17, 18, 19, 20, 21, 22, 23, 24, 25, 26, 27] [0, 1, 2, 3, 4, 5, 6, 7, 8, 9, 10, 11, 12, 13, 14, 15, 16, 17, 18, 19, 20, 21, 22, 23, 24, 25, 26, 27] Tryz_mixed (by decide +kernel) ?_ | (refine WBox ?_))
  (repeat (first | revert zqg | revert zqf | revert zqe | revert zqd | revert zqc | revert zqb | revert zqa))
  exact zk.k) : P := h ⟨k⟩
theorem r9_find {S : SHeap} {u v : Value} {L : List Clause} {c : Clause} (hu : (rSlice 32 rClause).V S u L) (hv : rClause.V S v c) : FnV Tryz.prog 76 #[u, v] S (.int .i64 (findC L c)) := by
  obtain ⟨a0, c0, rfl, _, _, hb, _⟩ := V_slice.1 hu
  unfold big at hb
  (refine Fn.enter (args := [.slice a0 L.length c0, v]) Tryz.func76 rfl Tryz.ntmps76 rfl ?_; intro w0)
  repeat (refine s76_L9r ?_; intros)
  unfold findC
  refine JC.loopF0 [(0, _), (3, _)] (fun (k : Nat) => [(5, .int .i64 k)]) (fun Sk k => k ≤ L.length ∧ ((L.drop k).find? (isC c.kind c.a c.b) = L.find? (isC c.kind c.a c.b))) (fun k => L.length - k) 0 (by exact sba) (by exact sba) ⟨Nat.zero_le _, rfl⟩ ?_; intro Sk k hlk hik; obtain ⟨hk, hik⟩ := hik; (try dsimp only at hk hik); dsimp only [List.cons_append, List.nil_append]
  repeat (refine s76_L9r ?_; intros)
  refine JC.cond rfl (fun hc => ?_) (fun hc => ?_)
  · have hk' := dlt hc
    obtain ⟨x, hx, hd⟩ := drop_at hk'
    rw [hd, List.find?_cons] at hik
    repeat' (first | (refine s76_L9r ?_; intros) | (refine JO.guard rfl rfl rfl rfl ?_ ?_ <;> intro _) | (refine JC.cond rfl ?_ ?_ <;> intro _))
    all_goals first
      | ((refine JX.ret1 Tryz.results76 (ResV.tmp rfl) (List.nil_sublist _) ?_); have hx : isC c.kind c.a c.b x = true := (by simp [isC, *]); rw [hx] at hik; exact ⟨rfl, by rw [← hik]⟩)
      | (exfalso; simp_all; done)
      | (have hx : isC c.kind c.a c.b x = false := (by simp_all [isC]); rw [hx] at hik; exact JX.roundF (k + 1) (by exact lea) ⟨by omega, hik⟩ (by (try dsimp only); omega) rfl (by exact sba) (by exact sba))
  · have hk' := dnlt hc
    rw [List.drop_eq_nil_of_le hk'] at hik
    repeat (refine s76_L9r ?_; intros)
    (refine JX.ret1 Tryz.results76 (ResV.tmp rfl) (List.nil_sublist _) ?_)
    exact ⟨rfl, by rw [← hik]; rfl⟩
theorem s38_L9r {P K : Prop} (k : K) (h : Goal K → P := by
  intro zk
  (first | refine Walk ?_ | refine JC.block ?_ | (refine JO.eff rfl rfl rfl (JEff.callLE rfl (r8_All (by exact vta) (by exact vta)) rfl ?_); intro zqa zqb zqc zqd zqe zqf) | (refine WBox ?_))
  (repeat (first | revert zqg | revert zqf | revert zqe | revert zqd | revert zqc | revert zqb | revert zqa))
  exact zk.k) : P := h ⟨k⟩
theorem r9_Sum {S : SHeap} {u v : Value} {s : Snap} {p : List Int} (hu : rSnap.V S u s) (hv : (rSlice 8 rI64).V S v p) : FnV Tryz.prog 38 #[u, v] S (.tuple #[.int .i64 (sumV s p), .int .i64 (checkP s p)]) := by
  (refine Fn.enter (args := [u, v]) Tryz.func38 rfl Tryz.ntmps38 rfl ?_; intro w0)
  repeat (refine s38_L9r ?_; intros)
  obtain ⟨hL, hR⟩ := allL_rng s p
  unfold sumV
  generalize allL s p = L at *
  refine JC.loopF0 [(6, _), (7, _)] (fun (k : Nat) => [(8, .int .i64 (sumC (L.take k))), (9, .int .i64 k)]) (fun Sk k => k ≤ L.length ∧ (True)) (fun k => L.length - k) 0 (by exact sba) (by exact sba) ⟨Nat.zero_le _, trivial⟩ ?_; intro Sk k hlk hik; obtain ⟨hk, hik⟩ := hik; (try dsimp only at hk hik); dsimp only [List.cons_append, List.nil_append]
  repeat (refine s38_L9r ?_; intros)
  refine JC.cond rfl (fun hc => ?_) (fun hc => ?_)
  · have hk' := dlt hc
    obtain ⟨x, hx, hd⟩ := drop_at hk'
    have hst := sumC_step hx
    have hxr := hR x (List.mem_of_getElem? hx)
    have hsr := sum_take_rng hR k
    unfold Qty at hxr hsr
    repeat (refine s38_L9r ?_; intros)
    refine JC.cond rfl (fun h1 => ?_) (fun h1 => ?_)
    · have h1 := of_decide_eq_true h1
      rw [weight, if_pos h1] at hst
      repeat (refine s38_L9r ?_; intros)
      (refine JX.roundF (k + 1) (by exact lea) ⟨by omega, (trivial)⟩ (by (try dsimp only); omega) rfl ?_ (by exact sba); (try dsimp only); rw [hst]; exact sba; done)
    · have h1 := of_decide_eq_false h1
      rw [weight, if_neg h1] at hst
      repeat (refine s38_L9r ?_; intros)
      (refine JX.roundF (k + 1) (by exact lea) ⟨by omega, (trivial)⟩ (by (try dsimp only); omega) rfl ?_ (by exact sba); (try dsimp only); rw [hst]; exact sba; done)
  · have hk' := dnlt hc
    rw [List.take_of_length_le hk']
    repeat (refine s38_L9r ?_; intros)
    (refine JX.ret2 Tryz.results38 (ResV.tmp rfl) (ResV.tmp rfl) (List.nil_sublist _) ?_)
    exact ⟨rfl, rfl⟩
theorem r9_Safe {S : SHeap} {u v : Value} {s : Snap} {p : List Int} (hu : rSnap.V S u s) (hv : (rSlice 8 rI64).V S v p) : FnV Tryz.prog 34 #[u, v] S (.tuple #[.bool (safeB s p), .int .i64 (checkP s p)]) := by
  (refine Fn.enter (args := [u, v]) Tryz.func34 rfl Tryz.ntmps34 rfl ?_; intro w0)
  repeat' (first | (refine Walk ?_; intros) | refine JC.block ?_ | (refine JO.eff rfl rfl rfl (JEff.callV rfl (r9_Sum (by exact vta) (by exact vta)) rfl ?_); intro _ _) | (refine WBox ?_; intros) | (refine JO.guard rfl rfl rfl rfl ?_ ?_ <;> intro _) | (refine JC.cond rfl ?_ ?_ <;> intro _))
  all_goals ((refine JX.ret2 Tryz.results34 (ResV.tmp rfl) (ResV.tmp rfl) (List.nil_sublist _) ?_); refine ⟨rfl, ?_⟩; unfold safeB; simp [*])
theorem s36_L9r {P K : Prop} (k : K) (h : Goal K → P := by
  intro zk
  (first | refine Walk ?_ | refine JC.block ?_ | refine JC.drawN 11 rfl [0, 1, 2, 3, 4, 5, 6, 7, 8, 9, 10, 11] [5, 6, 7, 8, 9, 11] Tryz_mixed (by decide +kernel) ?_ | (refine JO.eff rfl rfl rfl (JEff.callLE rfl (r8_All (by exact vta) (by exact vta)) rfl ?_); intro zqa zqb zqc zqd zqe zqf) | (refine JO.eff rfl rfl rfl (JEff.callV rfl (r9_find (by exact vta) (by exact vta)) rfl ?_); intro zqa zqb) | (refine WBox ?_))
  (repeat (first | revert zqg | revert zqf | revert zqe | revert zqd | revert zqc | revert zqb | revert zqa))
  exact zk.k) : P := h ⟨k⟩
theorem r9_Worse {S : SHeap} {u v v2 : Value} {s : Snap} {p q : List Int} (hu : rSnap.V S u s) (hv : (rSlice 8 rI64).V S v p) (hv2 : (rSlice 8 rI64).V S v2 q) : FnLE Tryz.prog 36 #[u, v, v2] S 32 rClause (worseV s p q).1 (.int .i64 (worseV s p q).2) := by
  (refine Fn.enter (args := [u, v, v2]) Tryz.func36 rfl Tryz.ntmps36 rfl ?_; intro w0)
  repeat (refine s36_L9r ?_; intros)
  refine JC.cond rfl (fun h1 => ?_) (fun h1 => ?_)
  · have h1 : ¬ checkP s p = 0 := by simpa using h1
    repeat (refine s36_L9r ?_; intros)
    (refine JX.ret2 Tryz.results36 (ResV.tmp rfl) (ResV.tmp rfl) (List.nil_sublist _) ?_)
    unfold worseV
    rw [if_pos h1]
    exact ⟨rfl, _, rfl, V_nil⟩
  have h1 : ¬ ¬ checkP s p = 0 := by simpa using h1
  repeat (refine s36_L9r ?_; intros)
  refine JC.cond rfl (fun h2 => ?_) (fun h2 => ?_)
  · have h2 : ¬ checkP s q = 0 := by simpa using h2
    repeat (refine s36_L9r ?_; intros)
    (refine JX.ret2 Tryz.results36 (ResV.tmp rfl) (ResV.tmp rfl) (List.nil_sublist _) ?_)
    unfold worseV
    rw [if_neg h1, if_pos h2]
    exact ⟨rfl, _, rfl, V_nil⟩
  have h2 : ¬ ¬ checkP s q = 0 := by simpa using h2
  unfold worseV
  rw [if_neg h1, if_neg h2]
  generalize allL s p = LA at *
  generalize hL : allL s q = L at *
  have hb32 := slice_bytes (by assumption : (rSlice 32 rClause).V _ _ L)
  unfold big at hb32
  repeat (refine s36_L9r ?_; intros)
  (first | refine JC.newRow 40 (Rp.sz rClause) ?_ | refine JO.newRow 40 (Rp.sz rClause) ?_ | refine JX.newRow 40 (Rp.sz rClause) ?_)
  refine JC.loopF (σ := Nat × Option Addr × Nat × List Value) [(8, _), (10, _)] (fun q => [(12, .slice q.2.1 ((fun k => (L.take k).filter (worseF LA)) q.1).length q.2.2.1), (13, ((fun k => .int .i64 k) q.1))]) (fun q => [.row w0.heap.size 40 (Rp.sz rClause) (.slice q.2.1 ((fun k => (L.take k).filter (worseF LA)) q.1).length q.2.2.1) ((fun k => (L.take k).filter (worseF LA)) q.1).length (flatCells q.2.2.2)]) (fun Sk q => q.1 ≤ L.length ∧ allV rClause Sk q.2.2.2 ((fun k => (L.take k).filter (worseF LA)) q.1) ∧ ((fun k => True) q.1)) (fun q => L.length - q.1) (0, none, 0, []) (by exact sba) (by exact sba) (by first | rfl | simp) (⟨Nat.zero_le _, trivial, trivial⟩) ?_; rintro Sk ⟨k, rak, rck, vsk⟩ hlk ⟨hk, hvk, hik⟩; (try dsimp only at hk hvk hik); dsimp only [List.cons_append, List.nil_append]
  have hfl := filter_len L (worseF LA) k
  repeat (refine s36_L9r ?_; intros)
  refine JC.cond rfl (fun hc => ?_) (fun hc => ?_)
  · have hk' := dlt hc
    obtain ⟨x, hx, _⟩ := drop_at hk'
    have hst := filter_step (f := worseF LA) hx
    repeat (refine s36_L9r ?_; intros)
    refine JC.cond rfl (fun hf => ?_) (fun hf => ?_)
    · rw [show worseF LA x = true from hf, if_pos rfl] at hst
      repeat (refine s36_L9r ?_; intros)
      (refine JO.eff rfl rfl rfl (JEff.build (rep := rClause) (ys := [x]) rfl rfl ⟨⟨((by exact vta)), nna⟩, trivial⟩ rfl rfl rfl rfl ?_); intro bb hbb hvv); (repeat (first | (refine Walk ?_; intros) | refine JC.block ?_)); (refine JO.eff rfl rfl rfl (JEff.appendL (rep := rClause) rfl rfl rfl rfl (List.Perm.swap _ _ _) (by exact hvv.flat) (by intro c hc; exact flat_one (fun v hv => (hvv.size v hv).2) c hc) (by first | omega | (unfold big; omega)) (by unfold big; omega) (by first | exact rowT_ok | (intro l hl; cases hl)) rfl ?_); intro a2 c2; clear hvv hbb)
      repeat (refine s36_L9r ?_; intros)
      exact JX.roundF (k + 1, a2, c2, vsk ++ [_]) (by exact lea) ⟨by omega, by (try dsimp only); rw [hst]; exact allV_add (by exact lea) hvk (by assumption) nna, trivial⟩ (by (try dsimp only); omega) (by (try dsimp only); rw [hst]; (simp [flat_append] <;> omega)) (by (try dsimp only); rw [hst]; simp only [List.length_append, List.length_cons, List.length_nil]; exact sba) (by exact sba)
    · rw [show worseF LA x = false from hf, if_neg (by simp), List.append_nil] at hst
      repeat (refine s36_L9r ?_; intros)
      exact JX.roundF (k + 1, rak, rck, vsk) (by exact lea) ⟨by omega, by (try dsimp only); rw [hst]; exact hvk.mono (by exact lea), (trivial)⟩ (by (try dsimp only); omega) (by (try dsimp only); rw [hst]) (by (try dsimp only); rw [hst]; exact sba) (by exact sba)
  · have hk' := dnlt hc
    rw [List.take_of_length_le hk'] at hvk hfl ⊢
    repeat (refine s36_L9r ?_; intros)
    refine JX.freezeRow (rep := rClause) (bt := 32) hvk rfl (by unfold big; omega) (by unfold big; omega) (fun S9 hl9 hV9 => ?_)
    (refine JX.ret2 Tryz.results36 (ResV.tmp rfl) (ResV.tmp rfl) (List.nil_sublist _) ?_)
    exact ⟨rfl, _, rfl, hV9⟩
end Go.Dr
namespace Go.Dr
set_option linter.unusedSimpArgs false
set_option linter.unusedVariables false
def SHeap.del (S : SHeap) (b : Nat) : SHeap := fun k => if k = b then none else S k
theorem SHeap.del_self (S : SHeap) (b : Nat) : S.del b b = none := by simp [SHeap.del]
theorem SHeap.del_other {S : SHeap} {b k : Nat} (h : k ≠ b) : S.del b k = S k := by simp [SHeap.del, h]
theorem SHeap.le_del {S S' : SHeap} {b : Nat} (h : S.le S') (hb : S b = none) : S.le (S'.del b) := fun k o hk => by
  have hne : k ≠ b := fun e => by rw [e, hb] at hk; cases hk
  rw [SHeap.del_other hne]; exact h k o hk
theorem Wd.thaw {w0 w : World} {B0 : List Nat} {S0 S : SHeap} {M : List MEnt} {b : Nat} {o : Obj} (h : Wd w0 B0 S0 S M w) (h0 : S0 b = none) (hb : w0.heap.size ≤ b) (hS : S b = some o) : Wd w0 B0 S0 (S.del b) (.blk b o :: M) w where
  os := h.os
  tape := h.tape
  output := h.output
  size := h.size
  keep := h.keep
  le := SHeap.le_del h.le h0
  new := fun k hk => by
    by_cases e : k = b
    · subst e; exact .inr hb
    · exact h.new k (by rwa [SHeap.del_other e] at hk)
  agree := fun k o' hk => by
    have hne : k ≠ b := fun e => by rw [e, SHeap.del_self] at hk; cases hk
    rw [SHeap.del_other hne] at hk; exact h.agree k o' hk
  ok := fun m hm => by
    rcases List.mem_cons.1 hm with rfl | hm
    · exact h.agree b o hS
    · exact h.ok m hm
  sep := by
    refine List.pairwise_cons.2 ⟨?_, h.sep⟩
    intro m hm k hk hk'
    simp only [MEnt.own, Option.some.injEq] at hk
    subst hk
    have := (h.out m hm _ hk').1
    rw [hS] at this; cases this
  out := fun m hm k hk => by
    rcases List.mem_cons.1 hm with rfl | hm
    · simp only [MEnt.own, Option.some.injEq] at hk
      subst hk
      exact ⟨SHeap.del_self _ _, .inl hb⟩
    · obtain ⟨h1, h2⟩ := h.out m hm k hk
      refine ⟨?_, h2⟩
      unfold SHeap.del
      split
      · rfl
      · exact h1
theorem Fn.lend {P : Program} {f : FuncId} {args : Array Value} {S : SHeap} {b : Nat} {o : Obj} {PP : Value → SHeap → List MEnt → Prop} (h : Fn P f args (S.put b o) [] PP) :
    Fn P f args S [.blk b o] (fun v S' M' => ∃ S'' M'', PP v S'' M'' ∧ (S.put b o).le S'' ∧ S' = S''.del b ∧ M' = [.blk b o]) := fun w hg hok hs ho => by
  have hSb : S b = none := ho (.blk b o) (by simp) b rfl
  have hwb : w.heap[b]? = some o := hok (.blk b o) (by simp)
  have hg' : Agree (S.put b o) w := fun k o' hk => by
    by_cases e : k = b
    · subst e
      rw [SHeap.put_self] at hk; cases hk; exact hwb
    · exact hg k o' (by simpa [SHeap.put, e] using hk)
  refine (h w hg' (by simp) List.Pairwise.nil (by simp)).mono ?_
  rintro e w' ⟨v, S'', M'', rfl, hw, hp⟩
  have hSb2 : S'' b = some o := hw.le b o (SHeap.put_self _ _ _)
  refine ⟨v, S''.del b, [.blk b o], rfl, ?_, S'', M'', hp, hw.le, rfl, rfl⟩
  have hle : S.le S'' := (SHeap.le_put o hSb).trans hw.le
  exact {
    os := hw.os
    tape := hw.tape
    output := hw.output
    size := hw.size
    keep := fun k hk hkb => hw.keep k hk (by simp)
    le := SHeap.le_del hle hSb
    new := fun k hk => by
      by_cases e : k = b
      · subst e; rw [SHeap.del_self] at hk; exact absurd rfl hk
      · rw [SHeap.del_other e] at hk
        rcases hw.new k hk with h1 | h1
        · exact .inl (by simpa [SHeap.put, e] using h1)
        · exact .inr h1
    agree := fun k o' hk => by
      have hne : k ≠ b := fun e => by rw [e, SHeap.del_self] at hk; cases hk
      rw [SHeap.del_other hne] at hk; exact hw.agree k o' hk
    ok := fun m hm => by
      rw [List.mem_singleton] at hm; subst hm
      exact hw.agree b o hSb2
    sep := List.pairwise_singleton _ _
    out := fun m hm k hk => by
      rw [List.mem_singleton] at hm; subst hm
      simp only [MEnt.own, Option.some.injEq] at hk
      subst hk
      exact ⟨SHeap.del_self _ _, .inr (by simp [MEnt.own])⟩ }
theorem Fn.frozen {P : Program} {f : FuncId} {args : Array Value} {S : SHeap} {PP : Value → SHeap → List MEnt → Prop} {QQ : Value → SHeap → Prop} (h : Fn P f args S [] PP)
    (hq : ∀ v S' M', PP v S' M' → (M' = [] ∧ QQ v S') ∨ ∃ b o, M' = [.blk b o] ∧ ∀ S'', S'.le S'' → S'' b = some o → QQ v S'') : FnR P f args S QQ := fun w hg hok hs ho => by
  refine (h w hg hok hs ho).mono ?_
  rintro e w' ⟨v, S', M', rfl, hw, hp⟩
  rcases hq v S' M' hp with ⟨rfl, h1⟩ | ⟨b, o, rfl, h1⟩
  · exact ⟨v, S', [], rfl, hw, rfl, h1⟩
  · have h2 := hw.out (.blk b o) (by simp) b rfl
    have hb : w.heap.size ≤ b := h2.2.resolve_right (by simp)
    exact ⟨v, S'.put b o, [], rfl, hw.freeze hb, rfl, h1 _ (SHeap.le_put o h2.1) (SHeap.put_self _ _ _)⟩
section
variable {C : Cx} {R : Rg} {Q : Post} {S S' : SHeap} {M M' : List MEnt} {e : Env} {rest : List Nat} {L : List Nat}
variable {d : Nat} {ty : TypeId} {pos : String} {aft : Array Edge} {g : Option (Nat × Bool)}
theorem JEff.lendV {f : FuncId} [Ent C.P f] {args : Array Operand} {ts : Array TypeId} {vs : List Value} {b : Nat} {o : Obj} {Mr : List MEnt} {r : Value} (hargs : evs e args.toList = some vs) (hM : (MEnt.blk b o :: Mr).Perm M) (hT : ∀ l, R.T = some l → b ∈ l) (hb : ∀ m ∈ M, ∀ k, m.own = some k → S k = none)
    (hf : ∀ S1 : SHeap, S.le S1 → S1 b = some o → FnV C.P f vs.toArray S1 r) (hdN : Nat.blt d C.N = true)
    (k : ∀ S', S.le S' → JO C R rest Q S' (.blk b o :: Mr) ((d, r) :: e)) : JEff C R ⟨some d, .call { callee := .value (.func f), args, argTypes := ts }, ty, pos, aft, g⟩ rest Q S M e := by
  have hSb : S b = none := hb (.blk b o) (hM.mem_iff.1 (by simp)) b rfl
  refine JEff.fn (Mc := [.blk b o]) (sem_call hargs _ _ _ _ _) rfl rfl hdN hM (by intro t ht m hm k hk; rw [List.mem_singleton] at hm; subst hm; simp only [MEnt.own, Option.some.injEq] at hk; subst hk; exact hT t ht)
    (Fn.lend (hf (S.put b o) (SHeap.le_put o hSb) (SHeap.put_self _ _ _))) fun v S' M' hl hp => ?_
  obtain ⟨S'', M'', hp, hle, rfl, rfl⟩ := hp
  obtain ⟨-, rfl⟩ := hp
  exact k _ hl
theorem JO.out (k : (∀ m ∈ M, ∀ b, m.own = some b → S b = none) → JO C R L Q S M e) : JO C R L Q S M e := ⟨fun a w hw => (k fun m hm b hb => (hw.wd.out m hm b hb).1).run a w hw⟩
theorem JO.blkNew {b : Nat} {o : Obj} (h0 : C.B0 = []) (k : C.S0 b = none → C.w0.heap.size ≤ b → JO C R L Q S (.blk b o :: M) e) : JO C R L Q S (.blk b o :: M) e := ⟨fun a w hw => by
  have h1 := hw.wd.out (.blk b o) (by simp) b rfl
  have h2 := h1.2
  rw [h0] at h2
  refine (k ?_ (h2.resolve_right (by simp))).run a w hw
  cases h : C.S0 b with
  | none => rfl
  | some o' => have := hw.wd.le b o' h; rw [h1.1] at this; cases this⟩
theorem JC.blkNew {x : Code} {b : Nat} {o : Obj} (h0 : C.B0 = []) (k : C.S0 b = none → C.w0.heap.size ≤ b → JC C x Q S (.blk b o :: M) e) : JC C x Q S (.blk b o :: M) e := ⟨fun a w hw => by
  have h1 := hw.wd.out (.blk b o) (by simp) b rfl
  have h2 := h1.2
  rw [h0] at h2
  refine (k ?_ (h2.resolve_right (by simp))).run a w hw
  cases h : C.S0 b with
  | none => rfl
  | some o' => have := hw.wd.le b o' h; rw [h1.1] at this; cases this⟩
theorem JX.thaw {x : Exit} {b : Nat} {o : Obj} (h0 : C.S0 b = none) (hb : C.w0.heap.size ≤ b) (hS : S b = some o) (k : JX C x Q (S.del b) (.blk b o :: M) e) : JX C x Q S M e := ⟨fun a w hw => k.run a w ⟨hw.env, hw.defers, hw.wd.thaw h0 hb hS⟩⟩
class IfaceT (P : Program) (T : TypeId) : Prop where
  h : P.underlying T = some (.interface (P.methodsAt T))
theorem JPure.eqNilT {an : Bool} {T t' : TypeId} {x : Operand} (hx : ev e x = some .nilIface) [hi : IfaceT C.P T] (hdN : Nat.blt d C.N = true) (k : JO C R rest Q S M ((d, .bool true) :: e)) : JPure C R an ⟨some d, .binOp .eql T x (.const .nilIface) t', ty, pos, aft, g⟩ rest Q S M e :=
  JPure.of rfl hdN (fun a w' h => by
    simp only [execOp, h.eval hx, h.eval (show ev e (.const .nilIface) = some .nilIface from rfl), Sem.run_bind, eqGuard_nil_constR, Sem.run_pure, Result.andThen_ok, run_eql_nil_nil w' T hi.h]) k
theorem JPure.eqNilF {an : Bool} {T t' u : TypeId} {x : Operand} {v : Value} (hx : ev e x = some (.iface u v)) [hi : IfaceT C.P T] (hdN : Nat.blt d C.N = true) (k : JO C R rest Q S M ((d, .bool false) :: e)) : JPure C R an ⟨some d, .binOp .eql T x (.const .nilIface) t', ty, pos, aft, g⟩ rest Q S M e :=
  JPure.of rfl hdN (fun a w' h => by
    have hg : eqGuard .eql T x (.const .nilIface) (.iface u v) .nilIface = pure () := by rfl
    simp only [execOp, h.eval hx, h.eval (show ev e (.const .nilIface) = some .nilIface from rfl), Sem.run_bind, hg, Sem.run_pure, Result.andThen_ok, run_eql_held_nil w' T u v hi.h]) k
end
end Go.Dr
namespace Go.Dr
section
variable {C : Cx} {R : Rg} {Q : Post} {S : SHeap} {M : List MEnt} {e : Env} {rest : List Nat}
variable {d : Nat} {ty : TypeId} {pos : String} {aft : Array Edge} {g : Option (Nat × Bool)} {an : Bool}
theorem JPure.rem {t t' : TypeId} {x y : Operand} {a b : Int} (hx : ev e x = some (.int .i64 a)) (hy : ev e y = some (.int .i64 b)) (hb : b ≠ 0) (hdN : Nat.blt d C.N = true) (k : JO C R rest Q S M ((d, .int .i64 (a.tmod b)) :: e)) :
    JPure C R an ⟨some d, .binOp .rem t x y t', ty, pos, aft, g⟩ rest Q S M e :=
  JPure.of rfl hdN (fun a' w' h => by
    simp [execOp, h.eval hx, h.eval hy, eqGuard_rem, binOp_rem, Op.intDiv, hb, Sem.run_bind, Sem.run_pure, Result.andThen]) k
end
def bring (i n : Int) : Int := if i.tmod n < 0 then i.tmod n + n else i.tmod n
theorem tmod_rng (i : Int) {n : Int} (hn : 0 < n) : -n < i.tmod n ∧ i.tmod n < n := by
  have h1 := Int.tmod_lt_of_pos i hn
  have h2 := Int.tmod_lt_of_pos (-i) hn
  rw [Int.neg_tmod] at h2
  omega
theorem bring_rng (i : Int) {n : Int} (hn : 0 < n) : 0 ≤ bring i n ∧ bring i n < n := by
  have := tmod_rng i hn
  unfold bring
  split <;> omega
end Go.Dr
namespace Go.Dr
open Go.Proofs
set_option maxRecDepth 20000
set_option maxHeartbeats 2000000
set_option linter.unusedSimpArgs false
set_option linter.unusedVariables false
theorem r0_Bring {S : SHeap} (i n : Int) (h0 : 0 < n) (h1 : n ≤ 1000000) (hr : Rng i) : FnV Tryz.prog 69 #[.int .i64 i, .int .i64 n] S (.int .i64 (bring i n)) := by
  have hb := tmod_rng i h0
  (refine Fn.enter (args := [.int .i64 i, .int .i64 n]) Tryz.func69 rfl Tryz.ntmps69 rfl ?_; intro w0)
  repeat (first | (refine Walk ?_; intros) | refine JC.block ?_)
  refine JO.pure rfl rfl rfl (JPure.rem rfl rfl (by omega) rfl ?_)
  unfold bring
  generalize i.tmod n = m at *
  repeat (first | (refine Walk ?_; intros) | refine JC.block ?_)
  refine JC.cond rfl (fun hm => ?_) (fun hm => ?_)
  · have hm := of_decide_eq_true hm
    rw [if_pos hm]
    repeat (first | (refine Walk ?_; intros) | refine JC.block ?_)
    (refine JX.ret1 Tryz.results69 (ResV.tmp rfl) (List.nil_sublist _) ?_)
    exact ⟨rfl, rfl⟩
  · have hm := of_decide_eq_false hm
    rw [if_neg hm]
    repeat (first | (refine Walk ?_; intros) | refine JC.block ?_)
    (refine JX.ret1 Tryz.results69 (ResV.tmp rfl) (List.nil_sublist _) ?_)
    exact ⟨rfl, rfl⟩
def fitN (s : Snap) (l : List Int) (i : Nat) : Int := match l[i]? with | some x => bring x ((s.nodes.length : Int) + 1) - 1 | none => -1
def fitAt (s : Snap) (l : List Int) (i : Nat) : Int := if 0 ≤ fitN s l i ∧ lostAt s (fitN s l i) = true then -1 else fitN s l i
def fitK (s : Snap) (l : List Int) (k : Nat) : List Int := (List.range k).map (fitAt s l)
theorem fitK_step (s : Snap) (l : List Int) (k : Nat) : fitK s l (k + 1) = fitK s l k ++ [fitAt s l k] := by unfold fitK; rw [List.range_succ]; simp
theorem fitK_len (s : Snap) (l : List Int) (k : Nat) : (fitK s l k).length = k := by simp [fitK]
def fitV (s : Snap) (l : List Int) : List Int := fitK s l s.pods.length
theorem fitN_rng (s : Snap) (l : List Int) (i : Nat) : -1 ≤ fitN s l i ∧ fitN s l i < s.nodes.length := by
  unfold fitN
  split
  · rename_i x _
    have := bring_rng x (show (0 : Int) < (s.nodes.length : Int) + 1 by omega)
    omega
  · omega
theorem s28_L08e {P K : Prop} (k : K) (h : Goal K → P := by
  intro zk
  (first | refine Walk ?_ | refine JC.block ?_ | refine JC.drawN 7 rfl [0, 1, 2, 3, 4, 5, 6, 7, 8, 9, 10] [0, 1, 2, 3, 4, 5, 6, 7, 9, 10] Tryz_mixed (by decide +kernel) ?_ | (refine JO.eff rfl rfl rfl (JEff.callV rfl (r0_Bring _ _ (by omega) (by omega) (by assumption)) rfl ?_); intro zqa zqb) | (refine WBox ?_))
  (repeat (first | revert zqg | revert zqf | revert zqe | revert zqd | revert zqc | revert zqb | revert zqa))
  exact zk.k) : P := h ⟨k⟩
theorem q8_fitted {S : SHeap} {u v : Value} {s : Snap} {l : List Int} (hu : rSnap.V S u s) (hv : (rSlice 8 rI64).V S v l) (hn : s.nodes.length ≤ 1000) (hpd : s.pods.length ≤ 1000) : FnL Tryz.prog 28 #[u, v] S 8 rI64 (fitV s l) := by
  obtain ⟨a0, c0, rfl, _, _, hlb, _⟩ := V_slice.1 hv
  unfold big at hlb
  have hlr : ∀ z ∈ l, Rng z := fun z hz => by
    obtain ⟨q, cs, h, _⟩ := slice_at hv z hz
    exact h.2
  (refine Fn.enter (args := [u, .slice a0 l.length c0]) Tryz.func28 rfl Tryz.ntmps28 rfl ?_; intro w0)
  repeat (refine s28_L08e ?_; intros)
  (first | refine JC.newRow 3 1 ?_ | refine JO.newRow 3 1 ?_ | refine JX.newRow 3 1 ?_)
  refine JC.loopF (σ := Nat × Option Addr × Nat × List Value) [(1, _), (2, _)] (fun q => [(5, .slice q.2.1 ((fun k => fitK s l k) q.1).length q.2.2.1), (6, ((fun k => .int .i64 k) q.1))]) (fun q => [.row w0.heap.size 3 (Rp.sz rI64) (.slice q.2.1 ((fun k => fitK s l k) q.1).length q.2.2.1) ((fun k => fitK s l k) q.1).length (flatCells q.2.2.2)]) (fun Sk q => q.1 ≤ s.pods.length ∧ allV rI64 Sk q.2.2.2 ((fun k => fitK s l k) q.1) ∧ ((fun k => True) q.1)) (fun q => s.pods.length - q.1) (0, none, 0, []) (by exact sba) (by exact sba) (by first | rfl | simp) (⟨Nat.zero_le _, trivial, trivial⟩) ?_; rintro Sk ⟨k, rak, rck, vsk⟩ hlk ⟨hk, hvk, hik⟩; (try dsimp only at hk hvk hik); dsimp only [List.cons_append, List.nil_append]
  have hfl := fitK_len s l k
  have hnr := fitN_rng s l k
  have hst := fitK_step s l k
  repeat (refine s28_L08e ?_; intros)
  refine JC.cond rfl (fun hc => ?_) (fun hc => ?_)
  · have hk' := dlt hc
    repeat (refine s28_L08e ?_; intros)
    refine JC.cond rfl (fun hc2 => ?_) (fun hc2 => ?_)
    · have hk2 := dlt hc2
      obtain ⟨x, hx, _⟩ := drop_at hk2
      have hxr := hlr x (List.mem_of_getElem? hx)
      have hfn : fitN s l k = bring x ((s.nodes.length : Int) + 1) - 1 := by simp [fitN, hx]
      repeat (refine s28_L08e ?_; intros)
      rw [← hfn]
      repeat (refine s28_L08e ?_; intros)
      refine JO.guard rfl rfl rfl rfl (fun g1 => ?_) (fun g1 => ?_)
      · have g1' := of_decide_eq_true g1
        obtain ⟨nd, hnd, _⟩ := drop_at (l := s.nodes) (show (fitN s l k).toNat < s.nodes.length by omega)
        have hlo : lostAt s (fitN s l k) = nd.lost := by simp [lostAt, hnd]
        repeat (refine s28_L08e ?_; intros)
        refine JC.cond rfl (fun g2 => ?_) (fun g2 => ?_)
        · have hfa : fitAt s l k = -1 := by rw [fitAt, if_pos ⟨by omega, by rw [hlo]; exact g2⟩]
          rw [hfa] at hst
          repeat (refine s28_L08e ?_; intros)
          (refine JO.eff rfl rfl rfl (JEff.build (rep := rI64) (ys := [(-1 : Int)]) rfl rfl ⟨⟨(V_i64.2 ⟨rfl, by unfold Rng; omega⟩), nna⟩, trivial⟩ rfl rfl rfl rfl ?_); intro bb hbb hvv); (repeat (first | (refine Walk ?_; intros) | refine JC.block ?_)); (refine JO.eff rfl rfl rfl (JEff.appendL (rep := rI64) rfl rfl rfl rfl (List.Perm.swap _ _ _) (by exact hvv.flat) (by intro c hc; exact flat_one (fun v hv => (hvv.size v hv).2) c hc) (by first | omega | (unfold big; omega)) (by unfold big; omega) (by first | exact rowT_ok | (intro l hl; cases hl)) rfl ?_); intro a2 c2; clear hvv hbb)
          repeat (refine s28_L08e ?_; intros)
          exact JX.roundF (k + 1, a2, c2, vsk ++ [(.int .i64 ((-1 : Int)))]) (by exact lea) ⟨by omega, by (try dsimp only); rw [hst]; exact allV_add (by exact lea) hvk (V_i64.2 ⟨rfl, by unfold Rng; omega⟩) nna, (trivial)⟩ (by (try dsimp only); omega) (by (try dsimp only); rw [hst]; (simp [flat_append] <;> omega)) (by (try dsimp only); rw [hst]; simp only [List.length_append, List.length_cons, List.length_nil]; exact sba) (by exact sba)
        · have hfa : fitAt s l k = fitN s l k := by rw [fitAt, if_neg (fun h => by rw [hlo, g2] at h; exact absurd h.2 (by simp))]
          rw [hfa] at hst
          repeat (refine s28_L08e ?_; intros)
          (refine JO.eff rfl rfl rfl (JEff.build (rep := rI64) (ys := [fitN s l k]) rfl rfl ⟨⟨(V_i64.2 ⟨rfl, by unfold Rng; omega⟩), nna⟩, trivial⟩ rfl rfl rfl rfl ?_); intro bb hbb hvv); (repeat (first | (refine Walk ?_; intros) | refine JC.block ?_)); (refine JO.eff rfl rfl rfl (JEff.appendL (rep := rI64) rfl rfl rfl rfl (List.Perm.swap _ _ _) (by exact hvv.flat) (by intro c hc; exact flat_one (fun v hv => (hvv.size v hv).2) c hc) (by first | omega | (unfold big; omega)) (by unfold big; omega) (by first | exact rowT_ok | (intro l hl; cases hl)) rfl ?_); intro a2 c2; clear hvv hbb)
          repeat (refine s28_L08e ?_; intros)
          exact JX.roundF (k + 1, a2, c2, vsk ++ [(.int .i64 (fitN s l k))]) (by exact lea) ⟨by omega, by (try dsimp only); rw [hst]; exact allV_add (by exact lea) hvk (V_i64.2 ⟨rfl, by unfold Rng; omega⟩) nna, (trivial)⟩ (by (try dsimp only); omega) (by (try dsimp only); rw [hst]; (simp [flat_append] <;> omega)) (by (try dsimp only); rw [hst]; simp only [List.length_append, List.length_cons, List.length_nil]; exact sba) (by exact sba)
      · have g1' := of_decide_eq_false g1
        have hfa : fitAt s l k = fitN s l k := by rw [fitAt, if_neg (fun h => absurd h.1 (by omega))]
        rw [hfa] at hst
        repeat (refine s28_L08e ?_; intros)
        (refine JO.eff rfl rfl rfl (JEff.build (rep := rI64) (ys := [fitN s l k]) rfl rfl ⟨⟨(V_i64.2 ⟨rfl, by unfold Rng; omega⟩), nna⟩, trivial⟩ rfl rfl rfl rfl ?_); intro bb hbb hvv); (repeat (first | (refine Walk ?_; intros) | refine JC.block ?_)); (refine JO.eff rfl rfl rfl (JEff.appendL (rep := rI64) rfl rfl rfl rfl (List.Perm.swap _ _ _) (by exact hvv.flat) (by intro c hc; exact flat_one (fun v hv => (hvv.size v hv).2) c hc) (by first | omega | (unfold big; omega)) (by unfold big; omega) (by first | exact rowT_ok | (intro l hl; cases hl)) rfl ?_); intro a2 c2; clear hvv hbb)
        repeat (refine s28_L08e ?_; intros)
        exact JX.roundF (k + 1, a2, c2, vsk ++ [(.int .i64 (fitN s l k))]) (by exact lea) ⟨by omega, by (try dsimp only); rw [hst]; exact allV_add (by exact lea) hvk (V_i64.2 ⟨rfl, by unfold Rng; omega⟩) nna, (trivial)⟩ (by (try dsimp only); omega) (by (try dsimp only); rw [hst]; (simp [flat_append] <;> omega)) (by (try dsimp only); rw [hst]; simp only [List.length_append, List.length_cons, List.length_nil]; exact sba) (by exact sba)
    · have hk2 := dnlt hc2
      have hfn : fitN s l k = -1 := by unfold fitN; rw [List.getElem?_eq_none (by omega)]
      have hfa : fitAt s l k = -1 := by rw [fitAt, hfn, if_neg (fun h => absurd h.1 (by omega))]
      rw [hfa] at hst
      repeat (refine s28_L08e ?_; intros)
      (refine JO.eff rfl rfl rfl (JEff.build (rep := rI64) (ys := [(-1 : Int)]) rfl rfl ⟨⟨(V_i64.2 ⟨rfl, by unfold Rng; omega⟩), nna⟩, trivial⟩ rfl rfl rfl rfl ?_); intro bb hbb hvv); (repeat (first | (refine Walk ?_; intros) | refine JC.block ?_)); (refine JO.eff rfl rfl rfl (JEff.appendL (rep := rI64) rfl rfl rfl rfl (List.Perm.swap _ _ _) (by exact hvv.flat) (by intro c hc; exact flat_one (fun v hv => (hvv.size v hv).2) c hc) (by first | omega | (unfold big; omega)) (by unfold big; omega) (by first | exact rowT_ok | (intro l hl; cases hl)) rfl ?_); intro a2 c2; clear hvv hbb)
      repeat (refine s28_L08e ?_; intros)
      exact JX.roundF (k + 1, a2, c2, vsk ++ [(.int .i64 ((-1 : Int)))]) (by exact lea) ⟨by omega, by (try dsimp only); rw [hst]; exact allV_add (by exact lea) hvk (V_i64.2 ⟨rfl, by unfold Rng; omega⟩) nna, (trivial)⟩ (by (try dsimp only); omega) (by (try dsimp only); rw [hst]; (simp [flat_append] <;> omega)) (by (try dsimp only); rw [hst]; simp only [List.length_append, List.length_cons, List.length_nil]; exact sba) (by exact sba)
  · have hk' := dnlt hc
    obtain rfl : k = s.pods.length := by omega
    repeat (refine s28_L08e ?_; intros)
    refine JX.freezeRow (rep := rI64) (bt := 8) hvk rfl (by unfold big; omega) (by unfold big; omega) (fun S9 hl9 hV9 => ?_)
    (refine JX.ret1 Tryz.results28 (ResV.tmp rfl) (List.nil_sublist _) ?_)
    exact ⟨rfl, hV9⟩
end Go.Dr
namespace Go.Dr
theorem fit_len (s : Snap) (l : List Int) : (fitV s l).length = s.pods.length := fitK_len s l _
theorem fit_odd {s : Snap} {l : List Int} {x : Int} (h : x ∈ fitV s l) : oddP s x = false := by
  obtain ⟨i, _, rfl⟩ := List.mem_map.1 h
  have hr := fitN_rng s l i
  unfold fitAt
  split
  · exact odd_none s
  · rename_i h1
    unfold oddP
    rw [decide_eq_false (by omega), decide_eq_false (by omega)]
    simp only [Bool.false_or, Bool.and_eq_false_iff, decide_eq_false_iff_not]
    by_cases h2 : 0 ≤ fitN s l i
    · right
      cases h3 : lostAt s (fitN s l i) with
      | false => rfl
      | true => exact absurd ⟨h2, h3⟩ h1
    · exact .inl h2
theorem fit_check (s : Snap) (l : List Int) : checkP s (fitV s l) = checkS s := by
  unfold checkP
  by_cases h : checkS s = 0
  · have e1 : z0 (checkS s) = true := by simp [z0, h]
    have e2 : (fitV s l).any (oddP s) = false := by
      rw [List.any_eq_false]
      intro x hx
      rw [fit_odd hx]; simp
    rw [e1, e2, fit_len, h]
    simp
  · have e1 : z0 (checkS s) = false := by simp [z0, h]
    rw [e1]; rfl
theorem sum_zero {l : List Clause} (h : ∀ c ∈ l, 0 ≤ c.by_ ∧ c.by_ ≤ Qty) : sumC l = 0 ↔ ∀ c ∈ l, c.by_ = 0 := by
  induction l with
  | nil => simp [sumC]
  | cons x l ih =>
    have hx := h x (by simp)
    have hl := ih (fun c hc => h c (by simp [hc]))
    have hs : 0 ≤ sumC l := by
      have := sum_take_rng (fun c hc => h c (by simp [hc])) l.length (l := l)
      rw [List.take_length] at this; exact this.1
    have hw : 0 ≤ weight x ∧ (weight x = 0 ↔ x.by_ = 0) := by
      unfold weight
      split <;> omega
    have e : sumC (x :: l) = weight x + sumC l := by simp [sumC]
    rw [e]
    constructor
    · intro h0 c hc
      rcases List.mem_cons.1 hc with rfl | hc
      · exact hw.2.1 (by omega)
      · exact hl.1 (by omega) c hc
    · intro h0
      have h1 := hl.2 (fun c hc => h0 c (by simp [hc]))
      have h2 := hw.2.2 (h0 x (by simp))
      omega
theorem broken_zero (s : Snap) (p : List Int) : decide (((brokenC s p).length : Int) = 0) = decide (sumV s p = 0) := by
  have h := sum_zero (allL_rng s p).2
  have hb : brokenC s p = [] ↔ ∀ c ∈ allL s p, c.by_ = 0 := by
    unfold brokenC
    rw [List.filter_eq_nil_iff]
    constructor
    · intro h1 c hc
      have h2 := h1 c hc
      have h3 := (allL_rng s p).2 c hc
      simp [badC] at h2
      omega
    · intro h1 c hc
      have h2 := h1 c hc
      simp [badC]; omega
  rw [Bool.eq_iff_iff, decide_eq_true_iff, decide_eq_true_iff]
  show _ ↔ sumC (allL s p) = 0
  rw [h, ← hb]
  constructor
  · intro h1; exact List.length_eq_zero_iff.1 (by omega)
  · intro h1; rw [h1]; rfl
theorem find_zero {l : List Clause} (h : ∀ c ∈ l, c.by_ = 0) (x : Clause) : findC l x = 0 := by
  unfold findC
  split
  · rename_i d hd
    exact h d (List.mem_of_find?_eq_some hd)
  · rfl
theorem safe_stays {s : Snap} {p q : List Int} (h1 : sumV s p = 0) (h2 : (allL s q).filter (worseF (allL s p)) = []) : sumV s q = 0 := by
  have a := (sum_zero (allL_rng s p).2).1 h1
  refine (sum_zero (allL_rng s q).2).2 fun c hc => ?_
  have h3 := List.filter_eq_nil_iff.1 h2 c hc
  unfold worseF at h3
  rw [find_zero a] at h3
  have h4 := (allL_rng s q).2 c hc
  simp at h3
  omega
end Go.Dr
namespace Go.Dr
theorem fit_none {s : Snap} {x : Int} (h : x ∈ fitV s []) : x = -1 := by
  obtain ⟨i, _, rfl⟩ := List.mem_map.1 h
  simp [fitAt, fitN]
section
variable {s : Snap} {p : List Int} (hp : ∀ x ∈ p, x = -1)
include hp
theorem none_onN (n : Nat) : onN s p n = [] := by
  unfold onN
  rw [List.map_eq_nil_iff, List.filter_eq_nil_iff]
  intro x hx
  have := hp x.1 (List.of_mem_zip hx).1
  simp only [decide_eq_true_eq]
  omega
theorem none_used (n k : Nat) (hk : k < 5) : at0 (usedV s p n) k = 0 := by
  unfold usedV at0
  rw [none_onN hp, List.getD_eq_getElem?_getD, List.getElem?_map, List.getElem?_range hk]
  rfl
theorem none_of8 (kind : Int) (i : Nat) : (of8 s p kind i).2 = false := by
  unfold of8
  split
  · rename_i m x h1 h2
    have := hp m (List.mem_of_getElem? h1)
    rw [if_pos (by omega)]
  · rfl
theorem none_owned (o : Nat) : ownedL s p o = [] := by
  unfold ownedL
  rw [List.map_eq_nil_iff, List.filter_eq_nil_iff]
  intro x hx
  have := hp x.1 (List.of_mem_zip hx).1
  simp only [Bool.and_eq_true, decide_eq_true_eq, not_and]
  omega
theorem none_dom (o : Nat) (v : ByteArray) : domCount s p o v = 0 := by
  unfold domCount
  have h : ∀ n, at0 (countsL s p o) n = 0 := by
    intro n
    unfold countsL at0
    rw [none_owned hp, List.getD_eq_getElem?_getD, List.getElem?_map]
    cases (List.range s.nodes.length)[n]? <;> rfl
  simp only [h, ite_self]
  generalize List.range s.nodes.length = l
  induction l with
  | nil => rfl
  | cons x l ih => simpa using ih
theorem none_skew (o : Nat) (hs : 0 ≤ skewOf s o) : skewV s p o = 0 := by
  unfold skewV
  have h : ∀ x ∈ spreadL s p o, x = 0 := by
    intro x hx
    obtain ⟨v, _, rfl⟩ := List.mem_map.1 hx
    exact none_dom hp o v
  generalize spreadL s p o = L at h
  cases L with
  | nil => rfl
  | cons x l =>
    have hx := h x (by simp)
    have a := fold_rng (f := max) (lo := 0) (hi := 0) (by intro a b; omega) (z := x) (l := l) (by omega) (by omega) (fun y hy => by have := h y (by simp [hy]); omega)
    have b := fold_rng (f := min) (lo := 0) (hi := 0) (by intro a b; omega) (z := x) (l := l) (by omega) (by omega) (fun y hy => by have := h y (by simp [hy]); omega)
    simp only [maxL, minL]
    split <;> omega
theorem none_by (hok : checkP s p = 0) {c : Clause} (hc : c ∈ allL s p) : (c.kind = 8 ∧ 0 ≤ c.a ∧ c.a < s.owners.length ∧ c.by_ = minOf s c.a.toNat) ∨ (c.kind ≠ 8 ∧ c.by_ = 0) := by
  obtain ⟨hs, _, _⟩ := checkP_ok hok
  have hsh := (checkS_ok hs).1
  unfold allL at hc
  rw [if_pos hok] at hc
  unfold allC at hc
  simp only [List.mem_append] at hc
  rcases hc with ((hc | hc) | hc) | hc
  · obtain ⟨n, k, hn, hk, rfl⟩ := mem_caps hc
    refine .inr ⟨by simp [capN], ?_⟩
    have hu := none_used (s := s) hp n k hk
    have hcp : 0 ≤ at0 (capOf s n) k := by
      unfold at0
      rw [List.getD_eq_getElem?_getD]
      cases h : (capOf s n)[k]? with
      | none => simp
      | some y =>
        unfold capOf at h
        obtain ⟨x, hx⟩ : ∃ x, s.nodes[n]? = some x := ⟨_, List.getElem?_eq_getElem hn⟩
        rw [hx] at h
        exact (shaped_cap hsh x (List.mem_of_getElem? hx) y (List.mem_of_getElem? h)).1
    simp only [capN]; omega
  · obtain ⟨t, i, _, _, _, h⟩ := mem_kinds hc
    rw [none_of8 hp] at h; cases h
  · obtain ⟨o, ho, rfl, _⟩ := mem_spread hc
    obtain ⟨ow, how⟩ : ∃ ow, s.owners[o]? = some ow := ⟨_, List.getElem?_eq_getElem ho⟩
    have hsr := shaped_owner hsh ow (List.mem_of_getElem? how)
    exact .inr ⟨by simp, none_skew hp o (by simp [skewOf, how]; omega)⟩
  · obtain ⟨o, ho, rfl⟩ := mem_min hc
    obtain ⟨ow, how⟩ : ∃ ow, s.owners[o]? = some ow := ⟨_, List.getElem?_eq_getElem ho⟩
    have hsr := shaped_owner hsh ow (List.mem_of_getElem? how)
    refine .inl ⟨rfl, ?_, ?_, ?_⟩
    · simp [minC1]
    · simp only [minC1]; omega
    · have e : ((o : Int)).toNat = o := by omega
      simp only [minC1, placedN, none_owned hp, e, minOf, how, List.length_nil]
      omega
end
theorem all_len {s : Snap} {p : List Int} (hok : checkP s p = 0) : 5 * s.nodes.length + s.owners.length ≤ (allL s p).length := by
  unfold allL
  rw [if_pos hok]
  unfold allC
  simp only [List.length_append]
  have h1 : (capsC s p).length = 5 * s.nodes.length + 0 := by unfold capsC; rw [capTo_len]
  have h2 := minTo_len s p s.owners.length
  omega
end Go.Dr
namespace Go.Dr
open Go.Proofs
set_option maxRecDepth 20000
set_option maxHeartbeats 2000000
set_option linter.unusedSimpArgs false
set_option linter.unusedVariables false
theorem s5_L08f {P K : Prop} (k : K) (h : Goal K → P := by
  intro zk
  (first | refine Walk ?_ | refine JC.block ?_ | refine JC.drawN 11 rfl [0, 1, 2, 3, 4, 5, 6, 7, 8, 9, 10, 11, 12, 13, 14, 15, 16] [0, 1, 2, 3, 4, 5, 6, 7, 8, 9, 10, 11, 12, 13, 14, 15, 16] Tryz_mixed (by decide +kernel) ?_ | refine JC.drawN 13 rfl [0, 1, 2, 3, 4, 5, 6, 7, 8, 9, 10] [0, 1, 2, 3, 4, 5, 6, 7, 8, 9, 10] Tryz_mixed (by decide +kernel) ?_ | (refine JO.eff rfl rfl rfl (JEff.callR rfl (q8_cut (by exact vta)) rfl ?_); intro zqa zqb zqc zqd) | (refine JO.eff rfl rfl rfl (JEff.callLE rfl (p8_All (by exact vta) (by exact vta)) rfl ?_); intro zqa zqb zqc zqd zqe zqf) | (refine JO.eff rfl rfl rfl (JEff.callV rfl (q8_works) rfl ?_); intro zqa zqb) | (refine JO.eff rfl rfl rfl (JEff.callL rfl (q8_fitted (by exact vta) (by exact vta) (by first | assumption | omega) (by first | assumption | omega)) rfl ?_); intro zqa zqb zqc zqd zqe zqf) | (refine JO.eff rfl rfl rfl (JEff.callV rfl (p7_Check (by exact vta) (by exact vta)) rfl ?_); intro zqa zqb))
  (repeat (first | revert zqg | revert zqf | revert zqe | revert zqd | revert zqc | revert zqb | revert zqa))
  exact zk.k) : P := h ⟨k⟩
theorem a8_ClauseNone {S : SHeap} {u : Value} {s : Snap} (hu : rSnap.V S u s) : FnV Tryz.prog 5 #[u] S (.bool true) := by
  obtain ⟨cs, rfl, hcs⟩ := V_agg rfl hu
  (refine Fn.enter (args := [.agg cs.toArray]) Tryz.func5 rfl Tryz.ntmps5 rfl ?_; intro w0)
  repeat (refine s5_L08f ?_; intros)
  refine JO.eff rfl rfl rfl (JEff.box rfl rfl ?_); intro bb hbb
  repeat (refine s5_L08f ?_; intros)
  refine JO.pure rfl rfl rfl (JPure.loadM (rep := rSnap) (x0 := s) (mid := cs) rfl (by (first | exact List.mem_cons_self | exact List.mem_cons_of_mem _ List.mem_cons_self | exact List.mem_cons_of_mem _ (List.mem_cons_of_mem _ List.mem_cons_self))) (by show cs.take 3 = cs; exact List.take_of_length_le (by rw [rSnap.len hcs]; exact Nat.le_refl _)) (rSnap.mono (by exact lea) hcs) (.inl rfl) rfl ?_)
  refine JO.eff rfl rfl rfl (JEff.callR rfl (q8_cut (Rp.val_V (rSnap.mono (by exact lea) hcs))) rfl ?_); intro cw S1 hl1 hcw
  repeat (refine s5_L08f ?_; intros)
  refine JO.eff rfl rfl rfl (JEff.storeW rfl rfl hcw nna (List.Perm.refl _) (by show 3 = cs.length; exact (rSnap.len hcs).symm) (by intro l hl; cases hl) ?_)
  refine JO.freezeV hcw nna hbb (by intro l hl; cases hl) ?_; intro S2 hl2 hpb
  have hn : (cutS s).nodes.length ≤ 1000 := by simp only [cutS, List.length_take]; omega
  have hpd : (cutS s).pods.length ≤ 1000 := by simp only [cutS, List.length_take]; omega
  have hno : (cutS s).owners.length ≤ 1000 := by simp only [cutS, List.length_take]; omega
  generalize cutS s = s' at *
  have hP := fit_check s' []
  have hnone : ∀ x ∈ fitV s' [], x = -1 := fun x hx => fit_none hx
  obtain ⟨hLl, hLr⟩ := allL_rng s' (fitV s' [])
  by_cases hc : checkS s' = 0
  · rw [hc] at hP
    have hby := fun c hc => none_by (c := c) hnone hP hc
    have hal := all_len hP
    repeat (first | (refine Walk ?_; intros) | refine JC.block ?_ | refine JC.drawN 11 rfl [0, 1, 2, 3, 4, 5, 6, 7, 8, 9, 10, 11, 12, 13, 14, 15, 16] [0, 1, 2, 3, 4, 5, 6, 7, 8, 9, 10, 11, 12, 13, 14, 15, 16] Tryz_mixed (by decide +kernel) ?_ | refine JC.drawN 13 rfl [0, 1, 2, 3, 4, 5, 6, 7, 8, 9, 10] [0, 1, 2, 3, 4, 5, 6, 7, 8, 9, 10] Tryz_mixed (by decide +kernel) ?_ | (refine JO.eff rfl rfl rfl (JEff.callL rfl (q8_fitted (by exact vta) V_nil hn hpd) rfl ?_); intro _ _ _ _ _ _) | (refine JO.eff rfl rfl rfl (JEff.callR rfl (q8_cut (by exact vta)) rfl ?_); intro _ _ _ _) | (refine JO.eff rfl rfl rfl (JEff.callLE rfl (p8_All (by exact vta) (by exact vta)) rfl ?_); intro _ _ _ _ _ _) | (refine JO.eff rfl rfl rfl (JEff.callV rfl (q8_works) rfl ?_); intro _ _) | (refine JO.eff rfl rfl rfl (JEff.callL rfl (q8_fitted (by exact vta) (by exact vta) (by first | assumption | omega) (by first | assumption | omega)) rfl ?_); intro _ _ _ _ _ _) | (refine JO.eff rfl rfl rfl (JEff.callV rfl (p7_Check (by exact vta) (by exact vta)) rfl ?_); intro _ _))
    refine JC.cond rfl (fun h1 => ?_) (fun h1 => ?_)
    · (exfalso; first | (simp only [decide_eq_true_eq, decide_eq_false_iff_not, Bool.not_eq_true', Bool.not_eq_false', Bool.and_eq_true, Bool.or_eq_true, Bool.and_eq_false_iff, Bool.or_eq_false_iff] at *; omega) | (simp_all; done) | (simp_all; omega))
    generalize allL s' (fitV s' []) = L at *
    repeat (refine s5_L08f ?_; intros)
    refine JC.loopF0 (σ := Nat) [(1, _), (4, _)] (fun q => [(6, .int .i64 q)]) (fun Si q => q ≤ L.length) (fun q => L.length - q) (0) (by exact sba) (by exact sba) (Nat.zero_le _) ?_; rintro Si k hli hii; (try dsimp only at hii); dsimp only [List.cons_append, List.nil_append]
    repeat (refine s5_L08f ?_; intros)
    refine JC.cond rfl (fun hc => ?_) (fun hc => ?_)
    · have hk' := dlt hc
      obtain ⟨x, hx, _⟩ := drop_at hk'
      have hxb := hby x (List.mem_of_getElem? hx)
      repeat (refine s5_L08f ?_; intros)
      refine JC.cond rfl (fun h8 => ?_) (fun h8 => ?_)
      · have h8 : x.kind = 8 := of_decide_eq_true h8
        obtain ⟨_, ha0, ha1, hbv⟩ | ⟨h, _⟩ := hxb
        · obtain ⟨ow, how⟩ : ∃ ow, s'.owners[x.a.toNat]? = some ow := ⟨_, List.getElem?_eq_getElem (by omega)⟩
          have hmo : minOf s' x.a.toNat = ow.min := by simp [minOf, how]
          repeat (refine s5_L08f ?_; intros)
          refine JO.guard rfl rfl rfl rfl (fun g1 => ?_) (fun g1 => ?_)
          · exact absurd (of_decide_eq_true g1) (by omega)
          · repeat (refine s5_L08f ?_; intros)
            refine JC.cond rfl (fun g2 => ?_) (fun g2 => ?_)
            · exact absurd (of_decide_eq_true g2) (by omega)
            · repeat (refine s5_L08f ?_; intros)
              refine JC.cond rfl (fun g3 => ?_) (fun g3 => ?_)
              · simp [hbv, hmo] at g3
              · repeat (refine s5_L08f ?_; intros)
                exact JX.roundF (k + 1) (by exact lea) (by omega) (by (try dsimp only); omega) rfl (by exact sba) (by exact sba)
        · exact absurd h8 h
      · have h8 : ¬ x.kind = 8 := of_decide_eq_false h8
        obtain ⟨h, _, _, _⟩ | ⟨_, hb0⟩ := hxb
        · exact absurd h h8
        · repeat (refine s5_L08f ?_; intros)
          refine JC.cond rfl (fun g3 => ?_) (fun g3 => ?_)
          · simp [hb0] at g3
          · repeat (refine s5_L08f ?_; intros)
            exact JX.roundF (k + 1) (by exact lea) (by omega) (by (try dsimp only); omega) rfl (by exact sba) (by exact sba)
    · repeat (refine s5_L08f ?_; intros)
      rw [decide_eq_true (show (5 : Int) * s'.nodes.length + s'.owners.length ≤ L.length by omega)]
      repeat (refine s5_L08f ?_; intros)
      (refine JX.ret1 Tryz.results5 (ResV.tmp rfl) (List.nil_sublist _) ?_)
      exact ⟨rfl, rfl⟩
  · repeat (first | (refine Walk ?_; intros) | refine JC.block ?_ | refine JC.drawN 11 rfl [0, 1, 2, 3, 4, 5, 6, 7, 8, 9, 10, 11, 12, 13, 14, 15, 16] [0, 1, 2, 3, 4, 5, 6, 7, 8, 9, 10, 11, 12, 13, 14, 15, 16] Tryz_mixed (by decide +kernel) ?_ | refine JC.drawN 13 rfl [0, 1, 2, 3, 4, 5, 6, 7, 8, 9, 10] [0, 1, 2, 3, 4, 5, 6, 7, 8, 9, 10] Tryz_mixed (by decide +kernel) ?_ | (refine JO.eff rfl rfl rfl (JEff.callL rfl (q8_fitted (by exact vta) V_nil hn hpd) rfl ?_); intro _ _ _ _ _ _) | (refine JO.eff rfl rfl rfl (JEff.callR rfl (q8_cut (by exact vta)) rfl ?_); intro _ _ _ _) | (refine JO.eff rfl rfl rfl (JEff.callLE rfl (p8_All (by exact vta) (by exact vta)) rfl ?_); intro _ _ _ _ _ _) | (refine JO.eff rfl rfl rfl (JEff.callV rfl (q8_works) rfl ?_); intro _ _) | (refine JO.eff rfl rfl rfl (JEff.callL rfl (q8_fitted (by exact vta) (by exact vta) (by first | assumption | omega) (by first | assumption | omega)) rfl ?_); intro _ _ _ _ _ _) | (refine JO.eff rfl rfl rfl (JEff.callV rfl (p7_Check (by exact vta) (by exact vta)) rfl ?_); intro _ _))
    refine JC.cond rfl (fun h1 => ?_) (fun h1 => ?_)
    · repeat (refine s5_L08f ?_; intros)
      rw [decide_eq_true (rfl : checkP s' (fitV s' []) = checkP s' (fitV s' []))]
      repeat (refine s5_L08f ?_; intros)
      (refine JX.ret1 Tryz.results5 (ResV.tmp rfl) (List.nil_sublist _) ?_)
      exact ⟨rfl, rfl⟩
    · rw [hP] at h1
      exact absurd (by simpa using h1) hc
end Go.Dr
namespace Go.Dr
theorem row_prev {L : List Clause} (h : L.Pairwise ltC) {k : Nat} {x : Clause} (hx : L[k]? = some x) (hk : 0 < k) : ∃ y, L[k - 1]? = some y ∧ ltC y x := by
  obtain ⟨hk2, rfl⟩ := List.getElem?_eq_some_iff.1 hx
  exact ⟨L[k - 1], List.getElem?_eq_getElem (by omega), List.pairwise_iff_getElem.1 h (k - 1) k (by omega) hk2 (by omega)⟩
theorem by_self {s : Snap} {p : List Int} {x : Clause} (hx : x ∈ allL s p) : byB s p x = true := by
  unfold byB ofC
  rw [find_self (allL_names s p) hx]
  simp
theorem broken_at {L : List Clause} {k : Nat} {x : Clause} (hx : L[k]? = some x) (hb : badC x = true) : (L.filter badC)[((L.take k).filter badC).length]? = some x := by
  have e : L = L.take k ++ x :: L.drop (k + 1) := by
    obtain ⟨hk, rfl⟩ := List.getElem?_eq_some_iff.1 hx
    rw [← List.drop_eq_getElem_cons hk, List.take_append_drop]
  have e2 : L.filter badC = (L.take k).filter badC ++ x :: (L.drop (k + 1)).filter badC := by
    rw [← List.filter_cons_of_pos hb, ← List.filter_append, ← e]
  rw [e2, List.getElem?_append_right (Nat.le_refl _)]
  simp
def midB (c : Clause) : Bool := decide (2 ≤ c.kind) && decide (c.kind ≤ 6)
def cntM (L : List Clause) (k : Nat) : Int := ((L.take k).filter midB).length
def cntA (L : List Clause) (i : Nat) : Int := (L.filter (fun c => midB c && decide ((i : Int) ≤ c.a))).length
theorem cntM_step {L : List Clause} {k : Nat} {x : Clause} (hx : L[k]? = some x) : cntM L (k + 1) = cntM L k + (if midB x = true then 1 else 0) := by
  unfold cntM
  rw [filter_step (f := midB) hx, List.length_append]
  split <;> simp
theorem cntA_step (L : List Clause) (i : Nat) : cntA L i = ((L.filter (aboutC i)).length : Int) + cntA L (i + 1) := by
  unfold cntA
  induction L with
  | nil => rfl
  | cons x L ih =>
    simp only [List.filter_cons]
    have h : aboutC i x = (midB x && decide (x.a = i)) := by simp [aboutC, midB]
    rw [h]
    cases midB x with
    | false => simpa using ih
    | true =>
      simp only [Bool.true_and, decide_eq_true_eq]
      by_cases h1 : (i : Int) ≤ x.a
      · by_cases h2 : x.a = (i : Int)
        · rw [if_pos h1, if_pos h2, if_neg (by omega)]
          simp only [List.length_cons]; omega
        · rw [if_pos h1, if_neg h2, if_pos (by omega)]
          simp only [List.length_cons]; omega
      · rw [if_neg h1, if_neg (by omega), if_neg (by omega)]
        exact ih
theorem cntA_zero {L : List Clause} (h : ∀ c ∈ L, midB c = true → 0 ≤ c.a) : cntA L 0 = cntM L L.length := by
  unfold cntA cntM
  rw [List.take_length]
  congr 2
  apply List.filter_congr
  intro c hc
  cases hm : midB c with
  | false => rfl
  | true => have := h c hc hm; simp; omega
theorem cntA_end {L : List Clause} {n : Nat} (h : ∀ c ∈ L, midB c = true → c.a < n) : cntA L n = 0 := by
  unfold cntA
  rw [List.filter_eq_nil_iff.2]
  · rfl
  · intro c hc
    cases hm : midB c with
    | false => simp
    | true => have := h c hc hm; simp; omega
theorem mid_a {s : Snap} {p : List Int} {c : Clause} (hc : c ∈ allL s p) (hm : midB c = true) : 0 ≤ c.a ∧ c.a < p.length := by
  unfold allL at hc
  split at hc
  · unfold allC at hc
    simp only [List.mem_append] at hc
    simp only [midB, Bool.and_eq_true, decide_eq_true_eq] at hm
    rcases hc with ((hc | hc) | hc) | hc
    · obtain ⟨n, k, _, _, rfl⟩ := mem_caps hc
      simp [capN] at hm
    · obtain ⟨t, i, _, hi, rfl, _⟩ := mem_kinds hc
      exact ⟨by simp, by simp only; omega⟩
    · obtain ⟨o, _, rfl, _⟩ := mem_spread hc
      simp at hm
    · obtain ⟨o, _, rfl⟩ := mem_min hc
      simp [minC1] at hm
  · cases hc
theorem cntM_rng (L : List Clause) (k : Nat) : 0 ≤ cntM L k ∧ cntM L k ≤ L.length := by
  unfold cntM
  have h1 := List.length_filter_le midB (L.take k)
  rw [List.length_take] at h1
  omega
theorem cntA_rng (L : List Clause) (k : Nat) : 0 ≤ cntA L k ∧ cntA L k ≤ L.length := by
  unfold cntA
  have h1 := List.length_filter_le (fun c => midB c && decide ((k : Int) ≤ c.a)) L
  omega
end Go.Dr
namespace Go.Dr
open Go.Proofs
set_option maxRecDepth 20000
set_option maxHeartbeats 2000000
set_option linter.unusedSimpArgs false
set_option linter.unusedVariables false
theorem s6_L08g {P K : Prop} (k : K) (h : Goal K → P := by
  intro zk
  (first | refine Walk ?_ | refine JC.block ?_ | refine JC.drawN 16 rfl [0, 1, 2, 3, 4, 5, 6, 7, 8, 9, 10, 11] [0, 1, 2, 3, 4, 5, 6, 7, 8, 9, 10, 11] Tryz_mixed (by decide +kernel) ?_ | (refine JO.eff rfl rfl rfl (JEff.callR rfl (q8_cut (by exact vta)) rfl ?_); intro zqa zqb zqc zqd) | (refine JO.eff rfl rfl rfl (JEff.callLE rfl (p8_All (by exact vta) (by exact vta)) rfl ?_); intro zqa zqb zqc zqd zqe zqf) | (refine JO.eff rfl rfl rfl (JEff.callL rfl (p8_Broken (by exact vta) (by exact vta)) rfl ?_); intro zqa zqb zqc zqd zqe zqf) | (refine JO.eff rfl rfl rfl (JEff.callV rfl (q8_works) rfl ?_); intro zqa zqb) | (refine JO.eff rfl rfl rfl (JEff.callL rfl (p8_Pod _ (by first | assumption | (unfold Rng; omega)) (by exact vta) (by exact vta)) rfl ?_); intro zqa zqb zqc zqd zqe zqf) | (refine JO.eff rfl rfl rfl (JEff.callL rfl (q8_fitted (by exact vta) (by exact vta) (by first | assumption | omega) (by first | assumption | omega)) rfl ?_); intro zqa zqb zqc zqd zqe zqf) | (refine WNew ?_) | (refine WPut ?_))
  (repeat (first | revert zqg | revert zqf | revert zqe | revert zqd | revert zqc | revert zqb | revert zqa))
  exact zk.k) : P := h ⟨k⟩
theorem a8_ClauseRow {S : SHeap} {u v : Value} {s : Snap} {l : List Int} (hu : rSnap.V S u s) (hv : (rSlice 8 rI64).V S v l) : FnV Tryz.prog 6 #[u, v] S (.bool true) := by
  obtain ⟨cs, rfl, hcs⟩ := V_agg rfl hu
  (refine Fn.enter (args := [.agg cs.toArray, v]) Tryz.func6 rfl Tryz.ntmps6 rfl ?_; intro w0)
  repeat (refine s6_L08g ?_; intros)
  refine JO.eff rfl rfl rfl (JEff.box rfl rfl ?_); intro bb hbb
  repeat (refine s6_L08g ?_; intros)
  refine JO.pure rfl rfl rfl (JPure.loadM (rep := rSnap) (x0 := s) (mid := cs) rfl (by (first | exact List.mem_cons_self | exact List.mem_cons_of_mem _ List.mem_cons_self | exact List.mem_cons_of_mem _ (List.mem_cons_of_mem _ List.mem_cons_self))) (by show cs.take 3 = cs; exact List.take_of_length_le (by rw [rSnap.len hcs]; exact Nat.le_refl _)) (rSnap.mono (by exact lea) hcs) (.inl rfl) rfl ?_)
  refine JO.eff rfl rfl rfl (JEff.callR rfl (q8_cut (Rp.val_V (rSnap.mono (by exact lea) hcs))) rfl ?_); intro cw S1 hl1 hcw
  repeat (refine s6_L08g ?_; intros)
  refine JO.eff rfl rfl rfl (JEff.storeW rfl rfl hcw nna (List.Perm.refl _) (by show 3 = cs.length; exact (rSnap.len hcs).symm) (by intro l hl; cases hl) ?_)
  refine JO.freezeV hcw nna hbb (by intro l hl; cases hl) ?_; intro S2 hl2 hpb
  have hn : (cutS s).nodes.length ≤ 1000 := by simp only [cutS, List.length_take]; omega
  have hpd : (cutS s).pods.length ≤ 1000 := by simp only [cutS, List.length_take]; omega
  generalize cutS s = s' at *
  have hP := fit_check s' l
  obtain ⟨hLl, hLr⟩ := allL_rng s' (fitV s' l)
  by_cases hc : checkS s' = 0
  · rw [hc] at hP
    have hord := allL_order s' (fitV s' l)
    have hself := fun c => by_self (s := s') (p := fitV s' l) (x := c)
    have hmid := fun c => mid_a (s := s') (p := fitV s' l) (c := c)
    have hbr : brokenC s' (fitV s' l) = (allL s' (fitV s' l)).filter badC := rfl
    have hpo : ∀ i : Nat, (podC s' (fitV s' l) i).length = ((allL s' (fitV s' l)).filter (aboutC i)).length := fun i => rfl
    have hfl := fit_len s' l
    repeat (refine s6_L08g ?_; intros)
    refine JC.cond rfl (fun h1 => ?_) (fun h1 => ?_)
    · (exfalso; first | (simp only [decide_eq_true_eq, decide_eq_false_iff_not, Bool.not_eq_true', Bool.not_eq_false', Bool.and_eq_true, Bool.or_eq_true, Bool.and_eq_false_iff, Bool.or_eq_false_iff] at *; omega) | (simp_all; done) | (simp_all; omega))
    repeat (refine s6_L08g ?_; intros)
    generalize hB : brokenC s' (fitV s' l) = B at *
    generalize allL s' (fitV s' l) = L at *
    refine JC.loopF0 (σ := Nat) [(2, _), (5, _), (6, _), (8, _)] (fun q => [(9, .int .i64 (cntM L q)), (10, .int .i64 ((L.take q).filter badC).length), (11, .int .i64 q)]) (fun Si q => q ≤ L.length) (fun q => L.length - q) (0) (by exact sba) (by exact sba) (Nat.zero_le _) ?_; rintro Si k hli hii; (try dsimp only at hii); dsimp only [List.cons_append, List.nil_append]
    have hfb := filter_len L badC k
    have hcr := cntM_rng L k
    repeat (refine s6_L08g ?_; intros)
    refine JC.cond rfl (fun hc1 => ?_) (fun hc1 => ?_)
    · have hk' := dlt hc1
      obtain ⟨x, hx, _⟩ := drop_at hk'
      have hxm := List.mem_of_getElem? hx
      have hbx := hself x hxm
      have hxr := hLr x hxm
      have hcm := cntM_step hx
      have hcb : (((L.take (k + 1)).filter badC).length : Int) = ((L.take k).filter badC).length + (if badC x = true then 1 else 0) := by
        rw [filter_step (f := badC) hx, List.length_append]
        split <;> simp
      repeat (refine s6_L08g ?_; intros)
      refine JC.partF0 (σ := Unit) [(2, _), (5, _), (6, _), (8, _), (9, _), (10, _), (11, _), (12, _)] (fun q => [(123, .bool false)]) (fun SA q => True) ?_ (by exact sba) ?_; rotate_left; rintro SA _ hlA hiA; (try dsimp only at hiA); dsimp only [List.cons_append, List.nil_append]; rotate_left
      · refine JC.drawTreeF 13 rfl [0, 1, 2, 3, 4, 5, 6, 7, 8, 9, 10, 11, 12, 13, 14, 15, 16, 17, 18, 19, 20, 21, 22, 23, 24, 25, 26, 27, 28, 29, 30, 31, 32, 33, 34, 35, 36, 37, 38, 39, 40, 41, 42, 43, 44, 45, 46, 47, 48, 49, 50, 51, 52, 53, 54, 55, 56, 57, 58, 59, 60, 61, 62, 63, 64, 65, 67, 68] [] [0, 1, 2, 3, 4, 5, 6, 7, 8, 9, 10, 11, 12, 13, 14, 15, 16, 17, 18, 19, 20, 21, 22, 23, 24, 25, 26, 27, 28, 29, 30, 31, 32, 33, 34, 35, 36, 37, 38, 39, 40, 41, 42, 43, 44, 45, 46, 47, 48, 49, 50, 51, 52, 53, 54, 55, 56, 57, 58, 59, 60, 61, 62, 63, 64, 65, 66, 67, 68] .nil Tryz_mixed (by decide +kernel) ?_
        repeat (refine s6_L08g ?_; intros)
        refine JO.guard rfl rfl rfl rfl (fun g0 => ?_) (fun g0 => ?_)
        · exact absurd (of_decide_eq_true g0) (by omega)
        · repeat (refine s6_L08g ?_; intros)
          refine JO.guard rfl rfl rfl rfl (fun g1 => ?_) (fun g1 => ?_)
          · obtain ⟨y, hy, hlt⟩ := row_prev hord hx (by have := of_decide_eq_true g1; omega)
            have hy' : L[((k : Int) - 1).toNat]? = some y := by rw [show ((k : Int) - 1).toNat = k - 1 by have := of_decide_eq_true g1; omega]; exact hy
            have hk1 := of_decide_eq_true g1
            unfold ltC at hlt
            repeat (refine s6_L08g ?_; intros)
            refine JO.guard rfl rfl rfl rfl (fun g2 => ?_) (fun g2 => ?_)
            · exact absurd (of_decide_eq_true g2) (by omega)
            · repeat (refine s6_L08g ?_; intros)
              refine JO.guard rfl rfl rfl rfl (fun g3 => ?_) (fun g3 => ?_)
              · have g3' := of_decide_eq_true g3
                repeat (refine s6_L08g ?_; intros)
                refine JO.guard rfl rfl rfl rfl (fun g4 => ?_) (fun g4 => ?_)
                · exact absurd (of_decide_eq_true g4) (by omega)
                · repeat (refine s6_L08g ?_; intros)
                  refine JO.guard rfl rfl rfl rfl (fun g5 => ?_) (fun g5 => ?_)
                  · have g5' := of_decide_eq_true g5
                    repeat (refine s6_L08g ?_; intros)
                    rw [decide_eq_false (show ¬ x.b ≤ y.b by omega)]
                    repeat (first | (refine Walk ?_; intros) | refine JC.block ?_ | refine JC.drawN 16 rfl [0, 1, 2, 3, 4, 5, 6, 7, 8, 9, 10, 11] [0, 1, 2, 3, 4, 5, 6, 7, 8, 9, 10, 11] Tryz_mixed (by decide +kernel) ?_ | (refine JO.eff rfl rfl rfl (JEff.callV rfl (w8_b hbx (by exact vta) (by exact vta) (by exact vta)) rfl ?_); intro _ _) | (refine JO.eff rfl rfl rfl (JEff.callR rfl (q8_cut (by exact vta)) rfl ?_); intro _ _ _ _) | (refine JO.eff rfl rfl rfl (JEff.callLE rfl (p8_All (by exact vta) (by exact vta)) rfl ?_); intro _ _ _ _ _ _) | (refine JO.eff rfl rfl rfl (JEff.callL rfl (p8_Broken (by exact vta) (by exact vta)) rfl ?_); intro _ _ _ _ _ _) | (refine JO.eff rfl rfl rfl (JEff.callV rfl (q8_works) rfl ?_); intro _ _) | (refine JO.eff rfl rfl rfl (JEff.callL rfl (p8_Pod _ (by first | assumption | (unfold Rng; omega)) (by exact vta) (by exact vta)) rfl ?_); intro _ _ _ _ _ _) | (refine JO.eff rfl rfl rfl (JEff.callL rfl (q8_fitted (by exact vta) (by exact vta) (by first | assumption | omega) (by first | assumption | omega)) rfl ?_); intro _ _ _ _ _ _) | (refine WNew ?_; intros) | (refine WPut ?_; intros))
                    exact JX.partF (()) (by exact lea) (trivial) rfl (by exact sba) (by exact sba)
                  · repeat (first | (refine Walk ?_; intros) | refine JC.block ?_ | refine JC.drawN 16 rfl [0, 1, 2, 3, 4, 5, 6, 7, 8, 9, 10, 11] [0, 1, 2, 3, 4, 5, 6, 7, 8, 9, 10, 11] Tryz_mixed (by decide +kernel) ?_ | (refine JO.eff rfl rfl rfl (JEff.callV rfl (w8_b hbx (by exact vta) (by exact vta) (by exact vta)) rfl ?_); intro _ _) | (refine JO.eff rfl rfl rfl (JEff.callR rfl (q8_cut (by exact vta)) rfl ?_); intro _ _ _ _) | (refine JO.eff rfl rfl rfl (JEff.callLE rfl (p8_All (by exact vta) (by exact vta)) rfl ?_); intro _ _ _ _ _ _) | (refine JO.eff rfl rfl rfl (JEff.callL rfl (p8_Broken (by exact vta) (by exact vta)) rfl ?_); intro _ _ _ _ _ _) | (refine JO.eff rfl rfl rfl (JEff.callV rfl (q8_works) rfl ?_); intro _ _) | (refine JO.eff rfl rfl rfl (JEff.callL rfl (p8_Pod _ (by first | assumption | (unfold Rng; omega)) (by exact vta) (by exact vta)) rfl ?_); intro _ _ _ _ _ _) | (refine JO.eff rfl rfl rfl (JEff.callL rfl (q8_fitted (by exact vta) (by exact vta) (by first | assumption | omega) (by first | assumption | omega)) rfl ?_); intro _ _ _ _ _ _) | (refine WNew ?_; intros) | (refine WPut ?_; intros))
                    exact JX.partF (()) (by exact lea) (trivial) rfl (by exact sba) (by exact sba)
              · repeat (first | (refine Walk ?_; intros) | refine JC.block ?_ | refine JC.drawN 16 rfl [0, 1, 2, 3, 4, 5, 6, 7, 8, 9, 10, 11] [0, 1, 2, 3, 4, 5, 6, 7, 8, 9, 10, 11] Tryz_mixed (by decide +kernel) ?_ | (refine JO.eff rfl rfl rfl (JEff.callV rfl (w8_b hbx (by exact vta) (by exact vta) (by exact vta)) rfl ?_); intro _ _) | (refine JO.eff rfl rfl rfl (JEff.callR rfl (q8_cut (by exact vta)) rfl ?_); intro _ _ _ _) | (refine JO.eff rfl rfl rfl (JEff.callLE rfl (p8_All (by exact vta) (by exact vta)) rfl ?_); intro _ _ _ _ _ _) | (refine JO.eff rfl rfl rfl (JEff.callL rfl (p8_Broken (by exact vta) (by exact vta)) rfl ?_); intro _ _ _ _ _ _) | (refine JO.eff rfl rfl rfl (JEff.callV rfl (q8_works) rfl ?_); intro _ _) | (refine JO.eff rfl rfl rfl (JEff.callL rfl (p8_Pod _ (by first | assumption | (unfold Rng; omega)) (by exact vta) (by exact vta)) rfl ?_); intro _ _ _ _ _ _) | (refine JO.eff rfl rfl rfl (JEff.callL rfl (q8_fitted (by exact vta) (by exact vta) (by first | assumption | omega) (by first | assumption | omega)) rfl ?_); intro _ _ _ _ _ _) | (refine WNew ?_; intros) | (refine WPut ?_; intros))
                exact JX.partF (()) (by exact lea) (trivial) rfl (by exact sba) (by exact sba)
          · repeat (first | (refine Walk ?_; intros) | refine JC.block ?_ | refine JC.drawN 16 rfl [0, 1, 2, 3, 4, 5, 6, 7, 8, 9, 10, 11] [0, 1, 2, 3, 4, 5, 6, 7, 8, 9, 10, 11] Tryz_mixed (by decide +kernel) ?_ | (refine JO.eff rfl rfl rfl (JEff.callV rfl (w8_b hbx (by exact vta) (by exact vta) (by exact vta)) rfl ?_); intro _ _) | (refine JO.eff rfl rfl rfl (JEff.callR rfl (q8_cut (by exact vta)) rfl ?_); intro _ _ _ _) | (refine JO.eff rfl rfl rfl (JEff.callLE rfl (p8_All (by exact vta) (by exact vta)) rfl ?_); intro _ _ _ _ _ _) | (refine JO.eff rfl rfl rfl (JEff.callL rfl (p8_Broken (by exact vta) (by exact vta)) rfl ?_); intro _ _ _ _ _ _) | (refine JO.eff rfl rfl rfl (JEff.callV rfl (q8_works) rfl ?_); intro _ _) | (refine JO.eff rfl rfl rfl (JEff.callL rfl (p8_Pod _ (by first | assumption | (unfold Rng; omega)) (by exact vta) (by exact vta)) rfl ?_); intro _ _ _ _ _ _) | (refine JO.eff rfl rfl rfl (JEff.callL rfl (q8_fitted (by exact vta) (by exact vta) (by first | assumption | omega) (by first | assumption | omega)) rfl ?_); intro _ _ _ _ _ _) | (refine WNew ?_; intros) | (refine WPut ?_; intros))
            exact JX.partF (()) (by exact lea) (trivial) rfl (by exact sba) (by exact sba)
      repeat (refine s6_L08g ?_; intros)
      refine JC.cond rfl (fun hb => ?_) (fun hb => ?_)
      · have hb' := of_decide_eq_true hb
        have hbad : badC x = true := by simp [badC]; omega
        have hat := broken_at hx hbad
        rw [← hbr] at hat
        have hat' : B[(((L.take k).filter badC).length : Int).toNat]? = some x := by rw [Int.toNat_natCast]; exact hat
        have hlt := (List.getElem?_eq_some_iff.1 hat).1
        rw [if_pos hbad] at hcb
        repeat (refine s6_L08g ?_; intros)
        refine JO.guard rfl rfl rfl rfl (fun d1 => ?_) (fun d1 => ?_)
        · exact absurd (of_decide_eq_true d1) (by omega)
        · repeat (refine s6_L08g ?_; intros)
          rw [decide_eq_true (rfl : x = x)]
          repeat (refine s6_L08g ?_; intros)
          refine JO.guard rfl rfl rfl rfl (fun e1 => ?_) (fun e1 => ?_)
          · repeat (refine s6_L08g ?_; intros)
            refine JC.cond rfl (fun e2 => ?_) (fun e2 => ?_)
            · have hm : midB x = true := by have a := of_decide_eq_true e1; have b := of_decide_eq_true e2; simp [midB, a, b]
              rw [if_pos hm] at hcm
              repeat (refine s6_L08g ?_; intros)
              exact JX.roundF (k + 1) (by exact lea) (by omega) (by (try dsimp only); omega) rfl (by (try dsimp only); rw [hcm, hcb]; exact sba) (by exact sba)
            · have hm : ¬ midB x = true := by intro h; simp only [midB, Bool.and_eq_true, decide_eq_true_eq] at h; exact absurd (decide_eq_true h.2) (by simpa using e2)
              rw [if_neg hm, Int.add_zero] at hcm
              repeat (refine s6_L08g ?_; intros)
              exact JX.roundF (k + 1) (by exact lea) (by omega) (by (try dsimp only); omega) rfl (by (try dsimp only); rw [hcm, hcb]; exact sba) (by exact sba)
          · have hm : ¬ midB x = true := by intro h; simp only [midB, Bool.and_eq_true, decide_eq_true_eq] at h; exact absurd (decide_eq_true h.1) (by simpa using e1)
            rw [if_neg hm, Int.add_zero] at hcm
            repeat (refine s6_L08g ?_; intros)
            exact JX.roundF (k + 1) (by exact lea) (by omega) (by (try dsimp only); omega) rfl (by (try dsimp only); rw [hcm, hcb]; exact sba) (by exact sba)
      · have hb' := of_decide_eq_false hb
        have hbad : ¬ badC x = true := by simp [badC]; omega
        rw [if_neg hbad, Int.add_zero] at hcb
        repeat (refine s6_L08g ?_; intros)
        refine JO.guard rfl rfl rfl rfl (fun e1 => ?_) (fun e1 => ?_)
        · repeat (refine s6_L08g ?_; intros)
          refine JC.cond rfl (fun e2 => ?_) (fun e2 => ?_)
          · have hm : midB x = true := by have a := of_decide_eq_true e1; have b := of_decide_eq_true e2; simp [midB, a, b]
            rw [if_pos hm] at hcm
            repeat (refine s6_L08g ?_; intros)
            exact JX.roundF (k + 1) (by exact lea) (by omega) (by (try dsimp only); omega) rfl (by (try dsimp only); rw [hcm, hcb]; exact sba) (by exact sba)
          · have hm : ¬ midB x = true := by intro h; simp only [midB, Bool.and_eq_true, decide_eq_true_eq] at h; exact absurd (decide_eq_true h.2) (by simpa using e2)
            rw [if_neg hm, Int.add_zero] at hcm
            repeat (refine s6_L08g ?_; intros)
            exact JX.roundF (k + 1) (by exact lea) (by omega) (by (try dsimp only); omega) rfl (by (try dsimp only); rw [hcm, hcb]; exact sba) (by exact sba)
        · have hm : ¬ midB x = true := by intro h; simp only [midB, Bool.and_eq_true, decide_eq_true_eq] at h; exact absurd (decide_eq_true h.1) (by simpa using e1)
          rw [if_neg hm, Int.add_zero] at hcm
          repeat (refine s6_L08g ?_; intros)
          exact JX.roundF (k + 1) (by exact lea) (by omega) (by (try dsimp only); omega) rfl (by (try dsimp only); rw [hcm, hcb]; exact sba) (by exact sba)
    · have hk' := dnlt hc1
      obtain rfl : k = L.length := by omega
      have hz := cntA_zero (fun c hc hm => (hmid c hc hm).1)
      rw [← hz]
      repeat (refine s6_L08g ?_; intros)
      refine JC.loopF0 (σ := Nat) [(2, _), (5, _), (8, _), (10, _)] (fun q => [(9, .int .i64 (cntA L q)), (13, .int .i64 q)]) (fun Sj q => q ≤ (fitV s' l).length) (fun q => (fitV s' l).length - q) (0) (by exact sba) (by exact sba) (Nat.zero_le _) ?_; rintro Sj m hlj hij; (try dsimp only at hij); dsimp only [List.cons_append, List.nil_append]
      have har := cntA_rng L m
      have hst := cntA_step L m
      have hpm := hpo m
      repeat (refine s6_L08g ?_; intros)
      refine JC.cond rfl (fun hc2 => ?_) (fun hc2 => ?_)
      · have hk2 := dlt hc2
        repeat (refine s6_L08g ?_; intros)
        have e : cntA L m - ((podC s' (fitV s' l) m).length : Int) = cntA L (m + 1) := by rw [hpm]; omega
        rw [e]
        exact JX.roundF (m + 1) (by exact lea) (by omega) (by (try dsimp only); omega) rfl (by exact sba) (by exact sba)
      · have hk2 := dnlt hc2
        obtain rfl : m = (fitV s' l).length := by omega
        have hz2 := cntA_end (n := (fitV s' l).length) (fun c hc hm => (hmid c hc hm).2)
        have hbl : (((L.take L.length).filter badC).length : Int) = B.length := by rw [List.take_length, hbr]
        repeat (refine s6_L08g ?_; intros)
        rw [decide_eq_true hbl]
        repeat (refine s6_L08g ?_; intros)
        rw [decide_eq_true hz2]
        repeat (refine s6_L08g ?_; intros)
        (refine JX.ret1 Tryz.results6 (ResV.tmp rfl) (List.nil_sublist _) ?_)
        exact ⟨rfl, rfl⟩
  · repeat (refine s6_L08g ?_; intros)
    refine JC.cond rfl (fun h1 => ?_) (fun h1 => ?_)
    · have hP' : ¬ checkP s' (fitV s' l) = 0 := by rw [hP]; exact hc
      have hA : allL s' (fitV s' l) = [] := by unfold allL; rw [if_neg hP']
      have hB : brokenC s' (fitV s' l) = [] := by unfold brokenC; rw [hA]; rfl
      have hC : podC s' (fitV s' l) 0 = [] := by unfold podC; rw [hA]; rfl
      repeat (refine s6_L08g ?_; intros)
      rw [hB]
      repeat (refine s6_L08g ?_; intros)
      rw [hC]
      repeat (refine s6_L08g ?_; intros)
      (refine JX.ret1 Tryz.results6 (ResV.tmp rfl) (List.nil_sublist _) ?_)
      exact ⟨rfl, rfl⟩
    · rw [hP] at h1
      exact absurd (by simpa using h1) hc
end Go.Dr
