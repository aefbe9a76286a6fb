/- Part 7 of the rules and of the walks that the proofs of this seat rest on; no condition. -/
import Derived.Test.YtdidkjghemcipaaGreatA05
import Derived.Deep.Slices
import Derived.OpenShut
import Derived.SizedLaws
import Derived.Carry
import Derived.Below
set_option linter.unusedVariables false
set_option linter.unusedSimpArgs false
namespace Go.Dr
open Go.Proofs
set_option maxRecDepth 20000
set_option maxHeartbeats 2000000
set_option linter.unusedSimpArgs false
set_option linter.unusedVariables false
theorem p8_All {S : SHeap} {u v : Value} {s : Snap} {p : List Int} (hu : rSnap.V S u s) (hv : (rSlice 8 rI64).V S v p) : FnLE Tryz.prog 17 #[u, v] S 32 rClause (allL s p) (.int .i64 (checkP s p)) := by
  obtain ⟨a, c, rfl, _⟩ := V_slice.1 hv
  (refine Fn.enter (args := [u, .slice a p.length c]) Tryz.func17 rfl Tryz.ntmps17 rfl ?_; intro w0)
  repeat (first | (refine Walk ?_; intros) | refine JC.block ?_ | (refine WBox ?_; intros))
  refine JO.eff rfl rfl rfl (JEff.callM (Mc := []) rfl (List.Perm.refl _) (mayAll rfl) (p8_see (s := s) (p := p) (by exact vta) (by exact vta)) rfl ?_); intro w S2 M2 hl2 hw
  rcases hw with ⟨he, rfl, rfl⟩ | ⟨hok, kp, mb, rfl, hL, rfl⟩
  · have he2 : decide (checkP s p = 0) = false := by simpa using he
    repeat (first | (refine Walk ?_; intros) | refine JC.block ?_ | (refine WBox ?_; intros))
    refine JC.cond rfl (fun h1 => ?_) (fun h1 => ?_)
    · repeat (first | (refine Walk ?_; intros) | refine JC.block ?_ | (refine WBox ?_; intros))
      (refine JX.ret2 Tryz.results17 (ResV.tmp rfl) (ResV.tmp rfl) (List.nil_sublist _) ?_)
      exact ⟨rfl, _, rfl, by rw [allL, if_neg he]; exact V_nil⟩
    · (exfalso; first | (simp only [decide_eq_true_eq, decide_eq_false_iff_not, Bool.not_eq_true', Bool.not_eq_false', Bool.and_eq_true, Bool.or_eq_true, Bool.and_eq_false_iff, Bool.or_eq_false_iff] at *; omega) | (simp_all; done) | (simp_all; omega))
  · repeat (first | (refine Walk ?_; intros) | refine JC.block ?_ | (refine WBox ?_; intros))
    refine JO.eff rfl rfl rfl (JEff.callC (kv := Value.string) rfl (List.Perm.refl _) (by intro l hl; cases hl) (p8_all hok hL Cache.nil) rfl ?_); intro w S3 l3 hl3 hw hco3
    repeat (first | (refine Walk ?_; intros) | refine JC.block ?_ | (refine WBox ?_; intros))
    (refine JX.ret2 Tryz.results17 (ResV.tmp rfl) (ResV.tmp rfl) (List.nil_sublist _) ?_)
    exact ⟨rfl, _, by rw [hok], by rw [allL, if_pos hok]; exact hw⟩
theorem p8_Of1 {S : SHeap} {u : Value} {x : Clause} {q1 q2 q3 : Addr} {kind a b : Int} (hu : rClause.V S u x) (h1 : PtrTo S q1 rI64 kind) (h2 : PtrTo S q2 rI64 a) (h3 : PtrTo S q3 rI64 b) :
    FnV Tryz.prog 67 #[u, .pointer (some q1), .pointer (some q2), .pointer (some q3)] S (.bool (isC kind a b x)) := by
  (refine Fn.enter (args := [u, .pointer (some q1), .pointer (some q2), .pointer (some q3)]) Tryz.func67 rfl Tryz.ntmps67 rfl ?_; intro w0)
  repeat' (first | (refine Walk ?_; intros) | refine JC.block ?_ | (refine WBox ?_; intros) | (refine JO.guard rfl rfl rfl rfl ?_ ?_ <;> intro _) | (refine JC.cond rfl ?_ ?_ <;> intro _))
  all_goals ((refine JX.ret1 Tryz.results67 (ResV.tmp rfl) (List.nil_sublist _) ?_); refine ⟨rfl, ?_⟩; simp_all [isC])
theorem s24_L8k {P K : Prop} (k : K) (h : Goal K → P := by
  intro zk
  (first | refine Walk ?_ | refine JC.block ?_ | (refine JO.eff rfl rfl rfl (JEff.callLE rfl (p8_All (by exact vta) (by exact vta)) rfl ?_); intro zqa zqb zqc zqd zqe zqf) | (refine WBox ?_))
  (repeat (first | revert zqg | revert zqf | revert zqe | revert zqd | revert zqc | revert zqb | revert zqa))
  exact zk.k) : P := h ⟨k⟩
theorem p8_Of {S : SHeap} {u v : Value} {s : Snap} {p : List Int} (kind a b : Int) (hk : Rng kind) (ha : Rng a) (hb : Rng b) (hu : rSnap.V S u s) (hv : (rSlice 8 rI64).V S v p) : FnV Tryz.prog 24 #[u, v, .int .i64 kind, .int .i64 a, .int .i64 b] S (.tuple #[.int .i64 (ofC s p kind a b).1, .bool (ofC s p kind a b).2]) := by
  (refine Fn.enter (args := [u, v, .int .i64 kind, .int .i64 a, .int .i64 b]) Tryz.func24 rfl Tryz.ntmps24 rfl ?_; intro w0)
  repeat (refine s24_L8k ?_; intros)
  (refine JO.eff rfl rfl rfl (JEff.callV rfl (p_IndexFunc_Clause (isC kind a b) (by exact vta) inferInstance (fun S' hl u x hx => p8_Of1 hx (by exact pta) (by exact pta) (by exact pta))) rfl ?_); intro _ _)
  unfold ofC
  rcases idx_find (f := isC kind a b) (xs := allL s p) with ⟨i, o, h1, h2, h3⟩ | ⟨h1, h3⟩
  · rw [h1, h3]
    repeat' (first | (refine s24_L8k ?_; intros) | (refine JO.guard rfl rfl rfl rfl ?_ ?_ <;> intro _) | (refine JC.cond rfl ?_ ?_ <;> intro _))
    all_goals first
      | ((refine JX.ret2 Tryz.results24 (ResV.tmp rfl) (ResV.tmp rfl) (List.nil_sublist _) ?_); exact ⟨rfl, rfl⟩)
      | (exfalso; first | (simp only [decide_eq_true_eq, decide_eq_false_iff_not, Bool.not_eq_true', Bool.not_eq_false', Bool.and_eq_true, Bool.or_eq_true, Bool.and_eq_false_iff, Bool.or_eq_false_iff] at *; omega) | (simp_all; done) | (simp_all; omega))
  · rw [h1, h3]
    repeat' (first | (refine s24_L8k ?_; intros) | (refine JO.guard rfl rfl rfl rfl ?_ ?_ <;> intro _) | (refine JC.cond rfl ?_ ?_ <;> intro _))
    all_goals first
      | ((refine JX.ret2 Tryz.results24 (ResV.tmp rfl) (ResV.tmp rfl) (List.nil_sublist _) ?_); exact ⟨rfl, rfl⟩)
      | (exfalso; first | (simp only [decide_eq_true_eq, decide_eq_false_iff_not, Bool.not_eq_true', Bool.not_eq_false', Bool.and_eq_true, Bool.or_eq_true, Bool.and_eq_false_iff, Bool.or_eq_false_iff] at *; omega) | (simp_all; done) | (simp_all; omega))
theorem s64_L8k {P K : Prop} (k : K) (h : Goal K → P := by
  intro zk
  (first | refine Walk ?_ | refine JC.block ?_ | (refine JO.eff rfl rfl rfl (JEff.callLE rfl (p8_All (by exact vta) (by exact vta)) rfl ?_); intro zqa zqb zqc zqd zqe zqf) | (refine WBox ?_) | (refine WNew ?_) | (refine WPut ?_))
  (repeat (first | revert zqg | revert zqf | revert zqe | revert zqd | revert zqc | revert zqb | revert zqa))
  exact zk.k) : P := h ⟨k⟩
theorem p8_but {S : SHeap} {u v : Value} {s : Snap} {p : List Int} {f : FuncId} {fs cs : Array Value} (F : Clause → Bool) (hu : rSnap.V S u s) (hv : (rSlice 8 rI64).V S v p) (hE : Ent Tryz.prog f)
    (hf : ∀ (S' : SHeap) (v : Value) (x : Clause), S.le S' → rClause.V S' v x → FnV Tryz.prog f (fs.toList ++ [v] ++ cs.toList).toArray S' (.bool (F x))) : FnL Tryz.prog 64 #[u, v, .func (.func f) fs cs] S 32 rClause ((allL s p).filter F) := by
  (refine Fn.enter (args := [u, v, .func (.func f) fs cs]) Tryz.func64 rfl Tryz.ntmps64 rfl ?_; intro w0)
  repeat (refine s64_L8k ?_; intros)
  have hLb := slice_bytes (by assumption : (rSlice 32 rClause).V _ _ (allL s p))
  unfold big at hLb
  generalize hLe : allL s p = L at *
  (first | refine JC.newRow 40 (Rp.sz rClause) ?_ | refine JO.newRow 40 (Rp.sz rClause) ?_ | refine JX.newRow 40 (Rp.sz rClause) ?_)
  refine JC.loopF (σ := Nat × Option Addr × Nat × List Value) [(2, _), (17, _), (18, _)] (fun q => [(6, .slice q.2.1 ((fun k => (L.take k).filter F) q.1).length q.2.2.1), (19, ((fun k => .int .i64 k) q.1))]) (fun q => [.row w0.heap.size 40 (Rp.sz rClause) (.slice q.2.1 ((fun k => (L.take k).filter F) q.1).length q.2.2.1) ((fun k => (L.take k).filter F) q.1).length (flatCells q.2.2.2)]) (fun Sk q => q.1 ≤ L.length ∧ allV rClause Sk q.2.2.2 ((fun k => (L.take k).filter F) q.1) ∧ ((fun k => True) q.1)) (fun q => L.length - q.1) (0, none, 0, []) (by exact sba) (by exact sba) (by first | rfl | simp) (⟨Nat.zero_le _, trivial, trivial⟩) ?_; rintro Sk ⟨k, rak, rck, vsk⟩ hlk ⟨hk, hvk, hik⟩; (try dsimp only at hk hvk hik); dsimp only [List.cons_append, List.nil_append]
  have hfl := filter_len L F k
  repeat (refine s64_L8k ?_; intros)
  refine JC.cond rfl (fun hc => ?_) (fun hc => ?_)
  · have hk' := dlt hc
    obtain ⟨x, hx, _⟩ := drop_at hk'
    have hst := filter_step (f := F) hx
    repeat (refine s64_L8k ?_; intros)
    (refine JO.eff rfl rfl rfl (JEff.dynV rfl (by assumption) rfl (hf _ _ x (by exact lea) (by exact vta)) rfl ?_); intro _ _)
    repeat (refine s64_L8k ?_; intros)
    refine JC.cond rfl (fun hq => ?_) (fun hq => ?_)
    · rw [hq, if_pos rfl] at hst
      repeat (refine s64_L8k ?_; intros)
      have hvx := (by assumption : rClause.V _ _ x)
      (refine JO.eff rfl rfl rfl (JEff.build (rep := rClause) (ys := [x]) rfl rfl ⟨⟨(hvx.mono (by exact lea)), nna⟩, trivial⟩ rfl rfl rfl rfl ?_); intro bb hbb hvv); (repeat (first | (refine Walk ?_; intros) | refine JC.block ?_)); (refine JO.eff rfl rfl rfl (JEff.appendL (rep := rClause) rfl rfl rfl rfl (List.Perm.swap _ _ _) (by exact hvv.flat) (by intro c hc; exact flat_one (fun v hv => (hvv.size v hv).2) c hc) (by first | omega | (unfold big; omega)) (by unfold big; omega) (by first | exact rowT_ok | (intro l hl; cases hl)) rfl ?_); intro a2 c2; clear hvv hbb)
      repeat (refine s64_L8k ?_; intros)
      exact JX.roundF (k + 1, a2, c2, vsk ++ [(_)]) (by exact lea) ⟨by omega, by (try dsimp only); rw [hst]; exact allV_add (by exact lea) hvk (hvx.mono (by exact lea)) nna, (trivial)⟩ (by (try dsimp only); omega) (by (try dsimp only); rw [hst]; (simp [flat_append] <;> omega)) (by (try dsimp only); rw [hst]; simp only [List.length_append, List.length_cons, List.length_nil]; exact sba) (by exact sba)
    · rw [hq, if_neg (by simp), List.append_nil] at hst
      repeat (refine s64_L8k ?_; intros)
      exact JX.roundF (k + 1, rak, rck, vsk) (by exact lea) ⟨by omega, by (try dsimp only); rw [hst]; exact hvk.mono (by exact lea), (trivial)⟩ (by (try dsimp only); omega) (by (try dsimp only); rw [hst]) (by (try dsimp only); rw [hst]; exact sba) (by exact sba)
  · have hk' := dnlt hc
    obtain rfl : k = L.length := by omega
    rw [List.take_length] at hvk hfl ⊢
    repeat (refine s64_L8k ?_; intros)
    refine JX.freezeRow (rep := rClause) (bt := 32) hvk rfl (by unfold big; omega) (by unfold big; omega) (fun S9 hl9 hV9 => ?_)
    (refine JX.ret1 Tryz.results64 (ResV.tmp rfl) (List.nil_sublist _) ?_)
    exact ⟨rfl, hV9⟩
theorem p8_Broken1 {S : SHeap} {u : Value} {x : Clause} (hu : rClause.V S u x) : FnV Tryz.prog 65 #[u] S (.bool (badC x)) := by
  (refine Fn.enter (args := [u]) Tryz.func65 rfl Tryz.ntmps65 rfl ?_; intro w0)
  repeat (first | (refine Walk ?_; intros) | refine JC.block ?_ | (refine WBox ?_; intros))
  (refine JX.ret1 Tryz.results65 (ResV.tmp rfl) (List.nil_sublist _) ?_)
  exact ⟨rfl, by simp [badC]⟩
theorem p8_Broken {S : SHeap} {u v : Value} {s : Snap} {p : List Int} (hu : rSnap.V S u s) (hv : (rSlice 8 rI64).V S v p) : FnL Tryz.prog 20 #[u, v] S 32 rClause (brokenC s p) := by
  (refine Fn.enter (args := [u, v]) Tryz.func20 rfl Tryz.ntmps20 rfl ?_; intro w0)
  repeat (first | (refine Walk ?_; intros) | refine JC.block ?_ | (refine WBox ?_; intros))
  refine JO.eff rfl rfl rfl (JEff.callL rfl (p8_but badC (by exact vta) (by exact vta) inferInstance (fun S' v x hl hx => p8_Broken1 hx)) rfl ?_); intro a1 c1 S2 hl2 hV2 hb2
  repeat (first | (refine Walk ?_; intros) | refine JC.block ?_ | (refine WBox ?_; intros))
  (refine JX.ret1 Tryz.results20 (ResV.tmp rfl) (List.nil_sublist _) ?_)
  exact ⟨rfl, hV2⟩
theorem p8_Pod1 {S : SHeap} {u : Value} {x : Clause} {q : Addr} {pod : Int} (hu : rClause.V S u x) (hq : PtrTo S q rI64 pod) : FnV Tryz.prog 68 #[u, .pointer (some q)] S (.bool (aboutC pod x)) := by
  (refine Fn.enter (args := [u, .pointer (some q)]) Tryz.func68 rfl Tryz.ntmps68 rfl ?_; intro w0)
  repeat' (first | (refine Walk ?_; intros) | refine JC.block ?_ | (refine WBox ?_; intros) | (refine JO.guard rfl rfl rfl rfl ?_ ?_ <;> intro _) | (refine JC.cond rfl ?_ ?_ <;> intro _))
  all_goals ((refine JX.ret1 Tryz.results68 (ResV.tmp rfl) (List.nil_sublist _) ?_); refine ⟨rfl, ?_⟩; first | (simp_all [aboutC]; done) | (simp_all [aboutC]; omega) | (simp_all [aboutC]; intros; omega))
theorem p8_Pod {S : SHeap} {u v : Value} {s : Snap} {p : List Int} (pod : Int) (hpr : Rng pod) (hu : rSnap.V S u s) (hv : (rSlice 8 rI64).V S v p) : FnL Tryz.prog 26 #[u, v, .int .i64 pod] S 32 rClause (podC s p pod) := by
  (refine Fn.enter (args := [u, v, .int .i64 pod]) Tryz.func26 rfl Tryz.ntmps26 rfl ?_; intro w0)
  repeat (first | (refine Walk ?_; intros) | refine JC.block ?_ | (refine WBox ?_; intros))
  refine JO.eff rfl rfl rfl (JEff.callL rfl (p8_but (aboutC pod) (by exact vta) (by exact vta) inferInstance (fun S' v x hl hx => p8_Pod1 hx (by exact pta))) rfl ?_); intro a1 c1 S2 hl2 hV2 hb2
  repeat (first | (refine Walk ?_; intros) | refine JC.block ?_ | (refine WBox ?_; intros))
  (refine JX.ret1 Tryz.results26 (ResV.tmp rfl) (List.nil_sublist _) ?_)
  exact ⟨rfl, hV2⟩
end Go.Dr
namespace Go.Dr
def cutS (s : Snap) : Snap := ⟨s.nodes.take 12, s.pods.take 30, s.owners.take 12⟩
def zoneS : ByteArray := ⟨#[122, 111, 110, 101]⟩
def nd8 (n : UInt8) (ls : List Label) : Node := ⟨⟨#[n]⟩, [15, 0, 0, 0, 0], ls, [], false, false⟩
def noNear : Near := ⟨⟨#[]⟩, []⟩
def pod8 (n : UInt8) : Pod := ⟨⟨#[n]⟩, ⟨#[111]⟩, [10, 0, 0, 0, 0], [], [], [], noNear, noNear, ⟨#[]⟩⟩
def nodes8 : List Node := [nd8 97 [⟨zoneS, ⟨#[120]⟩⟩], nd8 98 [⟨zoneS, ⟨#[121]⟩⟩], nd8 99 []]
def pods8 : List Pod := [pod8 112, pod8 113, pod8 114]
def chapM (m : Int) : Snap := ⟨nodes8, pods8, [⟨⟨#[111]⟩, m, zoneS, 1, false⟩]⟩
def chap8 : Snap := chapM 3
def byB (s : Snap) (p : List Int) (c : Clause) : Bool := (ofC s p c.kind c.a c.b).2 && decide ((ofC s p c.kind c.a c.b).1 = c.by_)
end Go.Dr
namespace Go.Dr
open Go.Proofs
set_option maxRecDepth 20000
set_option maxHeartbeats 2000000
set_option linter.unusedSimpArgs false
set_option linter.unusedVariables false
theorem cut_len {α : Type} (l : List α) (n : Nat) : (l.drop (0 : Int).toNat).take (min (l.length : Int) (n : Int) - 0).toNat = l.take n := by
  have e : (min (l.length : Int) (n : Int) - 0).toNat = min l.length n := by omega
  rw [e, show (0 : Int).toNat = 0 from rfl, List.drop_zero]
  rcases Nat.le_total l.length n with h | h
  · rw [Nat.min_eq_left h, List.take_length, List.take_of_length_le h]
  · rw [Nat.min_eq_right h]
theorem s15_L08a {P K : Prop} (k : K) (h : Goal K → P := by
  intro zk
  (first | refine Walk ?_ | refine JC.block ?_ | refine JC.drawN 1 rfl [0, 1, 2, 3, 4, 5, 6, 7, 8, 9, 10, 11, 12, 13, 14, 15, 16, 17, 18, 19, 20, 21, 22] [0, 1, 2, 3, 4, 5, 6, 7, 8, 9, 10, 11, 12, 13, 14, 15, 16, 17, 18, 19, 20, 21] Tryz_mixed (by decide +kernel) ?_ | (refine WBox ?_))
  (repeat (first | revert zqg | revert zqf | revert zqe | revert zqd | revert zqc | revert zqb | revert zqa))
  exact zk.k) : P := h ⟨k⟩
theorem q8_cut {S : SHeap} {u : Value} {s : Snap} (hu : rSnap.V S u s) : FnR Tryz.prog 15 #[u] S (fun w S' => rSnap.V S' w (cutS s)) := by
  (refine Fn.enter (args := [u]) Tryz.func15 rfl Tryz.ntmps15 rfl ?_; intro w0)
  repeat (refine s15_L08a ?_; intros)
  (refine JO.eff rfl rfl rfl (JEff.alloc rfl ?_); intro cb hcb)
  repeat (refine s15_L08a ?_; intros)
  refine JO.pure rfl rfl rfl (JPure.sliceS (xs := s.nodes) (rep := rNode) (bt := 112) rfl (by exact vta) rfl rfl rfl (by omega) (by omega) (by omega) ?_); intro a1 c1 y1 hy1 hV1 hyl1 hyb1
  repeat (refine s15_L08a ?_; intros)
  refine JO.pure rfl rfl rfl (JPure.sliceS (xs := s.pods) (rep := rPod) (bt := 240) rfl (by exact vta) rfl rfl rfl (by omega) (by omega) (by omega) ?_); intro a2 c2 y2 hy2 hV2 hyl2 hyb2
  repeat (refine s15_L08a ?_; intros)
  refine JO.pure rfl rfl rfl (JPure.sliceS (xs := s.owners) (rep := rOwner) (bt := 56) rfl (by exact vta) rfl rfl rfl (by omega) (by omega) (by omega) ?_); intro a3 c3 y3 hy3 hV3 hyl3 hyb3
  repeat (refine s15_L08a ?_; intros)
  have e1 : y1 = s.nodes.take 12 := hy1.trans (cut_len s.nodes 12)
  have e2 : y2 = s.pods.take 30 := hy2.trans (cut_len s.pods 30)
  have e3 : y3 = s.owners.take 12 := hy3.trans (cut_len s.owners 12)
  subst e1; subst e2; subst e3
  have hV := V_snap (x := cutS s) hV1 hV2 hV3
  refine JO.eff rfl rfl rfl (JEff.storeW rfl rfl hV nna (List.Perm.refl _) rfl (by intro l hl; cases hl) ?_)
  refine JO.freezeV hV nna hcb (by intro l hl; cases hl) ?_; intro S2 hl2 hpo
  repeat (refine s15_L08a ?_; intros)
  exact JX.retCell Tryz.results15 rfl hpo (List.nil_sublist _) (fun w hw => ⟨rfl, hw⟩)
theorem q8_by {S : SHeap} {u v cv : Value} {s : Snap} {p : List Int} {c : Clause} (hu : rSnap.V S u s) (hv : (rSlice 8 rI64).V S v p) (hc : rClause.V S cv c) : FnV Tryz.prog 30 #[u, v, cv] S (.bool (byB s p c)) := by
  (refine Fn.enter (args := [u, v, cv]) Tryz.func30 rfl Tryz.ntmps30 rfl ?_; intro w0)
  repeat' (first | (refine Walk ?_; intros) | refine JC.block ?_ | (refine JO.eff rfl rfl rfl (JEff.callV rfl (p8_Of _ _ _ (by first | assumption | (unfold Rng; omega)) (by first | assumption | (unfold Rng; omega)) (by first | assumption | (unfold Rng; omega)) (by exact vta) (by exact vta)) rfl ?_); intro _ _) | (refine WBox ?_; intros) | (refine JO.guard rfl rfl rfl rfl ?_ ?_ <;> intro _) | (refine JC.cond rfl ?_ ?_ <;> intro _))
  all_goals ((refine JX.ret1 Tryz.results30 (ResV.tmp rfl) (List.nil_sublist _) ?_); refine ⟨rfl, ?_⟩; simp_all [byB])
end Go.Dr
namespace Go.Dr
section
variable {C : Cx} {R : Rg} {Q : Post} {S S' : SHeap} {M M' : List MEnt} {e : Env} {rest : List Nat}
variable {d : Nat} {ty : TypeId} {pos : String} {aft : Array Edge} {g : Option (Nat × Bool)} {an : Bool}
theorem JPure.sliceT {T : TypeId} {x lo hi : Operand} {s : ByteArray} {kl kh : IntKind} {l h : Int} (hx : ev e x = some (.string s)) (hlo : ev e lo = some (.int kl l)) (hhi : ev e hi = some (.int kh h)) [hu : Und C.P T .string] (hdN : Nat.blt d C.N = true)
    (h0 : 0 ≤ l) (h1 : l ≤ h) (h2 : h ≤ s.size) (k : JO C R rest Q S M ((d, .string (s.extract l.toNat h.toNat)) :: e)) : JPure C R an ⟨some d, .slice T x (some lo) (some hi) none, ty, pos, aft, g⟩ rest Q S M e := by
  refine JPure.of rfl hdN (fun act w' hh => ?_) k
  have bl : (Instr.sliceBound (.int kl l) h.toNat .sliceB).run C.P w' = .ok l.toNat w' := run_sliceBound (P := C.P) w' kl l h.toNat _ h0 (by omega)
  have bh : (Instr.sliceBound (.int kh h) s.size .sliceAlen).run C.P w' = .ok h.toNat w' := run_sliceBound (P := C.P) w' kh h s.size _ (by omega) h2
  have hm : (Instr.slice T (.string s) (some (.int kl l)) (some (.int kh h)) none).run C.P w' = .ok (.string (s.extract l.toNat h.toNat)) w' := by
    simp [Instr.slice, run_underlying hu.h, Instr.sliceBounds, bl, bh]
  have hs : (Instr.sliceAt T (.string s) (some (.int kl l)) (some (.int kh h)) none).run C.P w' = (Instr.slice T (.string s) (some (.int kl l)) (some (.int kh h)) none).run C.P w' := by
    simp [Instr.sliceAt, run_underlying hu.h]
  simp only [execOp, hh.eval hx, Option.map_some, Option.map_none, hh.eval hlo, hh.eval hhi, Sem.run_bind, hs, hm, Result.andThen_ok, Sem.run_pure]
end
end Go.Dr
namespace Go.Dr
open Go.Proofs
set_option maxRecDepth 20000
set_option maxHeartbeats 2000000
set_option linter.unusedSimpArgs false
set_option linter.unusedVariables false
theorem R_vec {S : SHeap} {a b c d e : Int} (h : ∀ x ∈ [a, b, c, d, e], Rng x) : (rArr 5).R S [.int .i64 a, .int .i64 b, .int .i64 c, .int .i64 d, .int .i64 e] [a, b, c, d, e] := ⟨rfl, rfl, h⟩
theorem sz1 (n : UInt8) : (⟨#[n]⟩ : ByteArray).size ≤ big := by show 1 ≤ big; decide
theorem sz0 : (⟨#[]⟩ : ByteArray).size ≤ big := by decide
theorem szZ : zoneS.size ≤ big := by decide
theorem V_lab {S : SHeap} {a b : ByteArray} (h1 : a.size ≤ big) (h2 : b.size ≤ big) : rLabel.V S (.agg (flatCells [.string a, .string b]).toArray) ⟨a, b⟩ := ⟨_, map_R (seq1 (R_str h1) (R_str h2)), rfl⟩
theorem V_node8 {S : SHeap} {n : UInt8} {v : Value} {ls : List Label} (h : (rSlice 32 rLabel).V S v ls) : rNode.V S (.agg (flatCells [.string ⟨#[n]⟩, .agg (ints [15, 0, 0, 0, 0]), v, .slice none 0 0, .bool false, .bool false]).toArray) (nd8 n ls) := by
  obtain ⟨a, c, rfl, _⟩ := V_slice.1 h
  exact ⟨[_, _, _, _, _, _, _, _, _, _], map_R (seq1 (R_str (sz1 _)) (seq5 (R_vec (by simp [Rng])) (seq1 (h.one rfl) (seq1 (V_nil.one rfl) (seq1 R_bool R_bool))))), rfl⟩
theorem V_owner8 {S : SHeap} {m : Int} (hm : Rng m) : rOwner.V S (.agg (flatCells [.string ⟨#[111]⟩, .int .i64 m, .string zoneS, .int .i64 1, .bool false]).toArray) ⟨⟨#[111]⟩, m, zoneS, 1, false⟩ :=
  ⟨[_, _, _, _, _], map_R (seq1 (R_str (sz1 _)) (seq1 (R_i64 hm) (seq1 (R_str szZ) (seq1 (R_i64 (by simp [Rng])) R_bool)))), rfl⟩
theorem V_pod8 {S : SHeap} {n : ByteArray} {x : UInt8} (h : n = ⟨#[x]⟩) : rPod.V S (.agg (flatCells [.string n, .string ⟨#[111]⟩, .agg (flatCells [.int .i64 10, .int .i64 0, .int .i64 0, .int .i64 0, .int .i64 0]).toArray, .slice none 0 0, .slice none 0 0, .slice none 0 0, .agg #[.string ⟨#[]⟩, .slice none 0 0], .agg #[.string ⟨#[]⟩, .slice none 0 0], .string ⟨#[]⟩]).toArray) (pod8 x) := by
  subst h
  exact ⟨[_, _, _, _, _, _, _, _, _, _, _, _, _, _, _], map_R (seq1 (R_str (sz1 _)) (seq1 (R_str (sz1 _)) (seq5 (R_vec (by simp [Rng])) (seq1 (V_nil.one rfl) (seq1 (V_nil.one rfl) (seq1 (V_nil.one rfl)
    (seq2 (map_R (seq1 (R_str sz0) (V_nil.one rfl))) (seq2 (map_R (seq1 (R_str sz0) (V_nil.one rfl))) (R_str sz0))))))))), rfl⟩
theorem V_vec15 {S : SHeap} : (rArr 5).V S (.agg (flatCells [.int .i64 15, .int .i64 0, .int .i64 0, .int .i64 0, .int .i64 0]).toArray) [15, 0, 0, 0, 0] := V_arr.2 ⟨rfl, rfl, by simp [Rng]⟩
theorem pqr_at {k : Nat} {x : UInt8} (h : ([112, 113, 114] : List UInt8)[k]? = some x) : (⟨#[112, 113, 114]⟩ : ByteArray).extract ((k : Int)).toNat (((k : Int) + 1)).toNat = ⟨#[x]⟩ := by
  match k with
  | 0 => cases h; decide +kernel
  | 1 => cases h; decide +kernel
  | 2 => cases h; decide +kernel
  | k + 3 => simp at h
theorem q8_chapter {S : SHeap} : FnR Tryz.prog 31 #[] S (fun w S' => rSnap.V S' w chap8) := by
  haveI : TyR Tryz.prog 23 rVal := ⟨(inferInstance : TyR Tryz.prog 23 (rSlice 240 rPod)).b⟩
  have hmr : Rng 3 := by simp [Rng]
  (refine Fn.enter (args := []) Tryz.func31 rfl Tryz.ntmps31 rfl ?_; intro w0)
  repeat (first | (refine Walk ?_; intros) | refine JC.block ?_)
  (refine JO.eff rfl rfl rfl (JEff.alloc rfl ?_); intro rb hrb)
  repeat (first | (refine Walk ?_; intros) | refine JC.block ?_)
  (refine JO.eff rfl rfl rfl (JEff.alloc rfl ?_); intro vb hvb)
  repeat (first | (refine Walk ?_; intros) | refine JC.block ?_)
  refine JO.eff rfl rfl rfl (JEff.storeW rfl rfl V_vec15 nna (List.Perm.refl _) rfl (by intro l hl; cases hl) ?_)
  refine JO.freezeV V_vec15 nna hvb (by intro l hl; cases hl) ?_; intro S1 hl1 hpv
  repeat (first | (refine Walk ?_; intros) | refine JC.block ?_)
  obtain ⟨rfl, _, _⟩ := V_arr.1 (by assumption : (rArr 5).V _ _ [15, 0, 0, 0, 0])
  (refine JO.eff rfl rfl rfl (JEff.buildS (bt := 32) (rep := rLabel) (ys := [(⟨zoneS, ⟨#[120]⟩⟩ : Label)]) rfl rfl (⟨⟨V_lab (by decide) (by decide), nna⟩, trivial⟩) rfl rfl rfl (by decide) rfl ?_); intro S2 a2 hl2 hV2)
  repeat (first | (refine Walk ?_; intros) | refine JC.block ?_)
  obtain ⟨rfl, _, _⟩ := V_arr.1 (by assumption : (rArr 5).V _ _ [15, 0, 0, 0, 0])
  (refine JO.eff rfl rfl rfl (JEff.buildS (bt := 32) (rep := rLabel) (ys := [(⟨zoneS, ⟨#[121]⟩⟩ : Label)]) rfl rfl (⟨⟨V_lab (by decide) (by decide), nna⟩, trivial⟩) rfl rfl rfl (by decide) rfl ?_); intro S3 a3 hl3 hV3)
  repeat (first | (refine Walk ?_; intros) | refine JC.block ?_)
  obtain ⟨rfl, _, _⟩ := V_arr.1 (by assumption : (rArr 5).V _ _ [15, 0, 0, 0, 0])
  (refine JO.eff rfl rfl rfl (JEff.buildS (bt := 112) (rep := rNode) (ys := nodes8) rfl rfl ⟨⟨V_node8 (hV2.mono hl3), nna⟩, ⟨V_node8 hV3, nna⟩, ⟨V_node8 V_nil, nna⟩, trivial⟩ rfl rfl rfl (by decide) rfl ?_); intro S4 a4 hl4 hV4)
  repeat (first | (refine Walk ?_; intros) | refine JC.block ?_)
  (refine JO.eff rfl rfl rfl (JEff.buildS (bt := 56) (rep := rOwner) (ys := [(⟨⟨#[111]⟩, 3, zoneS, 1, false⟩ : Owner)]) rfl rfl (⟨⟨V_owner8 hmr, nna⟩, trivial⟩) rfl rfl rfl (by decide) rfl ?_); intro S5 a5 hl5 hV5)
  repeat (first | (refine Walk ?_; intros) | refine JC.block ?_)
  (refine JO.eff rfl rfl rfl (JEff.alloc rfl ?_); intro sb hsb)
  repeat (first | (refine Walk ?_; intros) | refine JC.block ?_)
  refine JO.eff rfl rfl rfl (JEff.storeW rfl rfl (V_snap (x := ⟨nodes8, [], [⟨⟨#[111]⟩, 3, zoneS, 1, false⟩]⟩) (hV4.mono (by exact lea)) V_nil (hV5.mono (by exact lea))) nna (List.Perm.refl _) rfl (by intro l hl; cases hl) ?_)
  repeat (first | (refine Walk ?_; intros) | refine JC.block ?_)
  refine JC.newRow 64 (Rp.sz rPod) ?_
  refine JC.loopF (σ := Nat × Option Addr × Nat × List Value) [(0, _), (2, _)] (fun q => [(3, .int .i64 q.1)])
    (fun q => [.row w0.heap.size 64 (Rp.sz rPod) (.slice q.2.1 q.1 q.2.2.1) q.1 (flatCells q.2.2.2), .blk sb (.cells #[.slice a4 3 3, .slice q.2.1 q.1 q.2.2.1, .slice a5 1 1] 26 (0, 0)), .blk rb (.cells #[.slice none 0 0, .slice none 0 0, .slice none 0 0] 26 (0, 0))])
    (fun Sk q => q.1 ≤ 3 ∧ allV rPod Sk q.2.2.2 (pods8.take q.1)) (fun q => 3 - q.1) (0, none, 0, []) (by exact sba) (by exact sba) (by rfl) ⟨Nat.zero_le _, trivial⟩ ?_
  rintro Sk ⟨k, ra, rc, vs⟩ hlk ⟨hk, hv1⟩
  dsimp only at hk hv1
  dsimp only [List.cons_append, List.nil_append]
  repeat (first | (refine Walk ?_; intros) | refine JC.block ?_)
  refine JC.cond rfl (fun hc => ?_) (fun hc => ?_)
  · have hk' : k < 3 := by have := of_decide_eq_true hc; omega
    obtain ⟨x, hx⟩ : ∃ x, ([112, 113, 114] : List UInt8)[k]? = some x := ⟨_, List.getElem?_eq_getElem (by simpa using hk')⟩
    have hst : pods8.take (k + 1) = pods8.take k ++ [pod8 x] := by
      match k with
      | 0 => cases hx; rfl
      | 1 => cases hx; rfl
      | 2 => cases hx; rfl
      | k + 3 => omega
    have hP := fun S => V_pod8 (S := S) (pqr_at hx)
    have hvl := hv1.length
    have hpl : (pods8.take k).length = k := by rw [List.length_take]; show min k 3 = k; omega
    rw [hpl] at hvl
    repeat (first | (refine Walk ?_; intros) | refine JC.block ?_)
    refine JC.drawTreeF 6 rfl [10] [1] [0, 2, 3, 4, 5, 6, 7] (.alt (ofL [1, 8, 9, 10, 11] .nil) (ofL [8, 1, 9, 10, 11] .nil)) Tryz_mixed (by decide +kernel) ?_
    refine JO.pure rfl rfl rfl (JPure.fieldP rfl rfl ?_)
    repeat (first | (refine Walk ?_; intros) | refine JC.block ?_)
    refine JO.pure rfl rfl rfl (JPure.sliceT rfl rfl rfl rfl (by omega) (by omega) (by show (k : Int) + 1 ≤ 3; omega) ?_)
    repeat (first | (refine Walk ?_; intros) | refine JC.block ?_)
    refine JO.alt ?_ ?_
    · refine JO.eff rfl rfl rfl (JEff.loadE (rVal) (x0 := .slice ra k rc) rfl (by (first | exact List.mem_cons_self | exact List.mem_cons_of_mem _ List.mem_cons_self | exact List.mem_cons_of_mem _ (List.mem_cons_of_mem _ List.mem_cons_self))) rfl ⟨rfl, rfl⟩ inferInstance rfl ?_)
      repeat (first | (refine Walk ?_; intros) | refine JC.block ?_)
      (refine JO.eff rfl rfl rfl (JEff.build (rep := rPod) (ys := [pod8 x]) rfl rfl ⟨⟨hP _, nna⟩, trivial⟩ rfl rfl rfl rfl ?_); intro bb hbb hvv)
      repeat (first | (refine Walk ?_; intros) | refine JC.block ?_)
      (refine JO.eff rfl rfl rfl (JEff.appendL (rep := rPod) rfl rfl rfl rfl (List.Perm.swap _ _ _) (by exact hvv.flat) (by intro c hc; exact flat_one (fun v hv => (hvv.size v hv).2) c hc) (by unfold big; omega) (by unfold big; omega) (by first | exact rowT_ok | (intro l hl; cases hl)) rfl ?_); intro a2 c2; clear hvv hbb)
      repeat (first | (refine Walk ?_; intros) | refine JC.block ?_)
      refine JO.pure rfl rfl rfl (JPure.fieldP rfl rfl ?_)
      refine JO.eff rfl rfl rfl (JEff.store (rep := rVal) (x0 := .slice a2 (k + 1) c2) rfl rfl (V_val.2 ⟨rfl, rfl⟩) nna (List.Perm.swap _ _ _) (by simp [rVal]) (by intro l hl; cases hl) ?_)
      repeat (first | (refine Walk ?_; intros) | refine JC.block ?_)
      refine JX.perm (M' := [_, _, _]) (List.Perm.trans (List.Perm.swap _ _ _) (List.Perm.refl _)) ?_
      exact JX.roundF (k + 1, a2, c2, vs ++ [_]) (by exact lea) ⟨by dsimp only; omega, by (try dsimp only); rw [hst]; exact allV_add (by exact lea) hv1 (hP _) nna⟩ (by (try dsimp only); omega) (by simp [flat_append]; rfl) (by exact sba) (by exact sba)
    · (refine JO.eff rfl rfl rfl (JEff.build (rep := rPod) (ys := [pod8 x]) rfl rfl ⟨⟨hP _, nna⟩, trivial⟩ rfl rfl rfl rfl ?_); intro bb hbb hvv)
      repeat (first | (refine Walk ?_; intros) | refine JC.block ?_)
      refine JO.eff rfl rfl rfl (JEff.loadE (rVal) (x0 := .slice ra k rc) rfl (by (first | exact List.mem_cons_self | exact List.mem_cons_of_mem _ List.mem_cons_self | exact List.mem_cons_of_mem _ (List.mem_cons_of_mem _ List.mem_cons_self))) rfl ⟨rfl, rfl⟩ inferInstance rfl ?_)
      repeat (first | (refine Walk ?_; intros) | refine JC.block ?_)
      (refine JO.eff rfl rfl rfl (JEff.appendL (rep := rPod) rfl rfl rfl rfl (List.Perm.swap _ _ _) (by exact hvv.flat) (by intro c hc; exact flat_one (fun v hv => (hvv.size v hv).2) c hc) (by unfold big; omega) (by unfold big; omega) (by first | exact rowT_ok | (intro l hl; cases hl)) rfl ?_); intro a2 c2; clear hvv hbb)
      repeat (first | (refine Walk ?_; intros) | refine JC.block ?_)
      refine JO.pure rfl rfl rfl (JPure.fieldP rfl rfl ?_)
      refine JO.eff rfl rfl rfl (JEff.store (rep := rVal) (x0 := .slice a2 (k + 1) c2) rfl rfl (V_val.2 ⟨rfl, rfl⟩) nna (List.Perm.swap _ _ _) (by simp [rVal]) (by intro l hl; cases hl) ?_)
      repeat (first | (refine Walk ?_; intros) | refine JC.block ?_)
      refine JX.perm (M' := [_, _, _]) (List.Perm.trans (List.Perm.swap _ _ _) (List.Perm.refl _)) ?_
      exact JX.roundF (k + 1, a2, c2, vs ++ [_]) (by exact lea) ⟨by dsimp only; omega, by (try dsimp only); rw [hst]; exact allV_add (by exact lea) hv1 (hP _) nna⟩ (by (try dsimp only); omega) (by simp [flat_append]; rfl) (by exact sba) (by exact sba)
  · obtain rfl : k = 3 := by have := of_decide_eq_false hc; omega
    refine JC.freezeRow (rep := rPod) (bt := 240) (xs := pods8) hv1 rfl (by decide) (by decide) (fun S9 hl9 hV9 => ?_)
    refine JC.freeze hsb (fun S10 hl10 hS10 => ?_)
    have hfin : PtrTo S10 ⟨sb, 0, none⟩ rSnap (chapM 3) :=
      cells_ptr (v := .agg #[.slice a4 3 3, .slice ra 3 rc, .slice a5 1 1]) hS10 (map_R (seq1 ((hV4.mono (by exact lea)).one rfl) (seq1 ((hV9.mono (by exact lea)).one rfl) ((hV5.mono (by exact lea)).one rfl))))
    repeat (first | (refine Walk ?_; intros) | refine JC.block ?_)
    refine JO.eff rfl rfl rfl (JEff.storeW rfl rfl (by assumption : rSnap.V _ _ (chapM 3)) nna (List.Perm.refl _) rfl (by intro l hl; cases hl) ?_)
    refine JO.freezeV (by assumption : rSnap.V _ _ (chapM 3)) nna hrb (by intro l hl; cases hl) ?_; intro S11 hl11 hpo
    repeat (first | (refine Walk ?_; intros) | refine JC.block ?_)
    exact JX.retCell Tryz.results31 rfl hpo (List.nil_sublist _) (fun w hw => ⟨rfl, hw⟩)
end Go.Dr
namespace Go.Dr
open Go.Proofs
set_option maxRecDepth 20000
set_option maxHeartbeats 2000000
set_option linter.unusedSimpArgs false
set_option linter.unusedVariables false
theorem V_cl {S : SHeap} {a b c d : Int} (h : Rng a ∧ Rng b ∧ Rng c ∧ Rng d := by simp [Rng]) : rClause.V S (.agg (flatCells [.int .i64 a, .int .i64 b, .int .i64 c, .int .i64 d]).toArray) ⟨a, b, c, d⟩ := V_clause.2 ⟨by simp [flatCells, Value.cells], h⟩
theorem V_num {S : SHeap} {a : Int} (h : Rng a := by simp [Rng]) : rI64.V S (.int .i64 a) a := V_i64.2 ⟨rfl, h⟩
theorem f8_O : ofC chap8 [0, 0, -1] 4 0 0 = (0, false) := by decide +kernel
theorem f8_P : podC chap8 [0, 1, 2] 1 = [⟨2, 1, 0, 0⟩, ⟨3, 1, 0, 0⟩] := by decide +kernel
theorem f8_B : brokenC chap8 [0, 1, 2] = [] := by decide +kernel
theorem f8_b1 : byB chap8 [0, 0, -1] ⟨1, 0, 0, 5⟩ = true := by decide +kernel
theorem f8_b7 : byB chap8 [0, 0, -1] ⟨7, 0, 0, 1⟩ = true := by decide +kernel
theorem f8_b8 : byB chap8 [0, 0, -1] ⟨8, 0, 0, 1⟩ = true := by decide +kernel
theorem w8_O {S : SHeap} {u v : Value} (hu : rSnap.V S u chap8) (hv : (rSlice 8 rI64).V S v [0, 0, -1]) : FnV Tryz.prog 24 #[u, v, .int .i64 4, .int .i64 0, .int .i64 0] S (.tuple #[.int .i64 0, .bool false]) := by
  have h := p8_Of 4 0 0 (by simp [Rng]) (by simp [Rng]) (by simp [Rng]) hu hv
  rw [f8_O] at h; exact h
theorem w8_P {S : SHeap} {u v : Value} (hu : rSnap.V S u chap8) (hv : (rSlice 8 rI64).V S v [0, 1, 2]) : FnL Tryz.prog 26 #[u, v, .int .i64 1] S 32 rClause [⟨2, 1, 0, 0⟩, ⟨3, 1, 0, 0⟩] := by
  have h := p8_Pod 1 (by simp [Rng]) hu hv
  rw [f8_P] at h; exact h
theorem w8_B {S : SHeap} {u v : Value} (hu : rSnap.V S u chap8) (hv : (rSlice 8 rI64).V S v [0, 1, 2]) : FnL Tryz.prog 20 #[u, v] S 32 rClause [] := by
  have h := p8_Broken hu hv
  rw [f8_B] at h; exact h
theorem w8_b {S : SHeap} {u v cv : Value} {s : Snap} {p : List Int} {c : Clause} (hb : byB s p c = true) (hu : rSnap.V S u s) (hv : (rSlice 8 rI64).V S v p) (hc : rClause.V S cv c) : FnV Tryz.prog 30 #[u, v, cv] S (.bool true) := by
  have h := q8_by hu hv hc
  rw [hb] at h; exact h
theorem q8_works {S : SHeap} : FnV Tryz.prog 23 #[] S (.bool true) := by
  have hz0 : ([⟨2, 1, 0, 0⟩, ⟨3, 1, 0, 0⟩] : List Clause)[(0 : Int).toNat]? = some ⟨2, 1, 0, 0⟩ := rfl
  have hz1 : ([⟨2, 1, 0, 0⟩, ⟨3, 1, 0, 0⟩] : List Clause)[(1 : Int).toNat]? = some ⟨3, 1, 0, 0⟩ := rfl
  (refine Fn.enter (args := []) Tryz.func23 rfl Tryz.ntmps23 rfl ?_; intro w0)
  repeat (first | (refine Walk ?_; intros) | refine JC.block ?_ | (refine JO.eff rfl rfl rfl (JEff.callL rfl (p8_Broken (by exact vta) (by exact vta)) rfl ?_); intro _ _ _ _ _ _) | (refine JO.eff rfl rfl rfl (JEff.callV rfl (p8_Of _ _ _ (by first | assumption | (unfold Rng; omega)) (by first | assumption | (unfold Rng; omega)) (by first | assumption | (unfold Rng; omega)) (by exact vta) (by exact vta)) rfl ?_); intro _ _) | (refine JO.eff rfl rfl rfl (JEff.callL rfl (p8_Pod _ (by first | assumption | (unfold Rng; omega)) (by exact vta) (by exact vta)) rfl ?_); intro _ _ _ _ _ _) | (refine JO.eff rfl rfl rfl (JEff.callR rfl (q8_chapter) rfl ?_); intro _ _ _ _) | (refine WNew ?_; intros) | (refine WPut ?_; intros))
  (refine JO.eff rfl rfl rfl (JEff.buildS (bt := 8) (rep := rI64) (ys := [(0 : Int), 0, -1]) rfl rfl (⟨⟨V_num, nna⟩, ⟨V_num, nna⟩, ⟨V_num, nna⟩, trivial⟩) rfl rfl rfl (by decide) rfl ?_); intro S2 a2 hl2 hV2)
  repeat (first | (refine Walk ?_; intros) | refine JC.block ?_ | (refine JO.eff rfl rfl rfl (JEff.callV rfl (w8_O (by exact vta) (by exact vta)) rfl ?_); intro _ _) | (refine JO.eff rfl rfl rfl (JEff.callL rfl (p8_Broken (by exact vta) (by exact vta)) rfl ?_); intro _ _ _ _ _ _) | (refine JO.eff rfl rfl rfl (JEff.callV rfl (p8_Of _ _ _ (by first | assumption | (unfold Rng; omega)) (by first | assumption | (unfold Rng; omega)) (by first | assumption | (unfold Rng; omega)) (by exact vta) (by exact vta)) rfl ?_); intro _ _) | (refine JO.eff rfl rfl rfl (JEff.callL rfl (p8_Pod _ (by first | assumption | (unfold Rng; omega)) (by exact vta) (by exact vta)) rfl ?_); intro _ _ _ _ _ _) | (refine JO.eff rfl rfl rfl (JEff.callR rfl (q8_chapter) rfl ?_); intro _ _ _ _) | (refine WNew ?_; intros) | (refine WPut ?_; intros))
  (refine JO.eff rfl rfl rfl (JEff.buildS (bt := 8) (rep := rI64) (ys := [(0 : Int), 1, 2]) rfl rfl (⟨⟨V_num, nna⟩, ⟨V_num, nna⟩, ⟨V_num, nna⟩, trivial⟩) rfl rfl rfl (by decide) rfl ?_); intro S3 a3 hl3 hV3)
  repeat (first | (refine Walk ?_; intros) | refine JC.block ?_ | (refine JO.eff rfl rfl rfl (JEff.callL rfl (w8_P (by exact vta) (by exact vta)) rfl ?_); intro _ _ _ _ _ _) | (refine JO.eff rfl rfl rfl (JEff.callV rfl (w8_b f8_b1 (by exact vta) (by exact vta) V_cl) rfl ?_); intro _ _) | (refine JO.eff rfl rfl rfl (JEff.callV rfl (w8_b f8_b7 (by exact vta) (by exact vta) V_cl) rfl ?_); intro _ _) | (refine JO.eff rfl rfl rfl (JEff.callV rfl (w8_b f8_b8 (by exact vta) (by exact vta) V_cl) rfl ?_); intro _ _) | (refine JO.eff rfl rfl rfl (JEff.callL rfl (p8_Broken (by exact vta) (by exact vta)) rfl ?_); intro _ _ _ _ _ _) | (refine JO.eff rfl rfl rfl (JEff.callV rfl (p8_Of _ _ _ (by first | assumption | (unfold Rng; omega)) (by first | assumption | (unfold Rng; omega)) (by first | assumption | (unfold Rng; omega)) (by exact vta) (by exact vta)) rfl ?_); intro _ _) | (refine JO.eff rfl rfl rfl (JEff.callL rfl (p8_Pod _ (by first | assumption | (unfold Rng; omega)) (by exact vta) (by exact vta)) rfl ?_); intro _ _ _ _ _ _) | (refine JO.eff rfl rfl rfl (JEff.callR rfl (q8_chapter) rfl ?_); intro _ _ _ _) | (refine WNew ?_; intros) | (refine WPut ?_; intros))
  (refine JO.eff rfl rfl rfl (JEff.buildS (bt := 8) (rep := rI64) (ys := [(0 : Int), 1, 2]) rfl rfl (⟨⟨V_num, nna⟩, ⟨V_num, nna⟩, ⟨V_num, nna⟩, trivial⟩) rfl rfl rfl (by decide) rfl ?_); intro S4 a4 hl4 hV4)
  repeat (first | (refine Walk ?_; intros) | refine JC.block ?_ | (refine JO.eff rfl rfl rfl (JEff.callL rfl (w8_B (by exact vta) (by exact vta)) rfl ?_); intro _ _ _ _ _ _) | refine JO.pure rfl rfl rfl (JPure.eqR rfl vta rfl V_cl rfl rfl ?_) | (refine JO.eff rfl rfl rfl (JEff.callL rfl (p8_Broken (by exact vta) (by exact vta)) rfl ?_); intro _ _ _ _ _ _) | (refine JO.eff rfl rfl rfl (JEff.callV rfl (p8_Of _ _ _ (by first | assumption | (unfold Rng; omega)) (by first | assumption | (unfold Rng; omega)) (by first | assumption | (unfold Rng; omega)) (by exact vta) (by exact vta)) rfl ?_); intro _ _) | (refine JO.eff rfl rfl rfl (JEff.callL rfl (p8_Pod _ (by first | assumption | (unfold Rng; omega)) (by exact vta) (by exact vta)) rfl ?_); intro _ _ _ _ _ _) | (refine JO.eff rfl rfl rfl (JEff.callR rfl (q8_chapter) rfl ?_); intro _ _ _ _) | (refine WNew ?_; intros) | (refine WPut ?_; intros))
  (refine JX.ret1 Tryz.results23 (ResV.tmp rfl) (List.nil_sublist _) ?_)
  exact ⟨rfl, rfl⟩
end Go.Dr
namespace Go.Dr
open Go.Proofs
set_option maxRecDepth 20000
set_option maxHeartbeats 2000000
set_option linter.unusedSimpArgs false
set_option linter.unusedVariables false
theorem w_EqInts {S : SHeap} {u v : Value} {xs : List Int} (hu : (rSlice 8 rI64).V S u xs) (hv : (rSlice 8 rI64).V S v xs) : FnV Tryz.prog 22 #[u, v] S (.bool true) := by
  have h := r0_EqInts hu hv
  rw [decide_eq_true rfl] at h; exact h
end Go.Dr
namespace Go.Dr
set_option linter.unusedSimpArgs false
set_option linter.unusedVariables false
def SHeap.del (S : SHeap) (b : Nat) : SHeap := fun k => if k = b then none else S k
theorem SHeap.del_self (S : SHeap) (b : Nat) : S.del b b = none := by simp [SHeap.del]
theorem SHeap.del_other {S : SHeap} {b k : Nat} (h : k ≠ b) : S.del b k = S k := by simp [SHeap.del, h]
theorem SHeap.le_del {S S' : SHeap} {b : Nat} (h : S.le S') (hb : S b = none) : S.le (S'.del b) := fun k o hk => by
  have hne : k ≠ b := fun e => by rw [e, hb] at hk; cases hk
  rw [SHeap.del_other hne]; exact h k o hk
theorem Wd.thaw {w0 w : World} {B0 : List Nat} {S0 S : SHeap} {M : List MEnt} {b : Nat} {o : Obj} (h : Wd w0 B0 S0 S M w) (h0 : S0 b = none) (hb : w0.heap.size ≤ b) (hS : S b = some o) : Wd w0 B0 S0 (S.del b) (.blk b o :: M) w where
  os := h.os
  tape := h.tape
  output := h.output
  size := h.size
  keep := h.keep
  le := SHeap.le_del h.le h0
  new := fun k hk => by
    by_cases e : k = b
    · subst e; exact .inr hb
    · exact h.new k (by rwa [SHeap.del_other e] at hk)
  agree := fun k o' hk => by
    have hne : k ≠ b := fun e => by rw [e, SHeap.del_self] at hk; cases hk
    rw [SHeap.del_other hne] at hk; exact h.agree k o' hk
  ok := fun m hm => by
    rcases List.mem_cons.1 hm with rfl | hm
    · exact h.agree b o hS
    · exact h.ok m hm
  sep := by
    refine List.pairwise_cons.2 ⟨?_, h.sep⟩
    intro m hm k hk hk'
    simp only [MEnt.own, Option.some.injEq] at hk
    subst hk
    have := (h.out m hm _ hk').1
    rw [hS] at this; cases this
  out := fun m hm k hk => by
    rcases List.mem_cons.1 hm with rfl | hm
    · simp only [MEnt.own, Option.some.injEq] at hk
      subst hk
      exact ⟨SHeap.del_self _ _, .inl hb⟩
    · obtain ⟨h1, h2⟩ := h.out m hm k hk
      refine ⟨?_, h2⟩
      unfold SHeap.del
      split
      · rfl
      · exact h1
theorem Fn.frozen {P : Program} {f : FuncId} {args : Array Value} {S : SHeap} {PP : Value → SHeap → List MEnt → Prop} {QQ : Value → SHeap → Prop} (h : Fn P f args S [] PP)
    (hq : ∀ v S' M', PP v S' M' → (M' = [] ∧ QQ v S') ∨ ∃ b o, M' = [.blk b o] ∧ ∀ S'', S'.le S'' → S'' b = some o → QQ v S'') : FnR P f args S QQ := fun w hg hok hs ho => by
  refine (h w hg hok hs ho).mono ?_
  rintro e w' ⟨v, S', M', rfl, hw, hp⟩
  rcases hq v S' M' hp with ⟨rfl, h1⟩ | ⟨b, o, rfl, h1⟩
  · exact ⟨v, S', [], rfl, hw, rfl, h1⟩
  · have h2 := hw.out (.blk b o) (by simp) b rfl
    have hb : w.heap.size ≤ b := h2.2.resolve_right (by simp)
    exact ⟨v, S'.put b o, [], rfl, hw.freeze hb, rfl, h1 _ (SHeap.le_put o h2.1) (SHeap.put_self _ _ _)⟩
section
variable {C : Cx} {R : Rg} {Q : Post} {S S' : SHeap} {M M' : List MEnt} {e : Env} {rest : List Nat} {L : List Nat}
variable {d : Nat} {ty : TypeId} {pos : String} {aft : Array Edge} {g : Option (Nat × Bool)}
theorem JO.out (k : (∀ m ∈ M, ∀ b, m.own = some b → S b = none) → JO C R L Q S M e) : JO C R L Q S M e := ⟨fun a w hw => (k fun m hm b hb => (hw.wd.out m hm b hb).1).run a w hw⟩
theorem JO.blkNew {b : Nat} {o : Obj} (h0 : C.B0 = []) (k : C.S0 b = none → C.w0.heap.size ≤ b → JO C R L Q S (.blk b o :: M) e) : JO C R L Q S (.blk b o :: M) e := ⟨fun a w hw => by
  have h1 := hw.wd.out (.blk b o) (by simp) b rfl
  have h2 := h1.2
  rw [h0] at h2
  refine (k ?_ (h2.resolve_right (by simp))).run a w hw
  cases h : C.S0 b with
  | none => rfl
  | some o' => have := hw.wd.le b o' h; rw [h1.1] at this; cases this⟩
theorem JC.blkNew {x : Code} {b : Nat} {o : Obj} (h0 : C.B0 = []) (k : C.S0 b = none → C.w0.heap.size ≤ b → JC C x Q S (.blk b o :: M) e) : JC C x Q S (.blk b o :: M) e := ⟨fun a w hw => by
  have h1 := hw.wd.out (.blk b o) (by simp) b rfl
  have h2 := h1.2
  rw [h0] at h2
  refine (k ?_ (h2.resolve_right (by simp))).run a w hw
  cases h : C.S0 b with
  | none => rfl
  | some o' => have := hw.wd.le b o' h; rw [h1.1] at this; cases this⟩
theorem JX.thaw {x : Exit} {b : Nat} {o : Obj} (h0 : C.S0 b = none) (hb : C.w0.heap.size ≤ b) (hS : S b = some o) (k : JX C x Q (S.del b) (.blk b o :: M) e) : JX C x Q S M e := ⟨fun a w hw => k.run a w ⟨hw.env, hw.defers, hw.wd.thaw h0 hb hS⟩⟩
class IfaceT (P : Program) (T : TypeId) : Prop where
  h : P.underlying T = some (.interface (P.methodsAt T))
theorem JPure.eqNilT {an : Bool} {T t' : TypeId} {x : Operand} (hx : ev e x = some .nilIface) [hi : IfaceT C.P T] (hdN : Nat.blt d C.N = true) (k : JO C R rest Q S M ((d, .bool true) :: e)) : JPure C R an ⟨some d, .binOp .eql T x (.const .nilIface) t', ty, pos, aft, g⟩ rest Q S M e :=
  JPure.of rfl hdN (fun a w' h => by
    simp only [execOp, h.eval hx, h.eval (show ev e (.const .nilIface) = some .nilIface from rfl), Sem.run_bind, eqGuard_nil_constR, Sem.run_pure, Result.andThen_ok, run_eql_nil_nil w' T hi.h]) k
theorem JPure.eqNilF {an : Bool} {T t' u : TypeId} {x : Operand} {v : Value} (hx : ev e x = some (.iface u v)) [hi : IfaceT C.P T] (hdN : Nat.blt d C.N = true) (k : JO C R rest Q S M ((d, .bool false) :: e)) : JPure C R an ⟨some d, .binOp .eql T x (.const .nilIface) t', ty, pos, aft, g⟩ rest Q S M e :=
  JPure.of rfl hdN (fun a w' h => by
    have hg : eqGuard .eql T x (.const .nilIface) (.iface u v) .nilIface = pure () := by rfl
    simp only [execOp, h.eval hx, h.eval (show ev e (.const .nilIface) = some .nilIface from rfl), Sem.run_bind, hg, Sem.run_pure, Result.andThen_ok, run_eql_held_nil w' T u v hi.h]) k
end
end Go.Dr
namespace Go.Dr
section
variable {C : Cx} {R : Rg} {Q : Post} {S : SHeap} {M : List MEnt} {e : Env} {rest : List Nat}
variable {d : Nat} {ty : TypeId} {pos : String} {aft : Array Edge} {g : Option (Nat × Bool)} {an : Bool}
theorem JPure.rem {t t' : TypeId} {x y : Operand} {a b : Int} (hx : ev e x = some (.int .i64 a)) (hy : ev e y = some (.int .i64 b)) (hb : b ≠ 0) (hdN : Nat.blt d C.N = true) (k : JO C R rest Q S M ((d, .int .i64 (a.tmod b)) :: e)) :
    JPure C R an ⟨some d, .binOp .rem t x y t', ty, pos, aft, g⟩ rest Q S M e :=
  JPure.of rfl hdN (fun a' w' h => by
    simp [execOp, h.eval hx, h.eval hy, eqGuard_rem, binOp_rem, Op.intDiv, hb, Sem.run_bind, Sem.run_pure, Result.andThen]) k
end
def bring (i n : Int) : Int := if i.tmod n < 0 then i.tmod n + n else i.tmod n
theorem tmod_rng (i : Int) {n : Int} (hn : 0 < n) : -n < i.tmod n ∧ i.tmod n < n := by
  have h1 := Int.tmod_lt_of_pos i hn
  have h2 := Int.tmod_lt_of_pos (-i) hn
  rw [Int.neg_tmod] at h2
  omega
theorem bring_rng (i : Int) {n : Int} (hn : 0 < n) : 0 ≤ bring i n ∧ bring i n < n := by
  have := tmod_rng i hn
  unfold bring
  split <;> omega
end Go.Dr
namespace Go.Dr
open Go.Proofs
set_option maxRecDepth 20000
set_option maxHeartbeats 2000000
set_option linter.unusedSimpArgs false
set_option linter.unusedVariables false
theorem r0_Bring {S : SHeap} (i n : Int) (h0 : 0 < n) (h1 : n ≤ 1000000) (hr : Rng i) : FnV Tryz.prog 69 #[.int .i64 i, .int .i64 n] S (.int .i64 (bring i n)) := by
  have hb := tmod_rng i h0
  (refine Fn.enter (args := [.int .i64 i, .int .i64 n]) Tryz.func69 rfl Tryz.ntmps69 rfl ?_; intro w0)
  repeat (first | (refine Walk ?_; intros) | refine JC.block ?_)
  refine JO.pure rfl rfl rfl (JPure.rem rfl rfl (by omega) rfl ?_)
  unfold bring
  generalize i.tmod n = m at *
  repeat (first | (refine Walk ?_; intros) | refine JC.block ?_)
  refine JC.cond rfl (fun hm => ?_) (fun hm => ?_)
  · have hm := of_decide_eq_true hm
    rw [if_pos hm]
    repeat (first | (refine Walk ?_; intros) | refine JC.block ?_)
    (refine JX.ret1 Tryz.results69 (ResV.tmp rfl) (List.nil_sublist _) ?_)
    exact ⟨rfl, rfl⟩
  · have hm := of_decide_eq_false hm
    rw [if_neg hm]
    repeat (first | (refine Walk ?_; intros) | refine JC.block ?_)
    (refine JX.ret1 Tryz.results69 (ResV.tmp rfl) (List.nil_sublist _) ?_)
    exact ⟨rfl, rfl⟩
def fitN (s : Snap) (l : List Int) (i : Nat) : Int := match l[i]? with | some x => bring x ((s.nodes.length : Int) + 1) - 1 | none => -1
def fitAt (s : Snap) (l : List Int) (i : Nat) : Int := if 0 ≤ fitN s l i ∧ lostAt s (fitN s l i) = true then -1 else fitN s l i
def fitK (s : Snap) (l : List Int) (k : Nat) : List Int := (List.range k).map (fitAt s l)
theorem fitK_step (s : Snap) (l : List Int) (k : Nat) : fitK s l (k + 1) = fitK s l k ++ [fitAt s l k] := by unfold fitK; rw [List.range_succ]; simp
theorem fitK_len (s : Snap) (l : List Int) (k : Nat) : (fitK s l k).length = k := by simp [fitK]
def fitV (s : Snap) (l : List Int) : List Int := fitK s l s.pods.length
theorem fitN_rng (s : Snap) (l : List Int) (i : Nat) : -1 ≤ fitN s l i ∧ fitN s l i < s.nodes.length := by
  unfold fitN
  split
  · rename_i x _
    have := bring_rng x (show (0 : Int) < (s.nodes.length : Int) + 1 by omega)
    omega
  · omega
theorem s28_L08e {P K : Prop} (k : K) (h : Goal K → P := by
  intro zk
  (first | refine Walk ?_ | refine JC.block ?_ | refine JC.drawN 7 rfl [0, 1, 2, 3, 4, 5, 6, 7, 8, 9, 10] [0, 1, 2, 3, 4, 5, 6, 7, 9, 10] Tryz_mixed (by decide +kernel) ?_ | (refine JO.eff rfl rfl rfl (JEff.callV rfl (r0_Bring _ _ (by omega) (by omega) (by assumption)) rfl ?_); intro zqa zqb) | (refine WBox ?_))
  (repeat (first | revert zqg | revert zqf | revert zqe | revert zqd | revert zqc | revert zqb | revert zqa))
  exact zk.k) : P := h ⟨k⟩
theorem q8_fitted {S : SHeap} {u v : Value} {s : Snap} {l : List Int} (hu : rSnap.V S u s) (hv : (rSlice 8 rI64).V S v l) (hn : s.nodes.length ≤ 1000) (hpd : s.pods.length ≤ 1000) : FnL Tryz.prog 28 #[u, v] S 8 rI64 (fitV s l) := by
  obtain ⟨a0, c0, rfl, _, _, hlb, _⟩ := V_slice.1 hv
  unfold big at hlb
  have hlr : ∀ z ∈ l, Rng z := fun z hz => by
    obtain ⟨q, cs, h, _⟩ := slice_at hv z hz
    exact h.2
  (refine Fn.enter (args := [u, .slice a0 l.length c0]) Tryz.func28 rfl Tryz.ntmps28 rfl ?_; intro w0)
  repeat (refine s28_L08e ?_; intros)
  (first | refine JC.newRow 3 1 ?_ | refine JO.newRow 3 1 ?_ | refine JX.newRow 3 1 ?_)
  refine JC.loopF (σ := Nat × Option Addr × Nat × List Value) [(1, _), (2, _)] (fun q => [(5, .slice q.2.1 ((fun k => fitK s l k) q.1).length q.2.2.1), (6, ((fun k => .int .i64 k) q.1))]) (fun q => [.row w0.heap.size 3 (Rp.sz rI64) (.slice q.2.1 ((fun k => fitK s l k) q.1).length q.2.2.1) ((fun k => fitK s l k) q.1).length (flatCells q.2.2.2)]) (fun Sk q => q.1 ≤ s.pods.length ∧ allV rI64 Sk q.2.2.2 ((fun k => fitK s l k) q.1) ∧ ((fun k => True) q.1)) (fun q => s.pods.length - q.1) (0, none, 0, []) (by exact sba) (by exact sba) (by first | rfl | simp) (⟨Nat.zero_le _, trivial, trivial⟩) ?_; rintro Sk ⟨k, rak, rck, vsk⟩ hlk ⟨hk, hvk, hik⟩; (try dsimp only at hk hvk hik); dsimp only [List.cons_append, List.nil_append]
  have hfl := fitK_len s l k
  have hnr := fitN_rng s l k
  have hst := fitK_step s l k
  repeat (refine s28_L08e ?_; intros)
  refine JC.cond rfl (fun hc => ?_) (fun hc => ?_)
  · have hk' := dlt hc
    repeat (refine s28_L08e ?_; intros)
    refine JC.cond rfl (fun hc2 => ?_) (fun hc2 => ?_)
    · have hk2 := dlt hc2
      obtain ⟨x, hx, _⟩ := drop_at hk2
      have hxr := hlr x (List.mem_of_getElem? hx)
      have hfn : fitN s l k = bring x ((s.nodes.length : Int) + 1) - 1 := by simp [fitN, hx]
      repeat (refine s28_L08e ?_; intros)
      rw [← hfn]
      repeat (refine s28_L08e ?_; intros)
      refine JO.guard rfl rfl rfl rfl (fun g1 => ?_) (fun g1 => ?_)
      · have g1' := of_decide_eq_true g1
        obtain ⟨nd, hnd, _⟩ := drop_at (l := s.nodes) (show (fitN s l k).toNat < s.nodes.length by omega)
        have hlo : lostAt s (fitN s l k) = nd.lost := by simp [lostAt, hnd]
        repeat (refine s28_L08e ?_; intros)
        refine JC.cond rfl (fun g2 => ?_) (fun g2 => ?_)
        · have hfa : fitAt s l k = -1 := by rw [fitAt, if_pos ⟨by omega, by rw [hlo]; exact g2⟩]
          rw [hfa] at hst
          repeat (refine s28_L08e ?_; intros)
          (refine JO.eff rfl rfl rfl (JEff.build (rep := rI64) (ys := [(-1 : Int)]) rfl rfl ⟨⟨(V_i64.2 ⟨rfl, by unfold Rng; omega⟩), nna⟩, trivial⟩ rfl rfl rfl rfl ?_); intro bb hbb hvv); (repeat (first | (refine Walk ?_; intros) | refine JC.block ?_)); (refine JO.eff rfl rfl rfl (JEff.appendL (rep := rI64) rfl rfl rfl rfl (List.Perm.swap _ _ _) (by exact hvv.flat) (by intro c hc; exact flat_one (fun v hv => (hvv.size v hv).2) c hc) (by first | omega | (unfold big; omega)) (by unfold big; omega) (by first | exact rowT_ok | (intro l hl; cases hl)) rfl ?_); intro a2 c2; clear hvv hbb)
          repeat (refine s28_L08e ?_; intros)
          exact JX.roundF (k + 1, a2, c2, vsk ++ [(.int .i64 ((-1 : Int)))]) (by exact lea) ⟨by omega, by (try dsimp only); rw [hst]; exact allV_add (by exact lea) hvk (V_i64.2 ⟨rfl, by unfold Rng; omega⟩) nna, (trivial)⟩ (by (try dsimp only); omega) (by (try dsimp only); rw [hst]; (simp [flat_append] <;> omega)) (by (try dsimp only); rw [hst]; simp only [List.length_append, List.length_cons, List.length_nil]; exact sba) (by exact sba)
        · have hfa : fitAt s l k = fitN s l k := by rw [fitAt, if_neg (fun h => by rw [hlo, g2] at h; exact absurd h.2 (by simp))]
          rw [hfa] at hst
          repeat (refine s28_L08e ?_; intros)
          (refine JO.eff rfl rfl rfl (JEff.build (rep := rI64) (ys := [fitN s l k]) rfl rfl ⟨⟨(V_i64.2 ⟨rfl, by unfold Rng; omega⟩), nna⟩, trivial⟩ rfl rfl rfl rfl ?_); intro bb hbb hvv); (repeat (first | (refine Walk ?_; intros) | refine JC.block ?_)); (refine JO.eff rfl rfl rfl (JEff.appendL (rep := rI64) rfl rfl rfl rfl (List.Perm.swap _ _ _) (by exact hvv.flat) (by intro c hc; exact flat_one (fun v hv => (hvv.size v hv).2) c hc) (by first | omega | (unfold big; omega)) (by unfold big; omega) (by first | exact rowT_ok | (intro l hl; cases hl)) rfl ?_); intro a2 c2; clear hvv hbb)
          repeat (refine s28_L08e ?_; intros)
          exact JX.roundF (k + 1, a2, c2, vsk ++ [(.int .i64 (fitN s l k))]) (by exact lea) ⟨by omega, by (try dsimp only); rw [hst]; exact allV_add (by exact lea) hvk (V_i64.2 ⟨rfl, by unfold Rng; omega⟩) nna, (trivial)⟩ (by (try dsimp only); omega) (by (try dsimp only); rw [hst]; (simp [flat_append] <;> omega)) (by (try dsimp only); rw [hst]; simp only [List.length_append, List.length_cons, List.length_nil]; exact sba) (by exact sba)
      · have g1' := of_decide_eq_false g1
        have hfa : fitAt s l k = fitN s l k := by rw [fitAt, if_neg (fun h => absurd h.1 (by omega))]
        rw [hfa] at hst
        repeat (refine s28_L08e ?_; intros)
        (refine JO.eff rfl rfl rfl (JEff.build (rep := rI64) (ys := [fitN s l k]) rfl rfl ⟨⟨(V_i64.2 ⟨rfl, by unfold Rng; omega⟩), nna⟩, trivial⟩ rfl rfl rfl rfl ?_); intro bb hbb hvv); (repeat (first | (refine Walk ?_; intros) | refine JC.block ?_)); (refine JO.eff rfl rfl rfl (JEff.appendL (rep := rI64) rfl rfl rfl rfl (List.Perm.swap _ _ _) (by exact hvv.flat) (by intro c hc; exact flat_one (fun v hv => (hvv.size v hv).2) c hc) (by first | omega | (unfold big; omega)) (by unfold big; omega) (by first | exact rowT_ok | (intro l hl; cases hl)) rfl ?_); intro a2 c2; clear hvv hbb)
        repeat (refine s28_L08e ?_; intros)
        exact JX.roundF (k + 1, a2, c2, vsk ++ [(.int .i64 (fitN s l k))]) (by exact lea) ⟨by omega, by (try dsimp only); rw [hst]; exact allV_add (by exact lea) hvk (V_i64.2 ⟨rfl, by unfold Rng; omega⟩) nna, (trivial)⟩ (by (try dsimp only); omega) (by (try dsimp only); rw [hst]; (simp [flat_append] <;> omega)) (by (try dsimp only); rw [hst]; simp only [List.length_append, List.length_cons, List.length_nil]; exact sba) (by exact sba)
    · have hk2 := dnlt hc2
      have hfn : fitN s l k = -1 := by unfold fitN; rw [List.getElem?_eq_none (by omega)]
      have hfa : fitAt s l k = -1 := by rw [fitAt, hfn, if_neg (fun h => absurd h.1 (by omega))]
      rw [hfa] at hst
      repeat (refine s28_L08e ?_; intros)
      (refine JO.eff rfl rfl rfl (JEff.build (rep := rI64) (ys := [(-1 : Int)]) rfl rfl ⟨⟨(V_i64.2 ⟨rfl, by unfold Rng; omega⟩), nna⟩, trivial⟩ rfl rfl rfl rfl ?_); intro bb hbb hvv); (repeat (first | (refine Walk ?_; intros) | refine JC.block ?_)); (refine JO.eff rfl rfl rfl (JEff.appendL (rep := rI64) rfl rfl rfl rfl (List.Perm.swap _ _ _) (by exact hvv.flat) (by intro c hc; exact flat_one (fun v hv => (hvv.size v hv).2) c hc) (by first | omega | (unfold big; omega)) (by unfold big; omega) (by first | exact rowT_ok | (intro l hl; cases hl)) rfl ?_); intro a2 c2; clear hvv hbb)
      repeat (refine s28_L08e ?_; intros)
      exact JX.roundF (k + 1, a2, c2, vsk ++ [(.int .i64 ((-1 : Int)))]) (by exact lea) ⟨by omega, by (try dsimp only); rw [hst]; exact allV_add (by exact lea) hvk (V_i64.2 ⟨rfl, by unfold Rng; omega⟩) nna, (trivial)⟩ (by (try dsimp only); omega) (by (try dsimp only); rw [hst]; (simp [flat_append] <;> omega)) (by (try dsimp only); rw [hst]; simp only [List.length_append, List.length_cons, List.length_nil]; exact sba) (by exact sba)
  · have hk' := dnlt hc
    obtain rfl : k = s.pods.length := by omega
    repeat (refine s28_L08e ?_; intros)
    refine JX.freezeRow (rep := rI64) (bt := 8) hvk rfl (by unfold big; omega) (by unfold big; omega) (fun S9 hl9 hV9 => ?_)
    (refine JX.ret1 Tryz.results28 (ResV.tmp rfl) (List.nil_sublist _) ?_)
    exact ⟨rfl, hV9⟩
end Go.Dr
namespace Go.Dr
theorem fit_len (s : Snap) (l : List Int) : (fitV s l).length = s.pods.length := fitK_len s l _
theorem fit_odd {s : Snap} {l : List Int} {x : Int} (h : x ∈ fitV s l) : oddP s x = false := by
  obtain ⟨i, _, rfl⟩ := List.mem_map.1 h
  have hr := fitN_rng s l i
  unfold fitAt
  split
  · exact odd_none s
  · rename_i h1
    unfold oddP
    rw [decide_eq_false (by omega), decide_eq_false (by omega)]
    simp only [Bool.false_or, Bool.and_eq_false_iff, decide_eq_false_iff_not]
    by_cases h2 : 0 ≤ fitN s l i
    · right
      cases h3 : lostAt s (fitN s l i) with
      | false => rfl
      | true => exact absurd ⟨h2, h3⟩ h1
    · exact .inl h2
theorem fit_check (s : Snap) (l : List Int) : checkP s (fitV s l) = checkS s := by
  unfold checkP
  by_cases h : checkS s = 0
  · have e1 : z0 (checkS s) = true := by simp [z0, h]
    have e2 : (fitV s l).any (oddP s) = false := by
      rw [List.any_eq_false]
      intro x hx
      rw [fit_odd hx]; simp
    rw [e1, e2, fit_len, h]
    simp
  · have e1 : z0 (checkS s) = false := by simp [z0, h]
    rw [e1]; rfl
end Go.Dr
namespace Go.Dr
section
variable {s : Snap} {p : List Int} (hp : ∀ x ∈ p, x = -1)
include hp
end
end Go.Dr
namespace Go.Dr
end Go.Dr
namespace Go.Dr
theorem zip_set_sub (n : Int) (hn : 0 ≤ n) : ∀ (p : List Int) (pods : List Pod) (i : Nat),
    (((p.set i (-1)).zip pods).filter (fun x => decide (x.1 = n))).map (fun x => x.2) |>.Sublist (((p.zip pods).filter (fun x => decide (x.1 = n))).map (fun x => x.2))
  | [], pods, i => by simp
  | x :: p, [], i => by cases i <;> simp
  | x :: p, y :: pods, 0 => by
    simp only [List.set_cons_zero, List.zip_cons_cons, List.filter_cons]
    rw [if_neg (by simp; omega)]
    split
    · exact List.sublist_cons_self _ _
    · exact List.Sublist.refl _
  | x :: p, y :: pods, i + 1 => by
    have ih := zip_set_sub n hn p pods i
    simp only [List.set_cons_succ, List.zip_cons_cons, List.filter_cons]
    split
    · exact List.Sublist.cons_cons _ ih
    · exact ih
theorem onN_set {s : Snap} {p : List Int} {i n : Nat} : (onN s (p.set i (-1)) n).Sublist (onN s p n) := zip_set_sub n (by omega) p s.pods i
theorem sum_sub {a b : List Int} (h : a.Sublist b) (hb : ∀ x ∈ b, 0 ≤ x) : a.sum ≤ b.sum := by
  induction h with
  | slnil => simp
  | cons x _ ih =>
    have := ih (fun y hy => hb y (by simp [hy]))
    have := hb x (by simp)
    simp only [List.sum_cons]; omega
  | cons_cons x _ ih =>
    have := ih (fun y hy => hb y (by simp [hy]))
    simp only [List.sum_cons]; omega
theorem shaped_req {s : Snap} (h : shapedB s = true) : ∀ x ∈ s.pods, ∀ z ∈ x.req, 0 ≤ z := by
  intro x hx
  unfold shapedB at h
  simp only [Bool.and_eq_true, List.all_eq_true] at h
  have h1 := h.2.1.2 x hx
  unfold podB at h1
  simp only [Bool.and_eq_true] at h1
  exact fun z hz => (check_vec h1.1.1.2.1.1.1 z hz).1
theorem used_set {s : Snap} {p : List Int} (hs : checkS s = 0) (i n k : Nat) (hk : k < 5) : at0 (usedV s (p.set i (-1)) n) k ≤ at0 (usedV s p n) k := by
  have hsh := (checkS_ok hs).1
  have e : ∀ q : List Int, at0 (usedV s q n) k = ((onN s q n).map (fun x => at0 x.req k)).sum := by
    intro q
    unfold usedV at0
    rw [List.getD_eq_getElem?_getD, List.getElem?_map, List.getElem?_range hk]
    rfl
  rw [e, e]
  refine sum_sub (onN_set.map _) fun z hz => ?_
  obtain ⟨x, hx, rfl⟩ := List.mem_map.1 hz
  obtain ⟨w, hw, rfl⟩ := List.mem_map.1 hx
  have hxp : w.2 ∈ s.pods := (List.of_mem_zip (List.mem_filter.1 hw).1).2
  unfold at0
  rw [List.getD_eq_getElem?_getD]
  cases h : w.2.req[k]? with
  | none => simp
  | some y => exact shaped_req hsh _ hxp y (List.mem_of_getElem? h)
theorem cntI_le {n : Nat} {f g : Nat → Bool} (h : ∀ j, j < n → f j = true → g j = true) : cntI n f ≤ cntI n g := by
  induction n with
  | zero => simp [cntI]
  | succ n ih =>
    have := ih (fun j hj => h j (by omega))
    rw [cntI_step, cntI_step]
    have h1 := h n (by omega)
    cases hf : f n with
    | false => rw [if_neg (by simp)]; split <;> omega
    | true => rw [if_pos rfl, if_pos (h1 hf)]; omega
theorem set_get {p : List Int} {i j : Nat} {n : Int} (h : (p.set i (-1))[j]? = some n) (hn : 0 ≤ n) : p[j]? = some n ∧ j ≠ i := by
  rw [List.getElem?_set] at h
  split at h
  · split at h
    · cases h; omega
    · cases h
  · rename_i hne
    exact ⟨h, fun e => hne e.symm⟩
theorem about_set {s : Snap} {p : List Int} {i a : Nat} (x : Near) (b : Bool) : about8 s (p.set i (-1)) a x b ≤ about8 s p a x b ∨ ∀ m, (p.set i (-1))[a]? = some m → m < 0 := by
  by_cases h : ∃ m, (p.set i (-1))[a]? = some m ∧ 0 ≤ m
  · left
    obtain ⟨m, hm, hm0⟩ := h
    have hpa := (set_get hm hm0).1
    unfold about8
    rw [List.length_set]
    refine cntI_le fun j _ hj => ?_
    unfold aboutF at hj ⊢
    rw [hm] at hj
    rw [hpa]
    cases hq : (p.set i (-1))[j]? with
    | none => rw [hq] at hj; simp at hj
    | some n =>
      rw [hq] at hj
      cases hpod : s.pods[j]? with
      | none => rw [hpod] at hj; simp at hj
      | some y =>
        rw [hpod] at hj
        simp only at hj
        have hn : 0 ≤ n := by simp only [Bool.and_eq_true, decide_eq_true_eq] at hj; exact hj.1.1.1
        rw [(set_get hq hn).1]
        exact hj
  · right
    intro m hm
    by_cases h0 : 0 ≤ m
    · exact absurd ⟨m, hm, h0⟩ h
    · omega
theorem double_set {s : Snap} {p : List Int} {i a : Nat} {m : Int} (hm : (p.set i (-1))[a]? = some m) (hm0 : 0 ≤ m) : double8 s (p.set i (-1)) a ≤ double8 s p a := by
  have hpa := (set_get hm hm0).1
  unfold double8
  rw [List.length_set]
  refine cntI_le fun j _ hj => ?_
  unfold doubleF at hj ⊢
  rw [hm] at hj
  rw [hpa]
  cases hq : (p.set i (-1))[j]? with
  | none => rw [hq] at hj; simp at hj
  | some n =>
    rw [hq] at hj
    cases hpod : s.pods[j]? with
    | none => rw [hpod] at hj; simp at hj
    | some y =>
      rw [hpod] at hj
      cases hpa2 : s.pods[a]? with
      | none => rw [hpa2] at hj; simp at hj
      | some r =>
        rw [hpa2] at hj
        simp only at hj
        have hn : n = m := by simp only [Bool.and_eq_true, decide_eq_true_eq] at hj; exact hj.1.2
        rw [(set_get hq (by omega)).1]
        exact hj
theorem of8_set {s : Snap} {p : List Int} {i a : Nat} {kind : Int} (h : (of8 s (p.set i (-1)) kind a).2 = true) : (of8 s p kind a).2 = true ∧ (kind ≠ 4 → (of8 s (p.set i (-1)) kind a).1 ≤ (of8 s p kind a).1) := by
  cases hm : (p.set i (-1))[a]? with
  | none => unfold of8 at h; rw [hm] at h; simp at h
  | some m =>
    by_cases hm0 : 0 ≤ m
    · have hpa := (set_get hm hm0).1
      have hab := fun x b => (about_set (s := s) (p := p) (i := i) (a := a) x b).resolve_right (fun hh => absurd (hh m hm) (by omega))
      have hdb := double_set (s := s) hm hm0
      unfold of8 at h ⊢
      rw [hm] at h ⊢
      rw [hpa]
      cases hx : s.pods[a]? with
      | none => rw [hx] at h; simp at h
      | some x =>
        rw [hx] at h
        simp only at h ⊢
        rw [if_neg (by omega)] at h
        rw [if_neg (show ¬ m < 0 by omega), if_neg (show ¬ m < 0 by omega)]
        cases hnd : s.nodes[m.toNat]? with
        | none => rw [hnd] at h; simp at h
        | some nd =>
          rw [hnd] at h
          simp only at h ⊢
          by_cases k2 : kind = 2
          · simp only [if_pos k2] at h ⊢; exact ⟨trivial, fun _ => Int.le_refl _⟩
          simp only [if_neg k2] at h ⊢
          by_cases k3 : kind = 3
          · simp only [if_pos k3] at h ⊢; exact ⟨trivial, fun _ => Int.le_refl _⟩
          simp only [if_neg k3] at h ⊢
          by_cases k4 : kind = 4
          · simp only [if_pos k4] at h ⊢
            split
            · rename_i h5; rw [if_pos h5] at h; simp at h
            · exact ⟨rfl, fun hh => absurd k4 hh⟩
          simp only [if_neg k4] at h ⊢
          by_cases k5 : kind = 5
          · simp only [if_pos k5] at h ⊢
            split
            · rename_i h5; rw [if_pos h5] at h; simp at h
            · exact ⟨rfl, fun _ => hab _ _⟩
          simp only [if_neg k5] at h ⊢
          split
          · rename_i h5; rw [if_pos h5] at h; simp at h
          · rename_i h5
            rw [if_neg h5] at h
            split
            · rename_i h6; rw [if_pos h6] at h; simp at h
            · exact ⟨rfl, fun _ => hdb⟩
    · unfold of8 at h
      rw [hm] at h
      cases hx : s.pods[a]? with
      | none => rw [hx] at h; simp at h
      | some x =>
        rw [hx] at h
        simp only at h
        rw [if_pos (by omega)] at h
        simp at h
theorem find_named {L : List Clause} (h : L.Pairwise (fun c d => nameC c ≠ nameC d)) {c d : Clause} (hd : d ∈ L) (hn : nameC d = nameC c) : findC L c = d.by_ := by
  have hf := find_self h hd
  simp only [nameC, Prod.mk.injEq] at hn
  unfold findC
  rw [← hn.1, ← hn.2.1, ← hn.2.2, hf]
theorem flat_len_le {f g : Nat → List Clause} : ∀ n : Nat, (∀ i, i < n → (f i).length ≤ (g i).length) → ((List.range n).flatMap f).length ≤ ((List.range n).flatMap g).length
  | 0, _ => by simp
  | n + 1, h => by
    have ih := flat_len_le n (fun i hi => h i (by omega))
    have h1 := h n (by omega)
    rw [List.range_succ, List.flatMap_append, List.flatMap_append, List.length_append, List.length_append]
    simp only [List.flatMap_cons, List.flatMap_nil, List.append_nil]
    omega
theorem off_len {s : Snap} {p : List Int} {i : Nat} (hok : checkP s p = 0) : (allL s (p.set i (-1))).length ≤ (allL s p).length := by
  have hq := checkP_set (i := i) hok (odd_none s)
  unfold allL
  rw [if_pos hok, if_pos hq]
  unfold allC
  have h1 : (capsC s (p.set i (-1))).length = (capsC s p).length := by unfold capsC; rw [capTo_len, capTo_len]
  have h2 : (kindsTo s (p.set i (-1)) 5).length ≤ (kindsTo s p 5).length := by
    unfold kindsTo
    refine flat_len_le 5 fun t _ => ?_
    unfold podsTo
    rw [List.length_set]
    refine flat_len_le p.length fun a _ => ?_
    unfold podC1
    split
    · rename_i h
      rw [if_pos (of8_set h).1]; simp
    · simp
  have h3 : (spreadTo s (p.set i (-1)) s.owners.length).length = (spreadTo s p s.owners.length).length := by
    unfold spreadTo
    refine Nat.le_antisymm (flat_len_le _ fun o _ => ?_) (flat_len_le _ fun o _ => ?_) <;> (unfold spreadC1; split <;> simp)
  have h4 := minTo_len s (p.set i (-1)) s.owners.length
  have h5 := minTo_len s p s.owners.length
  simp only [List.length_append]
  omega
theorem off_by {s : Snap} {p : List Int} {i : Nat} (hok : checkP s p = 0) {c : Clause} (hc : c ∈ allL s (p.set i (-1))) (h4 : c.kind ≠ 4) (h7 : c.kind ≠ 7) (h8 : c.kind ≠ 8) : c.by_ ≤ findC (allL s p) c := by
  have hq := checkP_set (i := i) hok (odd_none s)
  have hnm := allL_names s p
  have hal : allL s p = allC s p := by unfold allL; rw [if_pos hok]
  unfold allL at hc
  rw [if_pos hq] at hc
  unfold allC at hc
  simp only [List.mem_append] at hc
  rcases hc with ((hc | hc) | hc) | hc
  · obtain ⟨n, k, hn, hk, rfl⟩ := mem_caps hc
    have hm : capN s p n k ∈ allL s p := by
      rw [hal]
      unfold allC capsC capTo
      simp only [List.mem_append, List.range_zero, List.map_nil, List.append_nil]
      exact .inl (.inl (.inl (List.mem_flatMap.2 ⟨n, by simpa using hn, List.mem_map.2 ⟨k, by simpa using hk, rfl⟩⟩)))
    refine Int.le_trans ?_ (Int.le_of_eq (find_named hnm hm rfl).symm)
    have := used_set (checkP_ok hok).1 (p := p) i n k hk
    simp only [capN]; omega
  · obtain ⟨t, a, ht, ha, rfl, h⟩ := mem_kinds hc
    obtain ⟨g1, g2⟩ := of8_set h
    rw [List.length_set] at ha
    have hm : (⟨(t : Int) + 2, a, 0, (of8 s p ((t : Int) + 2) a).1⟩ : Clause) ∈ allL s p := by
      rw [hal]
      unfold allC
      simp only [List.mem_append]
      refine .inl (.inl (.inr ?_))
      unfold kindsTo podsTo
      refine List.mem_flatMap.2 ⟨t, by simpa using ht, List.mem_flatMap.2 ⟨a, by simpa using ha, ?_⟩⟩
      unfold podC1
      rw [if_pos g1]; simp
    refine Int.le_trans ?_ (Int.le_of_eq (find_named hnm hm rfl).symm)
    exact g2 h4
  · obtain ⟨o, _, rfl, _⟩ := mem_spread hc
    exact absurd rfl h7
  · obtain ⟨o, _, rfl⟩ := mem_min hc
    exact absurd rfl h8
end Go.Dr
namespace Go.Dr
open Go.Proofs
set_option maxRecDepth 20000
set_option maxHeartbeats 2000000
set_option linter.unusedSimpArgs false
set_option linter.unusedVariables false
theorem p_Clone_int {S : SHeap} {u : Value} {l : List Int} (hu : (rSlice 8 rI64).V S u l) : FnRow Tryz.prog 78 #[u] S 3 rI64 l := by
  have hu0 := hu
  obtain ⟨a, c, rfl, _, hb16, hb, _⟩ := V_slice.1 hu
  unfold big at hb16 hb
  (refine FnRow.enter (args := [.slice a l.length c]) Tryz.func78 rfl Tryz.ntmps78 rfl ?_; intro w0)
  repeat (first | (refine Walk ?_; intros) | refine JC.block ?_)
  refine JO.pure rfl rfl rfl (JPure.eqNil rfl rfl rfl ?_)
  repeat (first | (refine Walk ?_; intros) | refine JC.block ?_)
  refine JC.cond rfl (fun hn => ?_) (fun hn => ?_)
  · have ha : a = none := by simpa using hn
    subst ha
    have hl : l = [] := nil_slice hu0
    subst hl
    repeat (first | (refine Walk ?_; intros) | refine JC.block ?_)
    (first | refine JC.newRow 3 (Rp.sz rI64) ?_ | refine JO.newRow 3 (Rp.sz rI64) ?_ | refine JX.newRow 3 (Rp.sz rI64) ?_)
    exact JX.retRow (vs := []) Tryz.results78 (ResV.tmp rfl) rfl trivial
  · repeat (first | (refine Walk ?_; intros) | refine JC.block ?_)
    refine JO.eff rfl rfl rfl (JEff.build0 rI64 rfl ?_); intro b0
    repeat (first | (refine Walk ?_; intros) | refine JC.block ?_)
    (refine JO.eff rfl rfl rfl (JEff.appendS (rep := rI64) rfl rfl (hu0.mono (by exact lea)) rfl rfl (List.Perm.refl _) (by unfold big; omega) (by unfold big; omega) (by intro l hl; cases hl) rfl ?_); intro a2 c2 us1 hus1)
    repeat (first | (refine Walk ?_; intros) | refine JC.block ?_)
    exact JX.retRow Tryz.results78 (ResV.tmp rfl) (Nat.zero_add _) hus1
end Go.Dr
namespace Go.Dr
open Go.Proofs
set_option maxRecDepth 20000
set_option maxHeartbeats 2000000
set_option linter.unusedSimpArgs false
set_option linter.unusedVariables false
theorem step_rng {S : SHeap} {v : Value} {x : Step} (h : rStep.V S v x) : Rng x.kind ∧ Rng x.pod ∧ Rng x.node := (V_step.1 h).2
end Go.Dr
namespace Go.Dr
open Go.Proofs
set_option maxRecDepth 20000
set_option maxHeartbeats 2000000
set_option linter.unusedSimpArgs false
set_option linter.unusedVariables false
def OwnAns (E : TypeId) (xs : List Int) (z : Int) (w : Value) (S' : SHeap) (M' : List MEnt) : Prop :=
  ∃ a c, w = .tuple #[.slice a xs.length c, .int .i64 z] ∧ ((xs = [] ∧ a = none ∧ M' = []) ∨ (∃ b tl, a = some ⟨b, 0, none⟩ ∧ xs.length ≤ c ∧ M' = [.blk b (.cells (intsT xs tl) E (0, 0))]))
theorem s41_L7f {P K : Prop} (k : K) (h : Goal K → P := by
  intro zk
  (first | refine Walk ?_ | refine JC.block ?_ | refine JC.drawN 9 rfl [0, 1, 2, 3, 4, 5, 6] [0, 1, 2, 3, 4, 5, 6] Tryz_mixed (by decide +kernel) ?_ | (refine JO.eff rfl rfl rfl (JEff.callV rfl (p7_Check (by exact vta) (by exact vta)) rfl ?_); intro zqa zqb) | (refine JO.eff rfl rfl rfl (JEff.callV rfl (p7_there _ _) rfl ?_); intro zqa zqb) | (refine JO.eff rfl rfl rfl (JEff.callRow rfl (p_Clone_int (by exact vta)) rfl ?_); intro zqa zqb zqc zqd zqe zqf) | (refine WBox ?_))
  (repeat (first | revert zqg | revert zqf | revert zqe | revert zqd | revert zqc | revert zqb | revert zqa))
  exact zk.k) : P := h ⟨k⟩
theorem p7_Apply {S : SHeap} {u v xv : Value} {s : Snap} {p : List Int} {x : Step} (hu : rSnap.V S u s) (hv : (rSlice 8 rI64).V S v p) (hx : rStep.V S xv x) : Fn Tryz.prog 41 #[u, v, xv] S [] (OwnAns 3 (applyP s p x).1 (applyP s p x).2) := by
  have hv0 := hv
  obtain ⟨a, c, rfl, _, hb8, hb, hpr⟩ := V_slice.1 hv
  unfold big at hb8 hb
  have hprn : ∀ z ∈ p, Rng z := fun z hz => by
    obtain ⟨q, cs, h, _⟩ := slice_at hv z hz
    exact h.2
  obtain ⟨hxr1, hxr2, hxr3⟩ := step_rng hx
  (refine Fn.enter (args := [u, .slice a p.length c, xv]) Tryz.func41 rfl Tryz.ntmps41 rfl ?_; intro w0)
  repeat (refine s41_L7f ?_; intros)
  refine JC.cond rfl (fun he => ?_) (fun he => ?_)
  · have he : z0 (checkP s p) = false := by simpa [z0] using he
    repeat (refine s41_L7f ?_; intros)
    (refine JX.ret2 Tryz.results41 (ResV.tmp rfl) (ResV.tmp rfl) (List.nil_sublist _) ?_)
    exact ⟨none, 0, by rw [applyP, he]; rfl, .inl ⟨by rw [applyP, he]; rfl, rfl, rfl⟩⟩
  have he : z0 (checkP s p) = true := by simpa [z0] using he
  have hok : checkP s p = 0 := by simpa [z0] using he
  obtain ⟨hs, hlen, hodd⟩ := checkP_ok hok
  obtain ⟨hn8, hp24, ho8⟩ := shaped_small (checkS_ok hs).1
  obtain ⟨kd, pd, nd⟩ := x
  dsimp only at hxr1 hxr2 hxr3
  unfold Rng at hxr2 hxr3
  have hap0 : applyP s p ⟨kd, pd, nd⟩ = (if !decide (kd = 1) && !decide (kd = 2) then ([], 2)
    else if decide (pd < 0) || decide ((p.length : Int) ≤ pd) || decide (nd < 0) || (decide (kd = 2) && decide ((s.nodes.length : Int) ≤ nd)) || (decide (kd = 1) && !decide (nd = 0)) then ([], 9)
    else if (decide (at0 p pd.toNat = -1) == decide (kd = 1)) || (decide (kd = 2) && lostAt s nd) then ([], 110)
    else (p.set pd.toNat (if kd = 2 then nd else -1), 0)) := by rw [applyP, he]; rfl
  by_cases hk1 : kd = 1
  · subst hk1
    by_cases hbad : pd < 0 ∨ (p.length : Int) ≤ pd ∨ nd < 0 ∨ ¬ nd = 0
    · have hap : applyP s p ⟨1, pd, nd⟩ = ([], 9) := by rw [hap0]; simp; intro h1 h2 h3 h4; omega
      rw [hap]
      repeat' (first | (refine s41_L7f ?_; intros) | (refine JO.guard rfl rfl rfl rfl ?_ ?_ <;> intro _) | (refine JC.cond rfl ?_ ?_ <;> intro _))
      all_goals first
        | ((refine JX.ret2 Tryz.results41 (ResV.tmp rfl) (ResV.tmp rfl) (List.nil_sublist _) ?_); exact ⟨none, 0, rfl, .inl ⟨rfl, rfl, rfl⟩⟩)
        | (clear hap hap0; (exfalso; first | (simp only [decide_eq_true_eq, decide_eq_false_iff_not, Bool.not_eq_true', Bool.not_eq_false', Bool.and_eq_true, Bool.or_eq_true, Bool.and_eq_false_iff, Bool.or_eq_false_iff] at *; omega) | (simp_all; done) | (simp_all; omega)))
    · obtain ⟨i, rfl⟩ : ∃ i : Nat, pd = i := ⟨pd.toNat, by omega⟩
      obtain rfl : nd = 0 := by omega
      have hi : i < p.length := by omega
      obtain ⟨z, hz, _⟩ := drop_at hi
      have ecast : ((i : Int)).toNat = i := by omega
      have hz0 := at0_some hz
      have hz' : p[((i : Int)).toNat]? = some z := by rw [ecast]; exact hz
      have e1 : decide ((i : Int) < 0) = false := by simp
      have e2 : decide ((p.length : Int) ≤ (i : Int)) = false := by simp; omega
      have hap : applyP s p ⟨1, i, 0⟩ = (if z = -1 then ([], 110) else (p.set i (-1), 0)) := by rw [hap0]; simp only [e1, e2, ecast, hz0]; by_cases h : z = -1 <;> simp [h]
      have hzr := hprn z (List.mem_of_getElem? hz)
      by_cases hz1 : z = -1
      · rw [hap, if_pos hz1]
        repeat' (first | (refine s41_L7f ?_; intros) | (refine JO.guard rfl rfl rfl rfl ?_ ?_ <;> intro _) | (refine JC.cond rfl ?_ ?_ <;> intro _))
        all_goals first
          | ((refine JX.ret2 Tryz.results41 (ResV.tmp rfl) (ResV.tmp rfl) (List.nil_sublist _) ?_); exact ⟨none, 0, rfl, .inl ⟨rfl, rfl, rfl⟩⟩)
          | (clear hap hap0; (exfalso; first | (simp only [decide_eq_true_eq, decide_eq_false_iff_not, Bool.not_eq_true', Bool.not_eq_false', Bool.and_eq_true, Bool.or_eq_true, Bool.and_eq_false_iff, Bool.or_eq_false_iff] at *; omega) | (simp_all; done) | (simp_all; omega)))
      rw [hap, if_neg hz1]
      repeat' (first | (refine s41_L7f ?_; intros) | (refine JO.guard rfl rfl rfl rfl ?_ ?_ <;> intro _) | (refine JC.cond rfl ?_ ?_ <;> intro _))
      all_goals first
        | (clear hap hap0; (exfalso; first | (simp only [decide_eq_true_eq, decide_eq_false_iff_not, Bool.not_eq_true', Bool.not_eq_false', Bool.and_eq_true, Bool.or_eq_true, Bool.and_eq_false_iff, Bool.or_eq_false_iff] at *; omega) | (simp_all; done) | (simp_all; omega)))
        | skip
      repeat (refine s41_L7f ?_; intros)
      rw [flat_int (by assumption)]
      refine JO.rowBlk (by omega) (fun b tl hab hbb hnc => ?_)
      subst hab
      repeat (refine s41_L7f ?_; intros)
      refine JO.pure rfl rfl rfl (JPure.indexRI rfl rfl rfl (by dsimp only; omega) (by dsimp only; omega) ?_)
      refine JO.eff rfl rfl rfl (JEff.storeIT (i := i) rfl rfl (by unfold Rng; omega) (List.Perm.refl _) (by omega) (by intro l hl; cases hl) ?_)
      repeat (refine s41_L7f ?_; intros)
      refine JX.ret2 Tryz.results41 (ResV.tmp rfl) (ResV.tmp rfl) (List.Sublist.refl _) ?_
      exact ⟨some ⟨b, 0, none⟩, _, by rw [List.length_set], .inr ⟨b, tl, rfl, by rw [List.length_set]; exact hnc, rfl⟩⟩
  · by_cases hk2 : kd = 2
    · subst hk2
      by_cases hbad : pd < 0 ∨ (p.length : Int) ≤ pd ∨ nd < 0 ∨ (s.nodes.length : Int) ≤ nd
      · have hap : applyP s p ⟨2, pd, nd⟩ = ([], 9) := by rw [hap0]; simp; intro h1 h2 h3 h4; omega
        rw [hap]
        repeat' (first | (refine s41_L7f ?_; intros) | (refine JO.guard rfl rfl rfl rfl ?_ ?_ <;> intro _) | (refine JC.cond rfl ?_ ?_ <;> intro _))
        all_goals first
          | ((refine JX.ret2 Tryz.results41 (ResV.tmp rfl) (ResV.tmp rfl) (List.nil_sublist _) ?_); exact ⟨none, 0, rfl, .inl ⟨rfl, rfl, rfl⟩⟩)
          | (clear hap hap0; (exfalso; first | (simp only [decide_eq_true_eq, decide_eq_false_iff_not, Bool.not_eq_true', Bool.not_eq_false', Bool.and_eq_true, Bool.or_eq_true, Bool.and_eq_false_iff, Bool.or_eq_false_iff] at *; omega) | (simp_all; done) | (simp_all; omega)))
      · obtain ⟨i, rfl⟩ : ∃ i : Nat, pd = i := ⟨pd.toNat, by omega⟩
        obtain ⟨m, rfl⟩ : ∃ m : Nat, nd = m := ⟨nd.toNat, by omega⟩
        have hi : i < p.length := by omega
        obtain ⟨z, hz, _⟩ := drop_at hi
        obtain ⟨nn, hnn, _⟩ := drop_at (l := s.nodes) (show m < s.nodes.length by omega)
        have ecast : ((i : Int)).toNat = i := by omega
        have ecast2 : ((m : Int)).toNat = m := by omega
        have hz0 := at0_some hz
        have hz' : p[((i : Int)).toNat]? = some z := by rw [ecast]; exact hz
        have hnn' : s.nodes[((m : Int)).toNat]? = some nn := by rw [ecast2]; exact hnn
        have hlo : lostAt s m = nn.lost := by simp [lostAt, hnn]
        have e1 : decide ((i : Int) < 0) = false := by simp
        have e2 : decide ((p.length : Int) ≤ (i : Int)) = false := by simp; omega
        have e3 : decide ((m : Int) < 0) = false := by simp
        have e4 : decide ((s.nodes.length : Int) ≤ (m : Int)) = false := by simp; omega
        have hap : applyP s p ⟨2, i, m⟩ = (if ¬ z = -1 ∨ nn.lost = true then ([], 110) else (p.set i m, 0)) := by rw [hap0]; simp only [e1, e2, e3, e4, ecast, hz0, hlo]; by_cases h : z = -1 <;> simp [h]
        have hzr := hprn z (List.mem_of_getElem? hz)
        by_cases hst : ¬ z = -1 ∨ nn.lost = true
        · rw [hap, if_pos hst]
          repeat' (first | (refine s41_L7f ?_; intros) | (refine JO.guard rfl rfl rfl rfl ?_ ?_ <;> intro _) | (refine JC.cond rfl ?_ ?_ <;> intro _))
          all_goals first
            | ((refine JX.ret2 Tryz.results41 (ResV.tmp rfl) (ResV.tmp rfl) (List.nil_sublist _) ?_); exact ⟨none, 0, rfl, .inl ⟨rfl, rfl, rfl⟩⟩)
            | (clear hap hap0; (exfalso; first | (simp only [decide_eq_true_eq, decide_eq_false_iff_not, Bool.not_eq_true', Bool.not_eq_false', Bool.and_eq_true, Bool.or_eq_true, Bool.and_eq_false_iff, Bool.or_eq_false_iff] at *; omega) | (simp_all; done) | (simp_all; omega)))
        rw [hap, if_neg hst]
        repeat' (first | (refine s41_L7f ?_; intros) | (refine JO.guard rfl rfl rfl rfl ?_ ?_ <;> intro _) | (refine JC.cond rfl ?_ ?_ <;> intro _))
        all_goals first
          | (clear hap hap0; (exfalso; first | (simp only [decide_eq_true_eq, decide_eq_false_iff_not, Bool.not_eq_true', Bool.not_eq_false', Bool.and_eq_true, Bool.or_eq_true, Bool.and_eq_false_iff, Bool.or_eq_false_iff] at *; omega) | (simp_all; done) | (simp_all; omega)))
          | skip
        repeat (refine s41_L7f ?_; intros)
        rw [flat_int (by assumption)]
        refine JO.rowBlk (by omega) (fun b tl hab hbb hnc => ?_)
        subst hab
        repeat (refine s41_L7f ?_; intros)
        refine JO.pure rfl rfl rfl (JPure.indexRI rfl rfl rfl (by dsimp only; omega) (by dsimp only; omega) ?_)
        refine JO.eff rfl rfl rfl (JEff.storeIT (i := i) rfl rfl (by unfold Rng; omega) (List.Perm.refl _) (by omega) (by intro l hl; cases hl) ?_)
        repeat (refine s41_L7f ?_; intros)
        refine JX.ret2 Tryz.results41 (ResV.tmp rfl) (ResV.tmp rfl) (List.Sublist.refl _) ?_
        exact ⟨some ⟨b, 0, none⟩, _, by rw [List.length_set], .inr ⟨b, tl, rfl, by rw [List.length_set]; exact hnc, rfl⟩⟩
    · have hap : applyP s p ⟨kd, pd, nd⟩ = ([], 2) := by rw [hap0]; simp [hk1, hk2]
      rw [hap]
      repeat' (first | (refine s41_L7f ?_; intros) | (refine JO.guard rfl rfl rfl rfl ?_ ?_ <;> intro _) | (refine JC.cond rfl ?_ ?_ <;> intro _))
      all_goals first
        | ((refine JX.ret2 Tryz.results41 (ResV.tmp rfl) (ResV.tmp rfl) (List.nil_sublist _) ?_); exact ⟨none, 0, rfl, .inl ⟨rfl, rfl, rfl⟩⟩)
        | (clear hap hap0; (exfalso; first | (simp only [decide_eq_true_eq, decide_eq_false_iff_not, Bool.not_eq_true', Bool.not_eq_false', Bool.and_eq_true, Bool.or_eq_true, Bool.and_eq_false_iff, Bool.or_eq_false_iff] at *; omega) | (simp_all; done) | (simp_all; omega)))
end Go.Dr
namespace Go.Dr
open Go.Proofs
set_option maxRecDepth 20000
set_option maxHeartbeats 2000000
set_option linter.unusedSimpArgs false
set_option linter.unusedVariables false
theorem s42_L08h {P K : Prop} (k : K) (h : Goal K → P := by
  intro zk
  (first | refine Walk ?_ | refine JC.block ?_ | refine JC.drawN 4 rfl [0, 1, 2, 3, 4, 5, 6, 7, 8, 9, 10, 11, 12, 13, 14, 15, 16, 17, 18, 19, 20, 21, 22, 23, 24, 25, 26, 27] [0, 1, 2, 3, 4, 5, 6, 7, 8, 9, 10, 11, 12, 13, 14, 15, 16, 17, 18, 19, 20, 21, 22, 23, 24, 25, 26, 27] Tryz_mixed (by decide +kernel) ?_ | (refine WBox ?_))
  (repeat (first | revert zqg | revert zqf | revert zqe | revert zqd | revert zqc | revert zqb | revert zqa))
  exact zk.k) : P := h ⟨k⟩
theorem q8_find {S : SHeap} {u v : Value} {L : List Clause} {c : Clause} (hu : (rSlice 32 rClause).V S u L) (hv : rClause.V S v c) : FnV Tryz.prog 42 #[u, v] S (.int .i64 (findC L c)) := by
  obtain ⟨a0, c0, rfl, _, _, hb, _⟩ := V_slice.1 hu
  unfold big at hb
  (refine Fn.enter (args := [.slice a0 L.length c0, v]) Tryz.func42 rfl Tryz.ntmps42 rfl ?_; intro w0)
  repeat (refine s42_L08h ?_; intros)
  unfold findC
  refine JC.loopF0 [(0, _), (3, _)] (fun (k : Nat) => [(5, .int .i64 k)]) (fun Sk k => k ≤ L.length ∧ ((L.drop k).find? (isC c.kind c.a c.b) = L.find? (isC c.kind c.a c.b))) (fun k => L.length - k) 0 (by exact sba) (by exact sba) ⟨Nat.zero_le _, rfl⟩ ?_; intro Sk k hlk hik; obtain ⟨hk, hik⟩ := hik; (try dsimp only at hk hik); dsimp only [List.cons_append, List.nil_append]
  repeat (refine s42_L08h ?_; intros)
  refine JC.cond rfl (fun hc => ?_) (fun hc => ?_)
  · have hk' := dlt hc
    obtain ⟨x, hx, hd⟩ := drop_at hk'
    rw [hd, List.find?_cons] at hik
    repeat' (first | (refine s42_L08h ?_; intros) | (refine JO.guard rfl rfl rfl rfl ?_ ?_ <;> intro _) | (refine JC.cond rfl ?_ ?_ <;> intro _))
    all_goals first
      | ((refine JX.ret1 Tryz.results42 (ResV.tmp rfl) (List.nil_sublist _) ?_); have hx : isC c.kind c.a c.b x = true := (by simp [isC, *]); rw [hx] at hik; exact ⟨rfl, by rw [← hik]⟩)
      | (exfalso; simp_all; done)
      | (have hx : isC c.kind c.a c.b x = false := (by simp_all [isC]); rw [hx] at hik; exact JX.roundF (k + 1) (by exact lea) ⟨by omega, hik⟩ (by (try dsimp only); omega) rfl (by exact sba) (by exact sba))
  · have hk' := dnlt hc
    rw [List.drop_eq_nil_of_le hk'] at hik
    repeat (refine s42_L08h ?_; intros)
    (refine JX.ret1 Tryz.results42 (ResV.tmp rfl) (List.nil_sublist _) ?_)
    exact ⟨rfl, by rw [← hik]; rfl⟩
theorem apply_off {s : Snap} {p : List Int} {i : Nat} {z : Int} (hok : checkP s p = 0) (hz : p[i]? = some z) (h0 : 0 ≤ z) : applyP s p ⟨1, i, 0⟩ = (p.set i (-1), 0) := by
  have hi := (List.getElem?_eq_some_iff.1 hz).1
  have e : ((i : Int)).toNat = i := by omega
  have hz0 := at0_some hz
  have e1 : decide ((i : Int) < 0) = false := by simp
  have e2 : decide ((p.length : Int) ≤ (i : Int)) = false := by simp; omega
  unfold applyP
  simp only [e, hz0, hok, e1, e2, z0]
  rw [decide_eq_false (show ¬ z = -1 by omega)]
  simp
theorem s10_L08h {P K : Prop} (k : K) (h : Goal K → P := by
  intro zk
  (first | refine Walk ?_ | refine JC.block ?_ | refine JC.drawN 20 rfl [0, 1, 2, 3, 4, 5, 6, 7, 8, 9, 10, 11, 12, 13, 14, 15, 16, 17, 18, 19, 20] [0, 1, 2, 3, 4, 5, 6, 7, 8, 9, 10, 11, 12, 13, 16, 17, 19, 20] Tryz_mixed (by decide +kernel) ?_ | (refine JO.eff rfl rfl rfl (JEff.callR rfl (q8_cut (by exact vta)) rfl ?_); intro zqa zqb zqc zqd) | (refine JO.eff rfl rfl rfl (JEff.callLE rfl (p8_All (by exact vta) (by exact vta)) rfl ?_); intro zqa zqb zqc zqd zqe zqf) | (refine JO.eff rfl rfl rfl (JEff.callV rfl (q8_works) rfl ?_); intro zqa zqb) | (refine JO.eff rfl rfl rfl (JEff.callL rfl (q8_fitted (by exact vta) (by exact vta) (by first | assumption | omega) (by first | assumption | omega)) rfl ?_); intro zqa zqb zqc zqd zqe zqf) | (refine JO.eff rfl rfl rfl (JEff.callV rfl (p7_Check (by exact vta) (by exact vta)) rfl ?_); intro zqa zqb) | (refine JO.eff rfl rfl rfl (JEff.callV rfl (q8_find (by exact vta) (by exact vta)) rfl ?_); intro zqa zqb) | (refine WNew ?_) | (refine WPut ?_))
  (repeat (first | revert zqg | revert zqf | revert zqe | revert zqd | revert zqc | revert zqb | revert zqa))
  exact zk.k) : P := h ⟨k⟩
theorem a8_ClauseOff {S : SHeap} {u v : Value} {s : Snap} {l : List Int} (hu : rSnap.V S u s) (hv : (rSlice 8 rI64).V S v l) : FnV Tryz.prog 10 #[u, v] S (.bool true) := by
  obtain ⟨cs, rfl, hcs⟩ := V_agg rfl hu
  (refine Fn.enter (args := [.agg cs.toArray, v]) Tryz.func10 rfl Tryz.ntmps10 rfl ?_; intro w0)
  repeat (refine s10_L08h ?_; intros)
  refine JO.eff rfl rfl rfl (JEff.box rfl rfl ?_); intro bb hbb
  repeat (refine s10_L08h ?_; intros)
  refine JO.pure rfl rfl rfl (JPure.loadM (rep := rSnap) (x0 := s) (mid := cs) rfl (by (first | exact List.mem_cons_self | exact List.mem_cons_of_mem _ List.mem_cons_self | exact List.mem_cons_of_mem _ (List.mem_cons_of_mem _ List.mem_cons_self))) (by show cs.take 3 = cs; exact List.take_of_length_le (by rw [rSnap.len hcs]; exact Nat.le_refl _)) (rSnap.mono (by exact lea) hcs) (.inl rfl) rfl ?_)
  refine JO.eff rfl rfl rfl (JEff.callR rfl (q8_cut (Rp.val_V (rSnap.mono (by exact lea) hcs))) rfl ?_); intro cw S1 hl1 hcw
  repeat (refine s10_L08h ?_; intros)
  refine JO.eff rfl rfl rfl (JEff.storeW rfl rfl hcw nna (List.Perm.refl _) (by show 3 = cs.length; exact (rSnap.len hcs).symm) (by intro l hl; cases hl) ?_)
  refine JO.freezeV hcw nna hbb (by intro l hl; cases hl) ?_; intro S2 hl2 hpb
  have hn : (cutS s).nodes.length ≤ 1000 := by simp only [cutS, List.length_take]; omega
  have hpd : (cutS s).pods.length ≤ 1000 := by simp only [cutS, List.length_take]; omega
  generalize cutS s = s' at *
  have hP := fit_check s' l
  obtain ⟨hLl, hLr⟩ := allL_rng s' (fitV s' l)
  have hfl := fit_len s' l
  by_cases hc : checkS s' = 0
  · rw [hc] at hP
    obtain ⟨_, _, hp24, _, _, _, hpr⟩ := placed_hyps hP
    repeat (refine s10_L08h ?_; intros)
    refine JC.cond rfl (fun h1 => ?_) (fun h1 => ?_)
    · (exfalso; first | (simp only [decide_eq_true_eq, decide_eq_false_iff_not, Bool.not_eq_true', Bool.not_eq_false', Bool.and_eq_true, Bool.or_eq_true, Bool.and_eq_false_iff, Bool.or_eq_false_iff] at *; omega) | (simp_all; done) | (simp_all; omega))
    repeat (refine s10_L08h ?_; intros)
    refine JC.loopF0 (σ := Nat) [(2, _), (5, _), (6, _)] (fun q => [(8, .int .i64 q)]) (fun Si q => q ≤ (fitV s' l).length) (fun q => (fitV s' l).length - q) (0) (by exact sba) (by exact sba) (Nat.zero_le _) ?_; rintro Si k hli hii; (try dsimp only at hii); dsimp only [List.cons_append, List.nil_append]
    repeat (refine s10_L08h ?_; intros)
    refine JC.cond rfl (fun hc1 => ?_) (fun hc1 => ?_)
    · have hk' := dlt hc1
      obtain ⟨z, hz, _⟩ := drop_at hk'
      have hzr := hpr z (List.mem_of_getElem? hz)
      repeat (refine s10_L08h ?_; intros)
      refine JC.cond rfl (fun hz0 => ?_) (fun hz0 => ?_)
      · repeat (refine s10_L08h ?_; intros)
        exact JX.roundF (k + 1) (by exact lea) (by omega) (by (try dsimp only); omega) rfl (by exact sba) (by exact sba)
      · have hz0' := of_decide_eq_false hz0
        have hap := apply_off hP hz (by omega)
        have hq := checkP_set (i := k) hP (odd_none s')
        have hol := off_len (i := k) hP
        have hob := fun c hc => off_by (i := k) (c := c) hP hc
        repeat (refine s10_L08h ?_; intros)
        have hxv : ∀ S, rStep.V S (.agg (flatCells [.int .i64 1, .int .i64 k, .int .i64 0]).toArray) ⟨1, k, 0⟩ := fun S => V_step.2 ⟨by simp [flatCells, Value.cells], by simp [Rng], by unfold Rng; dsimp only; omega, by simp [Rng]⟩
        refine JO.eff rfl rfl rfl (JEff.callM (Mc := []) rfl (List.Perm.refl _) (mayAll rfl) (p7_Apply (s := s') (p := fitV s' l) (x := ⟨1, k, 0⟩) (by exact vta) (by exact vta) (hxv _)) rfl ?_); intro w S3 M3 hl3 hw
        rw [hap] at hw
        obtain ⟨aa, ca, rfl, hw⟩ := hw
        dsimp only at hw
        rcases hw with ⟨h1, _, _⟩ | ⟨b, tl, rfl, hqc, rfl⟩
        · have h2 : ((fitV s' l).set k (-1)).length = 0 := by rw [h1]; rfl
          rw [List.length_set] at h2; omega
        obtain ⟨_, _, _, _, _, _, hqr⟩ := placed_hyps hq
        have hql : ((fitV s' l).set k (-1)).length ≤ 24 := by rw [List.length_set]; exact hp24
        obtain ⟨hL2, _⟩ := allL_rng s' ((fitV s' l).set k (-1))
        dsimp only [List.cons_append, List.nil_append]
        refine JO.blkNew rfl (fun hb0 hbb2 => ?_)
        refine JO.freeze hbb2 (by intro l hl; cases hl) (fun S4 hl4 hS4 => ?_)
        have hVq := blk_slice (SHeap.le.refl S4) hS4 rfl hqc (by unfold big; omega) hqr
        repeat (refine s10_L08h ?_; intros)
        rw [decide_eq_true hq]
        repeat (refine s10_L08h ?_; intros)
        rw [decide_eq_false (show ¬ ((allL s' (fitV s' l)).length : Int) < ((allL s' ((fitV s' l).set k (-1))).length : Int) by omega)]
        repeat (refine s10_L08h ?_; intros)
        refine JC.loopF0 (σ := Nat) [(2, _), (5, _), (6, _), (8, _), (11, _)] (fun q => [(13, .int .i64 q)]) (fun Sj q => q ≤ (allL s' ((fitV s' l).set k (-1))).length) (fun q => (allL s' ((fitV s' l).set k (-1))).length - q) (0) (by exact sba) (by exact sba) (Nat.zero_le _) ?_; rintro Sj m hlj hij; (try dsimp only at hij); dsimp only [List.cons_append, List.nil_append]
        repeat (refine s10_L08h ?_; intros)
        refine JC.cond rfl (fun hc2 => ?_) (fun hc2 => ?_)
        · have hk2 := dlt hc2
          obtain ⟨x, hx, _⟩ := drop_at hk2
          have hxo := hob x (List.mem_of_getElem? hx)
          repeat (refine s10_L08h ?_; intros)
          refine JO.guard rfl rfl rfl rfl (fun g4 => ?_) (fun g4 => ?_)
          · repeat (refine s10_L08h ?_; intros)
            refine JO.guard rfl rfl rfl rfl (fun g7 => ?_) (fun g7 => ?_)
            · repeat (refine s10_L08h ?_; intros)
              refine JO.guard rfl rfl rfl rfl (fun g8 => ?_) (fun g8 => ?_)
              · have hle := hxo (by simpa using g4) (by simpa using g7) (by simpa using g8)
                repeat (refine s10_L08h ?_; intros)
                rw [decide_eq_false (show ¬ findC (allL s' (fitV s' l)) x < x.by_ by omega)]
                repeat (refine s10_L08h ?_; intros)
                exact JX.roundF (m + 1) (by exact lea) (by omega) (by (try dsimp only); omega) rfl (by exact sba) (by exact sba)
              · repeat (refine s10_L08h ?_; intros)
                exact JX.roundF (m + 1) (by exact lea) (by omega) (by (try dsimp only); omega) rfl (by exact sba) (by exact sba)
            · repeat (refine s10_L08h ?_; intros)
              exact JX.roundF (m + 1) (by exact lea) (by omega) (by (try dsimp only); omega) rfl (by exact sba) (by exact sba)
          · repeat (refine s10_L08h ?_; intros)
            exact JX.roundF (m + 1) (by exact lea) (by omega) (by (try dsimp only); omega) rfl (by exact sba) (by exact sba)
        · repeat (refine s10_L08h ?_; intros)
          exact JX.roundF (k + 1) (by exact lea) (by omega) (by (try dsimp only); omega) rfl (by exact sba) (by exact sba)
    · have hk' := dnlt hc1
      repeat (refine s10_L08h ?_; intros)
      (refine JX.ret1 Tryz.results10 (ResV.tmp rfl) (List.nil_sublist _) ?_)
      exact ⟨rfl, rfl⟩
  · repeat (refine s10_L08h ?_; intros)
    refine JC.cond rfl (fun h1 => ?_) (fun h1 => ?_)
    · have hP' : ¬ checkP s' (fitV s' l) = 0 := by rw [hP]; exact hc
      have hA : allL s' (fitV s' l) = [] := by unfold allL; rw [if_neg hP']
      repeat (refine s10_L08h ?_; intros)
      rw [decide_eq_true (rfl : checkP s' (fitV s' l) = checkP s' (fitV s' l))]
      repeat (refine s10_L08h ?_; intros)
      rw [hA]
      repeat (refine s10_L08h ?_; intros)
      (refine JX.ret1 Tryz.results10 (ResV.tmp rfl) (List.nil_sublist _) ?_)
      exact ⟨rfl, rfl⟩
    · rw [hP] at h1
      exact absurd (by simpa using h1) hc
end Go.Dr
namespace Go.Dr
open Go.RowKit
def heapS (w : World) : SHeap := fun b => w.heap[b]?
theorem agree_heapS (w : World) : Agree (heapS w) w := fun _ _ h => h
theorem heapS_cell {w : World} {a : Addr} {v : Value} (h : w.cell? a = some v) : (heapS w).cell? a = some v := by
  unfold World.cell? at h
  unfold SHeap.cell? heapS
  exact h
class RdR {α : Type} (P : Program) (T : TypeId) (rep : Rp α) : Prop where
  rd : ∀ {H : Type} {enc : TypeId × Value → H} {w : World} {base : Nat} {spare : Nat → Bool} {held : Bool} {fuel : Nat} {cs : List Value} {d : DataW H} {ps : List MemPlace},
    DataW.trod enc P w base spare held fuel T cs = some (d, ps) → (∀ n ∈ d.weights P T, n ≤ reachBytes) → ∃ x, rep.R (heapS w) cs x
theorem cells_sz {α : Type} {P : Program} {T : TypeId} {rep : Rp α} (h : TyR P T rep) : P.cellsOf T = rep.sz := by
  obtain ⟨i, hi, hs⟩ := h.i
  unfold Program.cellsOf
  rw [hi]
  exact hs
theorem bytes_of {P : Program} {E : TypeId} {bt : Nat} (h : Byt P E bt) : P.bytesOf E = bt := by
  have := h.h
  unfold Program.bytesOf
  rw [this]; rfl
instance {P : Program} {T : TypeId} [h : Und P T (.int .i64)] : RdR P T rI64 where
  rd ht _ := by
    obtain ⟨n, rfl, _, hw⟩ := DataW.trod_int h.h ht
    refine ⟨n, rfl, ?_⟩
    simp only [Lit.wf, Bool.and_eq_true, decide_eq_true_eq] at hw
    exact hw
instance {P : Program} {T : TypeId} [h : Und P T .bool] : RdR P T rBool where
  rd ht _ := by
    obtain ⟨b, rfl, _⟩ := DataW.trod_bool h.h ht
    exact ⟨b, rfl⟩
theorem reach_big : reachBytes ≤ big := by decide
instance {P : Program} {T : TypeId} [h : Und P T .string] : RdR P T rStr where
  rd ht hw := by
    obtain ⟨s, rfl, hd, hs⟩ := DataW.trod_string h.h ht
    cases hd
    refine ⟨s, rfl, ?_⟩
    have := hw s.data.toList.length (by simp [DataW.weights])
    have e : s.data.toList.length = s.size := Array.length_toList
    have := reach_big
    omega
theorem list_of {α : Type} : ∀ {n : Nat} {q : Nat → α → Prop}, (∀ i, i < n → ∃ x, q i x) → ∃ l : List α, l.length = n ∧ ∀ i x, l[i]? = some x → q i x
  | 0, _, _ => ⟨[], rfl, fun i x h => by simp at h⟩
  | n + 1, q, h => by
    obtain ⟨x, hx⟩ := h 0 (by omega)
    obtain ⟨l, hl, hq⟩ := list_of (n := n) (q := fun i => q (i + 1)) (fun i hi => h (i + 1) (by omega))
    refine ⟨x :: l, by simp [hl], fun i y hy => ?_⟩
    cases i with
    | zero => cases hy; exact hx
    | succ i => exact hq i y hy
theorem weights_all {H : Type} {P : Program} {e : TypeId} : ∀ {l : List (DataW H)} {d : DataW H} {n : Nat}, d ∈ l → n ∈ d.weights P e → n ∈ DataW.weightsAll P e l
  | a :: l, d, n, hd, hn => by
    simp only [DataW.weightsAll, List.mem_append]
    rcases List.mem_cons.1 hd with rfl | hd
    · exact .inl hn
    · exact .inr (weights_all hd hn)
instance {α : Type} {P : Program} {T E : TypeId} {bt : Nat} {rep : Rp α} [hu : Und P T (.slice E)] [hr : RdR P E rep] [ht : TyR P E rep] [hb : Byt P E bt] [hz : NeZero bt] : RdR P T (rSlice bt rep) where
  rd h hw := by
    rcases Deep.open_slice hu.h h with ⟨rfl, _⟩ | ⟨a, len, cap, m, n, D, Pl, rfl, _, hlc, hcm, hm, hx, hel⟩
    · exact ⟨[], none, 0, 0, rfl, rfl, Nat.le_refl _, by simp, Nat.zero_le _, fun i x h => by simp at h⟩
    · cases hx
      have hmb : len ≤ m := by rw [hm]; split <;> omega
      have hrb := reach_big
      have hbt1 : 1 ≤ bt := Nat.one_le_iff_ne_zero.2 hz.out
      have hlen1 : len * 1 ≤ len * bt := Nat.mul_le_mul_left _ hbt1
      have hwt := hw ((((List.range len).map D).length + ((List.range (m - len)).map fun j => D (len + j)).length) * P.bytesOf E) (by simp [DataW.weights, hu.h])
      rw [bytes_of hb] at hwt
      simp only [List.length_map, List.length_range] at hwt
      have hlen : len * bt ≤ (len + (m - len)) * bt := Nat.mul_le_mul_right _ (by omega)
      obtain ⟨xs, hxl, hxs⟩ := list_of (n := len) (q := fun i x => PtrTo (heapS _) (a.add (i * rep.sz)) rep x) (fun i hi => by
        obtain ⟨cs', h1, h2⟩ := hel i (by omega)
        obtain ⟨_, hcl, hcs⟩ := World.cells?_some h1
        obtain ⟨x, hx⟩ := hr.rd h2 (fun k hk => hw k (by
          simp only [DataW.weights, hu.h, List.mem_cons, List.mem_append]
          exact .inr (.inl (weights_all (List.mem_map.2 ⟨i, by simpa using hi, rfl⟩) hk))))
        rw [cells_sz ht] at hcs hcl
        refine ⟨x, cs', hx, fun j v hv => heapS_cell ?_⟩
        have hj := (List.getElem?_eq_some_iff.1 hv).1
        rw [hcs j (by omega)]; exact hv)
      refine ⟨xs, some a, len, cap, rfl, hxl, hlc, by omega, by omega, fun i x h => ⟨a, rfl, hxs i x h⟩⟩
instance {P : Program} {T E : TypeId} {n : Nat} [hu : Und P T (.array n E)] [he : Und P E (.int .i64)] [ht : TyR P E rI64] [htt : TyR P T (rArr n)] : RdR P T (rArr n) where
  rd h _ := by
    rename_i cs d ps _
    obtain ⟨xs, m, rfl, _, hcl, hxl, hx⟩ := DataW.trod_array hu.h h
    have hsz : P.cellsOf E = 1 := cells_sz ht
    rw [cells_sz htt] at hcl
    have hcl : cs.length = n := hcl
    obtain ⟨l, hll, hl⟩ := list_of (n := n) (q := fun i (z : Int) => cs[i]? = some (.int .i64 z) ∧ Rng z) (fun i hi => by
      have h1 := hx i hi
      rw [hsz, Nat.mul_one, List.getElem?_eq_getElem (by omega)] at h1
      obtain ⟨z, hz, _, hw⟩ := DataW.trod_int he.h h1
      refine ⟨z, ?_, ?_⟩
      · have : ((cs.drop i).take 1)[0]? = some (.int .i64 z) := by rw [hz]; rfl
        rw [List.getElem?_take, if_pos (by omega), List.getElem?_drop] at this
        simpa using this
      · simp only [Lit.wf, Bool.and_eq_true, decide_eq_true_eq] at hw
        exact hw)
    refine ⟨l, hll, ?_, fun x hx => ?_⟩
    · apply List.ext_getElem?
      intro i
      rw [List.getElem?_map]
      by_cases hi : i < n
      · have hg : l[i]? = some l[i] := List.getElem?_eq_getElem (by omega)
        rw [hg, (hl i _ hg).1]; rfl
      · rw [List.getElem?_eq_none (by omega), List.getElem?_eq_none (by omega)]; rfl
    · obtain ⟨i, hi⟩ := List.getElem?_of_mem hx
      exact (hl i x hi).2
structure RdF {α : Type} (P : Program) (off : Nat) (fs : List Field) (rep : Rp α) : Prop where
  run : ∀ {H : Type} {enc : TypeId × Value → H} {w : World} {base : Nat} {spare : Nat → Bool} {held : Bool} {m : Nat} {cs : List Value} {xs : List (DataW H × List MemPlace)}, cs.length = off + rep.sz → xs.length = fs.length →
    (∀ (i : Nat) (f : Field), fs[i]? = some f → DataW.trod enc P w base spare held m f.type ((cs.drop f.offset).take (P.cellsOf f.type)) = xs[i]?) →
    (∀ n ∈ DataW.weightsEach P (fs.map (·.type)) (xs.map (·.1)), n ≤ reachBytes) → ∃ x, rep.R (heapS w) (cs.drop off) x
theorem RdF.last {α : Type} {P : Program} {off : Nat} {f : Field} {rep : Rp α} (ho : f.offset = off) (hr : RdR P f.type rep) (hs : P.cellsOf f.type = rep.sz) : RdF P off [f] rep := ⟨by
  intro H enc w base spare held m cs xs hc hl hx hw
  match xs, hl with
  | [y], _ =>
    have h1 := hx 0 f rfl
    rw [ho, hs, List.take_of_length_le (by rw [List.length_drop]; omega)] at h1
    refine hr.rd (d := y.1) (ps := y.2) h1 (fun n hn => hw n ?_)
    simp only [List.map_cons, DataW.weightsEach, List.mem_append]
    exact .inl hn⟩
theorem RdF.cons {α β : Type} {P : Program} {off : Nat} {f : Field} {fs : List Field} {a : Rp α} {b : Rp β} (ho : f.offset = off) (hr : RdR P f.type a) (hs : P.cellsOf f.type = a.sz) (h : RdF P (off + a.sz) fs b) : RdF P off (f :: fs) (rSeq a b) := ⟨by
  intro H enc w base spare held m cs xs hc hl hx hw
  match xs, hl with
  | y :: ys, hl =>
    have hc : cs.length = off + (a.sz + b.sz) := hc
    have h1 := hx 0 f rfl
    rw [ho, hs] at h1
    obtain ⟨x1, hx1⟩ := hr.rd (d := y.1) (ps := y.2) h1 (fun n hn => hw n (by
      simp only [List.map_cons, DataW.weightsEach, List.mem_append]
      exact .inl hn))
    obtain ⟨x2, hx2⟩ := h.run (cs := cs) (xs := ys) (by omega) (by simpa using hl) (fun i g hg => hx (i + 1) g hg) (fun n hn => hw n (by
      simp only [List.map_cons, DataW.weightsEach, List.mem_append]
      exact .inr hn))
    refine ⟨(x1, x2), (cs.drop off).take a.sz, cs.drop (off + a.sz), ?_, hx1, hx2⟩
    rw [← List.drop_drop, List.take_append_drop]⟩
theorem RdR.struct {α : Type} {P : Program} {T : TypeId} {fs : Array Field} {rep : Rp α} (hu : P.underlying T = some (.struct fs)) (hs : P.cellsOf T = rep.sz) (h : RdF P 0 fs.toList rep) : RdR P T rep where
  rd ht hw := by
    obtain ⟨xs, n, rfl, hx, hcl, hxl, hel⟩ := DataW.trod_struct hu ht
    cases hx
    obtain ⟨x, hx⟩ := h.run (xs := xs) (by rw [hcl, hs]; omega) (by simpa using hxl) (fun i f hf => hel i f (by simpa using hf)) (fun k hk => hw k (by simpa [DataW.weights, hu] using hk))
    exact ⟨x, by simpa using hx⟩
theorem RdR.map {α γ : Type} {P : Program} {T : TypeId} {a : Rp α} {f : γ → α} (g : α → γ) (hg : ∀ y, f (g y) = y) (h : RdR P T a) : RdR P T (rMap f a) where
  rd ht hw := by
    obtain ⟨x, hx⟩ := h.rd ht hw
    exact ⟨g x, by show a.R _ _ (f (g x)); rw [hg]; exact hx⟩
theorem notAgg_ok {P : Program} {W : World} {base : Nat} {T : TypeId} {v : Value} {d : TypeDesc} (hu : P.underlying T = some d) (ha : isAggD d = false) (h : Value.okWide P W .any base T v) : ∀ cs, v ≠ .agg cs := by
  rintro cs rfl
  unfold Value.okWide at h
  rw [hu] at h
  cases d <;> first | (cases ha; done) | (simp only [Cell.okWide, Cell.ok, hu] at h; done) | (simp [Cell.okWide, Cell.ok, hu] at h)
theorem agg_ok {P : Program} {W : World} {base : Nat} {T : TypeId} {v : Value} {d : TypeDesc} (hu : P.underlying T = some d) (ha : isAggD d = true) (h : Value.okWide P W .any base T v) : ∃ cs, v = .agg cs := by
  unfold Value.okWide at h
  rw [hu] at h
  cases d <;> first | (cases ha; done) | (obtain ⟨cs, h, _⟩ := h; exact ⟨cs, h⟩)
theorem rd_arg {α : Type} {H : Type} {enc : TypeId × Value → H} {P : Program} {W : World} {base : Nat} {T : TypeId} {v : Value} {d : DataW H} {ps : List MemPlace} (rep : Rp α) [ht : TyR P T rep] [hr : RdR P T rep] (hok : Value.okWide P W .any base T v)
    (h : DataW.Trod enc P W 0 (fun _ => true) true T v d ps) (hw : ∀ n ∈ d.weights P T, n ≤ reachBytes) : ∃ x, rep.V (heapS W) v x := by
  obtain ⟨fuel, hf⟩ := h
  obtain ⟨x, hx⟩ := hr.rd hf hw
  obtain ⟨dd, hd, ha⟩ := ht.u
  cases hag : rep.agg with
  | true =>
    obtain ⟨cs, rfl⟩ := agg_ok hd (ha.trans hag) hok
    exact ⟨x, cs.toList, by simpa [Value.cells] using hx, by simp [hag]⟩
  | false =>
    have hn := notAgg_ok hd (ha.trans hag) hok
    have hc : v.cells = #[v] := by cases v <;> first | rfl | exact absurd rfl (hn _)
    rw [hc] at hx
    exact ⟨x, [v], hx, by simp [hag]⟩
theorem sized_arg {H : Type} {P : Program} {ts : List TypeId} {ds : List (DataW H)} (h : (DataW.weightsEach P ts ds).all (· ≤ reachBytes) = true) {j : Nat} {t : TypeId} {d : DataW H} (ht : ts[j]? = some t) (hd : ds[j]? = some d) : ∀ n ∈ d.weights P t, n ≤ reachBytes := fun n hn => by
  have := List.all_eq_true.1 h _ (DataW.weights_mem_each ht hd n hn)
  simpa using this
theorem FnV.calls {P : Program} {f : FuncId} {args : Array Value} {r : Value} {W : World} (h : FnV P f args (heapS W) r) : Calls P f args W fun e W' => e = .returned r ∧ Below W.heap.size W W' := by
  refine (h W (agree_heapS W) (by simp) .nil (by simp)).mono ?_
  rintro e w' ⟨v, S', M', rfl, hw, rfl, rfl⟩
  exact ⟨rfl, hw.below⟩
end Go.Dr
namespace Go.Dr
open Go.Proofs
set_option maxRecDepth 20000
instance : RdR Tryz.prog 52 rLabel := RdR.map (fun y => ⟨y.1, y.2⟩) (fun _ => rfl) (RdR.struct Tryz.underlying52 (by kernel_rfl) (RdF.cons rfl (show RdR Tryz.prog 9 rStr from inferInstance) (by kernel_rfl) (RdF.last rfl (show RdR Tryz.prog 9 rStr from inferInstance) (by kernel_rfl))))
instance : RdR Tryz.prog 59 rTerm := RdR.map (fun y => ⟨y.1, y.2.1, y.2.2⟩) (fun _ => rfl) (RdR.struct Tryz.underlying59 (by kernel_rfl) (RdF.cons rfl (show RdR Tryz.prog 3 rI64 from inferInstance) (by kernel_rfl) (RdF.cons rfl (show RdR Tryz.prog 9 rStr from inferInstance) (by kernel_rfl) (RdF.last rfl (show RdR Tryz.prog 9 rStr from inferInstance) (by kernel_rfl)))))
instance : RdR Tryz.prog 62 rNear := RdR.map (fun y => ⟨y.1, y.2⟩) (fun _ => rfl) (RdR.struct Tryz.underlying62 (by kernel_rfl) (RdF.cons rfl (show RdR Tryz.prog 9 rStr from inferInstance) (by kernel_rfl) (RdF.last rfl (show RdR Tryz.prog 60 (rSlice 40 rTerm) from inferInstance) (by kernel_rfl))))
instance : RdR Tryz.prog 57 rNode := RdR.map (fun y => ⟨y.1, y.2.1, y.2.2.1, y.2.2.2.1, y.2.2.2.2.1, y.2.2.2.2.2⟩) (fun _ => rfl) (RdR.struct Tryz.underlying57 (by kernel_rfl) (RdF.cons rfl (show RdR Tryz.prog 9 rStr from inferInstance) (by kernel_rfl) (RdF.cons rfl (show RdR Tryz.prog 55 (rArr 5) from inferInstance) (by kernel_rfl) (RdF.cons rfl (show RdR Tryz.prog 53 (rSlice 32 rLabel) from inferInstance) (by kernel_rfl) (RdF.cons rfl (show RdR Tryz.prog 53 (rSlice 32 rLabel) from inferInstance) (by kernel_rfl) (RdF.cons rfl (show RdR Tryz.prog 4 rBool from inferInstance) (by kernel_rfl) (RdF.last rfl (show RdR Tryz.prog 4 rBool from inferInstance) (by kernel_rfl))))))))
instance : RdR Tryz.prog 64 rPod := RdR.map (fun y => ⟨y.1, y.2.1, y.2.2.1, y.2.2.2.1, y.2.2.2.2.1, y.2.2.2.2.2.1, y.2.2.2.2.2.2.1, y.2.2.2.2.2.2.2.1, y.2.2.2.2.2.2.2.2⟩) (fun _ => rfl) (RdR.struct Tryz.underlying64 (by kernel_rfl) (RdF.cons rfl (show RdR Tryz.prog 9 rStr from inferInstance) (by kernel_rfl) (RdF.cons rfl (show RdR Tryz.prog 9 rStr from inferInstance) (by kernel_rfl) (RdF.cons rfl (show RdR Tryz.prog 55 (rArr 5) from inferInstance) (by kernel_rfl) (RdF.cons rfl (show RdR Tryz.prog 53 (rSlice 32 rLabel) from inferInstance) (by kernel_rfl) (RdF.cons rfl (show RdR Tryz.prog 60 (rSlice 40 rTerm) from inferInstance) (by kernel_rfl) (RdF.cons rfl (show RdR Tryz.prog 53 (rSlice 32 rLabel) from inferInstance) (by kernel_rfl) (RdF.cons rfl (show RdR Tryz.prog 62 rNear from inferInstance) (by kernel_rfl) (RdF.cons rfl (show RdR Tryz.prog 62 rNear from inferInstance) (by kernel_rfl) (RdF.last rfl (show RdR Tryz.prog 9 rStr from inferInstance) (by kernel_rfl)))))))))))
instance : RdR Tryz.prog 48 rOwner := RdR.map (fun y => ⟨y.1, y.2.1, y.2.2.1, y.2.2.2.1, y.2.2.2.2⟩) (fun _ => rfl) (RdR.struct Tryz.underlying48 (by kernel_rfl) (RdF.cons rfl (show RdR Tryz.prog 9 rStr from inferInstance) (by kernel_rfl) (RdF.cons rfl (show RdR Tryz.prog 3 rI64 from inferInstance) (by kernel_rfl) (RdF.cons rfl (show RdR Tryz.prog 9 rStr from inferInstance) (by kernel_rfl) (RdF.cons rfl (show RdR Tryz.prog 3 rI64 from inferInstance) (by kernel_rfl) (RdF.last rfl (show RdR Tryz.prog 4 rBool from inferInstance) (by kernel_rfl)))))))
instance : RdR Tryz.prog 26 rSnap := RdR.map (fun y => ⟨y.1, y.2.1, y.2.2⟩) (fun _ => rfl) (RdR.struct Tryz.underlying26 (by kernel_rfl) (RdF.cons rfl (show RdR Tryz.prog 22 (rSlice 112 rNode) from inferInstance) (by kernel_rfl) (RdF.cons rfl (show RdR Tryz.prog 23 (rSlice 240 rPod) from inferInstance) (by kernel_rfl) (RdF.last rfl (show RdR Tryz.prog 24 (rSlice 56 rOwner) from inferInstance) (by kernel_rfl)))))
instance : RdR Tryz.prog 74 rStep := RdR.map (fun y => ⟨y.1, y.2.1, y.2.2⟩) (fun _ => rfl) (RdR.struct Tryz.underlying74 (by kernel_rfl) (RdF.cons rfl (show RdR Tryz.prog 3 rI64 from inferInstance) (by kernel_rfl) (RdF.cons rfl (show RdR Tryz.prog 3 rI64 from inferInstance) (by kernel_rfl) (RdF.last rfl (show RdR Tryz.prog 3 rI64 from inferInstance) (by kernel_rfl)))))
instance : RdR Tryz.prog 40 rClause := RdR.map (fun y => ⟨y.1, y.2.1, y.2.2.1, y.2.2.2⟩) (fun _ => rfl) (RdR.struct Tryz.underlying40 (by kernel_rfl) (RdF.cons rfl (show RdR Tryz.prog 3 rI64 from inferInstance) (by kernel_rfl) (RdF.cons rfl (show RdR Tryz.prog 3 rI64 from inferInstance) (by kernel_rfl) (RdF.cons rfl (show RdR Tryz.prog 3 rI64 from inferInstance) (by kernel_rfl) (RdF.last rfl (show RdR Tryz.prog 3 rI64 from inferInstance) (by kernel_rfl))))))
end Go.Dr
namespace Go.Dr
set_option linter.unusedSimpArgs false
set_option linter.unusedVariables false
theorem run_forIn_unit {P : Program} {α : Type} {g : α → PUnit → Sem (ForInStep PUnit)} {w : World} : ∀ (l : List α), (∀ x ∈ l, (g x ⟨⟩).run P w = .ok (.yield ⟨⟩) w) → (forIn l PUnit.unit g).run P w = .ok ⟨⟩ w
  | [], _ => by simp [Sem.run_pure]
  | x :: l, h => by
    simp only [List.forIn_cons, Sem.run_bind, h x (by simp), Result.andThen_ok]
    exact run_forIn_unit l (fun y hy => h y (by simp [hy]))
theorem flat_field {P : Program} {w : World} : ∀ (fs : List Field) (ks : List Kd) (pre xs : List Value), flatB P pre.length fs ks = true → fits ks xs = true →
    ∀ f ∈ fs, ∃ d v, P.underlying f.type = some d ∧ MapKept.IsKey d v ∧ (part f.type (pre ++ xs).toArray f.offset).run P w = .ok v w
  | [], _, _, _, _, _ => by intro f hf; cases hf
  | _ :: _, [], _, _, h, _ => by cases h
  | f0 :: fs, k :: ks, pre, xs, h, h1 => by
    simp only [flatB, Bool.and_eq_true, Bool.not_eq_true'] at h
    obtain ⟨⟨⟨hn, ho⟩, hk⟩, hr⟩ := h
    have ho := Nat.eq_of_beq_eq_true ho
    have hd := kd_desc hk
    have ha : isAggD (kdD k) = false := by cases k <;> rfl
    obtain ⟨x, xs', rfl, hx, h1'⟩ : ∃ x xs', xs = x :: xs' ∧ MapKept.IsKey (kdD k) x ∧ fits ks xs' = true := by
      cases k with
      | int => match xs, h1 with | .int .i64 a :: xs', h1 => exact ⟨_, _, rfl, by simp [kdD, MapKept.IsKey], h1⟩
      | str => match xs, h1 with | .string a :: xs', h1 => exact ⟨_, _, rfl, by simp [kdD, MapKept.IsKey], h1⟩
      | bool => match xs, h1 with | .bool a :: xs', h1 => exact ⟨_, _, rfl, by simp [kdD, MapKept.IsKey], h1⟩
    intro f hf
    rcases List.mem_cons.1 hf with rfl | hf
    · exact ⟨_, x, hd, hx, by rw [ho]; exact run_part1 hd ha pre x xs' w⟩
    · have := flat_field (w := w) fs ks (pre ++ [x]) xs' (by simpa using hr) h1' f hf
      simpa using this
theorem check_flat {P : Program} {T : TypeId} {ks : List Kd} (h : FlatS P T ks) {xs : List Value} (hx : fits ks xs = true) (e : Bool) (w : World) : (Instr.checkKey e 10000 T (.agg xs.toArray)).run P w = .ok () w := by
  have hb := h.b
  unfold flatT at hb
  split at hb
  · rename_i fs hu
    have hfl := flat_field (w := w) fs.toList ks [] xs hb hx
    unfold Instr.checkKey
    simp only [Sem.run_bind, run_underlying hu, Result.andThen_ok]
    rw [← Array.forIn_toList]
    have := run_forIn_unit (P := P) (w := w) (g := fun (f : Field) (r : PUnit) => (do
      if f.name ≠ "_" then Instr.checkKey e 9999 f.type (← part f.type xs.toArray f.offset)
      pure (ForInStep.yield PUnit.unit) : Sem (ForInStep PUnit))) fs.toList (fun f hf => by
        obtain ⟨d, v, hd, hv, hp⟩ := hfl f hf
        simp only [List.nil_append] at hp
        by_cases hn : f.name ≠ "_"
        · simp only [if_pos hn, Sem.run_bind, hp, Result.andThen_ok, MapKept.run_checkKey hd hv, Sem.run_pure]
        · simp only [if_neg hn, Sem.run_bind, Result.andThen_ok, Sem.run_pure])
    simp [Sem.run_bind, Sem.run_pure, Result.andThen_ok] at this ⊢
    rw [this]
    rfl
  · cases hb
theorem find_asking {κ : Type} [DecidableEq κ] {P : Program} {T : TypeId} {ks : List Kd} (h : FlatS P T ks) {ls : κ → List Value} (hf : ∀ k, fits ks (ls k) = true) (hc : ∀ a b, ceqs (ls a) (ls b) = decide (a = b)) (s : κ) (w : World) : ∀ (l : List (κ × Value)) (n i : Nat),
    ((Instr.findAsking T (.agg (ls s).toArray) (esK (fun k => .agg (ls k).toArray) n l) i).run P w = .ok none w ∧ ∀ p ∈ l, p.1 ≠ s) ∨
    ∃ j p, (Instr.findAsking T (.agg (ls s).toArray) (esK (fun k => .agg (ls k).toArray) n l) i).run P w = .ok (some (i + j, p.2)) w ∧ l[j]? = some p ∧ p.1 = s
  | [], n, i => .inl ⟨by simp [Instr.findAsking, esK, Sem.run_pure], by intro p hp; cases hp⟩
  | (k, v) :: l, n, i => by
    have heq : (Op.equal T (.agg (ls s).toArray) (.agg (ls k).toArray)).run P w = .ok (decide (s = k)) w := by
      have := run_eq_flat h (hf s) (hf k) w
      rw [hc] at this
      exact this
    by_cases hs : s = k
    · refine .inr ⟨0, (k, v), ?_, rfl, hs.symm⟩
      simp only [esK, Instr.findAsking, Sem.run_bind, heq, Result.andThen_ok, decide_eq_true hs, if_true, Sem.run_pure]
      rfl
    · have hstep : (Instr.findAsking T (.agg (ls s).toArray) (esK (fun k => .agg (ls k).toArray) n ((k, v) :: l)) i).run P w = (Instr.findAsking T (.agg (ls s).toArray) (esK (fun k => .agg (ls k).toArray) (n + 1) l) (i + 1)).run P w := by
        simp only [esK, Instr.findAsking, Sem.run_bind, heq, Result.andThen_ok, decide_eq_false hs, Bool.false_eq_true, if_false]
      rw [hstep]
      rcases find_asking h hf hc s w l (n + 1) (i + 1) with ⟨h1, h2⟩ | ⟨j, p, h1, h2, h3⟩
      · refine .inl ⟨h1, fun p hp => ?_⟩
        rcases List.mem_cons.1 hp with rfl | hp
        · exact fun e => hs e.symm
        · exact h2 p hp
      · exact .inr ⟨j + 1, p, by rw [h1]; congr 3; omega, by simpa using h2, h3⟩
theorem sameBits_flat : ∀ (ks : List Kd) (xs : List Value), fits ks xs = true → (xs.zip xs).all (fun (x, y) => Instr.sameBits 9999 x y) = true
  | [], [], _ => rfl
  | .int :: ks, .int .i64 a :: vs, h => by simp only [List.zip_cons_cons, List.all_cons, sameBits_flat ks vs h, Bool.and_true]; simp [Instr.sameBits]
  | .str :: ks, .string a :: vs, h => by simp only [List.zip_cons_cons, List.all_cons, sameBits_flat ks vs h, Bool.and_true]; simp [Instr.sameBits, MapKept.bytes_beq]
  | .bool :: ks, .bool a :: vs, h => by simp only [List.zip_cons_cons, List.all_cons, sameBits_flat ks vs h, Bool.and_true]; simp [Instr.sameBits]
theorem key_flat {κ : Type} [DecidableEq κ] {P : Program} {T : TypeId} {ks : List Kd} (h : FlatS P T ks) {ls : κ → List Value} (hf : ∀ k, fits ks (ls k) = true) (hc : ∀ a b, ceqs (ls a) (ls b) = decide (a = b)) : Key P T (fun k => .agg (ls k).toArray) where
  check e k w := check_flat h (hf k) e w
  find k l w := by
    have hb := h.b
    unfold flatT at hb
    split at hb
    · rename_i fs hu
      have hask : (Instr.findKey T (.agg (ls k).toArray) (esK (fun k => .agg (ls k).toArray) 0 l)).run P w = (Instr.findAsking T (.agg (ls k).toArray) (esK (fun k => .agg (ls k).toArray) 0 l) 0).run P w := by
        cases l with
        | nil => simp [Instr.findKey, run_underlying hu, Result.andThen, esK, Instr.findNow, Instr.findAsking, Sem.run_pure]
        | cons p l => simp [Instr.findKey, run_underlying hu, Result.andThen, esK, Instr.findNow, Instr.sameNow]
      rw [hask]
      rcases find_asking h hf hc k w l 0 0 with h1 | ⟨j, p, h1, h2⟩
      · exact .inl h1
      · exact .inr ⟨j, p, by rw [h1]; simp, h2⟩
    · cases hb
  stays k w := by
    have : Instr.sameBits 10000 (.agg (ls k).toArray) (.agg (ls k).toArray) = true := by
      simp only [Instr.sameBits, sameBits_flat ks _ (hf k)]
      simp
    simp [Instr.keyThatStays, this, Sem.run_pure]
section
variable {C : Cx} {R : Rg} {Q : Post} {S S' S1 : SHeap} {M M' : List MEnt} {e e' : Env} {rest : List Nat}
variable {d : Nat} {ty : TypeId} {pos : String} {aft : Array Edge} {g : Option (Nat × Bool)} {an : Bool}
end
end Go.Dr
namespace Go.Dr
open Go.Proofs
set_option maxRecDepth 20000
set_option maxHeartbeats 2000000
set_option linter.unusedSimpArgs false
set_option linter.unusedVariables false
def nm (c : Clause) : Step := ⟨c.kind, c.a, c.b⟩
def kvN (x : Step) : Value := .agg [Value.int .i64 x.kind, .int .i64 x.pod, .int .i64 x.node].toArray
instance : TyR Tryz.prog 104 rStep := ⟨by kernel_rfl⟩
instance : FlatS Tryz.prog 104 [.int, .int, .int] := ⟨by kernel_rfl, by kernel_rfl, by kernel_rfl⟩
instance : Key Tryz.prog 104 kvN := key_flat (κ := Step) (ls := fun x => [Value.int .i64 x.kind, .int .i64 x.pod, .int .i64 x.node]) (inferInstance : FlatS Tryz.prog 104 [.int, .int, .int]) (fun _ => rfl) (fun a b => by cases a; cases b; rw [Bool.eq_iff_iff]; simp [ceqs])
theorem nm_eq {c d : Clause} : nm c = nm d ↔ nameC c = nameC d := by cases c; cases d; simp [nm, nameC]
theorem p9_of {S : SHeap} {u : Value} {x : Clause} (hu : rClause.V S u x) : FnV Tryz.prog 75 #[u] S (kvN (nm x)) := by
  obtain ⟨rfl, h1, h2, h3, h4⟩ := V_clause.1 hu
  (refine Fn.enter (args := [.agg #[.int .i64 x.kind, .int .i64 x.a, .int .i64 x.b, .int .i64 x.by_]]) Tryz.func75 rfl Tryz.ntmps75 rfl ?_; intro w0)
  repeat (first | (refine Walk ?_; intros) | refine JC.block ?_ | (refine WBox ?_; intros))
  (refine JO.eff rfl rfl rfl (JEff.alloc rfl ?_); intro cb hcb)
  repeat (first | (refine Walk ?_; intros) | refine JC.block ?_ | (refine WBox ?_; intros))
  have hV : ∀ S, rStep.V S (kvN (nm x)) (nm x) := fun S => V_step.2 ⟨rfl, h1, h2, h3⟩
  refine JO.eff rfl rfl rfl (JEff.storeW rfl rfl (hV _) nna (List.Perm.refl _) rfl (by intro l hl; cases hl) ?_)
  refine JO.freezeV (hV _) nna hcb (by intro l hl; cases hl) ?_; intro S2 hl2 hpo
  repeat (first | (refine Walk ?_; intros) | refine JC.block ?_ | (refine WBox ?_; intros))
  exact JX.retCell Tryz.results75 rfl hpo (List.nil_sublist _) (fun w hw => ⟨rfl, by obtain ⟨rfl, _⟩ := V_step.1 hw; rfl⟩)
def bys (l : List Clause) : List (Step × Value) := l.map (fun c => (nm c, Value.int .i64 c.by_))
theorem bys_step {l : List Clause} {k : Nat} {x : Clause} (hx : l[k]? = some x) : bys (l.take (k + 1)) = bys (l.take k) ++ [(nm x, Value.int .i64 x.by_)] := by
  unfold bys
  rw [List.take_add_one, hx]; simp
theorem bys_new {l : List Clause} (h : l.Pairwise (fun c d => nameC c ≠ nameC d)) {k : Nat} {x : Clause} (hx : l[k]? = some x) : ∀ p ∈ bys (l.take k), p.1 ≠ nm x := by
  intro p hp e
  obtain ⟨c, hc, rfl⟩ := List.mem_map.1 hp
  obtain ⟨i, hi, hci⟩ := List.mem_take_iff_getElem.1 hc
  obtain ⟨hk, rfl⟩ := List.getElem?_eq_some_iff.1 hx
  exact List.pairwise_iff_getElem.1 h i k (by omega) hk (by omega) (by rw [hci]; exact nm_eq.1 e)
theorem bys_distinct {l : List Clause} (h : l.Pairwise (fun c d => nameC c ≠ nameC d)) : DistinctK (bys l) := by
  intro i j p q hi hj hpq
  unfold bys at hi hj
  rw [List.getElem?_map] at hi hj
  obtain ⟨c, hc, rfl⟩ := Option.map_eq_some_iff.1 hi
  obtain ⟨d, hd, rfl⟩ := Option.map_eq_some_iff.1 hj
  obtain ⟨h1, rfl⟩ := List.getElem?_eq_some_iff.1 hc
  obtain ⟨h2, rfl⟩ := List.getElem?_eq_some_iff.1 hd
  have hpq := nm_eq.1 hpq
  rcases Nat.lt_trichotomy i j with a | a | a
  · exact absurd hpq (List.pairwise_iff_getElem.1 h i j h1 h2 a)
  · exact a
  · exact absurd hpq.symm (List.pairwise_iff_getElem.1 h j i h2 h1 a)
def LookAns (s : Snap) (p : List Int) (w : Value) (S' : SHeap) : Prop :=
  (¬ checkP s p = 0 ∧ w = .tuple #[.map none, .slice none 0 0, .int .i64 (checkP s p)]) ∨
  (checkP s p = 0 ∧ ∃ b a c, w = .tuple #[.map (some b), .slice a (allL s p).length c, .int .i64 0] ∧ S' b = some (mapK kvN (bys (allL s p))) ∧ (rSlice 32 rClause).V S' (.slice a (allL s p).length c) (allL s p))
theorem s73_L9a {P K : Prop} (k : K) (h : Goal K → P := by
  intro zk
  (first | refine Walk ?_ | refine JC.block ?_ | refine JC.drawN 8 rfl [0, 1, 3, 4, 2, 5] [1] Tryz_mixed (by decide +kernel) ?_ | (refine JO.eff rfl rfl rfl (JEff.callLE rfl (p8_All (by exact vta) (by exact vta)) rfl ?_); intro zqa zqb zqc zqd zqe zqf) | (refine JO.eff rfl rfl rfl (JEff.callV rfl (p9_of (by exact vta)) rfl ?_); intro zqa zqb) | (refine WBox ?_) | (refine WNew ?_) | (refine WPut ?_))
  (repeat (first | revert zqg | revert zqf | revert zqe | revert zqd | revert zqc | revert zqb | revert zqa))
  exact zk.k) : P := h ⟨k⟩
theorem p9_look {S : SHeap} {u v : Value} {s : Snap} {p : List Int} (hu : rSnap.V S u s) (hv : (rSlice 8 rI64).V S v p) : FnR Tryz.prog 73 #[u, v] S (LookAns s p) := by
  (refine Fn.enter (args := [u, v]) Tryz.func73 rfl Tryz.ntmps73 rfl ?_; intro w0)
  repeat (refine s73_L9a ?_; intros)
  refine JC.cond rfl (fun h1 => ?_) (fun h1 => ?_)
  · have h1 : ¬ checkP s p = 0 := by simpa using h1
    repeat (refine s73_L9a ?_; intros)
    (refine JX.ret3 Tryz.results73 (ResV.tmp rfl) (ResV.tmp rfl) (ResV.tmp rfl) (List.nil_sublist _) ?_)
    exact ⟨rfl, .inl ⟨h1, rfl⟩⟩
  have hok : checkP s p = 0 := by simpa using h1
  have hnames := allL_names s p
  obtain ⟨hLl, hLr⟩ := allL_rng s p
  generalize hL : allL s p = L at *
  have hb32 := slice_bytes (by assumption : (rSlice 32 rClause).V _ _ L)
  unfold big at hb32
  repeat (refine s73_L9a ?_; intros)
  refine JO.eff rfl rfl rfl (JEff.makeMapK kvN rfl ?_); intro mb hmb
  repeat (refine s73_L9a ?_; intros)
  refine JC.loopF (σ := Nat) [(7, _), (9, _), (22, _), (23, _)] (fun q => [(24, .int .i64 (q : Int))]) (fun q => [.blk mb (mapK kvN (bys (L.take q)))]) (fun Si q => q ≤ L.length) (fun q => L.length - q) (0) (by exact sba) (by exact sba) rfl (Nat.zero_le _) ?_; rintro Si k hli hii; (try dsimp only at hii); dsimp only [List.cons_append, List.nil_append]
  repeat (refine s73_L9a ?_; intros)
  refine JC.cond rfl (fun hc => ?_) (fun hc => ?_)
  · have hk' := dlt hc
    obtain ⟨x, hx, _⟩ := drop_at hk'
    have hst := bys_step hx
    have hnew := bys_new hnames hx
    repeat (refine s73_L9a ?_; intros)
    refine JO.eff rfl rfl rfl (JEff.putK (kv := kvN) (s := nm x) rfl rfl rfl (List.Perm.refl _) (by intro l hl; cases hl) (fun _ => ?_) (fun j q hj hq => absurd hq (hnew q (List.mem_of_getElem? hj))))
    rw [← hst]
    repeat (refine s73_L9a ?_; intros)
    exact JX.roundF (k + 1) (by exact lea) (by omega) (by (try dsimp only); omega) rfl (by exact sba) (by exact sba)
  · have hk' := dnlt hc
    obtain rfl : k = L.length := by omega
    rw [List.take_length]
    refine JC.freeze hmb (fun S10 hl10 hS10 => ?_)
    repeat (refine s73_L9a ?_; intros)
    (refine JX.ret3 Tryz.results73 (ResV.tmp rfl) (ResV.tmp rfl) (ResV.tmp rfl) (List.nil_sublist _) ?_)
    subst hL
    exact ⟨rfl, .inr ⟨hok, _, _, _, rfl, hS10, by exact vta⟩⟩
theorem bys_none {L : List Clause} {x : Clause} (h : ∀ p ∈ bys L, p.1 ≠ nm x) : findC L x = 0 := by
  unfold findC
  rw [List.find?_eq_none.2]
  intro c hc
  rw [isC_name]
  have := h (nm c, Value.int .i64 c.by_) (List.mem_map.2 ⟨c, hc, rfl⟩)
  intro e
  exact this (nm_eq.2 (of_decide_eq_true e))
theorem bys_some {L : List Clause} (hn : L.Pairwise (fun c d => nameC c ≠ nameC d)) {x : Clause} {j : Nat} {q : Step × Value} (hj : (bys L)[j]? = some q) (hq : q.1 = nm x) : q.2 = .int .i64 (findC L x) := by
  unfold bys at hj
  rw [List.getElem?_map] at hj
  obtain ⟨c, hc, rfl⟩ := Option.map_eq_some_iff.1 hj
  have he := nm_eq.1 hq
  have hf := find_self hn (List.mem_of_getElem? hc)
  simp only [nameC, Prod.mk.injEq] at he
  unfold findC
  rw [← he.1, ← he.2.1, ← he.2.2, hf]
theorem s74_L9a {P K : Prop} (k : K) (h : Goal K → P := by
  intro zk
  (first | refine Walk ?_ | refine JC.block ?_ | refine JC.drawN 1 rfl [0, 1, 2, 3, 4, 5, 6, 7] [3, 5, 6, 7] Tryz_mixed (by decide +kernel) ?_ | (refine JO.eff rfl rfl rfl (JEff.callV rfl (p9_of (by exact vta)) rfl ?_); intro zqa zqb) | (refine WBox ?_))
  (repeat (first | revert zqg | revert zqf | revert zqe | revert zqd | revert zqc | revert zqb | revert zqa))
  exact zk.k) : P := h ⟨k⟩
theorem p9_Worse1 {S : SHeap} {u : Value} {x : Clause} {L : List Clause} {q : Addr} {b : Nat} (hn : L.Pairwise (fun c d => nameC c ≠ nameC d)) (hu : rClause.V S u x) (hq : PtrTo S q rVal (.map (some b))) (hS : S b = some (mapK kvN (bys L))) : FnV Tryz.prog 74 #[u, .pointer (some q)] S (.bool (worseF L x)) := by
  (refine Fn.enter (args := [u, .pointer (some q)]) Tryz.func74 rfl Tryz.ntmps74 rfl ?_; intro w0)
  repeat (refine s74_L9a ?_; intros)
  refine JO.pure rfl rfl rfl (JPure.lookS (kv := kvN) (s := nm x) rfl rfl (by first | exact hS | exact (by assumption : SHeap.le _ _) _ _ hS | exact SHeap.le.trans (by assumption) (by assumption) _ _ hS) (bys_distinct hn) rfl (fun hno => ?_) (fun j q hj hq => ?_))
  · have hf := bys_none hno
    repeat (refine s74_L9a ?_; intros)
    (refine JX.ret1 Tryz.results74 (ResV.tmp rfl) (List.nil_sublist _) ?_)
    exact ⟨rfl, by simp [worseF, hf]⟩
  · have hf := bys_some hn hj hq
    rw [hf]
    repeat (refine s74_L9a ?_; intros)
    (refine JX.ret1 Tryz.results74 (ResV.tmp rfl) (List.nil_sublist _) ?_)
    exact ⟨rfl, by simp [worseF]⟩
theorem p9_Worse {S : SHeap} {u v v2 : Value} {s : Snap} {p q : List Int} (hu : rSnap.V S u s) (hv : (rSlice 8 rI64).V S v p) (hv2 : (rSlice 8 rI64).V S v2 q) : FnLE Tryz.prog 35 #[u, v, v2] S 32 rClause (worseV s p q).1 (.int .i64 (worseV s p q).2) := by
  (refine Fn.enter (args := [u, v, v2]) Tryz.func35 rfl Tryz.ntmps35 rfl ?_; intro w0)
  repeat (first | (refine Walk ?_; intros) | refine JC.block ?_ | (refine WBox ?_; intros) | (refine WNew ?_; intros) | (refine WPut ?_; intros))
  (refine JO.eff rfl rfl rfl (JEff.callR rfl (p9_look (s := s) (p := p) (by exact vta) (by exact vta)) rfl ?_); intro w S2 hl2 hw)
  rcases hw with ⟨he, rfl⟩ | ⟨hok, b, a, c, rfl, hSb, hVb⟩
  · repeat (first | (refine Walk ?_; intros) | refine JC.block ?_ | (refine WBox ?_; intros) | (refine WNew ?_; intros) | (refine WPut ?_; intros))
    refine JC.cond rfl (fun h1 => ?_) (fun h1 => ?_)
    · repeat (first | (refine Walk ?_; intros) | refine JC.block ?_ | (refine WBox ?_; intros) | (refine WNew ?_; intros) | (refine WPut ?_; intros))
      (refine JX.ret2 Tryz.results35 (ResV.tmp rfl) (ResV.tmp rfl) (List.nil_sublist _) ?_)
      unfold worseV
      rw [if_pos he]
      exact ⟨rfl, _, rfl, V_nil⟩
    · (exfalso; first | (simp only [decide_eq_true_eq, decide_eq_false_iff_not, Bool.not_eq_true', Bool.not_eq_false', Bool.and_eq_true, Bool.or_eq_true, Bool.and_eq_false_iff, Bool.or_eq_false_iff] at *; omega) | (simp_all; done) | (simp_all; omega))
  · repeat (first | (refine Walk ?_; intros) | refine JC.block ?_ | (refine WBox ?_; intros) | (refine WNew ?_; intros) | (refine WPut ?_; intros))
    (refine JO.eff rfl rfl rfl (JEff.callR rfl (p9_look (s := s) (p := q) (by exact vta) (by exact vta)) rfl ?_); intro w S3 hl3 hw)
    obtain ⟨m, a3, c3, rfl, hV3⟩ : ∃ m a c, w = .tuple #[m, .slice a (allL s q).length c, .int .i64 (checkP s q)] ∧ (rSlice 32 rClause).V S3 (.slice a (allL s q).length c) (allL s q) := by
      rcases hw with ⟨he, rfl⟩ | ⟨hokq, b3, a3, c3, rfl, _, hV3⟩
      · have : allL s q = [] := by unfold allL; rw [if_neg he]
        rw [this]
        exact ⟨_, _, _, rfl, V_nil⟩
      · exact ⟨_, _, _, by rw [hokq], hV3⟩
    have hwv : worseV s p q = ((allL s q).filter (worseF (allL s p)), checkP s q) := by
      unfold worseV
      rw [if_neg (by simpa using hok)]
      split
      · rename_i he
        have : allL s q = [] := by unfold allL; rw [if_neg he]
        rw [this]; rfl
      · rename_i he
        have he : checkP s q = 0 := Classical.not_not.1 he
        rw [he]
    rw [hwv]
    have hnames := allL_names s p
    generalize allL s p = LA at *
    generalize hL : allL s q = L at *
    have hb32 := slice_bytes hV3
    unfold big at hb32
    repeat (first | (refine Walk ?_; intros) | refine JC.block ?_ | (refine WBox ?_; intros) | (refine WNew ?_; intros) | (refine WPut ?_; intros))
    (first | refine JC.newRow 40 (Rp.sz rClause) ?_ | refine JO.newRow 40 (Rp.sz rClause) ?_ | refine JX.newRow 40 (Rp.sz rClause) ?_)
    refine JC.loopF (σ := Nat × Option Addr × Nat × List Value) [(7, _), (10, _), (33, _), (34, _)] (fun q => [(6, .slice q.2.1 ((fun k => (L.take k).filter (worseF LA)) q.1).length q.2.2.1), (35, ((fun k => .int .i64 k) q.1))]) (fun q => [.row w0.heap.size 40 (Rp.sz rClause) (.slice q.2.1 ((fun k => (L.take k).filter (worseF LA)) q.1).length q.2.2.1) ((fun k => (L.take k).filter (worseF LA)) q.1).length (flatCells q.2.2.2)]) (fun Sk q => q.1 ≤ L.length ∧ allV rClause Sk q.2.2.2 ((fun k => (L.take k).filter (worseF LA)) q.1) ∧ ((fun k => True) q.1)) (fun q => L.length - q.1) (0, none, 0, []) (by exact sba) (by exact sba) (by first | rfl | simp) (⟨Nat.zero_le _, trivial, trivial⟩) ?_; rintro Sk ⟨k, rak, rck, vsk⟩ hlk ⟨hk, hvk, hik⟩; (try dsimp only at hk hvk hik); dsimp only [List.cons_append, List.nil_append]
    have hfl := filter_len L (worseF LA) k
    repeat (first | (refine Walk ?_; intros) | refine JC.block ?_ | (refine WBox ?_; intros) | (refine WNew ?_; intros) | (refine WPut ?_; intros))
    refine JC.cond rfl (fun hc => ?_) (fun hc => ?_)
    · have hk' := dlt hc
      obtain ⟨x, hx, _⟩ := drop_at hk'
      have hst := filter_step (f := worseF LA) hx
      repeat (first | (refine Walk ?_; intros) | refine JC.block ?_ | (refine WBox ?_; intros) | (refine WNew ?_; intros) | (refine WPut ?_; intros))
      (refine JO.eff rfl rfl rfl (JEff.dynV rfl inferInstance rfl (p9_Worse1 (x := x) hnames (by exact vta) (by exact pta) ((show S2.le _ by exact lea) _ _ hSb)) rfl ?_); intro _ _)
      repeat (first | (refine Walk ?_; intros) | refine JC.block ?_ | (refine WBox ?_; intros) | (refine WNew ?_; intros) | (refine WPut ?_; intros))
      refine JC.cond rfl (fun hq => ?_) (fun hq => ?_)
      · rw [hq, if_pos rfl] at hst
        repeat (first | (refine Walk ?_; intros) | refine JC.block ?_ | (refine WBox ?_; intros) | (refine WNew ?_; intros) | (refine WPut ?_; intros))
        have hvx := (by assumption : rClause.V _ _ x)
        (refine JO.eff rfl rfl rfl (JEff.build (rep := rClause) (ys := [x]) rfl rfl ⟨⟨(hvx.mono (by exact lea)), nna⟩, trivial⟩ rfl rfl rfl rfl ?_); intro bb hbb hvv); (repeat (first | (refine Walk ?_; intros) | refine JC.block ?_)); (refine JO.eff rfl rfl rfl (JEff.appendL (rep := rClause) rfl rfl rfl rfl (List.Perm.swap _ _ _) (by exact hvv.flat) (by intro c hc; exact flat_one (fun v hv => (hvv.size v hv).2) c hc) (by first | omega | (unfold big; omega)) (by unfold big; omega) (by first | exact rowT_ok | (intro l hl; cases hl)) rfl ?_); intro a2 c2; clear hvv hbb)
        repeat (first | (refine Walk ?_; intros) | refine JC.block ?_ | (refine WBox ?_; intros) | (refine WNew ?_; intros) | (refine WPut ?_; intros))
        exact JX.roundF (k + 1, a2, c2, vsk ++ [(_)]) (by exact lea) ⟨by omega, by (try dsimp only); rw [hst]; exact allV_add (by exact lea) hvk (hvx.mono (by exact lea)) nna, (trivial)⟩ (by (try dsimp only); omega) (by (try dsimp only); rw [hst]; (simp [flat_append] <;> omega)) (by (try dsimp only); rw [hst]; simp only [List.length_append, List.length_cons, List.length_nil]; exact sba) (by exact sba)
      · rw [hq, if_neg (by simp), List.append_nil] at hst
        repeat (first | (refine Walk ?_; intros) | refine JC.block ?_ | (refine WBox ?_; intros) | (refine WNew ?_; intros) | (refine WPut ?_; intros))
        exact JX.roundF (k + 1, rak, rck, vsk) (by exact lea) ⟨by omega, by (try dsimp only); rw [hst]; exact hvk.mono (by exact lea), (trivial)⟩ (by (try dsimp only); omega) (by (try dsimp only); rw [hst]) (by (try dsimp only); rw [hst]; exact sba) (by exact sba)
    · have hk' := dnlt hc
      obtain rfl : k = L.length := by omega
      rw [List.take_length] at hvk hfl ⊢
      repeat (first | (refine Walk ?_; intros) | refine JC.block ?_ | (refine WBox ?_; intros) | (refine WNew ?_; intros) | (refine WPut ?_; intros))
      refine JX.freezeRow (rep := rClause) (bt := 32) hvk rfl (by unfold big; omega) (by unfold big; omega) (fun S9 hl9 hV9 => ?_)
      (refine JX.ret2 Tryz.results35 (ResV.tmp rfl) (ResV.tmp rfl) (List.nil_sublist _) ?_)
      exact ⟨rfl, _, rfl, hV9⟩
end Go.Dr
namespace Go.Dr
open Go.Proofs
set_option maxRecDepth 20000
set_option maxHeartbeats 2000000
set_option linter.unusedSimpArgs false
set_option linter.unusedVariables false
theorem noC_rng : Rng noC.kind ∧ Rng noC.a ∧ Rng noC.b ∧ Rng noC.by_ := by simp [noC, Rng]
theorem V_noC {S : SHeap} : rClause.V S (.agg (flatCells [.int .i64 0, .int .i64 0, .int .i64 0, .int .i64 0]).toArray) noC := V_clause.2 ⟨by simp [flatCells, Value.cells, noC], noC_rng⟩
theorem apply_ok {s : Snap} {p : List Int} {x : Step} (h : (applyP s p x).2 = 0) : checkP s p = 0 ∧ (x.kind = 2 → 0 ≤ x.node ∧ x.node < s.nodes.length) := by
  unfold applyP at h
  split at h
  · rename_i h1; simp [z0] at h1; exact absurd h h1
  · rename_i h1
    have h1 : checkP s p = 0 := by simpa [z0] using h1
    refine ⟨h1, fun hk => ?_⟩
    split at h
    · cases h
    · split at h
      · cases h
      · rename_i h3
        simp [hk] at h3
        omega
def waysK (s : Snap) (p : List Int) (pod : Int) (k : Nat) : List Int := ((List.range k).filter (fun (n : Nat) => mayV s p ⟨2, pod, (n : Int)⟩)).map (fun (n : Nat) => (n : Int))
theorem waysK_step (s : Snap) (p : List Int) (pod : Int) (k : Nat) : waysK s p pod (k + 1) = waysK s p pod k ++ (if mayV s p ⟨2, pod, k⟩ = true then [(k : Int)] else []) := by
  unfold waysK
  rw [List.range_succ, List.filter_append, List.map_append]
  congr 1
  cases h : mayV s p ⟨2, pod, k⟩ <;> simp [List.filter_cons, h]
theorem waysK_len (s : Snap) (p : List Int) (pod : Int) (k : Nat) : (waysK s p pod k).length ≤ k := by
  unfold waysK
  rw [List.length_map]
  exact Nat.le_trans (List.length_filter_le _ _) (by simp)
end Go.Dr
namespace Go.Dr
open Go.Proofs
set_option maxRecDepth 20000
set_option maxHeartbeats 2000000
set_option linter.unusedSimpArgs false
set_option linter.unusedVariables false
def StepRaw (E Te Tc : TypeId) (s : Snap) (p : List Int) (x : Step) (w : Value) (S' : SHeap) (M' : List MEnt) : Prop :=
  (∃ e, ¬ e = 0 ∧ stepV s p x = ([], noC, e) ∧ w = .tuple #[.slice none 0 0, .iface Te (.int .i64 e)] ∧ M' = []) ∨
  (∃ c, (Rng c.kind ∧ Rng c.a ∧ Rng c.b ∧ Rng c.by_) ∧ stepV s p x = ([], c, 100) ∧ w = .tuple #[.slice none 0 0, .iface Tc (clV c)] ∧ M' = []) ∨
  (∃ q b tl cap, stepV s p x = (q, noC, 0) ∧ (∀ z ∈ q, Rng z) ∧ q.length = p.length ∧ w = .tuple #[.slice (some ⟨b, 0, none⟩) q.length cap, .nilIface] ∧ q.length ≤ cap ∧ M' = [.blk b (.cells (intsT q tl) E (0, 0))])
theorem s79_L10a {P K : Prop} (k : K) (h : Goal K → P := by
  intro zk
  (first | refine Walk ?_ | refine JC.block ?_ | refine JC.drawN 10 rfl [0, 1, 2, 3, 4, 5] [0, 1, 2, 3, 4, 5] Tryz_mixed (by decide +kernel) ?_ | (refine JO.eff rfl rfl rfl (JEff.callLE rfl (p9_Worse (by exact vta) (by exact vta) (by exact vta)) rfl ?_); intro zqa zqb zqc zqd zqe zqf) | (refine WBox ?_))
  (repeat (first | revert zqg | revert zqf | revert zqe | revert zqd | revert zqc | revert zqb | revert zqa))
  exact zk.k) : P := h ⟨k⟩
theorem p10_step {S : SHeap} {u v xv : Value} {s : Snap} {p : List Int} {x : Step} (hu : rSnap.V S u s) (hv : (rSlice 8 rI64).V S v p) (hx : rStep.V S xv x) : Fn Tryz.prog 79 #[u, v, xv] S [] (StepRaw 3 31 40 s p x) := by
  (refine Fn.enter (args := [u, v, xv]) Tryz.func79 rfl Tryz.ntmps79 rfl ?_; intro w0)
  repeat (refine s79_L10a ?_; intros)
  refine JO.eff rfl rfl rfl (JEff.callM (Mc := []) rfl (List.Perm.refl _) (mayAll rfl) (p7_Apply (s := s) (p := p) (x := x) (by exact vta) (by exact vta) (by exact vta)) rfl ?_); intro w S2 M2 hl2 hw
  obtain ⟨aa, ca, rfl, hw⟩ := hw
  by_cases he : (applyP s p x).2 = 0
  · obtain ⟨hcq, hql, hp0⟩ := apply_check he
    obtain ⟨hok, hnode⟩ := apply_ok he
    rcases hw with ⟨h1, _, _⟩ | ⟨b, tl, rfl, hqc, rfl⟩
    · rw [h1] at hql; simp at hql; omega
    have hW2 : (worseV s p (applyP s p x).1).2 = 0 := by rw [worse_ok hok hcq]
    have he' : ¬ ¬ (applyP s p x).2 = 0 := by simpa using he
    obtain ⟨_, _, hp24, _, _, _, hqr⟩ := placed_hyps hcq
    have hql2 : (applyP s p x).1.length ≤ 24 := hp24
    dsimp only [List.cons_append, List.nil_append]
    refine JO.blkNew rfl (fun hb0 hbb => ?_)
    refine JO.freeze hbb (by intro l hl; cases hl) (fun S3 hl3 hS3 => ?_)
    have hVq := blk_slice (SHeap.le.refl S3) hS3 rfl hqc (by unfold big; omega) hqr
    by_cases hk : x.kind = 2
    · obtain ⟨h0, h1⟩ := hnode hk
      obtain ⟨nd, hnd, _⟩ := drop_at (l := s.nodes) (show x.node.toNat < s.nodes.length by omega)
      have hco : cordonAt s x.node = nd.cordon := by simp [cordonAt, hnd]
      repeat (refine s79_L10a ?_; intros)
      refine JC.cond rfl (fun g0 => ?_) (fun g0 => ?_)
      · (exfalso; first | (simp only [decide_eq_true_eq, decide_eq_false_iff_not, Bool.not_eq_true', Bool.not_eq_false', Bool.and_eq_true, Bool.or_eq_true, Bool.and_eq_false_iff, Bool.or_eq_false_iff] at *; omega) | (simp_all; done) | (simp_all; omega))
      repeat (refine s79_L10a ?_; intros)
      refine JO.guard rfl rfl rfl rfl (fun g1 => ?_) (fun g1 => ?_)
      · repeat (refine s79_L10a ?_; intros)
        refine JC.cond rfl (fun g2 => ?_) (fun g2 => ?_)
        · repeat (refine s79_L10a ?_; intros)
          refine JO.pure rfl rfl rfl (JPure.mkIface rfl rfl ?_)
          repeat (refine s79_L10a ?_; intros)
          refine JX.ret2 Tryz.results79 (ResV.tmp rfl) (ResV.tmp rfl) (List.nil_sublist _) ?_
          exact .inl ⟨100, by decide, by rw [stepV, if_neg he', if_pos ⟨hk, by rw [hco]; exact g2⟩], rfl, rfl⟩
        · have hnc : ¬ (x.kind = 2 ∧ cordonAt s x.node = true) := by rw [hco, g2]; simp
          repeat (refine s79_L10a ?_; intros)
          refine JC.cond rfl (fun g3 => ?_) (fun g3 => ?_)
          · exfalso
            simp [hW2] at g3
          repeat (refine s79_L10a ?_; intros)
          refine JC.cond rfl (fun g4 => ?_) (fun g4 => ?_)
          · obtain ⟨y, L', hL⟩ : ∃ y L', (worseV s p (applyP s p x).1).1 = y :: L' := by
              cases hh : (worseV s p (applyP s p x).1).1 with
              | nil => rw [hh] at g4; simp at g4
              | cons y L' => exact ⟨y, L', rfl⟩
            have hy0 : (worseV s p (applyP s p x).1).1[(0 : Int).toNat]? = some y := by rw [hL]; rfl
            repeat (refine s79_L10a ?_; intros)
            have hvy := (by assumption : rClause.V _ _ y)
            obtain ⟨hy1, hyr⟩ := V_clause.1 hvy
            refine JO.pure rfl rfl rfl (JPure.mkIface rfl rfl ?_)
            repeat (refine s79_L10a ?_; intros)
            refine JX.ret2 Tryz.results79 (ResV.tmp rfl) (ResV.tmp rfl) (List.nil_sublist _) ?_
            exact .inr (.inl ⟨y, hyr, by rw [stepV, if_neg he', if_neg hnc, hL], by rw [hy1]; rfl, rfl⟩)
          · have hL : (worseV s p (applyP s p x).1).1 = [] := by
              cases hh : (worseV s p (applyP s p x).1).1 with
              | nil => rfl
              | cons y L' => rw [hh] at g4; simp at g4
            repeat (refine s79_L10a ?_; intros)
            refine JX.thaw hb0 hbb ((by exact lea : SHeap.le S3 _) _ _ hS3) ?_
            refine JX.ret2 Tryz.results79 (ResV.tmp rfl) (ResV.tmp rfl) (List.Sublist.refl _) ?_
            exact .inr (.inr ⟨(applyP s p x).1, b, tl, ca, by rw [stepV, if_neg he', if_neg hnc, hL], hqr, hql, rfl, hqc, rfl⟩)
      · (exfalso; first | (simp only [decide_eq_true_eq, decide_eq_false_iff_not, Bool.not_eq_true', Bool.not_eq_false', Bool.and_eq_true, Bool.or_eq_true, Bool.and_eq_false_iff, Bool.or_eq_false_iff] at *; omega) | (simp_all; done) | (simp_all; omega))
    · have hnc : ¬ (x.kind = 2 ∧ cordonAt s x.node = true) := fun h => hk h.1
      repeat (refine s79_L10a ?_; intros)
      refine JC.cond rfl (fun g0 => ?_) (fun g0 => ?_)
      · (exfalso; first | (simp only [decide_eq_true_eq, decide_eq_false_iff_not, Bool.not_eq_true', Bool.not_eq_false', Bool.and_eq_true, Bool.or_eq_true, Bool.and_eq_false_iff, Bool.or_eq_false_iff] at *; omega) | (simp_all; done) | (simp_all; omega))
      repeat (refine s79_L10a ?_; intros)
      refine JO.guard rfl rfl rfl rfl (fun g1 => ?_) (fun g1 => ?_)
      · (exfalso; first | (simp only [decide_eq_true_eq, decide_eq_false_iff_not, Bool.not_eq_true', Bool.not_eq_false', Bool.and_eq_true, Bool.or_eq_true, Bool.and_eq_false_iff, Bool.or_eq_false_iff] at *; omega) | (simp_all; done) | (simp_all; omega))
      · repeat (refine s79_L10a ?_; intros)
        refine JC.cond rfl (fun g3 => ?_) (fun g3 => ?_)
        · exfalso
          simp [hW2] at g3
        repeat (refine s79_L10a ?_; intros)
        refine JC.cond rfl (fun g4 => ?_) (fun g4 => ?_)
        · obtain ⟨y, L', hL⟩ : ∃ y L', (worseV s p (applyP s p x).1).1 = y :: L' := by
            cases hh : (worseV s p (applyP s p x).1).1 with
            | nil => rw [hh] at g4; simp at g4
            | cons y L' => exact ⟨y, L', rfl⟩
          have hy0 : (worseV s p (applyP s p x).1).1[(0 : Int).toNat]? = some y := by rw [hL]; rfl
          repeat (refine s79_L10a ?_; intros)
          have hvy := (by assumption : rClause.V _ _ y)
          obtain ⟨hy1, hyr⟩ := V_clause.1 hvy
          refine JO.pure rfl rfl rfl (JPure.mkIface rfl rfl ?_)
          repeat (refine s79_L10a ?_; intros)
          refine JX.ret2 Tryz.results79 (ResV.tmp rfl) (ResV.tmp rfl) (List.nil_sublist _) ?_
          exact .inr (.inl ⟨y, hyr, by rw [stepV, if_neg he', if_neg hnc, hL], by rw [hy1]; rfl, rfl⟩)
        · have hL : (worseV s p (applyP s p x).1).1 = [] := by
            cases hh : (worseV s p (applyP s p x).1).1 with
            | nil => rfl
            | cons y L' => rw [hh] at g4; simp at g4
          repeat (refine s79_L10a ?_; intros)
          refine JX.thaw hb0 hbb ((by exact lea : SHeap.le S3 _) _ _ hS3) ?_
          refine JX.ret2 Tryz.results79 (ResV.tmp rfl) (ResV.tmp rfl) (List.Sublist.refl _) ?_
          exact .inr (.inr ⟨(applyP s p x).1, b, tl, ca, by rw [stepV, if_neg he', if_neg hnc, hL], hqr, hql, rfl, hqc, rfl⟩)
  · have hst : stepV s p x = ([], noC, (applyP s p x).2) := by rw [stepV, if_pos he]
    repeat (refine s79_L10a ?_; intros)
    refine JC.cond rfl (fun g0 => ?_) (fun g0 => ?_)
    · repeat (refine s79_L10a ?_; intros)
      refine JO.pure rfl rfl rfl (JPure.mkIface rfl rfl ?_)
      repeat (refine s79_L10a ?_; intros)
      refine JX.ret2 Tryz.results79 (ResV.tmp rfl) (ResV.tmp rfl) (List.nil_sublist _) ?_
      exact .inl ⟨_, he, hst, rfl, rfl⟩
    · (exfalso; first | (simp only [decide_eq_true_eq, decide_eq_false_iff_not, Bool.not_eq_true', Bool.not_eq_false', Bool.and_eq_true, Bool.or_eq_true, Bool.and_eq_false_iff, Bool.or_eq_false_iff] at *; omega) | (simp_all; done) | (simp_all; omega))
end Go.Dr
namespace Go.Dr
open Go.Proofs
set_option maxRecDepth 20000
set_option maxHeartbeats 2000000
set_option linter.unusedSimpArgs false
set_option linter.unusedVariables false
instance : IfaceT Tryz.prog 107 := ⟨by kernel_rfl⟩
def StepAns (E : TypeId) (s : Snap) (p : List Int) (x : Step) (w : Value) (S' : SHeap) (M' : List MEnt) : Prop :=
  (∃ c e, ¬ e = 0 ∧ (Rng c.kind ∧ Rng c.a ∧ Rng c.b ∧ Rng c.by_) ∧ stepV s p x = ([], c, e) ∧ w = .tuple #[.slice none 0 0, clV c, .int .i64 e] ∧ M' = []) ∨
  (∃ q b tl cap, stepV s p x = (q, noC, 0) ∧ (∀ z ∈ q, Rng z) ∧ q.length = p.length ∧ w = .tuple #[.slice (some ⟨b, 0, none⟩) q.length cap, clV noC, .int .i64 0] ∧ q.length ≤ cap ∧ M' = [.blk b (.cells (intsT q tl) E (0, 0))])
theorem s45_L10b {P K : Prop} (k : K) (h : Goal K → P := by
  intro zk
  (first | refine Walk ?_ | refine JC.block ?_ | refine JC.drawN 6 rfl [0, 1, 2, 3] [0, 1, 3] Tryz_mixed (by decide +kernel) ?_ | refine JC.drawN 7 rfl [0, 1, 2, 3, 4, 5] [0, 3, 5] Tryz_mixed (by decide +kernel) ?_ | (refine WBox ?_))
  (repeat (first | revert zqg | revert zqf | revert zqe | revert zqd | revert zqc | revert zqb | revert zqa))
  exact zk.k) : P := h ⟨k⟩
theorem p10_Step {S : SHeap} {u v xv : Value} {s : Snap} {p : List Int} {x : Step} (hu : rSnap.V S u s) (hv : (rSlice 8 rI64).V S v p) (hx : rStep.V S xv x) : Fn Tryz.prog 45 #[u, v, xv] S [] (StepAns 3 s p x) := by
  (refine Fn.enter (args := [u, v, xv]) Tryz.func45 rfl Tryz.ntmps45 rfl ?_; intro w0)
  repeat (refine s45_L10b ?_; intros)
  (refine JO.eff rfl rfl rfl (JEff.alloc rfl ?_); intro b7 hb7)
  repeat (refine s45_L10b ?_; intros)
  refine JO.eff rfl rfl rfl (JEff.callM (Mc := []) rfl (List.Perm.refl _) (mayAll rfl) (p10_step (s := s) (p := p) (x := x) (by exact vta) (by exact vta) (by exact vta)) rfl ?_); intro w S2 M2 hl2 hw
  rcases hw with ⟨e, he, hst, rfl, rfl⟩ | ⟨c, hcr, hst, rfl, rfl⟩ | ⟨q, b, tl, cap, hst, hqr, hql, rfl, hqc, rfl⟩
  · dsimp only [List.nil_append]
    have hN0 : rClause.V S2 (.agg #[.int .i64 0, .int .i64 0, .int .i64 0, .int .i64 0]) noC := V_clV noC_rng
    have hN := V_noC (S := S2)
    repeat (first | (refine Walk ?_; intros) | refine JC.block ?_ | refine JC.drawN 6 rfl [0, 1, 2, 3] [0, 1, 3] Tryz_mixed (by decide +kernel) ?_ | refine JC.drawN 7 rfl [0, 1, 2, 3, 4, 5] [0, 3, 5] Tryz_mixed (by decide +kernel) ?_ | refine JO.pure rfl rfl rfl (JPure.eqNilF rfl rfl ?_) | refine JO.pure rfl rfl rfl (JPure.assertF rfl rfl rfl ?_) | (refine WBox ?_; intros))
    (refine JO.eff rfl rfl rfl (JEff.alloc rfl ?_); intro b10 hb10)
    refine JO.eff rfl rfl rfl (JEff.storeW rfl rfl hN0 nna (List.Perm.refl _) rfl (by intro l hl; cases hl) ?_)
    refine JO.freezeV hN0 nna hb10 (by intro l hl; cases hl) ?_; intro S3 hl3 hp10
    repeat (first | (refine Walk ?_; intros) | refine JC.block ?_ | refine JC.drawN 6 rfl [0, 1, 2, 3] [0, 1, 3] Tryz_mixed (by decide +kernel) ?_ | refine JC.drawN 7 rfl [0, 1, 2, 3, 4, 5] [0, 3, 5] Tryz_mixed (by decide +kernel) ?_ | refine JO.pure rfl rfl rfl (JPure.assertT rfl rfl ?_) | (refine WBox ?_; intros))
    have hN2 := V_noC (S := S3)
    (refine JO.eff rfl rfl rfl (JEff.storeW rfl rfl (by exact vta) nna pma rfl (by intro l hl; cases hl) ?_))
    repeat (refine s45_L10b ?_; intros)
    refine JX.ret3 Tryz.results45 (ResV.tmp rfl) (ResV.clause (S1 := S3) rfl (by (first | exact List.mem_cons_self | exact List.mem_cons_of_mem _ List.mem_cons_self | exact List.mem_cons_of_mem _ (List.mem_cons_of_mem _ List.mem_cons_self))) V_noC) (ResV.tmp rfl) (List.nil_sublist _) ?_
    exact .inl ⟨noC, e, he, noC_rng, hst, rfl, rfl⟩
  · dsimp only [List.nil_append]
    have hN := V_clV (S := S2) hcr
    repeat (first | (refine Walk ?_; intros) | refine JC.block ?_ | refine JC.drawN 6 rfl [0, 1, 2, 3] [0, 1, 3] Tryz_mixed (by decide +kernel) ?_ | refine JC.drawN 7 rfl [0, 1, 2, 3, 4, 5] [0, 3, 5] Tryz_mixed (by decide +kernel) ?_ | refine JO.pure rfl rfl rfl (JPure.eqNilF rfl rfl ?_) | refine JO.pure rfl rfl rfl (JPure.assertT rfl rfl ?_) | (refine WBox ?_; intros))
    (refine JO.eff rfl rfl rfl (JEff.alloc rfl ?_); intro b10 hb10)
    refine JO.eff rfl rfl rfl (JEff.storeW rfl rfl hN nna (List.Perm.refl _) rfl (by intro l hl; cases hl) ?_)
    refine JO.freezeV hN nna hb10 (by intro l hl; cases hl) ?_; intro S3 hl3 hp10
    repeat (refine s45_L10b ?_; intros)
    have hvy := (by assumption : rClause.V _ _ c)
    (refine JO.eff rfl rfl rfl (JEff.storeW rfl rfl (by exact vta) nna pma rfl (by intro l hl; cases hl) ?_))
    repeat (refine s45_L10b ?_; intros)
    refine JX.ret3 Tryz.results45 (ResV.tmp rfl) (ResV.clause rfl (by (first | exact List.mem_cons_self | exact List.mem_cons_of_mem _ List.mem_cons_self | exact List.mem_cons_of_mem _ (List.mem_cons_of_mem _ List.mem_cons_self))) hvy) (ResV.tmp rfl) (List.nil_sublist _) ?_
    exact .inl ⟨c, 100, by decide, hcr, hst, rfl, rfl⟩
  · dsimp only [List.cons_append, List.nil_append]
    have hN := V_noC (S := S2)
    repeat (first | (refine Walk ?_; intros) | refine JC.block ?_ | refine JC.drawN 6 rfl [0, 1, 2, 3] [0, 1, 3] Tryz_mixed (by decide +kernel) ?_ | refine JC.drawN 7 rfl [0, 1, 2, 3, 4, 5] [0, 3, 5] Tryz_mixed (by decide +kernel) ?_ | refine JO.pure rfl rfl rfl (JPure.eqNilT rfl rfl ?_) | (refine WBox ?_; intros))
    refine JO.eff rfl rfl rfl (JEff.storeW rfl rfl hN nna (List.Perm.swap _ _ _) rfl (by intro l hl; cases hl) ?_)
    repeat (refine s45_L10b ?_; intros)
    refine JX.ret3 Tryz.results45 (ResV.tmp rfl) (ResV.clause (S1 := S2) rfl (by (first | exact List.mem_cons_self | exact List.mem_cons_of_mem _ List.mem_cons_self | exact List.mem_cons_of_mem _ (List.mem_cons_of_mem _ List.mem_cons_self))) V_noC) (ResV.tmp rfl) (List.sublist_cons_self _ _) ?_
    exact .inr ⟨q, b, tl, cap, hst, hqr, hql, rfl, hqc, rfl⟩
theorem p10_May {S : SHeap} {u v xv : Value} {s : Snap} {p : List Int} {x : Step} (hu : rSnap.V S u s) (hv : (rSlice 8 rI64).V S v p) (hx : rStep.V S xv x) : FnV Tryz.prog 47 #[u, v, xv] S (.bool (mayV s p x)) := by
  (refine Fn.enter (args := [u, v, xv]) Tryz.func47 rfl Tryz.ntmps47 rfl ?_; intro w0)
  repeat (first | (refine Walk ?_; intros) | refine JC.block ?_ | (refine WBox ?_; intros))
  refine JO.eff rfl rfl rfl (JEff.callM (Mc := []) rfl (List.Perm.refl _) (mayAll rfl) (p10_step (s := s) (p := p) (x := x) (by exact vta) (by exact vta) (by exact vta)) rfl ?_); intro w S2 M2 hl2 hw
  rcases hw with ⟨e, he, hst, rfl, rfl⟩ | ⟨c, hcr, hst, rfl, rfl⟩ | ⟨q, b, tl, cap, hst, hqr, hql, rfl, hqc, rfl⟩
  all_goals unfold mayV; rw [hst]
  · repeat (first | (refine Walk ?_; intros) | refine JC.block ?_ | refine JO.pure rfl rfl rfl (JPure.eqNilF rfl rfl ?_) | (refine WBox ?_; intros))
    (refine JX.ret1 Tryz.results47 (ResV.tmp rfl) (List.nil_sublist _) ?_)
    exact ⟨rfl, by simp [he]⟩
  · repeat (first | (refine Walk ?_; intros) | refine JC.block ?_ | refine JO.pure rfl rfl rfl (JPure.eqNilF rfl rfl ?_) | (refine WBox ?_; intros))
    (refine JX.ret1 Tryz.results47 (ResV.tmp rfl) (List.nil_sublist _) ?_)
    exact ⟨rfl, by simp⟩
  · repeat (first | (refine Walk ?_; intros) | refine JC.block ?_ | refine JO.pure rfl rfl rfl (JPure.eqNilT rfl rfl ?_) | (refine WBox ?_; intros))
    (refine JX.ret1 Tryz.results47 (ResV.tmp rfl) (List.nil_sublist _) ?_)
    exact ⟨rfl, by simp⟩
end Go.Dr
namespace Go.Dr
open Go.Proofs
set_option maxRecDepth 20000
set_option maxHeartbeats 2000000
set_option linter.unusedSimpArgs false
set_option linter.unusedVariables false
end Go.Dr
