/- Part 7 of the rules and of the walks that the proofs of this seat rest on; no condition. -/
import Derived.Test.YtdidkjghemcipaaGreatA05
import Derived.Deep.Slices
import Derived.OpenShut
import Derived.SizedLaws
import Derived.Carry
import Derived.Below
set_option linter.unusedVariables false
set_option linter.unusedSimpArgs false
namespace Go.Dr
open Go.Proofs
set_option maxRecDepth 20000
set_option maxHeartbeats 2000000
set_option linter.unusedSimpArgs false
set_option linter.unusedVariables false
def ndV (n : UInt8) (l t : Value) (c x : Bool) : Value := .agg (flatCells [.string ⟨#[n]⟩, .agg (ints [15, 0, 0, 0, 0]), l, t, .bool c, .bool x]).toArray
def podV0 (x : UInt8) : Value := .agg (flatCells [.string ⟨#[x]⟩, .string ⟨#[111]⟩, .agg (flatCells [.int .i64 10, .int .i64 0, .int .i64 0, .int .i64 0, .int .i64 0]).toArray, .slice none 0 0, .slice none 0 0, .slice none 0 0, .agg #[.string ⟨#[]⟩, .slice none 0 0], .agg #[.string ⟨#[]⟩, .slice none 0 0], .string ⟨#[]⟩]).toArray
def ownV0 (m : Int) (b : Bool) : Value := .agg (flatCells [.string ⟨#[111]⟩, .int .i64 m, .string zoneS, .int .i64 1, .bool b]).toArray
def podVs : List Value := [podV0 112, podV0 113, podV0 114]
def podV (x : UInt8) (lb wh br : Value) (wt : ByteArray) (wl : Value) (at_ : ByteArray) (al : Value) : Value := .agg (flatCells [.string ⟨#[x]⟩, .string ⟨#[111]⟩, .agg (flatCells [.int .i64 10, .int .i64 0, .int .i64 0, .int .i64 0, .int .i64 0]).toArray, lb, wh, br, .agg #[.string wt, wl], .agg #[.string at_, al], .string ⟨#[]⟩]).toArray
theorem V_ndG {S : SHeap} {n : UInt8} {a1 a2 : Option Addr} {n1 c1 n2 c2 : Nat} {ls ts : List Label} {c x : Bool} (h : (rSlice 32 rLabel).V S (.slice a1 n1 c1) ls) (h2 : (rSlice 32 rLabel).V S (.slice a2 n2 c2) ts) : rNode.V S (ndV n (.slice a1 n1 c1) (.slice a2 n2 c2) c x) ⟨⟨#[n]⟩, [15, 0, 0, 0, 0], ls, ts, c, x⟩ :=
  ⟨[_, _, _, _, _, _, _, _, _, _], map_R (seq1 (R_str (sz1 _)) (seq5 (R_vec (by simp [Rng])) (seq1 (h.one rfl) (seq1 (h2.one rfl) (seq1 R_bool R_bool))))), rfl⟩
theorem V_ownG {S : SHeap} {m : Int} {b : Bool} (hm : Rng m) : rOwner.V S (ownV0 m b) ⟨⟨#[111]⟩, m, zoneS, 1, b⟩ :=
  ⟨[_, _, _, _, _], map_R (seq1 (R_str (sz1 _)) (seq1 (R_i64 hm) (seq1 (R_str szZ) (seq1 (R_i64 (by simp [Rng])) R_bool)))), rfl⟩
theorem V_podG {S : SHeap} {x : UInt8} {a1 a2 a3 a4 a5 : Option Addr} {n1 c1 n2 c2 n3 c3 n4 c4 n5 c5 : Nat} {lb br : List Label} {wh wl al : List Term} {wt at_ : ByteArray} (h1 : (rSlice 32 rLabel).V S (.slice a1 n1 c1) lb) (h2 : (rSlice 40 rTerm).V S (.slice a2 n2 c2) wh) (h3 : (rSlice 32 rLabel).V S (.slice a3 n3 c3) br)
    (h4 : (rSlice 40 rTerm).V S (.slice a4 n4 c4) wl) (h5 : (rSlice 40 rTerm).V S (.slice a5 n5 c5) al) (hw : wt.size ≤ big) (ha : at_.size ≤ big) : rPod.V S (podV x (.slice a1 n1 c1) (.slice a2 n2 c2) (.slice a3 n3 c3) wt (.slice a4 n4 c4) at_ (.slice a5 n5 c5)) ⟨⟨#[x]⟩, ⟨#[111]⟩, [10, 0, 0, 0, 0], lb, wh, br, ⟨wt, wl⟩, ⟨at_, al⟩, ⟨#[]⟩⟩ :=
  ⟨[_, _, _, _, _, _, _, _, _, _, _, _, _, _, _], map_R (seq1 (R_str (sz1 _)) (seq1 (R_str (sz1 _)) (seq5 (R_vec (by simp [Rng])) (seq1 (h1.one rfl) (seq1 (h2.one rfl) (seq1 (h3.one rfl)
    (seq2 (map_R (seq1 (R_str hw) (h4.one rfl))) (seq2 (map_R (seq1 (R_str ha) (h5.one rfl))) (R_str sz0))))))))), rfl⟩
def ChapM (TN TP TO : TypeId) (m : Int) (w : Value) (S' : SHeap) (M' : List MEnt) : Prop :=
  ∃ nb pb ob cap tl a1 a2, w = .agg #[.slice (some ⟨nb, 0, none⟩) 3 3, .slice (some ⟨pb, 0, none⟩) 3 cap, .slice (some ⟨ob, 0, none⟩) 1 1] ∧
    M' = [.blk ob (.cells (flatCells [ownV0 m false]).toArray TO (0, 0)), .blk pb (.cells (cellsR podVs tl) TP (0, 0)), .blk nb (.cells (flatCells [ndV 97 (.slice a1 1 1) (.slice none 0 0) false false, ndV 98 (.slice a2 1 1) (.slice none 0 0) false false, ndV 99 (.slice none 0 0) (.slice none 0 0) false false]).toArray TN (0, 0))] ∧
    3 ≤ cap ∧ (rSlice 32 rLabel).V S' (.slice a1 1 1) [⟨zoneS, ⟨#[120]⟩⟩] ∧ (rSlice 32 rLabel).V S' (.slice a2 1 1) [⟨zoneS, ⟨#[121]⟩⟩]
theorem q8_chapterM {S : SHeap} : Fn Tryz.prog 31 #[] S [] (ChapM 57 64 48 3) := by
  haveI : TyR Tryz.prog 23 rVal := ⟨(inferInstance : TyR Tryz.prog 23 (rSlice 240 rPod)).b⟩
  have hRaw : TyR Tryz.prog 26 rRaw3 := ⟨(inferInstance : TyR Tryz.prog 26 rSnap).b⟩
  have hmr : Rng 3 := by simp [Rng]
  (refine Fn.enter (args := []) Tryz.func31 rfl Tryz.ntmps31 rfl ?_; intro w0)
  repeat (first | (refine Walk ?_; intros) | refine JC.block ?_)
  (refine JO.eff rfl rfl rfl (JEff.alloc rfl ?_); intro rb hrb)
  repeat (first | (refine Walk ?_; intros) | refine JC.block ?_)
  (refine JO.eff rfl rfl rfl (JEff.alloc rfl ?_); intro vb hvb)
  repeat (first | (refine Walk ?_; intros) | refine JC.block ?_)
  refine JO.eff rfl rfl rfl (JEff.storeW rfl rfl V_vec15 nna (List.Perm.refl _) rfl (by intro l hl; cases hl) ?_)
  refine JO.freezeV V_vec15 nna hvb (by intro l hl; cases hl) ?_; intro S1 hl1 hpv
  repeat (first | (refine Walk ?_; intros) | refine JC.block ?_)
  obtain ⟨rfl, _, _⟩ := V_arr.1 (by assumption : (rArr 5).V _ _ [15, 0, 0, 0, 0])
  (refine JO.eff rfl rfl rfl (JEff.buildS (bt := 32) (rep := rLabel) (ys := [(⟨zoneS, ⟨#[120]⟩⟩ : Label)]) rfl rfl (⟨⟨V_lab (by decide) (by decide), nna⟩, trivial⟩) rfl rfl rfl (by decide) rfl ?_); intro S2 a2 hl2 hV2)
  repeat (first | (refine Walk ?_; intros) | refine JC.block ?_)
  obtain ⟨rfl, _, _⟩ := V_arr.1 (by assumption : (rArr 5).V _ _ [15, 0, 0, 0, 0])
  (refine JO.eff rfl rfl rfl (JEff.buildS (bt := 32) (rep := rLabel) (ys := [(⟨zoneS, ⟨#[121]⟩⟩ : Label)]) rfl rfl (⟨⟨V_lab (by decide) (by decide), nna⟩, trivial⟩) rfl rfl rfl (by decide) rfl ?_); intro S3 a3 hl3 hV3)
  repeat (first | (refine Walk ?_; intros) | refine JC.block ?_)
  obtain ⟨rfl, _, _⟩ := V_arr.1 (by assumption : (rArr 5).V _ _ [15, 0, 0, 0, 0])
  (refine JO.eff rfl rfl rfl (JEff.build (rep := rNode) (ys := nodes8) rfl rfl ⟨⟨V_node8 (hV2.mono hl3), nna⟩, ⟨V_node8 hV3, nna⟩, ⟨V_node8 V_nil, nna⟩, trivial⟩ rfl rfl rfl rfl ?_); intro nb hnb hnv)
  refine JO.out (fun hout => ?_)
  have hn3 := hout (.blk nb _) List.mem_cons_self nb rfl
  refine JO.blkNew rfl (fun hn0 _ => ?_)
  refine JO.freeze hnb (by intro l hl; cases hl) (fun S4 hl4 hS4 => ?_)
  repeat (first | (refine Walk ?_; intros) | refine JC.block ?_)
  (refine JO.eff rfl rfl rfl (JEff.build (rep := rOwner) (ys := [(⟨⟨#[111]⟩, 3, zoneS, 1, false⟩ : Owner)]) rfl rfl ⟨⟨V_owner8 hmr, nna⟩, trivial⟩ rfl rfl rfl rfl ?_); intro ob hob hov)
  refine JO.out (fun hout2 => ?_)
  have ho4 := hout2 (.blk ob _) List.mem_cons_self ob rfl
  refine JO.blkNew rfl (fun ho0 _ => ?_)
  refine JO.freeze hob (by intro l hl; cases hl) (fun S5 hl5 hS5 => ?_)
  repeat (first | (refine Walk ?_; intros) | refine JC.block ?_)
  (refine JO.eff rfl rfl rfl (JEff.alloc rfl ?_); intro sb hsb)
  repeat (first | (refine Walk ?_; intros) | refine JC.block ?_)
  refine JO.eff rfl rfl rfl (JEff.storeW (ht := hRaw) rfl rfl V_raw3 nna (List.Perm.refl _) rfl (by intro l hl; cases hl) ?_)
  repeat (first | (refine Walk ?_; intros) | refine JC.block ?_)
  refine JC.newRow 64 (Rp.sz rPod) ?_
  refine JC.loopF (σ := Nat × Option Addr × Nat × List Value) [(0, _), (2, _)] (fun q => [(3, .int .i64 q.1)])
    (fun q => [.row w0.heap.size 64 (Rp.sz rPod) (.slice q.2.1 q.1 q.2.2.1) q.1 (flatCells q.2.2.2), .blk sb (.cells #[.slice (some ⟨nb, 0, none⟩) 3 3, .slice q.2.1 q.1 q.2.2.1, .slice (some ⟨ob, 0, none⟩) 1 1] 26 (0, 0)), .blk rb (.cells #[.slice none 0 0, .slice none 0 0, .slice none 0 0] 26 (0, 0))])
    (fun Sk q => q.1 ≤ 3 ∧ allV rPod Sk q.2.2.2 (pods8.take q.1) ∧ q.2.2.2 = podVs.take q.1) (fun q => 3 - q.1) (0, none, 0, []) (by exact sba) (by exact sba) (by rfl) ⟨Nat.zero_le _, trivial, rfl⟩ ?_
  rintro Sk ⟨k, ra, rc, vs⟩ hlk ⟨hk, hv1, hve⟩
  dsimp only at hk hv1 hve
  dsimp only [List.cons_append, List.nil_append]
  repeat (first | (refine Walk ?_; intros) | refine JC.block ?_)
  refine JC.cond rfl (fun hc => ?_) (fun hc => ?_)
  · have hk' : k < 3 := by have := of_decide_eq_true hc; omega
    obtain ⟨x, hx⟩ : ∃ x, ([112, 113, 114] : List UInt8)[k]? = some x := ⟨_, List.getElem?_eq_getElem (by simpa using hk')⟩
    have hst : pods8.take (k + 1) = pods8.take k ++ [pod8 x] := by
      match k with
      | 0 => cases hx; rfl
      | 1 => cases hx; rfl
      | 2 => cases hx; rfl
      | k + 3 => omega
    have hst2 : podVs.take (k + 1) = podVs.take k ++ [podV0 x] := by
      match k with
      | 0 => cases hx; rfl
      | 1 => cases hx; rfl
      | 2 => cases hx; rfl
      | k + 3 => omega
    have hP := fun S => V_pod8 (S := S) (pqr_at hx)
    have hvl := hv1.length
    have hpl : (pods8.take k).length = k := by rw [List.length_take]; show min k 3 = k; omega
    rw [hpl] at hvl
    repeat (first | (refine Walk ?_; intros) | refine JC.block ?_)
    refine JC.drawTreeF 6 rfl [10] [1] [0, 2, 3, 4, 5, 6, 7] (.alt (ofL [1, 8, 9, 10, 11] .nil) (ofL [8, 1, 9, 10, 11] .nil)) Tryz_mixed (by decide +kernel) ?_
    refine JO.pure rfl rfl rfl (JPure.fieldP rfl rfl ?_)
    repeat (first | (refine Walk ?_; intros) | refine JC.block ?_)
    refine JO.pure rfl rfl rfl (JPure.sliceT rfl rfl rfl rfl (by omega) (by omega) (by show (k : Int) + 1 ≤ 3; omega) ?_)
    repeat (first | (refine Walk ?_; intros) | refine JC.block ?_)
    refine JO.alt ?_ ?_
    · refine JO.eff rfl rfl rfl (JEff.loadE (rVal) (x0 := .slice ra k rc) rfl (by (first | exact List.mem_cons_self | exact List.mem_cons_of_mem _ List.mem_cons_self | exact List.mem_cons_of_mem _ (List.mem_cons_of_mem _ List.mem_cons_self))) rfl ⟨rfl, rfl⟩ inferInstance rfl ?_)
      repeat (first | (refine Walk ?_; intros) | refine JC.block ?_)
      (refine JO.eff rfl rfl rfl (JEff.build (rep := rPod) (ys := [pod8 x]) rfl rfl ⟨⟨hP _, nna⟩, trivial⟩ rfl rfl rfl rfl ?_); intro bb hbb hvv)
      repeat (first | (refine Walk ?_; intros) | refine JC.block ?_)
      (refine JO.eff rfl rfl rfl (JEff.appendL (rep := rPod) rfl rfl rfl rfl (List.Perm.swap _ _ _) (by exact hvv.flat) (by intro c hc; exact flat_one (fun v hv => (hvv.size v hv).2) c hc) (by unfold big; omega) (by unfold big; omega) (by first | exact rowT_ok | (intro l hl; cases hl)) rfl ?_); intro a2 c2; clear hvv hbb)
      repeat (first | (refine Walk ?_; intros) | refine JC.block ?_)
      refine JO.pure rfl rfl rfl (JPure.fieldP rfl rfl ?_)
      refine JO.eff rfl rfl rfl (JEff.store (rep := rVal) (x0 := .slice a2 (k + 1) c2) rfl rfl (V_val.2 ⟨rfl, rfl⟩) nna (List.Perm.swap _ _ _) (by simp [rVal]) (by intro l hl; cases hl) ?_)
      repeat (first | (refine Walk ?_; intros) | refine JC.block ?_)
      refine JX.perm (M' := [_, _, _]) (List.Perm.trans (List.Perm.swap _ _ _) (List.Perm.refl _)) ?_
      exact JX.roundF (k + 1, a2, c2, vs ++ [_]) (by exact lea) ⟨by dsimp only; omega, by (try dsimp only); rw [hst]; exact allV_add (by exact lea) hv1 (hP _) nna, by (try dsimp only); rw [hst2, hve]; unfold podV0; rw [pqr_at hx]⟩ (by (try dsimp only); omega) (by simp [flat_append]; rfl) (by exact sba) (by exact sba)
    · (refine JO.eff rfl rfl rfl (JEff.build (rep := rPod) (ys := [pod8 x]) rfl rfl ⟨⟨hP _, nna⟩, trivial⟩ rfl rfl rfl rfl ?_); intro bb hbb hvv)
      repeat (first | (refine Walk ?_; intros) | refine JC.block ?_)
      refine JO.eff rfl rfl rfl (JEff.loadE (rVal) (x0 := .slice ra k rc) rfl (by (first | exact List.mem_cons_self | exact List.mem_cons_of_mem _ List.mem_cons_self | exact List.mem_cons_of_mem _ (List.mem_cons_of_mem _ List.mem_cons_self))) rfl ⟨rfl, rfl⟩ inferInstance rfl ?_)
      repeat (first | (refine Walk ?_; intros) | refine JC.block ?_)
      (refine JO.eff rfl rfl rfl (JEff.appendL (rep := rPod) rfl rfl rfl rfl (List.Perm.swap _ _ _) (by exact hvv.flat) (by intro c hc; exact flat_one (fun v hv => (hvv.size v hv).2) c hc) (by unfold big; omega) (by unfold big; omega) (by first | exact rowT_ok | (intro l hl; cases hl)) rfl ?_); intro a2 c2; clear hvv hbb)
      repeat (first | (refine Walk ?_; intros) | refine JC.block ?_)
      refine JO.pure rfl rfl rfl (JPure.fieldP rfl rfl ?_)
      refine JO.eff rfl rfl rfl (JEff.store (rep := rVal) (x0 := .slice a2 (k + 1) c2) rfl rfl (V_val.2 ⟨rfl, rfl⟩) nna (List.Perm.swap _ _ _) (by simp [rVal]) (by intro l hl; cases hl) ?_)
      repeat (first | (refine Walk ?_; intros) | refine JC.block ?_)
      refine JX.perm (M' := [_, _, _]) (List.Perm.trans (List.Perm.swap _ _ _) (List.Perm.refl _)) ?_
      exact JX.roundF (k + 1, a2, c2, vs ++ [_]) (by exact lea) ⟨by dsimp only; omega, by (try dsimp only); rw [hst]; exact allV_add (by exact lea) hv1 (hP _) nna, by (try dsimp only); rw [hst2, hve]; unfold podV0; rw [pqr_at hx]⟩ (by (try dsimp only); omega) (by simp [flat_append]; rfl) (by exact sba) (by exact sba)
  · obtain rfl : k = 3 := by have := of_decide_eq_false hc; omega
    obtain rfl : vs = podVs := hve
    refine JC.rowBlkB (by decide) (fun pb tl ha hcap hsz => ?_)
    subst ha
    refine JC.blkNew rfl (fun hp0 hpb => ?_)
    refine JC.out (fun hout3 => ?_)
    have hpk := hout3 (.blk pb _) List.mem_cons_self pb rfl
    refine JC.freeze hpb (fun S9 hl9 hS9 => ?_)
    refine JC.freeze hsb (fun S10 hl10 hS10 => ?_)
    have hfin : PtrTo S10 ⟨sb, 0, none⟩ rRaw3 (.slice (some ⟨nb, 0, none⟩) 3 3, .slice (some ⟨pb, 0, none⟩) 3 rc, .slice (some ⟨ob, 0, none⟩) 1 1) :=
      cells_ptr (v := .agg #[.slice (some ⟨nb, 0, none⟩) 3 3, .slice (some ⟨pb, 0, none⟩) 3 rc, .slice (some ⟨ob, 0, none⟩) 1 1]) hS10 ⟨[_], [_, _], rfl, ⟨rfl, rfl⟩, [_], [_], rfl, ⟨rfl, rfl⟩, rfl, rfl⟩
    repeat (first | (refine Walk ?_; intros) | refine JC.block ?_)
    have hwv := (by assumption : rRaw3.V S10 _ (.slice (some ⟨nb, 0, none⟩) 3 3, _, _))
    obtain ⟨cs, ⟨_, _, rfl, ⟨rfl, _⟩, _, _, rfl, ⟨rfl, _⟩, ⟨rfl, _⟩⟩, rfl⟩ := hwv
    refine JO.eff rfl rfl rfl (JEff.storeW (ht := hRaw) rfl rfl V_raw3 nna (List.Perm.refl _) rfl (by intro l hl; cases hl) ?_)
    refine JO.out (fun hout4 => ?_)
    have hrk := hout4 (.blk rb _) List.mem_cons_self rb rfl
    refine JO.freeze hrb (by intro l hl; cases hl) (fun S11 hl11 hS11 => ?_)
    repeat (first | (refine Walk ?_; intros) | refine JC.block ?_)
    have hkn := (show SHeap.le S4 Sk by exact lea) _ _ hS4
    have hko := (show SHeap.le S5 Sk by exact lea) _ _ hS5
    have e1 := ne_none hpk hkn
    have e2 := ne_none ho4 hS4
    have e3 := ne_none hpk hko
    have r1 := ne_none hrk ((show SHeap.le S4 S10 by exact lea) _ _ hS4)
    have r2 := ne_none hrk ((show SHeap.le S9 S10 by exact lea) _ _ hS9)
    have r3 := ne_none hrk ((show SHeap.le S5 S10 by exact lea) _ _ hS5)
    have h3 : SHeap.le S3 (((S11.del nb).del pb).del ob) := SHeap.le_del (SHeap.le_del (SHeap.le_del (show SHeap.le S3 S11 by exact lea) hn3) (none_le (show SHeap.le S3 Sk by exact lea) hpk)) (none_le hl4 ho4)
    have hrf := (SHeap.del_other r3.symm).trans ((SHeap.del_other r2.symm).trans ((SHeap.del_other r1.symm).trans hS11))
    refine JX.thaw hn0 hnb ((show SHeap.le S4 S11 by exact lea) _ _ hS4) ?_
    refine JX.thaw hp0 hpb ((SHeap.del_other e1.symm).trans ((show SHeap.le S9 S11 by exact lea) _ _ hS9)) ?_
    refine JX.thaw ho0 hob ((SHeap.del_other e3).trans ((SHeap.del_other e2.symm).trans ((show SHeap.le S5 S11 by exact lea) _ _ hS5))) ?_
    refine JX.retCell (ht := hRaw) (x := (.slice (some ⟨nb, 0, none⟩) 3 3, .slice (some ⟨pb, 0, none⟩) 3 rc, .slice (some ⟨ob, 0, none⟩) 1 1)) Tryz.results31 rfl (cells_ptr (rep := rRaw3) (v := .agg #[.slice (some ⟨nb, 0, none⟩) 3 3, .slice (some ⟨pb, 0, none⟩) 3 rc, .slice (some ⟨ob, 0, none⟩) 1 1]) hrf ⟨[_], [_, _], rfl, ⟨rfl, rfl⟩, [_], [_], rfl, ⟨rfl, rfl⟩, rfl, rfl⟩) (List.Sublist.refl _) (fun w hw => ?_)
    obtain ⟨cs, ⟨_, _, rfl, ⟨rfl, _⟩, _, _, rfl, ⟨rfl, _⟩, ⟨rfl, _⟩⟩, rfl⟩ := hw
    exact ⟨nb, pb, ob, rc, tl, _, _, rfl, rfl, hcap, (hV2.mono hl3).mono h3, hV3.mono h3⟩
end Go.Dr
namespace Go.Dr
open Go.Proofs
set_option maxRecDepth 20000
set_option maxHeartbeats 2000000
set_option linter.unusedSimpArgs false
set_option linter.unusedVariables false
theorem V_cl {S : SHeap} {a b c d : Int} (h : Rng a ∧ Rng b ∧ Rng c ∧ Rng d := by simp [Rng]) : rClause.V S (.agg (flatCells [.int .i64 a, .int .i64 b, .int .i64 c, .int .i64 d]).toArray) ⟨a, b, c, d⟩ := V_clause.2 ⟨by simp [flatCells, Value.cells], h⟩
theorem V_num {S : SHeap} {a : Int} (h : Rng a := by simp [Rng]) : rI64.V S (.int .i64 a) a := V_i64.2 ⟨rfl, h⟩
theorem f8_O : ofC chap8 [0, 0, -1] 4 0 0 = (0, false) := by decide +kernel
theorem f8_P : podC chap8 [0, 1, 2] 1 = [⟨2, 1, 0, 0⟩, ⟨3, 1, 0, 0⟩] := by decide +kernel
theorem f8_B : brokenC chap8 [0, 1, 2] = [] := by decide +kernel
theorem f8_b1 : byB chap8 [0, 0, -1] ⟨1, 0, 0, 5⟩ = true := by decide +kernel
theorem f8_b7 : byB chap8 [0, 0, -1] ⟨7, 0, 0, 1⟩ = true := by decide +kernel
theorem f8_b8 : byB chap8 [0, 0, -1] ⟨8, 0, 0, 1⟩ = true := by decide +kernel
theorem w8_O {S : SHeap} {u v : Value} (hu : rSnap.V S u chap8) (hv : (rSlice 8 rI64).V S v [0, 0, -1]) : FnV Tryz.prog 24 #[u, v, .int .i64 4, .int .i64 0, .int .i64 0] S (.tuple #[.int .i64 0, .bool false]) := by
  have h := p8_Of 4 0 0 (by simp [Rng]) (by simp [Rng]) (by simp [Rng]) hu hv
  rw [f8_O] at h; exact h
theorem w8_P {S : SHeap} {u v : Value} (hu : rSnap.V S u chap8) (hv : (rSlice 8 rI64).V S v [0, 1, 2]) : FnL Tryz.prog 26 #[u, v, .int .i64 1] S 32 rClause [⟨2, 1, 0, 0⟩, ⟨3, 1, 0, 0⟩] := by
  have h := p8_Pod 1 (by simp [Rng]) hu hv
  rw [f8_P] at h; exact h
theorem w8_B {S : SHeap} {u v : Value} (hu : rSnap.V S u chap8) (hv : (rSlice 8 rI64).V S v [0, 1, 2]) : FnL Tryz.prog 20 #[u, v] S 32 rClause [] := by
  have h := p8_Broken hu hv
  rw [f8_B] at h; exact h
theorem w8_b {S : SHeap} {u v cv : Value} {s : Snap} {p : List Int} {c : Clause} (hb : byB s p c = true) (hu : rSnap.V S u s) (hv : (rSlice 8 rI64).V S v p) (hc : rClause.V S cv c) : FnV Tryz.prog 30 #[u, v, cv] S (.bool true) := by
  have h := q8_by hu hv hc
  rw [hb] at h; exact h
theorem q8_works {S : SHeap} : FnV Tryz.prog 23 #[] S (.bool true) := by
  have hz0 : ([⟨2, 1, 0, 0⟩, ⟨3, 1, 0, 0⟩] : List Clause)[(0 : Int).toNat]? = some ⟨2, 1, 0, 0⟩ := rfl
  have hz1 : ([⟨2, 1, 0, 0⟩, ⟨3, 1, 0, 0⟩] : List Clause)[(1 : Int).toNat]? = some ⟨3, 1, 0, 0⟩ := rfl
  (refine Fn.enter (args := []) Tryz.func23 rfl Tryz.ntmps23 rfl ?_; intro w0)
  repeat (first | (refine Walk ?_; intros) | refine JC.block ?_ | (refine JO.eff rfl rfl rfl (JEff.callL rfl (p8_Broken (by exact vta) (by exact vta)) rfl ?_); intro _ _ _ _ _ _) | (refine JO.eff rfl rfl rfl (JEff.callV rfl (p8_Of _ _ _ (by first | assumption | (unfold Rng; omega)) (by first | assumption | (unfold Rng; omega)) (by first | assumption | (unfold Rng; omega)) (by exact vta) (by exact vta)) rfl ?_); intro _ _) | (refine JO.eff rfl rfl rfl (JEff.callL rfl (p8_Pod _ (by first | assumption | (unfold Rng; omega)) (by exact vta) (by exact vta)) rfl ?_); intro _ _ _ _ _ _) | (refine JO.eff rfl rfl rfl (JEff.callR rfl (q8_chapter) rfl ?_); intro _ _ _ _) | (refine WNew ?_; intros) | (refine WPut ?_; intros))
  (refine JO.eff rfl rfl rfl (JEff.buildS (bt := 8) (rep := rI64) (ys := [(0 : Int), 0, -1]) rfl rfl (⟨⟨V_num, nna⟩, ⟨V_num, nna⟩, ⟨V_num, nna⟩, trivial⟩) rfl rfl rfl (by decide) rfl ?_); intro S2 a2 hl2 hV2)
  repeat (first | (refine Walk ?_; intros) | refine JC.block ?_ | (refine JO.eff rfl rfl rfl (JEff.callV rfl (w8_O (by exact vta) (by exact vta)) rfl ?_); intro _ _) | (refine JO.eff rfl rfl rfl (JEff.callL rfl (p8_Broken (by exact vta) (by exact vta)) rfl ?_); intro _ _ _ _ _ _) | (refine JO.eff rfl rfl rfl (JEff.callV rfl (p8_Of _ _ _ (by first | assumption | (unfold Rng; omega)) (by first | assumption | (unfold Rng; omega)) (by first | assumption | (unfold Rng; omega)) (by exact vta) (by exact vta)) rfl ?_); intro _ _) | (refine JO.eff rfl rfl rfl (JEff.callL rfl (p8_Pod _ (by first | assumption | (unfold Rng; omega)) (by exact vta) (by exact vta)) rfl ?_); intro _ _ _ _ _ _) | (refine JO.eff rfl rfl rfl (JEff.callR rfl (q8_chapter) rfl ?_); intro _ _ _ _) | (refine WNew ?_; intros) | (refine WPut ?_; intros))
  (refine JO.eff rfl rfl rfl (JEff.buildS (bt := 8) (rep := rI64) (ys := [(0 : Int), 1, 2]) rfl rfl (⟨⟨V_num, nna⟩, ⟨V_num, nna⟩, ⟨V_num, nna⟩, trivial⟩) rfl rfl rfl (by decide) rfl ?_); intro S3 a3 hl3 hV3)
  repeat (first | (refine Walk ?_; intros) | refine JC.block ?_ | (refine JO.eff rfl rfl rfl (JEff.callL rfl (w8_P (by exact vta) (by exact vta)) rfl ?_); intro _ _ _ _ _ _) | (refine JO.eff rfl rfl rfl (JEff.callV rfl (w8_b f8_b1 (by exact vta) (by exact vta) V_cl) rfl ?_); intro _ _) | (refine JO.eff rfl rfl rfl (JEff.callV rfl (w8_b f8_b7 (by exact vta) (by exact vta) V_cl) rfl ?_); intro _ _) | (refine JO.eff rfl rfl rfl (JEff.callV rfl (w8_b f8_b8 (by exact vta) (by exact vta) V_cl) rfl ?_); intro _ _) | (refine JO.eff rfl rfl rfl (JEff.callL rfl (p8_Broken (by exact vta) (by exact vta)) rfl ?_); intro _ _ _ _ _ _) | (refine JO.eff rfl rfl rfl (JEff.callV rfl (p8_Of _ _ _ (by first | assumption | (unfold Rng; omega)) (by first | assumption | (unfold Rng; omega)) (by first | assumption | (unfold Rng; omega)) (by exact vta) (by exact vta)) rfl ?_); intro _ _) | (refine JO.eff rfl rfl rfl (JEff.callL rfl (p8_Pod _ (by first | assumption | (unfold Rng; omega)) (by exact vta) (by exact vta)) rfl ?_); intro _ _ _ _ _ _) | (refine JO.eff rfl rfl rfl (JEff.callR rfl (q8_chapter) rfl ?_); intro _ _ _ _) | (refine WNew ?_; intros) | (refine WPut ?_; intros))
  (refine JO.eff rfl rfl rfl (JEff.buildS (bt := 8) (rep := rI64) (ys := [(0 : Int), 1, 2]) rfl rfl (⟨⟨V_num, nna⟩, ⟨V_num, nna⟩, ⟨V_num, nna⟩, trivial⟩) rfl rfl rfl (by decide) rfl ?_); intro S4 a4 hl4 hV4)
  repeat (first | (refine Walk ?_; intros) | refine JC.block ?_ | (refine JO.eff rfl rfl rfl (JEff.callL rfl (w8_B (by exact vta) (by exact vta)) rfl ?_); intro _ _ _ _ _ _) | refine JO.pure rfl rfl rfl (JPure.eqR rfl vta rfl V_cl rfl rfl ?_) | (refine JO.eff rfl rfl rfl (JEff.callL rfl (p8_Broken (by exact vta) (by exact vta)) rfl ?_); intro _ _ _ _ _ _) | (refine JO.eff rfl rfl rfl (JEff.callV rfl (p8_Of _ _ _ (by first | assumption | (unfold Rng; omega)) (by first | assumption | (unfold Rng; omega)) (by first | assumption | (unfold Rng; omega)) (by exact vta) (by exact vta)) rfl ?_); intro _ _) | (refine JO.eff rfl rfl rfl (JEff.callL rfl (p8_Pod _ (by first | assumption | (unfold Rng; omega)) (by exact vta) (by exact vta)) rfl ?_); intro _ _ _ _ _ _) | (refine JO.eff rfl rfl rfl (JEff.callR rfl (q8_chapter) rfl ?_); intro _ _ _ _) | (refine WNew ?_; intros) | (refine WPut ?_; intros))
  (refine JX.ret1 Tryz.results23 (ResV.tmp rfl) (List.nil_sublist _) ?_)
  exact ⟨rfl, rfl⟩
end Go.Dr
namespace Go.Dr
open Go.Proofs
set_option maxRecDepth 20000
set_option maxHeartbeats 2000000
set_option linter.unusedSimpArgs false
set_option linter.unusedVariables false
def app8 : List Term := [⟨1, ⟨#[97, 112, 112]⟩, ⟨#[120]⟩⟩]
def chapN8 : Snap := ⟨[⟨⟨#[97]⟩, [15, 0, 0, 0, 0], [⟨zoneS, ⟨#[120]⟩⟩], [⟨⟨#[103, 112, 117]⟩, ⟨#[120]⟩⟩, ⟨⟨#[111, 108, 100]⟩, ⟨#[121]⟩⟩], false, false⟩, nd8 98 [⟨zoneS, ⟨#[121]⟩⟩], nd8 99 []],
  [⟨⟨#[112]⟩, ⟨#[111]⟩, [10, 0, 0, 0, 0], [⟨⟨#[97, 112, 112]⟩, ⟨#[120]⟩⟩], [⟨1, zoneS, ⟨#[121]⟩⟩], [⟨⟨#[103, 112, 117]⟩, ⟨#[42]⟩⟩], ⟨zoneS, app8⟩, noNear, ⟨#[]⟩⟩, ⟨⟨#[113]⟩, ⟨#[111]⟩, [10, 0, 0, 0, 0], [], [], [], ⟨zoneS, app8⟩, ⟨zoneS, app8⟩, ⟨#[]⟩⟩, pod8 114],
  [⟨⟨#[111]⟩, 3, zoneS, 1, true⟩]⟩
theorem g8_1 : byB chapN8 [0, 0, 0] ⟨1, 0, 0, 15⟩ = true := by decide +kernel
theorem g8_2 : byB chapN8 [0, 0, 0] ⟨1, 1, 0, 0⟩ = true := by decide +kernel
theorem g8_3 : byB chapN8 [0, 0, 0] ⟨2, 0, 0, 1⟩ = true := by decide +kernel
theorem g8_4 : byB chapN8 [0, 0, 0] ⟨3, 0, 0, 1⟩ = true := by decide +kernel
theorem g8_5 : byB chapN8 [0, 0, 0] ⟨3, 1, 0, 2⟩ = true := by decide +kernel
theorem g8_6 : byB chapN8 [0, 0, 0] ⟨4, 0, 0, 0⟩ = true := by decide +kernel
theorem g8_7 : byB chapN8 [0, 0, 0] ⟨4, 1, 0, 0⟩ = true := by decide +kernel
theorem g8_8 : byB chapN8 [0, 0, 0] ⟨5, 1, 0, 1⟩ = true := by decide +kernel
theorem g8_9 : byB chapN8 [0, 0, 0] ⟨6, 2, 0, 2⟩ = true := by decide +kernel
theorem g8_10 : byB chapN8 [0, 0, 0] ⟨7, 0, 0, 2⟩ = true := by decide +kernel
theorem g8_11 : byB chapN8 [0, 0, 0] ⟨8, 0, 0, 0⟩ = true := by decide +kernel
theorem g8_12 : byB chapN8 [2, 1, -1] ⟨4, 0, 0, 1⟩ = true := by decide +kernel
theorem g8_13 : byB chapN8 [2, 1, -1] ⟨4, 1, 0, 1⟩ = true := by decide +kernel
theorem g8_14 : byB chapN8 [2, 1, -1] ⟨5, 1, 0, 0⟩ = true := by decide +kernel
theorem g8_15 : byB chapN8 [2, 1, -1] ⟨7, 0, 0, 0⟩ = true := by decide +kernel
theorem g8_16 : byB chapN8 [2, 1, -1] ⟨8, 0, 0, 1⟩ = true := by decide +kernel
theorem g8_c : checkP chapN8 [0] = 2 := by decide +kernel
theorem g8_o1 : ofC chapN8 [0, 0, 0] 8 0 1 = (0, false) := by decide +kernel
theorem g8_o2 : ofC chapN8 [0, 0, 0] 1 0 5 = (0, false) := by decide +kernel
theorem g8_o3 : ofC chapN8 [0, 0, 0] 9 0 0 = (0, false) := by decide +kernel
theorem g8_p1 : podC chapN8 [2, 1, -1] 2 = [] := by decide +kernel
theorem g8_p2 : podC chapN8 [2, 1, -1] (-1) = [] := by decide +kernel
theorem g8_p3 : podC chapN8 [2, 1, -1] 3 = [] := by decide +kernel
theorem w8n_Of {S : SHeap} {u v : Value} {s : Snap} {p : List Int} {k a b : Int} (h : ofC s p k a b = (0, false)) (hr : Rng k ∧ Rng a ∧ Rng b) (hu : rSnap.V S u s) (hv : (rSlice 8 rI64).V S v p) : FnV Tryz.prog 24 #[u, v, .int .i64 k, .int .i64 a, .int .i64 b] S (.tuple #[.int .i64 0, .bool false]) := by
  have hh := p8_Of k a b hr.1 hr.2.1 hr.2.2 hu hv
  rw [h] at hh; exact hh
theorem w8n_Pod {S : SHeap} {u v : Value} {s : Snap} {p : List Int} {k : Int} (h : podC s p k = []) (hr : Rng k) (hu : rSnap.V S u s) (hv : (rSlice 8 rI64).V S v p) : FnL Tryz.prog 26 #[u, v, .int .i64 k] S 32 rClause [] := by
  have hh := p8_Pod k hr hu hv
  rw [h] at hh; exact hh
theorem w8n_All {S : SHeap} {u v : Value} {s : Snap} {p : List Int} {e : Int} (h : checkP s p = e) (he : ¬ e = 0) (hu : rSnap.V S u s) (hv : (rSlice 8 rI64).V S v p) : FnLE Tryz.prog 17 #[u, v] S 32 rClause [] (.int .i64 e) := by
  have hh := p8_All hu hv
  have h2 : allL s p = [] := by unfold allL; rw [if_neg (by rw [h]; exact he)]
  rw [h, h2] at hh; exact hh
theorem V_trm {S : SHeap} {k : Int} {a b : ByteArray} (hk : Rng k) (h1 : a.size ≤ big) (h2 : b.size ≤ big) : rTerm.V S (.agg (flatCells [.int .i64 k, .string a, .string b]).toArray) ⟨k, a, b⟩ := ⟨_, map_R (seq1 (R_i64 hk) (seq1 (R_str h1) (R_str h2))), rfl⟩
theorem V_near {S : SHeap} {w : ByteArray} {a : Option Addr} {n c : Nat} {l : List Term} (hw : w.size ≤ big) (h : (rSlice 40 rTerm).V S (.slice a n c) l) : rNear.V S (.agg (flatCells [.string w, .slice a n c]).toArray) ⟨w, l⟩ := ⟨[_, _], map_R (seq1 (R_str hw) (h.one rfl)), rfl⟩
theorem take45 {a b c : Value} {tl : List Value} (h : (flatCells [a, b, c]).length = 45) : (cellsR [a, b, c] tl).toList.take 45 = flatCells [a, b, c] := by
  show (flatCells [a, b, c] ++ tl).take 45 = _
  rw [List.take_append_of_le_length (by omega), List.take_of_length_le (by omega)]
theorem s7_L08o {P K : Prop} (k : K) (h : Goal K → P := by
  intro zk
  (first | refine Walk ?_ | refine JC.block ?_ | (refine JO.eff rfl rfl rfl (JEff.callLE rfl (p8_All (by exact vta) (by exact vta)) rfl ?_); intro zqa zqb zqc zqd zqe zqf) | (refine JO.eff rfl rfl rfl (JEff.callV rfl (q8_works) rfl ?_); intro zqa zqb) | (refine JO.eff rfl rfl rfl (JEff.callV rfl (p8_Of _ _ _ (by first | assumption | (unfold Rng; omega)) (by first | assumption | (unfold Rng; omega)) (by first | assumption | (unfold Rng; omega)) (by exact vta) (by exact vta)) rfl ?_); intro zqa zqb) | (refine JO.eff rfl rfl rfl (JEff.callL rfl (p8_Pod _ (by first | assumption | (unfold Rng; omega)) (by exact vta) (by exact vta)) rfl ?_); intro zqa zqb zqc zqd zqe zqf) | (refine JO.eff rfl rfl rfl (JEff.callR rfl (q8_chapter) rfl ?_); intro zqa zqb zqc zqd) | (refine WNew ?_) | (refine WPut ?_))
  (repeat (first | revert zqg | revert zqf | revert zqe | revert zqd | revert zqc | revert zqb | revert zqa))
  exact zk.k) : P := h ⟨k⟩
theorem a8_ClauseNames {S : SHeap} : FnV Tryz.prog 7 #[] S (.bool true) := by
  haveI : TyR Tryz.prog 22 rVal := ⟨(inferInstance : TyR Tryz.prog 22 (rSlice 112 rNode)).b⟩
  haveI : TyR Tryz.prog 23 rVal := ⟨(inferInstance : TyR Tryz.prog 23 (rSlice 240 rPod)).b⟩
  haveI : TyR Tryz.prog 24 rVal := ⟨(inferInstance : TyR Tryz.prog 24 (rSlice 56 rOwner)).b⟩
  have hRaw : TyR Tryz.prog 26 rRaw3 := ⟨(inferInstance : TyR Tryz.prog 26 rSnap).b⟩
  (refine Fn.enter (args := []) Tryz.func7 rfl Tryz.ntmps7 rfl ?_; intro w0)
  repeat (first | (refine Walk ?_; intros) | refine JC.block ?_ | refine JO.eff rfl rfl rfl (JEff.callM (Mc := []) rfl (List.Perm.refl _) (mayAll rfl) q8_chapterM rfl ?_) | (refine JO.eff rfl rfl rfl (JEff.callLE rfl (p8_All (by exact vta) (by exact vta)) rfl ?_); intro _ _ _ _ _ _) | (refine JO.eff rfl rfl rfl (JEff.callV rfl (q8_works) rfl ?_); intro _ _) | (refine JO.eff rfl rfl rfl (JEff.callV rfl (p8_Of _ _ _ (by first | assumption | (unfold Rng; omega)) (by first | assumption | (unfold Rng; omega)) (by first | assumption | (unfold Rng; omega)) (by exact vta) (by exact vta)) rfl ?_); intro _ _) | (refine JO.eff rfl rfl rfl (JEff.callL rfl (p8_Pod _ (by first | assumption | (unfold Rng; omega)) (by exact vta) (by exact vta)) rfl ?_); intro _ _ _ _ _ _) | (refine JO.eff rfl rfl rfl (JEff.callR rfl (q8_chapter) rfl ?_); intro _ _ _ _) | (refine WNew ?_; intros) | (refine WPut ?_; intros))
  intro w S1 M1 hl1 hw
  obtain ⟨nb, pb, ob, cap, tl, a1, a2, rfl, rfl, hcap, hV1, hV2⟩ := hw
  dsimp only [List.cons_append, List.nil_append]
  (refine JO.eff rfl rfl rfl (JEff.alloc rfl ?_); intro sb hsb)
  refine JO.eff rfl rfl rfl (JEff.storeW (ht := hRaw) rfl rfl V_raw3 nna pma rfl (by intro l hl; cases hl) ?_)
  refine JO.freeze hsb (by intro l hl; cases hl) (fun S2 hl2 hS2 => ?_)
  have hpr : PtrTo S2 ⟨sb, 0, none⟩ rRaw3 (.slice (some ⟨nb, 0, none⟩) 3 3, .slice (some ⟨pb, 0, none⟩) 3 cap, .slice (some ⟨ob, 0, none⟩) 1 1) :=
    cells_ptr (v := .agg #[.slice (some ⟨nb, 0, none⟩) 3 3, .slice (some ⟨pb, 0, none⟩) 3 cap, .slice (some ⟨ob, 0, none⟩) 1 1]) hS2 ⟨[_], [_, _], rfl, ⟨rfl, rfl⟩, [_], [_], rfl, ⟨rfl, rfl⟩, rfl, rfl⟩
  repeat (refine s7_L08o ?_; intros)
  (refine JO.eff rfl rfl rfl (JEff.buildS (bt := 32) (rep := rLabel) (ys := [(⟨⟨#[103, 112, 117]⟩, ⟨#[120]⟩⟩ : Label), ⟨⟨#[111, 108, 100]⟩, ⟨#[121]⟩⟩]) rfl rfl (⟨⟨V_lab (by decide) (by decide), nna⟩, ⟨V_lab (by decide) (by decide), nna⟩, trivial⟩) rfl rfl rfl (by decide) rfl ?_); intro S3 a3 hl3 hV3)
  repeat (refine s7_L08o ?_; intros)
  refine JO.pure rfl rfl rfl (JPure.indexR rNode rfl rfl rfl (by decide) (by decide) ?_)
  refine JO.pure rfl rfl rfl (JPure.fieldP rfl rfl ?_)
  refine JO.eff rfl rfl rfl (JEff.storeTo ((flatCells [ndV 97 (.slice a1 1 1) (.slice a3 2 2) false false, ndV 98 (.slice a2 1 1) (.slice none 0 0) false false, ndV 99 (.slice none 0 0) (.slice none 0 0) false false]).toArray) (rep := rSlice 32 rLabel) rfl rfl hV3 nna pma (Nat.le_of_ble_eq_true rfl) (by intro l hl; cases hl) rfl ?_)
  repeat (refine s7_L08o ?_; intros)
  refine JO.pure rfl rfl rfl (JPure.indexR rOwner rfl rfl rfl (by decide) (by decide) ?_)
  refine JO.pure rfl rfl rfl (JPure.fieldP rfl rfl ?_)
  refine JO.eff rfl rfl rfl (JEff.storeTo ((flatCells [ownV0 3 true]).toArray) (rep := rBool) rfl rfl (V_bool.2 rfl) nna pma (Nat.le_of_ble_eq_true rfl) (by intro l hl; cases hl) rfl ?_)
  repeat (refine s7_L08o ?_; intros)
  (refine JO.eff rfl rfl rfl (JEff.buildS (bt := 40) (rep := rTerm) (ys := [(⟨1, zoneS, ⟨#[121]⟩⟩ : Term)]) rfl rfl (⟨⟨V_trm (by simp [Rng]) (by decide) (by decide), nna⟩, trivial⟩) rfl rfl rfl (by decide) rfl ?_); intro S4 a4 hl4 hV4)
  repeat (refine s7_L08o ?_; intros)
  refine JO.pure rfl rfl rfl (JPure.indexR rPod rfl rfl rfl (by decide) (by decide) ?_)
  refine JO.pure rfl rfl rfl (JPure.fieldP rfl rfl ?_)
  refine JO.eff rfl rfl rfl (JEff.storeTo (cellsR [podV 112 (.slice none 0 0) (.slice a4 1 1) (.slice none 0 0) ⟨#[]⟩ (.slice none 0 0) ⟨#[]⟩ (.slice none 0 0), podV 113 (.slice none 0 0) (.slice none 0 0) (.slice none 0 0) ⟨#[]⟩ (.slice none 0 0) ⟨#[]⟩ (.slice none 0 0), podV0 114] tl) (rep := rSlice 40 rTerm) rfl rfl hV4 nna pma (Nat.le_of_ble_eq_true rfl) (by intro l hl; cases hl) rfl ?_)
  repeat (refine s7_L08o ?_; intros)
  (refine JO.eff rfl rfl rfl (JEff.buildS (bt := 32) (rep := rLabel) (ys := [(⟨⟨#[103, 112, 117]⟩, ⟨#[42]⟩⟩ : Label)]) rfl rfl (⟨⟨V_lab (by decide) (by decide), nna⟩, trivial⟩) rfl rfl rfl (by decide) rfl ?_); intro S5 a5 hl5 hV5)
  repeat (refine s7_L08o ?_; intros)
  refine JO.pure rfl rfl rfl (JPure.indexR rPod rfl rfl rfl (by decide) (by decide) ?_)
  refine JO.pure rfl rfl rfl (JPure.fieldP rfl rfl ?_)
  refine JO.eff rfl rfl rfl (JEff.storeTo (cellsR [podV 112 (.slice none 0 0) (.slice a4 1 1) (.slice a5 1 1) ⟨#[]⟩ (.slice none 0 0) ⟨#[]⟩ (.slice none 0 0), podV 113 (.slice none 0 0) (.slice none 0 0) (.slice none 0 0) ⟨#[]⟩ (.slice none 0 0) ⟨#[]⟩ (.slice none 0 0), podV0 114] tl) (rep := rSlice 32 rLabel) rfl rfl hV5 nna pma (Nat.le_of_ble_eq_true rfl) (by intro l hl; cases hl) rfl ?_)
  repeat (refine s7_L08o ?_; intros)
  (refine JO.eff rfl rfl rfl (JEff.buildS (bt := 32) (rep := rLabel) (ys := [(⟨⟨#[97, 112, 112]⟩, ⟨#[120]⟩⟩ : Label)]) rfl rfl (⟨⟨V_lab (by decide) (by decide), nna⟩, trivial⟩) rfl rfl rfl (by decide) rfl ?_); intro S6 a6 hl6 hV6)
  repeat (refine s7_L08o ?_; intros)
  refine JO.pure rfl rfl rfl (JPure.indexR rPod rfl rfl rfl (by decide) (by decide) ?_)
  refine JO.pure rfl rfl rfl (JPure.fieldP rfl rfl ?_)
  refine JO.eff rfl rfl rfl (JEff.storeTo (cellsR [podV 112 (.slice a6 1 1) (.slice a4 1 1) (.slice a5 1 1) ⟨#[]⟩ (.slice none 0 0) ⟨#[]⟩ (.slice none 0 0), podV 113 (.slice none 0 0) (.slice none 0 0) (.slice none 0 0) ⟨#[]⟩ (.slice none 0 0) ⟨#[]⟩ (.slice none 0 0), podV0 114] tl) (rep := rSlice 32 rLabel) rfl rfl hV6 nna pma (Nat.le_of_ble_eq_true rfl) (by intro l hl; cases hl) rfl ?_)
  repeat (refine s7_L08o ?_; intros)
  (refine JO.eff rfl rfl rfl (JEff.buildS (bt := 40) (rep := rTerm) (ys := [(⟨1, ⟨#[97, 112, 112]⟩, ⟨#[120]⟩⟩ : Term)]) rfl rfl (⟨⟨V_trm (by simp [Rng]) (by decide) (by decide), nna⟩, trivial⟩) rfl rfl rfl (by decide) rfl ?_); intro S7 a7 hl7 hV7)
  repeat (refine s7_L08o ?_; intros)
  have hNr := V_near (w := zoneS) szZ hV7
  refine JO.pure rfl rfl rfl (JPure.indexR rPod rfl rfl rfl (by decide) (by decide) ?_)
  refine JO.pure rfl rfl rfl (JPure.fieldP rfl rfl ?_)
  refine JO.eff rfl rfl rfl (JEff.storeTo (cellsR [podV 112 (.slice a6 1 1) (.slice a4 1 1) (.slice a5 1 1) zoneS (.slice a7 1 1) ⟨#[]⟩ (.slice none 0 0), podV 113 (.slice none 0 0) (.slice none 0 0) (.slice none 0 0) ⟨#[]⟩ (.slice none 0 0) ⟨#[]⟩ (.slice none 0 0), podV0 114] tl) (rep := rNear) rfl rfl hNr nna pma (Nat.le_of_ble_eq_true rfl) (by intro l hl; cases hl) rfl ?_)
  repeat (refine s7_L08o ?_; intros)
  refine JO.pure rfl rfl rfl (JPure.indexR rPod rfl rfl rfl (by decide) (by decide) ?_)
  refine JO.pure rfl rfl rfl (JPure.fieldP rfl rfl ?_)
  refine JO.eff rfl rfl rfl (JEff.storeTo (cellsR [podV 112 (.slice a6 1 1) (.slice a4 1 1) (.slice a5 1 1) zoneS (.slice a7 1 1) ⟨#[]⟩ (.slice none 0 0), podV 113 (.slice none 0 0) (.slice none 0 0) (.slice none 0 0) zoneS (.slice a7 1 1) ⟨#[]⟩ (.slice none 0 0), podV0 114] tl) (rep := rNear) rfl rfl hNr nna pma (Nat.le_of_ble_eq_true rfl) (by intro l hl; cases hl) rfl ?_)
  repeat (refine s7_L08o ?_; intros)
  refine JO.pure rfl rfl rfl (JPure.indexR rPod rfl rfl rfl (by decide) (by decide) ?_)
  refine JO.pure rfl rfl rfl (JPure.fieldP rfl rfl ?_)
  refine JO.eff rfl rfl rfl (JEff.storeTo (cellsR [podV 112 (.slice a6 1 1) (.slice a4 1 1) (.slice a5 1 1) zoneS (.slice a7 1 1) ⟨#[]⟩ (.slice none 0 0), podV 113 (.slice none 0 0) (.slice none 0 0) (.slice none 0 0) zoneS (.slice a7 1 1) zoneS (.slice a7 1 1), podV 114 (.slice none 0 0) (.slice none 0 0) (.slice none 0 0) ⟨#[]⟩ (.slice none 0 0) ⟨#[]⟩ (.slice none 0 0)] tl) (rep := rNear) rfl rfl hNr nna pma (Nat.le_of_ble_eq_true rfl) (by intro l hl; cases hl) rfl ?_)
  repeat (refine s7_L08o ?_; intros)
  (refine JO.eff rfl rfl rfl (JEff.buildS (bt := 8) (rep := rI64) (ys := [(0 : Int), 0, 0]) rfl rfl (⟨⟨V_num, nna⟩, ⟨V_num, nna⟩, ⟨V_num, nna⟩, trivial⟩) rfl rfl rfl (by decide) rfl ?_); intro S8 a8 hl8 hV8)
  refine JO.blkNew rfl (fun _ hpb => ?_)
  refine JO.freeze hpb (by intro l hl; cases hl) (fun S9 hl9 hS9 => ?_)
  refine JO.blkNew rfl (fun _ hob => ?_)
  refine JO.freeze hob (by intro l hl; cases hl) (fun S10 hl10 hS10 => ?_)
  refine JO.blkNew rfl (fun _ hnb => ?_)
  refine JO.freeze hnb (by intro l hl; cases hl) (fun S11 hl11 hS11 => ?_)
  have hN : (rSlice 112 rNode).V S11 (.slice (some ⟨nb, 0, none⟩) 3 3) chapN8.nodes := slice_of_block (SHeap.le.refl _) hS11 (vs := [ndV 97 (.slice a1 1 1) (.slice a3 2 2) false false, ndV 98 (.slice a2 1 1) (.slice none 0 0) false false, ndV 99 (.slice none 0 0) (.slice none 0 0) false false]) ⟨⟨V_ndG (hV1.mono (by exact lea)) (hV3.mono (by exact lea)), nna⟩, ⟨V_ndG (hV2.mono (by exact lea)) V_nil, nna⟩, ⟨V_ndG V_nil V_nil, nna⟩, trivial⟩ rfl (by decide) (by decide) (by decide) rfl
  have hO : (rSlice 56 rOwner).V S11 (.slice (some ⟨ob, 0, none⟩) 1 1) chapN8.owners := slice_of_block (SHeap.le.refl _) (hl11 _ _ hS10) (vs := [ownV0 3 true]) ⟨⟨V_ownG (by simp [Rng]), nna⟩, trivial⟩ rfl (by decide) (by decide) (by decide) rfl
  have h7 := hV7.mono (show SHeap.le S7 S11 by exact lea)
  have hD : (rSlice 240 rPod).V S11 (.slice (some ⟨pb, 0, none⟩) 3 cap) chapN8.pods := slice_of_block (SHeap.le.refl _) ((show SHeap.le S9 S11 by exact lea) _ _ hS9) (vs := [podV 112 (.slice a6 1 1) (.slice a4 1 1) (.slice a5 1 1) zoneS (.slice a7 1 1) ⟨#[]⟩ (.slice none 0 0), podV 113 (.slice none 0 0) (.slice none 0 0) (.slice none 0 0) zoneS (.slice a7 1 1) zoneS (.slice a7 1 1), podV 114 (.slice none 0 0) (.slice none 0 0) (.slice none 0 0) ⟨#[]⟩ (.slice none 0 0) ⟨#[]⟩ (.slice none 0 0)]) ⟨⟨V_podG (hV6.mono (by exact lea)) (hV4.mono (by exact lea)) (hV5.mono (by exact lea)) h7 V_nil szZ sz0, nna⟩, ⟨V_podG V_nil V_nil V_nil h7 h7 szZ szZ, nna⟩, ⟨V_podG V_nil V_nil V_nil V_nil V_nil sz0 sz0, nna⟩, trivial⟩ rfl hcap (by decide) (by decide) (take45 rfl)
  have hsnap : PtrTo S11 ⟨sb, 0, none⟩ rSnap chapN8 := cells_ptr (v := .agg #[.slice (some ⟨nb, 0, none⟩) 3 3, .slice (some ⟨pb, 0, none⟩) 3 cap, .slice (some ⟨ob, 0, none⟩) 1 1]) ((show SHeap.le S2 S11 by exact lea) _ _ hS2) (map_R (seq1 (hN.one rfl) (seq1 (hD.one rfl) (hO.one rfl))))
  clear hpr hRaw
  repeat (first | (refine Walk ?_; intros) | refine JC.block ?_ | (refine JO.eff rfl rfl rfl (JEff.callV rfl (w8_b g8_1 (by exact vta) (by exact vta) V_cl) rfl ?_); intro _ _) | (refine JO.eff rfl rfl rfl (JEff.callV rfl (w8_b g8_2 (by exact vta) (by exact vta) V_cl) rfl ?_); intro _ _) | (refine JO.eff rfl rfl rfl (JEff.callV rfl (w8_b g8_3 (by exact vta) (by exact vta) V_cl) rfl ?_); intro _ _) | (refine JO.eff rfl rfl rfl (JEff.callV rfl (w8_b g8_4 (by exact vta) (by exact vta) V_cl) rfl ?_); intro _ _) | (refine JO.eff rfl rfl rfl (JEff.callV rfl (w8_b g8_5 (by exact vta) (by exact vta) V_cl) rfl ?_); intro _ _) | (refine JO.eff rfl rfl rfl (JEff.callV rfl (w8_b g8_6 (by exact vta) (by exact vta) V_cl) rfl ?_); intro _ _) | (refine JO.eff rfl rfl rfl (JEff.callV rfl (w8_b g8_7 (by exact vta) (by exact vta) V_cl) rfl ?_); intro _ _) | (refine JO.eff rfl rfl rfl (JEff.callV rfl (w8_b g8_8 (by exact vta) (by exact vta) V_cl) rfl ?_); intro _ _) | (refine JO.eff rfl rfl rfl (JEff.callV rfl (w8_b g8_9 (by exact vta) (by exact vta) V_cl) rfl ?_); intro _ _) | (refine JO.eff rfl rfl rfl (JEff.callV rfl (w8_b g8_10 (by exact vta) (by exact vta) V_cl) rfl ?_); intro _ _) | (refine JO.eff rfl rfl rfl (JEff.callV rfl (w8_b g8_11 (by exact vta) (by exact vta) V_cl) rfl ?_); intro _ _) | (refine JO.eff rfl rfl rfl (JEff.callLE rfl (p8_All (by exact vta) (by exact vta)) rfl ?_); intro _ _ _ _ _ _) | (refine JO.eff rfl rfl rfl (JEff.callV rfl (q8_works) rfl ?_); intro _ _) | (refine JO.eff rfl rfl rfl (JEff.callV rfl (p8_Of _ _ _ (by first | assumption | (unfold Rng; omega)) (by first | assumption | (unfold Rng; omega)) (by first | assumption | (unfold Rng; omega)) (by exact vta) (by exact vta)) rfl ?_); intro _ _) | (refine JO.eff rfl rfl rfl (JEff.callL rfl (p8_Pod _ (by first | assumption | (unfold Rng; omega)) (by exact vta) (by exact vta)) rfl ?_); intro _ _ _ _ _ _) | (refine JO.eff rfl rfl rfl (JEff.callR rfl (q8_chapter) rfl ?_); intro _ _ _ _) | (refine WNew ?_; intros) | (refine WPut ?_; intros))
  (refine JO.eff rfl rfl rfl (JEff.buildS (bt := 8) (rep := rI64) (ys := [(2 : Int), 1, -1]) rfl rfl (⟨⟨V_num, nna⟩, ⟨V_num, nna⟩, ⟨V_num, nna⟩, trivial⟩) rfl rfl rfl (by decide) rfl ?_); intro S12 a12 hl12 hV12)
  repeat (first | (refine Walk ?_; intros) | refine JC.block ?_ | (refine JO.eff rfl rfl rfl (JEff.callV rfl (w8_b g8_12 (by exact vta) (by exact vta) V_cl) rfl ?_); intro _ _) | (refine JO.eff rfl rfl rfl (JEff.callV rfl (w8_b g8_13 (by exact vta) (by exact vta) V_cl) rfl ?_); intro _ _) | (refine JO.eff rfl rfl rfl (JEff.callV rfl (w8_b g8_14 (by exact vta) (by exact vta) V_cl) rfl ?_); intro _ _) | (refine JO.eff rfl rfl rfl (JEff.callV rfl (w8_b g8_15 (by exact vta) (by exact vta) V_cl) rfl ?_); intro _ _) | (refine JO.eff rfl rfl rfl (JEff.callV rfl (w8_b g8_16 (by exact vta) (by exact vta) V_cl) rfl ?_); intro _ _) | (refine JO.eff rfl rfl rfl (JEff.callLE rfl (p8_All (by exact vta) (by exact vta)) rfl ?_); intro _ _ _ _ _ _) | (refine JO.eff rfl rfl rfl (JEff.callV rfl (q8_works) rfl ?_); intro _ _) | (refine JO.eff rfl rfl rfl (JEff.callV rfl (p8_Of _ _ _ (by first | assumption | (unfold Rng; omega)) (by first | assumption | (unfold Rng; omega)) (by first | assumption | (unfold Rng; omega)) (by exact vta) (by exact vta)) rfl ?_); intro _ _) | (refine JO.eff rfl rfl rfl (JEff.callL rfl (p8_Pod _ (by first | assumption | (unfold Rng; omega)) (by exact vta) (by exact vta)) rfl ?_); intro _ _ _ _ _ _) | (refine JO.eff rfl rfl rfl (JEff.callR rfl (q8_chapter) rfl ?_); intro _ _ _ _) | (refine WNew ?_; intros) | (refine WPut ?_; intros))
  (refine JO.eff rfl rfl rfl (JEff.buildS (bt := 8) (rep := rI64) (ys := [(0 : Int)]) rfl rfl (⟨⟨V_num, nna⟩, trivial⟩) rfl rfl rfl (by decide) rfl ?_); intro S13 a13 hl13 hV13)
  repeat (first | (refine Walk ?_; intros) | refine JC.block ?_ | (refine JO.eff rfl rfl rfl (JEff.callLE rfl (w8n_All g8_c (by decide) (by exact vta) hV13) rfl ?_); intro _ _ _ _ _ _) | (refine JO.eff rfl rfl rfl (JEff.callV rfl (w8n_Of g8_o1 (by simp [Rng]) (by exact vta) (by exact vta)) rfl ?_); intro _ _) | (refine JO.eff rfl rfl rfl (JEff.callV rfl (w8n_Of g8_o2 (by simp [Rng]) (by exact vta) (by exact vta)) rfl ?_); intro _ _) | (refine JO.eff rfl rfl rfl (JEff.callV rfl (w8n_Of g8_o3 (by simp [Rng]) (by exact vta) (by exact vta)) rfl ?_); intro _ _) | (refine JO.eff rfl rfl rfl (JEff.callL rfl (w8n_Pod g8_p1 (by simp [Rng]) (by exact vta) (by exact vta)) rfl ?_); intro _ _ _ _ _ _) | (refine JO.eff rfl rfl rfl (JEff.callL rfl (w8n_Pod g8_p2 (by simp [Rng]) (by exact vta) (by exact vta)) rfl ?_); intro _ _ _ _ _ _) | (refine JO.eff rfl rfl rfl (JEff.callL rfl (w8n_Pod g8_p3 (by simp [Rng]) (by exact vta) (by exact vta)) rfl ?_); intro _ _ _ _ _ _) | (refine JO.eff rfl rfl rfl (JEff.callLE rfl (p8_All (by exact vta) (by exact vta)) rfl ?_); intro _ _ _ _ _ _) | (refine JO.eff rfl rfl rfl (JEff.callV rfl (q8_works) rfl ?_); intro _ _) | (refine JO.eff rfl rfl rfl (JEff.callV rfl (p8_Of _ _ _ (by first | assumption | (unfold Rng; omega)) (by first | assumption | (unfold Rng; omega)) (by first | assumption | (unfold Rng; omega)) (by exact vta) (by exact vta)) rfl ?_); intro _ _) | (refine JO.eff rfl rfl rfl (JEff.callL rfl (p8_Pod _ (by first | assumption | (unfold Rng; omega)) (by exact vta) (by exact vta)) rfl ?_); intro _ _ _ _ _ _) | (refine JO.eff rfl rfl rfl (JEff.callR rfl (q8_chapter) rfl ?_); intro _ _ _ _) | (refine WNew ?_; intros) | (refine WPut ?_; intros))
  (refine JX.ret1 Tryz.results7 (ResV.tmp rfl) (List.nil_sublist _) ?_)
  exact ⟨rfl, rfl⟩
end Go.Dr
namespace Go.Dr
open Go.RowKit
def heapS (w : World) : SHeap := fun b => w.heap[b]?
theorem agree_heapS (w : World) : Agree (heapS w) w := fun _ _ h => h
theorem heapS_cell {w : World} {a : Addr} {v : Value} (h : w.cell? a = some v) : (heapS w).cell? a = some v := by
  unfold World.cell? at h
  unfold SHeap.cell? heapS
  exact h
class RdR {α : Type} (P : Program) (T : TypeId) (rep : Rp α) : Prop where
  rd : ∀ {H : Type} {enc : TypeId × Value → H} {w : World} {base : Nat} {spare : Nat → Bool} {held : Bool} {fuel : Nat} {cs : List Value} {d : DataW H} {ps : List MemPlace},
    DataW.trod enc P w base spare held fuel T cs = some (d, ps) → (∀ n ∈ d.weights P T, n ≤ reachBytes) → ∃ x, rep.R (heapS w) cs x
theorem cells_sz {α : Type} {P : Program} {T : TypeId} {rep : Rp α} (h : TyR P T rep) : P.cellsOf T = rep.sz := by
  obtain ⟨i, hi, hs⟩ := h.i
  unfold Program.cellsOf
  rw [hi]
  exact hs
theorem bytes_of {P : Program} {E : TypeId} {bt : Nat} (h : Byt P E bt) : P.bytesOf E = bt := by
  have := h.h
  unfold Program.bytesOf
  rw [this]; rfl
instance {P : Program} {T : TypeId} [h : Und P T (.int .i64)] : RdR P T rI64 where
  rd ht _ := by
    obtain ⟨n, rfl, _, hw⟩ := DataW.trod_int h.h ht
    refine ⟨n, rfl, ?_⟩
    simp only [Lit.wf, Bool.and_eq_true, decide_eq_true_eq] at hw
    exact hw
instance {P : Program} {T : TypeId} [h : Und P T .bool] : RdR P T rBool where
  rd ht _ := by
    obtain ⟨b, rfl, _⟩ := DataW.trod_bool h.h ht
    exact ⟨b, rfl⟩
theorem reach_big : reachBytes ≤ big := by decide
instance {P : Program} {T : TypeId} [h : Und P T .string] : RdR P T rStr where
  rd ht hw := by
    obtain ⟨s, rfl, hd, hs⟩ := DataW.trod_string h.h ht
    cases hd
    refine ⟨s, rfl, ?_⟩
    have := hw s.data.toList.length (by simp [DataW.weights])
    have e : s.data.toList.length = s.size := Array.length_toList
    have := reach_big
    omega
theorem list_of {α : Type} : ∀ {n : Nat} {q : Nat → α → Prop}, (∀ i, i < n → ∃ x, q i x) → ∃ l : List α, l.length = n ∧ ∀ i x, l[i]? = some x → q i x
  | 0, _, _ => ⟨[], rfl, fun i x h => by simp at h⟩
  | n + 1, q, h => by
    obtain ⟨x, hx⟩ := h 0 (by omega)
    obtain ⟨l, hl, hq⟩ := list_of (n := n) (q := fun i => q (i + 1)) (fun i hi => h (i + 1) (by omega))
    refine ⟨x :: l, by simp [hl], fun i y hy => ?_⟩
    cases i with
    | zero => cases hy; exact hx
    | succ i => exact hq i y hy
theorem weights_all {H : Type} {P : Program} {e : TypeId} : ∀ {l : List (DataW H)} {d : DataW H} {n : Nat}, d ∈ l → n ∈ d.weights P e → n ∈ DataW.weightsAll P e l
  | a :: l, d, n, hd, hn => by
    simp only [DataW.weightsAll, List.mem_append]
    rcases List.mem_cons.1 hd with rfl | hd
    · exact .inl hn
    · exact .inr (weights_all hd hn)
instance {α : Type} {P : Program} {T E : TypeId} {bt : Nat} {rep : Rp α} [hu : Und P T (.slice E)] [hr : RdR P E rep] [ht : TyR P E rep] [hb : Byt P E bt] [hz : NeZero bt] : RdR P T (rSlice bt rep) where
  rd h hw := by
    rcases Deep.open_slice hu.h h with ⟨rfl, _⟩ | ⟨a, len, cap, m, n, D, Pl, rfl, _, hlc, hcm, hm, hx, hel⟩
    · exact ⟨[], none, 0, 0, rfl, rfl, Nat.le_refl _, by simp, Nat.zero_le _, fun i x h => by simp at h⟩
    · cases hx
      have hmb : len ≤ m := by rw [hm]; split <;> omega
      have hrb := reach_big
      have hbt1 : 1 ≤ bt := Nat.one_le_iff_ne_zero.2 hz.out
      have hlen1 : len * 1 ≤ len * bt := Nat.mul_le_mul_left _ hbt1
      have hwt := hw ((((List.range len).map D).length + ((List.range (m - len)).map fun j => D (len + j)).length) * P.bytesOf E) (by simp [DataW.weights, hu.h])
      rw [bytes_of hb] at hwt
      simp only [List.length_map, List.length_range] at hwt
      have hlen : len * bt ≤ (len + (m - len)) * bt := Nat.mul_le_mul_right _ (by omega)
      obtain ⟨xs, hxl, hxs⟩ := list_of (n := len) (q := fun i x => PtrTo (heapS _) (a.add (i * rep.sz)) rep x) (fun i hi => by
        obtain ⟨cs', h1, h2⟩ := hel i (by omega)
        obtain ⟨_, hcl, hcs⟩ := World.cells?_some h1
        obtain ⟨x, hx⟩ := hr.rd h2 (fun k hk => hw k (by
          simp only [DataW.weights, hu.h, List.mem_cons, List.mem_append]
          exact .inr (.inl (weights_all (List.mem_map.2 ⟨i, by simpa using hi, rfl⟩) hk))))
        rw [cells_sz ht] at hcs hcl
        refine ⟨x, cs', hx, fun j v hv => heapS_cell ?_⟩
        have hj := (List.getElem?_eq_some_iff.1 hv).1
        rw [hcs j (by omega)]; exact hv)
      refine ⟨xs, some a, len, cap, rfl, hxl, hlc, by omega, by omega, fun i x h => ⟨a, rfl, hxs i x h⟩⟩
instance {P : Program} {T E : TypeId} {n : Nat} [hu : Und P T (.array n E)] [he : Und P E (.int .i64)] [ht : TyR P E rI64] [htt : TyR P T (rArr n)] : RdR P T (rArr n) where
  rd h _ := by
    rename_i cs d ps _
    obtain ⟨xs, m, rfl, _, hcl, hxl, hx⟩ := DataW.trod_array hu.h h
    have hsz : P.cellsOf E = 1 := cells_sz ht
    rw [cells_sz htt] at hcl
    have hcl : cs.length = n := hcl
    obtain ⟨l, hll, hl⟩ := list_of (n := n) (q := fun i (z : Int) => cs[i]? = some (.int .i64 z) ∧ Rng z) (fun i hi => by
      have h1 := hx i hi
      rw [hsz, Nat.mul_one, List.getElem?_eq_getElem (by omega)] at h1
      obtain ⟨z, hz, _, hw⟩ := DataW.trod_int he.h h1
      refine ⟨z, ?_, ?_⟩
      · have : ((cs.drop i).take 1)[0]? = some (.int .i64 z) := by rw [hz]; rfl
        rw [List.getElem?_take, if_pos (by omega), List.getElem?_drop] at this
        simpa using this
      · simp only [Lit.wf, Bool.and_eq_true, decide_eq_true_eq] at hw
        exact hw)
    refine ⟨l, hll, ?_, fun x hx => ?_⟩
    · apply List.ext_getElem?
      intro i
      rw [List.getElem?_map]
      by_cases hi : i < n
      · have hg : l[i]? = some l[i] := List.getElem?_eq_getElem (by omega)
        rw [hg, (hl i _ hg).1]; rfl
      · rw [List.getElem?_eq_none (by omega), List.getElem?_eq_none (by omega)]; rfl
    · obtain ⟨i, hi⟩ := List.getElem?_of_mem hx
      exact (hl i x hi).2
structure RdF {α : Type} (P : Program) (off : Nat) (fs : List Field) (rep : Rp α) : Prop where
  run : ∀ {H : Type} {enc : TypeId × Value → H} {w : World} {base : Nat} {spare : Nat → Bool} {held : Bool} {m : Nat} {cs : List Value} {xs : List (DataW H × List MemPlace)}, cs.length = off + rep.sz → xs.length = fs.length →
    (∀ (i : Nat) (f : Field), fs[i]? = some f → DataW.trod enc P w base spare held m f.type ((cs.drop f.offset).take (P.cellsOf f.type)) = xs[i]?) →
    (∀ n ∈ DataW.weightsEach P (fs.map (·.type)) (xs.map (·.1)), n ≤ reachBytes) → ∃ x, rep.R (heapS w) (cs.drop off) x
theorem RdF.last {α : Type} {P : Program} {off : Nat} {f : Field} {rep : Rp α} (ho : f.offset = off) (hr : RdR P f.type rep) (hs : P.cellsOf f.type = rep.sz) : RdF P off [f] rep := ⟨by
  intro H enc w base spare held m cs xs hc hl hx hw
  match xs, hl with
  | [y], _ =>
    have h1 := hx 0 f rfl
    rw [ho, hs, List.take_of_length_le (by rw [List.length_drop]; omega)] at h1
    refine hr.rd (d := y.1) (ps := y.2) h1 (fun n hn => hw n ?_)
    simp only [List.map_cons, DataW.weightsEach, List.mem_append]
    exact .inl hn⟩
theorem RdF.cons {α β : Type} {P : Program} {off : Nat} {f : Field} {fs : List Field} {a : Rp α} {b : Rp β} (ho : f.offset = off) (hr : RdR P f.type a) (hs : P.cellsOf f.type = a.sz) (h : RdF P (off + a.sz) fs b) : RdF P off (f :: fs) (rSeq a b) := ⟨by
  intro H enc w base spare held m cs xs hc hl hx hw
  match xs, hl with
  | y :: ys, hl =>
    have hc : cs.length = off + (a.sz + b.sz) := hc
    have h1 := hx 0 f rfl
    rw [ho, hs] at h1
    obtain ⟨x1, hx1⟩ := hr.rd (d := y.1) (ps := y.2) h1 (fun n hn => hw n (by
      simp only [List.map_cons, DataW.weightsEach, List.mem_append]
      exact .inl hn))
    obtain ⟨x2, hx2⟩ := h.run (cs := cs) (xs := ys) (by omega) (by simpa using hl) (fun i g hg => hx (i + 1) g hg) (fun n hn => hw n (by
      simp only [List.map_cons, DataW.weightsEach, List.mem_append]
      exact .inr hn))
    refine ⟨(x1, x2), (cs.drop off).take a.sz, cs.drop (off + a.sz), ?_, hx1, hx2⟩
    rw [← List.drop_drop, List.take_append_drop]⟩
theorem RdR.struct {α : Type} {P : Program} {T : TypeId} {fs : Array Field} {rep : Rp α} (hu : P.underlying T = some (.struct fs)) (hs : P.cellsOf T = rep.sz) (h : RdF P 0 fs.toList rep) : RdR P T rep where
  rd ht hw := by
    obtain ⟨xs, n, rfl, hx, hcl, hxl, hel⟩ := DataW.trod_struct hu ht
    cases hx
    obtain ⟨x, hx⟩ := h.run (xs := xs) (by rw [hcl, hs]; omega) (by simpa using hxl) (fun i f hf => hel i f (by simpa using hf)) (fun k hk => hw k (by simpa [DataW.weights, hu] using hk))
    exact ⟨x, by simpa using hx⟩
theorem RdR.map {α γ : Type} {P : Program} {T : TypeId} {a : Rp α} {f : γ → α} (g : α → γ) (hg : ∀ y, f (g y) = y) (h : RdR P T a) : RdR P T (rMap f a) where
  rd ht hw := by
    obtain ⟨x, hx⟩ := h.rd ht hw
    exact ⟨g x, by show a.R _ _ (f (g x)); rw [hg]; exact hx⟩
theorem FnV.calls {P : Program} {f : FuncId} {args : Array Value} {r : Value} {W : World} (h : FnV P f args (heapS W) r) : Calls P f args W fun e W' => e = .returned r ∧ Below W.heap.size W W' := by
  refine (h W (agree_heapS W) (by simp) .nil (by simp)).mono ?_
  rintro e w' ⟨v, S', M', rfl, hw, rfl, rfl⟩
  exact ⟨rfl, hw.below⟩
end Go.Dr
namespace Go.Dr
open Go.Proofs
set_option maxRecDepth 20000
instance : RdR Tryz.prog 52 rLabel := RdR.map (fun y => ⟨y.1, y.2⟩) (fun _ => rfl) (RdR.struct Tryz.underlying52 (by kernel_rfl) (RdF.cons rfl (show RdR Tryz.prog 9 rStr from inferInstance) (by kernel_rfl) (RdF.last rfl (show RdR Tryz.prog 9 rStr from inferInstance) (by kernel_rfl))))
instance : RdR Tryz.prog 59 rTerm := RdR.map (fun y => ⟨y.1, y.2.1, y.2.2⟩) (fun _ => rfl) (RdR.struct Tryz.underlying59 (by kernel_rfl) (RdF.cons rfl (show RdR Tryz.prog 3 rI64 from inferInstance) (by kernel_rfl) (RdF.cons rfl (show RdR Tryz.prog 9 rStr from inferInstance) (by kernel_rfl) (RdF.last rfl (show RdR Tryz.prog 9 rStr from inferInstance) (by kernel_rfl)))))
instance : RdR Tryz.prog 62 rNear := RdR.map (fun y => ⟨y.1, y.2⟩) (fun _ => rfl) (RdR.struct Tryz.underlying62 (by kernel_rfl) (RdF.cons rfl (show RdR Tryz.prog 9 rStr from inferInstance) (by kernel_rfl) (RdF.last rfl (show RdR Tryz.prog 60 (rSlice 40 rTerm) from inferInstance) (by kernel_rfl))))
instance : RdR Tryz.prog 57 rNode := RdR.map (fun y => ⟨y.1, y.2.1, y.2.2.1, y.2.2.2.1, y.2.2.2.2.1, y.2.2.2.2.2⟩) (fun _ => rfl) (RdR.struct Tryz.underlying57 (by kernel_rfl) (RdF.cons rfl (show RdR Tryz.prog 9 rStr from inferInstance) (by kernel_rfl) (RdF.cons rfl (show RdR Tryz.prog 55 (rArr 5) from inferInstance) (by kernel_rfl) (RdF.cons rfl (show RdR Tryz.prog 53 (rSlice 32 rLabel) from inferInstance) (by kernel_rfl) (RdF.cons rfl (show RdR Tryz.prog 53 (rSlice 32 rLabel) from inferInstance) (by kernel_rfl) (RdF.cons rfl (show RdR Tryz.prog 4 rBool from inferInstance) (by kernel_rfl) (RdF.last rfl (show RdR Tryz.prog 4 rBool from inferInstance) (by kernel_rfl))))))))
instance : RdR Tryz.prog 64 rPod := RdR.map (fun y => ⟨y.1, y.2.1, y.2.2.1, y.2.2.2.1, y.2.2.2.2.1, y.2.2.2.2.2.1, y.2.2.2.2.2.2.1, y.2.2.2.2.2.2.2.1, y.2.2.2.2.2.2.2.2⟩) (fun _ => rfl) (RdR.struct Tryz.underlying64 (by kernel_rfl) (RdF.cons rfl (show RdR Tryz.prog 9 rStr from inferInstance) (by kernel_rfl) (RdF.cons rfl (show RdR Tryz.prog 9 rStr from inferInstance) (by kernel_rfl) (RdF.cons rfl (show RdR Tryz.prog 55 (rArr 5) from inferInstance) (by kernel_rfl) (RdF.cons rfl (show RdR Tryz.prog 53 (rSlice 32 rLabel) from inferInstance) (by kernel_rfl) (RdF.cons rfl (show RdR Tryz.prog 60 (rSlice 40 rTerm) from inferInstance) (by kernel_rfl) (RdF.cons rfl (show RdR Tryz.prog 53 (rSlice 32 rLabel) from inferInstance) (by kernel_rfl) (RdF.cons rfl (show RdR Tryz.prog 62 rNear from inferInstance) (by kernel_rfl) (RdF.cons rfl (show RdR Tryz.prog 62 rNear from inferInstance) (by kernel_rfl) (RdF.last rfl (show RdR Tryz.prog 9 rStr from inferInstance) (by kernel_rfl)))))))))))
instance : RdR Tryz.prog 48 rOwner := RdR.map (fun y => ⟨y.1, y.2.1, y.2.2.1, y.2.2.2.1, y.2.2.2.2⟩) (fun _ => rfl) (RdR.struct Tryz.underlying48 (by kernel_rfl) (RdF.cons rfl (show RdR Tryz.prog 9 rStr from inferInstance) (by kernel_rfl) (RdF.cons rfl (show RdR Tryz.prog 3 rI64 from inferInstance) (by kernel_rfl) (RdF.cons rfl (show RdR Tryz.prog 9 rStr from inferInstance) (by kernel_rfl) (RdF.cons rfl (show RdR Tryz.prog 3 rI64 from inferInstance) (by kernel_rfl) (RdF.last rfl (show RdR Tryz.prog 4 rBool from inferInstance) (by kernel_rfl)))))))
instance : RdR Tryz.prog 26 rSnap := RdR.map (fun y => ⟨y.1, y.2.1, y.2.2⟩) (fun _ => rfl) (RdR.struct Tryz.underlying26 (by kernel_rfl) (RdF.cons rfl (show RdR Tryz.prog 22 (rSlice 112 rNode) from inferInstance) (by kernel_rfl) (RdF.cons rfl (show RdR Tryz.prog 23 (rSlice 240 rPod) from inferInstance) (by kernel_rfl) (RdF.last rfl (show RdR Tryz.prog 24 (rSlice 56 rOwner) from inferInstance) (by kernel_rfl)))))
instance : RdR Tryz.prog 74 rStep := RdR.map (fun y => ⟨y.1, y.2.1, y.2.2⟩) (fun _ => rfl) (RdR.struct Tryz.underlying74 (by kernel_rfl) (RdF.cons rfl (show RdR Tryz.prog 3 rI64 from inferInstance) (by kernel_rfl) (RdF.cons rfl (show RdR Tryz.prog 3 rI64 from inferInstance) (by kernel_rfl) (RdF.last rfl (show RdR Tryz.prog 3 rI64 from inferInstance) (by kernel_rfl)))))
instance : RdR Tryz.prog 40 rClause := RdR.map (fun y => ⟨y.1, y.2.1, y.2.2.1, y.2.2.2⟩) (fun _ => rfl) (RdR.struct Tryz.underlying40 (by kernel_rfl) (RdF.cons rfl (show RdR Tryz.prog 3 rI64 from inferInstance) (by kernel_rfl) (RdF.cons rfl (show RdR Tryz.prog 3 rI64 from inferInstance) (by kernel_rfl) (RdF.cons rfl (show RdR Tryz.prog 3 rI64 from inferInstance) (by kernel_rfl) (RdF.last rfl (show RdR Tryz.prog 3 rI64 from inferInstance) (by kernel_rfl))))))
end Go.Dr
