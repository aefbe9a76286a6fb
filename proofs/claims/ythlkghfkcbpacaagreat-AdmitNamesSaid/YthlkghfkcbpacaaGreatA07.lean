/- Part 8 of the rules and of the walks that the proofs of this seat rest on; no condition. -/
import Derived.Test.YthlkghfkcbpacaaGreatA06
import Derived.Deep.Slices
import Derived.OpenShut
import Derived.SizedLaws
import Derived.Carry
import Derived.Below
set_option linter.unusedVariables false
set_option linter.unusedSimpArgs false
namespace Go.Dr
open Go.Proofs
set_option maxRecDepth 20000
set_option maxHeartbeats 2000000
set_option linter.unusedSimpArgs false
set_option linter.unusedVariables false
theorem q10_chapterM {S : SHeap} : Fn Tryz.prog 11 #[] S [] (ChapM 33 79 47 1) := by
  haveI : TyR Tryz.prog 23 rVal := ⟨(inferInstance : TyR Tryz.prog 23 (rSlice 240 rPod)).b⟩
  have hRaw : TyR Tryz.prog 26 rRaw3 := ⟨(inferInstance : TyR Tryz.prog 26 rSnap).b⟩
  have hmr : Rng 1 := by simp [Rng]
  (refine Fn.enter (args := []) Tryz.func11 rfl Tryz.ntmps11 rfl ?_; intro w0)
  repeat (first | (refine Walk ?_; intros) | refine JC.block ?_)
  (refine JO.eff rfl rfl rfl (JEff.alloc rfl ?_); intro rb hrb)
  repeat (first | (refine Walk ?_; intros) | refine JC.block ?_)
  (refine JO.eff rfl rfl rfl (JEff.alloc rfl ?_); intro vb hvb)
  repeat (first | (refine Walk ?_; intros) | refine JC.block ?_)
  refine JO.eff rfl rfl rfl (JEff.storeW rfl rfl V_vec15 nna (List.Perm.refl _) rfl (by intro l hl; cases hl) ?_)
  refine JO.freezeV V_vec15 nna hvb (by intro l hl; cases hl) ?_; intro S1 hl1 hpv
  repeat (first | (refine Walk ?_; intros) | refine JC.block ?_)
  obtain ⟨rfl, _, _⟩ := V_arr.1 (by assumption : (rArr 5).V _ _ [15, 0, 0, 0, 0])
  (refine JO.eff rfl rfl rfl (JEff.buildS (bt := 32) (rep := rLabel) (ys := [(⟨zoneS, ⟨#[120]⟩⟩ : Label)]) rfl rfl (⟨⟨V_lab (by decide) (by decide), nna⟩, trivial⟩) rfl rfl rfl (by decide) rfl ?_); intro S2 a2 hl2 hV2)
  repeat (first | (refine Walk ?_; intros) | refine JC.block ?_)
  obtain ⟨rfl, _, _⟩ := V_arr.1 (by assumption : (rArr 5).V _ _ [15, 0, 0, 0, 0])
  (refine JO.eff rfl rfl rfl (JEff.buildS (bt := 32) (rep := rLabel) (ys := [(⟨zoneS, ⟨#[121]⟩⟩ : Label)]) rfl rfl (⟨⟨V_lab (by decide) (by decide), nna⟩, trivial⟩) rfl rfl rfl (by decide) rfl ?_); intro S3 a3 hl3 hV3)
  repeat (first | (refine Walk ?_; intros) | refine JC.block ?_)
  obtain ⟨rfl, _, _⟩ := V_arr.1 (by assumption : (rArr 5).V _ _ [15, 0, 0, 0, 0])
  (refine JO.eff rfl rfl rfl (JEff.build (rep := rNode) (ys := nodes8) rfl rfl ⟨⟨V_node8 (hV2.mono hl3), nna⟩, ⟨V_node8 hV3, nna⟩, ⟨V_node8 V_nil, nna⟩, trivial⟩ rfl rfl rfl rfl ?_); intro nb hnb hnv)
  refine JO.out (fun hout => ?_)
  have hn3 := hout (.blk nb _) List.mem_cons_self nb rfl
  refine JO.blkNew rfl (fun hn0 _ => ?_)
  refine JO.freeze hnb (by intro l hl; cases hl) (fun S4 hl4 hS4 => ?_)
  repeat (first | (refine Walk ?_; intros) | refine JC.block ?_)
  (refine JO.eff rfl rfl rfl (JEff.build (rep := rOwner) (ys := [(⟨⟨#[111]⟩, 1, zoneS, 1, false⟩ : Owner)]) rfl rfl ⟨⟨V_owner8 hmr, nna⟩, trivial⟩ rfl rfl rfl rfl ?_); intro ob hob hov)
  refine JO.out (fun hout2 => ?_)
  have ho4 := hout2 (.blk ob _) List.mem_cons_self ob rfl
  refine JO.blkNew rfl (fun ho0 _ => ?_)
  refine JO.freeze hob (by intro l hl; cases hl) (fun S5 hl5 hS5 => ?_)
  repeat (first | (refine Walk ?_; intros) | refine JC.block ?_)
  (refine JO.eff rfl rfl rfl (JEff.alloc rfl ?_); intro sb hsb)
  repeat (first | (refine Walk ?_; intros) | refine JC.block ?_)
  refine JO.eff rfl rfl rfl (JEff.storeW (ht := hRaw) rfl rfl V_raw3 nna (List.Perm.refl _) rfl (by intro l hl; cases hl) ?_)
  repeat (first | (refine Walk ?_; intros) | refine JC.block ?_)
  refine JC.newRow 79 (Rp.sz rPod) ?_
  refine JC.loopF (σ := Nat × Option Addr × Nat × List Value) [(0, _), (2, _)] (fun q => [(3, .int .i64 q.1)])
    (fun q => [.row w0.heap.size 79 (Rp.sz rPod) (.slice q.2.1 q.1 q.2.2.1) q.1 (flatCells q.2.2.2), .blk sb (.cells #[.slice (some ⟨nb, 0, none⟩) 3 3, .slice q.2.1 q.1 q.2.2.1, .slice (some ⟨ob, 0, none⟩) 1 1] 26 (0, 0)), .blk rb (.cells #[.slice none 0 0, .slice none 0 0, .slice none 0 0] 26 (0, 0))])
    (fun Sk q => q.1 ≤ 3 ∧ allV rPod Sk q.2.2.2 (pods8.take q.1) ∧ q.2.2.2 = podVs.take q.1) (fun q => 3 - q.1) (0, none, 0, []) (by exact sba) (by exact sba) (by rfl) ⟨Nat.zero_le _, trivial, rfl⟩ ?_
  rintro Sk ⟨k, ra, rc, vs⟩ hlk ⟨hk, hv1, hve⟩
  dsimp only at hk hv1 hve
  dsimp only [List.cons_append, List.nil_append]
  repeat (first | (refine Walk ?_; intros) | refine JC.block ?_)
  refine JC.cond rfl (fun hc => ?_) (fun hc => ?_)
  · have hk' : k < 3 := by have := of_decide_eq_true hc; omega
    obtain ⟨x, hx⟩ : ∃ x, ([112, 113, 114] : List UInt8)[k]? = some x := ⟨_, List.getElem?_eq_getElem (by simpa using hk')⟩
    have hst : pods8.take (k + 1) = pods8.take k ++ [pod8 x] := by
      match k with
      | 0 => cases hx; rfl
      | 1 => cases hx; rfl
      | 2 => cases hx; rfl
      | k + 3 => omega
    have hst2 : podVs.take (k + 1) = podVs.take k ++ [podV0 x] := by
      match k with
      | 0 => cases hx; rfl
      | 1 => cases hx; rfl
      | 2 => cases hx; rfl
      | k + 3 => omega
    have hP := fun S => V_pod8 (S := S) (pqr_at hx)
    have hvl := hv1.length
    have hpl : (pods8.take k).length = k := by rw [List.length_take]; show min k 3 = k; omega
    rw [hpl] at hvl
    repeat (first | (refine Walk ?_; intros) | refine JC.block ?_)
    refine JC.drawTreeF 6 rfl [10] [1] [0, 2, 3, 4, 5, 6, 7] (.alt (ofL [1, 8, 9, 10, 11] .nil) (ofL [8, 1, 9, 10, 11] .nil)) Tryz_mixed (by decide +kernel) ?_
    refine JO.pure rfl rfl rfl (JPure.fieldP rfl rfl ?_)
    repeat (first | (refine Walk ?_; intros) | refine JC.block ?_)
    refine JO.pure rfl rfl rfl (JPure.sliceT rfl rfl rfl rfl (by omega) (by omega) (by show (k : Int) + 1 ≤ 3; omega) ?_)
    repeat (first | (refine Walk ?_; intros) | refine JC.block ?_)
    refine JO.alt ?_ ?_
    · refine JO.eff rfl rfl rfl (JEff.loadE (rVal) (x0 := .slice ra k rc) rfl (by (first | exact List.mem_cons_self | exact List.mem_cons_of_mem _ List.mem_cons_self | exact List.mem_cons_of_mem _ (List.mem_cons_of_mem _ List.mem_cons_self))) rfl ⟨rfl, rfl⟩ inferInstance rfl ?_)
      repeat (first | (refine Walk ?_; intros) | refine JC.block ?_)
      (refine JO.eff rfl rfl rfl (JEff.build (rep := rPod) (ys := [pod8 x]) rfl rfl ⟨⟨hP _, nna⟩, trivial⟩ rfl rfl rfl rfl ?_); intro bb hbb hvv)
      repeat (first | (refine Walk ?_; intros) | refine JC.block ?_)
      (refine JO.eff rfl rfl rfl (JEff.appendL (rep := rPod) rfl rfl rfl rfl (List.Perm.swap _ _ _) (by exact hvv.flat) (by intro c hc; exact flat_one (fun v hv => (hvv.size v hv).2) c hc) (by unfold big; omega) (by unfold big; omega) (by first | exact rowT_ok | (intro l hl; cases hl)) rfl ?_); intro a2 c2; clear hvv hbb)
      repeat (first | (refine Walk ?_; intros) | refine JC.block ?_)
      refine JO.pure rfl rfl rfl (JPure.fieldP rfl rfl ?_)
      refine JO.eff rfl rfl rfl (JEff.store (rep := rVal) (x0 := .slice a2 (k + 1) c2) rfl rfl (V_val.2 ⟨rfl, rfl⟩) nna (List.Perm.swap _ _ _) (by simp [rVal]) (by intro l hl; cases hl) ?_)
      repeat (first | (refine Walk ?_; intros) | refine JC.block ?_)
      refine JX.perm (M' := [_, _, _]) (List.Perm.trans (List.Perm.swap _ _ _) (List.Perm.refl _)) ?_
      exact JX.roundF (k + 1, a2, c2, vs ++ [_]) (by exact lea) ⟨by dsimp only; omega, by (try dsimp only); rw [hst]; exact allV_add (by exact lea) hv1 (hP _) nna, by (try dsimp only); rw [hst2, hve]; unfold podV0; rw [pqr_at hx]⟩ (by (try dsimp only); omega) (by simp [flat_append]; rfl) (by exact sba) (by exact sba)
    · (refine JO.eff rfl rfl rfl (JEff.build (rep := rPod) (ys := [pod8 x]) rfl rfl ⟨⟨hP _, nna⟩, trivial⟩ rfl rfl rfl rfl ?_); intro bb hbb hvv)
      repeat (first | (refine Walk ?_; intros) | refine JC.block ?_)
      refine JO.eff rfl rfl rfl (JEff.loadE (rVal) (x0 := .slice ra k rc) rfl (by (first | exact List.mem_cons_self | exact List.mem_cons_of_mem _ List.mem_cons_self | exact List.mem_cons_of_mem _ (List.mem_cons_of_mem _ List.mem_cons_self))) rfl ⟨rfl, rfl⟩ inferInstance rfl ?_)
      repeat (first | (refine Walk ?_; intros) | refine JC.block ?_)
      (refine JO.eff rfl rfl rfl (JEff.appendL (rep := rPod) rfl rfl rfl rfl (List.Perm.swap _ _ _) (by exact hvv.flat) (by intro c hc; exact flat_one (fun v hv => (hvv.size v hv).2) c hc) (by unfold big; omega) (by unfold big; omega) (by first | exact rowT_ok | (intro l hl; cases hl)) rfl ?_); intro a2 c2; clear hvv hbb)
      repeat (first | (refine Walk ?_; intros) | refine JC.block ?_)
      refine JO.pure rfl rfl rfl (JPure.fieldP rfl rfl ?_)
      refine JO.eff rfl rfl rfl (JEff.store (rep := rVal) (x0 := .slice a2 (k + 1) c2) rfl rfl (V_val.2 ⟨rfl, rfl⟩) nna (List.Perm.swap _ _ _) (by simp [rVal]) (by intro l hl; cases hl) ?_)
      repeat (first | (refine Walk ?_; intros) | refine JC.block ?_)
      refine JX.perm (M' := [_, _, _]) (List.Perm.trans (List.Perm.swap _ _ _) (List.Perm.refl _)) ?_
      exact JX.roundF (k + 1, a2, c2, vs ++ [_]) (by exact lea) ⟨by dsimp only; omega, by (try dsimp only); rw [hst]; exact allV_add (by exact lea) hv1 (hP _) nna, by (try dsimp only); rw [hst2, hve]; unfold podV0; rw [pqr_at hx]⟩ (by (try dsimp only); omega) (by simp [flat_append]; rfl) (by exact sba) (by exact sba)
  · obtain rfl : k = 3 := by have := of_decide_eq_false hc; omega
    obtain rfl : vs = podVs := hve
    refine JC.rowBlkB (by decide) (fun pb tl ha hcap hsz => ?_)
    subst ha
    refine JC.blkNew rfl (fun hp0 hpb => ?_)
    refine JC.out (fun hout3 => ?_)
    have hpk := hout3 (.blk pb _) List.mem_cons_self pb rfl
    refine JC.freeze hpb (fun S9 hl9 hS9 => ?_)
    refine JC.freeze hsb (fun S10 hl10 hS10 => ?_)
    have hfin : PtrTo S10 ⟨sb, 0, none⟩ rRaw3 (.slice (some ⟨nb, 0, none⟩) 3 3, .slice (some ⟨pb, 0, none⟩) 3 rc, .slice (some ⟨ob, 0, none⟩) 1 1) :=
      cells_ptr (v := .agg #[.slice (some ⟨nb, 0, none⟩) 3 3, .slice (some ⟨pb, 0, none⟩) 3 rc, .slice (some ⟨ob, 0, none⟩) 1 1]) hS10 ⟨[_], [_, _], rfl, ⟨rfl, rfl⟩, [_], [_], rfl, ⟨rfl, rfl⟩, rfl, rfl⟩
    repeat (first | (refine Walk ?_; intros) | refine JC.block ?_)
    have hwv := (by assumption : rRaw3.V S10 _ (.slice (some ⟨nb, 0, none⟩) 3 3, _, _))
    obtain ⟨cs, ⟨_, _, rfl, ⟨rfl, _⟩, _, _, rfl, ⟨rfl, _⟩, ⟨rfl, _⟩⟩, rfl⟩ := hwv
    refine JO.eff rfl rfl rfl (JEff.storeW (ht := hRaw) rfl rfl V_raw3 nna (List.Perm.refl _) rfl (by intro l hl; cases hl) ?_)
    refine JO.out (fun hout4 => ?_)
    have hrk := hout4 (.blk rb _) List.mem_cons_self rb rfl
    refine JO.freeze hrb (by intro l hl; cases hl) (fun S11 hl11 hS11 => ?_)
    repeat (first | (refine Walk ?_; intros) | refine JC.block ?_)
    have hkn := (show SHeap.le S4 Sk by exact lea) _ _ hS4
    have hko := (show SHeap.le S5 Sk by exact lea) _ _ hS5
    have e1 := ne_none hpk hkn
    have e2 := ne_none ho4 hS4
    have e3 := ne_none hpk hko
    have r1 := ne_none hrk ((show SHeap.le S4 S10 by exact lea) _ _ hS4)
    have r2 := ne_none hrk ((show SHeap.le S9 S10 by exact lea) _ _ hS9)
    have r3 := ne_none hrk ((show SHeap.le S5 S10 by exact lea) _ _ hS5)
    have h3 : SHeap.le S3 (((S11.del nb).del pb).del ob) := SHeap.le_del (SHeap.le_del (SHeap.le_del (show SHeap.le S3 S11 by exact lea) hn3) (none_le (show SHeap.le S3 Sk by exact lea) hpk)) (none_le hl4 ho4)
    have hrf := (SHeap.del_other r3.symm).trans ((SHeap.del_other r2.symm).trans ((SHeap.del_other r1.symm).trans hS11))
    refine JX.thaw hn0 hnb ((show SHeap.le S4 S11 by exact lea) _ _ hS4) ?_
    refine JX.thaw hp0 hpb ((SHeap.del_other e1.symm).trans ((show SHeap.le S9 S11 by exact lea) _ _ hS9)) ?_
    refine JX.thaw ho0 hob ((SHeap.del_other e3).trans ((SHeap.del_other e2.symm).trans ((show SHeap.le S5 S11 by exact lea) _ _ hS5))) ?_
    refine JX.retCell (ht := hRaw) (x := (.slice (some ⟨nb, 0, none⟩) 3 3, .slice (some ⟨pb, 0, none⟩) 3 rc, .slice (some ⟨ob, 0, none⟩) 1 1)) Tryz.results11 rfl (cells_ptr (rep := rRaw3) (v := .agg #[.slice (some ⟨nb, 0, none⟩) 3 3, .slice (some ⟨pb, 0, none⟩) 3 rc, .slice (some ⟨ob, 0, none⟩) 1 1]) hrf ⟨[_], [_, _], rfl, ⟨rfl, rfl⟩, [_], [_], rfl, ⟨rfl, rfl⟩, rfl, rfl⟩) (List.Sublist.refl _) (fun w hw => ?_)
    obtain ⟨cs, ⟨_, _, rfl, ⟨rfl, _⟩, _, _, rfl, ⟨rfl, _⟩, ⟨rfl, _⟩⟩, rfl⟩ := hw
    exact ⟨nb, pb, ob, rc, tl, _, _, rfl, rfl, hcap, (hV2.mono hl3).mono h3, hV3.mono h3⟩
def chapV10 (m : Int) (x : Bool) : Snap := ⟨[nd8 97 [⟨zoneS, ⟨#[120]⟩⟩], ⟨⟨#[98]⟩, [15, 0, 0, 0, 0], [⟨zoneS, ⟨#[121]⟩⟩], [], false, x⟩, ⟨⟨#[99]⟩, [15, 0, 0, 0, 0], [], [], true, false⟩], pods8, [⟨⟨#[111]⟩, m, zoneS, 1, false⟩]⟩
theorem h10_1 : stepV (chapV10 1 false) [0, 1, -1] ⟨2, 2, 2⟩ = ([], noC, 100) := by decide +kernel
theorem h10_2 : stepV (chapV10 1 false) [0, 1, -1] ⟨2, 2, 3⟩ = ([], noC, 9) := by decide +kernel
theorem h10_3 : stepV (chapV10 1 false) [0, 1, -1] ⟨1, 2, 0⟩ = ([], noC, 110) := by decide +kernel
theorem h10_4 : stepV (chapV10 1 false) [0] ⟨1, 0, 0⟩ = ([], noC, 2) := by decide +kernel
theorem h10_5 : runV (chapV10 1 false) [0, 1, -1] [] = ([0, 1, -1], 0, 0) := by decide +kernel
theorem h10_6 : runV (chapV10 1 false) [0] [⟨1, 0, 0⟩] = ([], 0, 2) := by decide +kernel
theorem h10_7 : stepV (chapV10 2 false) [0, 1, -1] ⟨1, 1, 0⟩ = ([], ⟨8, 0, 0, 1⟩, 100) := by decide +kernel
theorem h10_8 : mayV (chapV10 2 true) [0, -1, -1] ⟨2, 2, 1⟩ = false := by decide +kernel
theorem h10_9 : waysV chap10 [0, 1, -1] 9 = [] := by decide +kernel
theorem h10_10 : waysV chap10 [0, 1, -1] (-1) = [] := by decide +kernel
theorem V_st {S : SHeap} {a b c : Int} (h : Rng a ∧ Rng b ∧ Rng c := by simp [Rng]) : rStep.V S (stV ⟨a, b, c⟩) ⟨a, b, c⟩ := V_stV h
theorem snap10 {S : SHeap} {nb pb ob sb cap : Nat} {tl : List Value} {a1 a2 : Option Addr} {m : Int} {x : Bool} {TN TP TO TS : TypeId} (hm : Rng m) (hcap : 3 ≤ cap) (h1 : (rSlice 32 rLabel).V S (.slice a1 1 1) [⟨zoneS, ⟨#[120]⟩⟩]) (h2 : (rSlice 32 rLabel).V S (.slice a2 1 1) [⟨zoneS, ⟨#[121]⟩⟩])
    (hs : S sb = some (.cells (Value.agg #[.slice (some ⟨nb, 0, none⟩) 3 3, .slice (some ⟨pb, 0, none⟩) 3 cap, .slice (some ⟨ob, 0, none⟩) 1 1]).cells TS (0, 0)))
    (hn : S nb = some (.cells (flatCells [ndV 97 (.slice a1 1 1) (.slice none 0 0) false false, ndV 98 (.slice a2 1 1) (.slice none 0 0) false x, ndV 99 (.slice none 0 0) (.slice none 0 0) true false]).toArray TN (0, 0)))
    (hp : S pb = some (.cells (cellsR podVs tl) TP (0, 0))) (ho : S ob = some (.cells (flatCells [ownV0 m false]).toArray TO (0, 0))) : PtrTo S ⟨sb, 0, none⟩ rSnap (chapV10 m x) := by
  have hPods : allV rPod S podVs pods8 := ⟨⟨V_podG V_nil V_nil V_nil V_nil V_nil sz0 sz0, nna⟩, ⟨V_podG V_nil V_nil V_nil V_nil V_nil sz0 sz0, nna⟩, ⟨V_podG V_nil V_nil V_nil V_nil V_nil sz0 sz0, nna⟩, trivial⟩
  exact cells_ptr (v := .agg #[.slice (some ⟨nb, 0, none⟩) 3 3, .slice (some ⟨pb, 0, none⟩) 3 cap, .slice (some ⟨ob, 0, none⟩) 1 1]) hs
    (map_R (seq1 (Rp.V.one rfl (slice_of_block (SHeap.le.refl _) hn (rep := rNode) (bt := 112) (xs := (chapV10 m x).nodes) (vs := [ndV 97 (.slice a1 1 1) (.slice none 0 0) false false, ndV 98 (.slice a2 1 1) (.slice none 0 0) false x, ndV 99 (.slice none 0 0) (.slice none 0 0) true false]) ⟨⟨V_ndG h1 V_nil, nna⟩, ⟨V_ndG h2 V_nil, nna⟩, ⟨V_ndG V_nil V_nil, nna⟩, trivial⟩ rfl (by decide) (by decide) (by decide) rfl))
      (seq1 (Rp.V.one rfl (slice_of_block (SHeap.le.refl _) hp (rep := rPod) (bt := 240) (xs := (chapV10 m x).pods) (vs := podVs) hPods rfl hcap (by decide) (by decide) (take45 rfl)))
        (Rp.V.one rfl (slice_of_block (SHeap.le.refl _) ho (rep := rOwner) (bt := 56) (xs := (chapV10 m x).owners) (vs := [ownV0 m false]) ⟨⟨V_ownG hm, nna⟩, trivial⟩ rfl (by decide) (by decide) (by decide) rfl)))))
theorem raw10 {S : SHeap} {nb pb ob sb cap : Nat} {TS : TypeId} (hs : S sb = some (.cells (Value.agg #[.slice (some ⟨nb, 0, none⟩) 3 3, .slice (some ⟨pb, 0, none⟩) 3 cap, .slice (some ⟨ob, 0, none⟩) 1 1]).cells TS (0, 0))) : PtrTo S ⟨sb, 0, none⟩ rRaw3 (.slice (some ⟨nb, 0, none⟩) 3 3, .slice (some ⟨pb, 0, none⟩) 3 cap, .slice (some ⟨ob, 0, none⟩) 1 1) :=
  cells_ptr (v := .agg #[.slice (some ⟨nb, 0, none⟩) 3 3, .slice (some ⟨pb, 0, none⟩) 3 cap, .slice (some ⟨ob, 0, none⟩) 1 1]) hs ⟨[_], [_, _], rfl, ⟨rfl, rfl⟩, [_], [_], rfl, ⟨rfl, rfl⟩, rfl, rfl⟩
theorem clP10 {S : SHeap} {b : Nat} {c : Clause} {T : TypeId} (hc : Rng c.kind ∧ Rng c.a ∧ Rng c.b ∧ Rng c.by_) (h : S b = some (.cells (clV c).cells T (0, 0))) : PtrTo S ⟨b, 0, none⟩ rClause c := cells_ptr (v := clV c) h ((V_clV hc).cells nna)
theorem s3_L10n {P K : Prop} (k : K) (h : Goal K → P := by
  intro zk
  (first | refine Walk ?_ | refine JC.block ?_ | (refine JO.eff rfl rfl rfl (JEff.callR rfl (q10_chapter) rfl ?_); intro zqa zqb zqc zqd) | (refine JO.eff rfl rfl rfl (JEff.callV rfl (q10_on _ _ (by unfold Rng; omega) (by unfold Rng; omega)) rfl ?_); intro zqa zqb) | (refine JO.eff rfl rfl rfl (JEff.callV rfl (q10_off _ (by unfold Rng; omega)) rfl ?_); intro zqa zqb) | (refine JO.eff rfl rfl rfl (JEff.callV rfl (q10_works) rfl ?_); intro zqa zqb) | (refine JO.eff rfl rfl rfl (JEff.callV rfl (r0_EqInts (by exact vta) (by exact vta)) rfl ?_); intro zqa zqb) | (refine JO.eff rfl rfl rfl (JEff.callV rfl (p10_May (by exact vta) (by exact vta) (by exact vta)) rfl ?_); intro zqa zqb) | (refine JO.eff rfl rfl rfl (JEff.callL rfl (p10_Ways _ (by exact vta) (by exact vta) (by first | assumption | omega) (by first | assumption | (unfold Rng; omega))) rfl ?_); intro zqa zqb zqc zqd zqe zqf) | (refine WNew ?_) | (refine WPut ?_))
  (repeat (first | revert zqg | revert zqf | revert zqe | revert zqd | revert zqc | revert zqb | revert zqa))
  exact zk.k) : P := h ⟨k⟩
theorem a10_AdmitNames {S : SHeap} : FnV Tryz.prog 3 #[] S (.bool true) := by
  haveI : TyR Tryz.prog 22 rVal := ⟨(inferInstance : TyR Tryz.prog 22 (rSlice 112 rNode)).b⟩
  haveI : TyR Tryz.prog 24 rVal := ⟨(inferInstance : TyR Tryz.prog 24 (rSlice 56 rOwner)).b⟩
  have hRaw : TyR Tryz.prog 26 rRaw3 := ⟨(inferInstance : TyR Tryz.prog 26 rSnap).b⟩
  (refine Fn.enter (args := []) Tryz.func3 rfl Tryz.ntmps3 rfl ?_; intro w0)
  repeat (first | (refine Walk ?_; intros) | refine JC.block ?_ | refine JO.eff rfl rfl rfl (JEff.callM (Mc := []) rfl (List.Perm.refl _) (mayAll rfl) q10_chapterM rfl ?_) | (refine JO.eff rfl rfl rfl (JEff.callR rfl (q10_chapter) rfl ?_); intro _ _ _ _) | (refine JO.eff rfl rfl rfl (JEff.callV rfl (q10_on _ _ (by unfold Rng; omega) (by unfold Rng; omega)) rfl ?_); intro _ _) | (refine JO.eff rfl rfl rfl (JEff.callV rfl (q10_off _ (by unfold Rng; omega)) rfl ?_); intro _ _) | (refine JO.eff rfl rfl rfl (JEff.callV rfl (q10_works) rfl ?_); intro _ _) | (refine JO.eff rfl rfl rfl (JEff.callV rfl (r0_EqInts (by exact vta) (by exact vta)) rfl ?_); intro _ _) | (refine JO.eff rfl rfl rfl (JEff.callV rfl (p10_May (by exact vta) (by exact vta) (by exact vta)) rfl ?_); intro _ _) | (refine JO.eff rfl rfl rfl (JEff.callL rfl (p10_Ways _ (by exact vta) (by exact vta) (by first | assumption | omega) (by first | assumption | (unfold Rng; omega))) rfl ?_); intro _ _ _ _ _ _) | (refine WNew ?_; intros) | (refine WPut ?_; intros))
  intro w S1 M1 hl1 hw
  obtain ⟨nb, pb, ob, cap, tl, a1, a2, rfl, rfl, hcap, hV1, hV2⟩ := hw
  dsimp only [List.cons_append, List.nil_append]
  (refine JO.eff rfl rfl rfl (JEff.alloc rfl ?_); intro sb hsb)
  refine JO.eff rfl rfl rfl (JEff.storeW (ht := hRaw) rfl rfl V_raw3 nna pma rfl (by intro l hl; cases hl) ?_)
  refine JO.freeze hsb (by intro l hl; cases hl) (fun S2 hl2 hS2 => ?_)
  have hpr := raw10 hS2
  repeat (refine s3_L10n ?_; intros)
  (refine JO.eff rfl rfl rfl (JEff.buildS (bt := 8) (rep := rI64) (ys := [(0 : Int), 1, -1]) rfl rfl (⟨⟨V_num, nna⟩, ⟨V_num, nna⟩, ⟨V_num, nna⟩, trivial⟩) rfl rfl rfl (by decide) rfl ?_); intro S3 a3 hl3 hV3)
  refine JO.out (fun hout => ?_)
  have ho3 := hout (.blk ob _) List.mem_cons_self ob rfl
  have hn3 := hout (.blk nb _) (List.mem_cons_of_mem _ (List.mem_cons_of_mem _ List.mem_cons_self)) nb rfl
  repeat (refine s3_L10n ?_; intros)
  refine JO.pure rfl rfl rfl (JPure.indexR rNode rfl rfl rfl (by decide) (by decide) ?_)
  refine JO.pure rfl rfl rfl (JPure.fieldP rfl rfl ?_)
  refine JO.eff rfl rfl rfl (JEff.storeTo (flatCells [ndV 97 (.slice a1 1 1) (.slice none 0 0) false false, ndV 98 (.slice a2 1 1) (.slice none 0 0) false false, ndV 99 (.slice none 0 0) (.slice none 0 0) true false]).toArray (rep := rBool) rfl rfl (V_bool.2 rfl) nna pma (Nat.le_of_ble_eq_true rfl) (by intro l hl; cases hl) rfl ?_)
  refine JO.blkNew rfl (fun hn0 hnb => ?_)
  refine JO.freeze hnb (by intro l hl; cases hl) (fun S4 hl4 hS4 => ?_)
  refine JO.out (fun hout4 => ?_)
  have ho4 := hout4 (.blk ob _) List.mem_cons_self ob rfl
  refine JO.blkNew rfl (fun ho0 hob => ?_)
  refine JO.freeze hob (by intro l hl; cases hl) (fun S5 hl5 hS5 => ?_)
  refine JO.out (fun hout5 => ?_)
  have hp5 := hout5 (.blk pb _) List.mem_cons_self pb rfl
  refine JO.blkNew rfl (fun hp0 hpb => ?_)
  refine JO.freeze hpb (by intro l hl; cases hl) (fun S6 hl6 hS6 => ?_)
  have hsnapA := snap10 (by simp [Rng]) hcap (hV1.mono (show SHeap.le S1 S6 by exact lea)) (hV2.mono (by exact lea)) ((show SHeap.le S2 S6 by exact lea) _ _ hS2) ((show SHeap.le S4 S6 by exact lea) _ _ hS4) hS6 ((show SHeap.le S5 S6 by exact lea) _ _ hS5)
  clear hpr
  repeat (refine s3_L10n ?_; intros)
  refine JC.partF (σ := Nat) [(1, _), (2, _)] (fun q => [(4, .pointer (some ⟨q, 0, none⟩)), (5, .int .i64 100)]) (fun q => [.blk q (.cells (clV noC).cells 35 (0, 0))]) (fun SA q => True) ?_ (by exact sba) ?_; rotate_left; rintro SA cb hlA hiA; (try dsimp only at hiA); dsimp only [List.cons_append, List.nil_append]; rotate_left
  · refine JC.drawTree 4 rfl [9, 11] [0, 1] (.alt (ofL [2] (.alt (ofL [3, 4, 5, 6, 7, 8, 9, 10, 11] .nil) (ofL [8, 3, 4, 5, 6, 7, 9, 10, 11] .nil))) (ofL [8, 2, 3, 4, 5, 6, 7, 9, 10, 11] .nil)) Tryz_mixed (by decide +kernel) ?_
    repeat' (first | (refine Walk ?_; intros) | refine JC.block ?_ | (refine JO.eff rfl rfl rfl (JEff.callSt rfl (w10_Step h10_1 (by exact vta) (by exact vta) V_st) rfl ?_); intro _ _ _ _ _ _ _) | refine JO.alt ?_ ?_ | refine JO.eff rfl rfl rfl (JEff.storeW rfl rfl (V_clV noC_rng) nna pma rfl (by intro l hl; cases hl) ?_) | (refine JO.eff rfl rfl rfl (JEff.callR rfl (q10_chapter) rfl ?_); intro _ _ _ _) | (refine JO.eff rfl rfl rfl (JEff.callV rfl (q10_on _ _ (by unfold Rng; omega) (by unfold Rng; omega)) rfl ?_); intro _ _) | (refine JO.eff rfl rfl rfl (JEff.callV rfl (q10_off _ (by unfold Rng; omega)) rfl ?_); intro _ _) | (refine JO.eff rfl rfl rfl (JEff.callV rfl (q10_works) rfl ?_); intro _ _) | (refine JO.eff rfl rfl rfl (JEff.callV rfl (r0_EqInts (by exact vta) (by exact vta)) rfl ?_); intro _ _) | (refine JO.eff rfl rfl rfl (JEff.callV rfl (p10_May (by exact vta) (by exact vta) (by exact vta)) rfl ?_); intro _ _) | (refine JO.eff rfl rfl rfl (JEff.callL rfl (p10_Ways _ (by exact vta) (by exact vta) (by first | assumption | omega) (by first | assumption | (unfold Rng; omega))) rfl ?_); intro _ _ _ _ _ _) | (refine WNew ?_; intros) | (refine WPut ?_; intros) | (refine JO.guard rfl rfl rfl rfl ?_ ?_ <;> intro _) | (refine JC.cond rfl ?_ ?_ <;> intro _))
    all_goals exact JX.partF ((_)) (by exact lea) (trivial) rfl (by exact sba) (by exact sba)
  refine JX.then_ ?_
  refine JC.blkNew rfl (fun _ hcb => ?_)
  refine JC.out (fun houtc => ?_)
  have hc0 := houtc (.blk cb _) List.mem_cons_self cb rfl
  have hco := ne_none hc0 ((show SHeap.le S5 SA by exact lea) _ _ hS5)
  have hcn := ne_none hc0 ((show SHeap.le S4 SA by exact lea) _ _ hS4)
  refine JC.freeze hcb (fun S7 hl7 hS7 => ?_)
  repeat (refine s3_L10n ?_; intros)
  refine JC.partF0 (σ := Unit) [(1, _), (2, _), (4, _), (5, _)] (fun q => [(8, .int .i64 9)]) (fun SB q => True) ?_ (by exact sba) ?_; rotate_left; rintro SB cb5 hlB hiB; (try dsimp only at hiB); dsimp only [List.cons_append, List.nil_append]; rotate_left
  · refine JC.drawTree 5 rfl [9, 11] [0, 1] (.alt (ofL [2] (.alt (ofL [3, 4, 5, 6, 7, 8, 9, 10, 11] .nil) (ofL [8, 3, 4, 5, 6, 7, 9, 10, 11] .nil))) (ofL [8, 2, 3, 4, 5, 6, 7, 9, 10, 11] .nil)) Tryz_mixed (by decide +kernel) ?_
    repeat' (first | (refine Walk ?_; intros) | refine JC.block ?_ | (refine JO.eff rfl rfl rfl (JEff.callSt rfl (w10_Step h10_2 (by exact vta) (by exact vta) V_st) rfl ?_); intro _ _ _ _ _ _ _) | refine JO.alt ?_ ?_ | (refine JO.eff rfl rfl rfl (JEff.buildS (bt := 8) (rep := rI64) (ys := [(0 : Int)]) rfl rfl ⟨⟨V_num, nna⟩, trivial⟩ rfl rfl rfl (by decide) rfl ?_); intro _ _ _ _) | (refine JO.eff rfl rfl rfl (JEff.callR rfl (q10_chapter) rfl ?_); intro _ _ _ _) | (refine JO.eff rfl rfl rfl (JEff.callV rfl (q10_on _ _ (by unfold Rng; omega) (by unfold Rng; omega)) rfl ?_); intro _ _) | (refine JO.eff rfl rfl rfl (JEff.callV rfl (q10_off _ (by unfold Rng; omega)) rfl ?_); intro _ _) | (refine JO.eff rfl rfl rfl (JEff.callV rfl (q10_works) rfl ?_); intro _ _) | (refine JO.eff rfl rfl rfl (JEff.callV rfl (r0_EqInts (by exact vta) (by exact vta)) rfl ?_); intro _ _) | (refine JO.eff rfl rfl rfl (JEff.callV rfl (p10_May (by exact vta) (by exact vta) (by exact vta)) rfl ?_); intro _ _) | (refine JO.eff rfl rfl rfl (JEff.callL rfl (p10_Ways _ (by exact vta) (by exact vta) (by first | assumption | omega) (by first | assumption | (unfold Rng; omega))) rfl ?_); intro _ _ _ _ _ _) | (refine WNew ?_; intros) | (refine WPut ?_; intros) | (refine JO.guard rfl rfl rfl rfl ?_ ?_ <;> intro _) | (refine JC.cond rfl ?_ ?_ <;> intro _))
    all_goals exact JX.partF ((())) (by exact lea) (trivial) rfl (by exact sba) (by exact sba)
  repeat (refine s3_L10n ?_; intros)
  refine JC.partF0 (σ := Unit) [(1, _), (2, _), (4, _), (5, _), (8, _)] (fun q => [(11, .int .i64 110)]) (fun SD q => True) ?_ (by exact sba) ?_; rotate_left; rintro SD cb6 hlD hiD; (try dsimp only at hiD); dsimp only [List.cons_append, List.nil_append]; rotate_left
  · refine JC.drawTree 6 rfl [9, 11] [0, 1] (.alt (ofL [2] (.alt (ofL [3, 4, 5, 6, 7, 8, 9, 10, 11] .nil) (ofL [8, 3, 4, 5, 6, 7, 9, 10, 11] .nil))) (ofL [8, 2, 3, 4, 5, 6, 7, 9, 10, 11] .nil)) Tryz_mixed (by decide +kernel) ?_
    repeat' (first | (refine Walk ?_; intros) | refine JC.block ?_ | (refine JO.eff rfl rfl rfl (JEff.callSt rfl (w10_Step h10_3 (by exact vta) (by exact vta) V_st) rfl ?_); intro _ _ _ _ _ _ _) | refine JO.alt ?_ ?_ | (refine JO.eff rfl rfl rfl (JEff.buildS (bt := 8) (rep := rI64) (ys := [(0 : Int)]) rfl rfl ⟨⟨V_num, nna⟩, trivial⟩ rfl rfl rfl (by decide) rfl ?_); intro _ _ _ _) | (refine JO.eff rfl rfl rfl (JEff.callR rfl (q10_chapter) rfl ?_); intro _ _ _ _) | (refine JO.eff rfl rfl rfl (JEff.callV rfl (q10_on _ _ (by unfold Rng; omega) (by unfold Rng; omega)) rfl ?_); intro _ _) | (refine JO.eff rfl rfl rfl (JEff.callV rfl (q10_off _ (by unfold Rng; omega)) rfl ?_); intro _ _) | (refine JO.eff rfl rfl rfl (JEff.callV rfl (q10_works) rfl ?_); intro _ _) | (refine JO.eff rfl rfl rfl (JEff.callV rfl (r0_EqInts (by exact vta) (by exact vta)) rfl ?_); intro _ _) | (refine JO.eff rfl rfl rfl (JEff.callV rfl (p10_May (by exact vta) (by exact vta) (by exact vta)) rfl ?_); intro _ _) | (refine JO.eff rfl rfl rfl (JEff.callL rfl (p10_Ways _ (by exact vta) (by exact vta) (by first | assumption | omega) (by first | assumption | (unfold Rng; omega))) rfl ?_); intro _ _ _ _ _ _) | (refine WNew ?_; intros) | (refine WPut ?_; intros) | (refine JO.guard rfl rfl rfl rfl ?_ ?_ <;> intro _) | (refine JC.cond rfl ?_ ?_ <;> intro _))
    all_goals exact JX.partF ((())) (by exact lea) (trivial) rfl (by exact sba) (by exact sba)
  repeat (refine s3_L10n ?_; intros)
  refine JC.partF0 (σ := Unit) [(1, _), (2, _), (4, _), (5, _), (8, _), (11, _)] (fun q => [(14, .int .i64 2)]) (fun SE q => True) ?_ (by exact sba) ?_; rotate_left; rintro SE cb7 hlE hiE; (try dsimp only at hiE); dsimp only [List.cons_append, List.nil_append]; rotate_left
  · refine JC.drawTree 7 rfl [9, 11] [0] (.alt (ofL [1] (.alt (ofL [2] (.alt (ofL [3, 4, 5, 6, 7, 8, 9, 10, 11] .nil) (ofL [8, 3, 4, 5, 6, 7, 9, 10, 11] .nil))) (ofL [8, 2, 3, 4, 5, 6, 7, 9, 10, 11] .nil))) (ofL [] (.alt (ofL [2] (.alt (ofL [1] (.alt (ofL [3, 4, 5, 6, 7, 8, 9, 10, 11] .nil) (ofL [8, 3, 4, 5, 6, 7, 9, 10, 11] .nil))) (ofL [8, 1, 3, 4, 5, 6, 7, 9, 10, 11] .nil))) (ofL [8] (.alt (ofL [1, 2, 3, 4, 5, 6, 7, 9, 10, 11] .nil) (ofL [2, 1, 3, 4, 5, 6, 7, 9, 10, 11] .nil)))))) Tryz_mixed (by decide +kernel) ?_
    repeat' (first | (refine Walk ?_; intros) | refine JC.block ?_ | (refine JO.eff rfl rfl rfl (JEff.callSt rfl (w10_Step h10_4 (by exact vta) (by exact vta) V_st) rfl ?_); intro _ _ _ _ _ _ _) | refine JO.alt ?_ ?_ | (refine JO.eff rfl rfl rfl (JEff.buildS (bt := 8) (rep := rI64) (ys := [(0 : Int)]) rfl rfl ⟨⟨V_num, nna⟩, trivial⟩ rfl rfl rfl (by decide) rfl ?_); intro _ _ _ _) | (refine JO.eff rfl rfl rfl (JEff.callR rfl (q10_chapter) rfl ?_); intro _ _ _ _) | (refine JO.eff rfl rfl rfl (JEff.callV rfl (q10_on _ _ (by unfold Rng; omega) (by unfold Rng; omega)) rfl ?_); intro _ _) | (refine JO.eff rfl rfl rfl (JEff.callV rfl (q10_off _ (by unfold Rng; omega)) rfl ?_); intro _ _) | (refine JO.eff rfl rfl rfl (JEff.callV rfl (q10_works) rfl ?_); intro _ _) | (refine JO.eff rfl rfl rfl (JEff.callV rfl (r0_EqInts (by exact vta) (by exact vta)) rfl ?_); intro _ _) | (refine JO.eff rfl rfl rfl (JEff.callV rfl (p10_May (by exact vta) (by exact vta) (by exact vta)) rfl ?_); intro _ _) | (refine JO.eff rfl rfl rfl (JEff.callL rfl (p10_Ways _ (by exact vta) (by exact vta) (by first | assumption | omega) (by first | assumption | (unfold Rng; omega))) rfl ?_); intro _ _ _ _ _ _) | (refine WNew ?_; intros) | (refine WPut ?_; intros) | (refine JO.guard rfl rfl rfl rfl ?_ ?_ <;> intro _) | (refine JC.cond rfl ?_ ?_ <;> intro _))
    all_goals exact JX.partF ((())) (by exact lea) (trivial) rfl (by exact sba) (by exact sba)
  repeat (refine s3_L10n ?_; intros)
  refine JO.eff rfl rfl rfl (JEff.callM (Mc := []) rfl (List.Perm.refl _) (mayAll rfl) (p10_Run (s := chapV10 1 false) (p := [0, 1, -1]) (l := []) (by exact vta) (by exact vta) V_nil) rfl ?_); intro w S8 M8 hl8 hw
  rw [h10_5] at hw
  obtain ⟨ra, rc, rfl, ⟨hr1, hr2, hr3⟩, ⟨hq, _⟩ | ⟨qb, tl8, rfl, rfl⟩⟩ := hw
  · cases hq
  dsimp only [List.cons_append, List.nil_append]
  refine JO.out (fun houtq => ?_)
  have hq0 := houtq (.blk qb _) List.mem_cons_self qb rfl
  have hqo := ne_none hq0 ((show SHeap.le S5 S8 by exact lea) _ _ hS5)
  have hqn := ne_none hq0 ((show SHeap.le S4 S8 by exact lea) _ _ hS4)
  refine JO.blkNew rfl (fun _ hqb => ?_)
  refine JO.freeze hqb (by intro l hl; cases hl) (fun S9 hl9 hS9 => ?_)
  repeat (refine s3_L10n ?_; intros)
  refine JC.partF0 (σ := Unit) [(1, _), (2, _), (4, _), (5, _), (8, _), (11, _), (14, _), (15, _), (16, _), (17, _)] (fun q => [(19, .int .i64 0), (20, .int .i64 2)]) (fun SG q => True) ?_ (by exact sba) ?_; rotate_left; rintro SG cb9 hlG hiG; (try dsimp only at hiG); dsimp only [List.cons_append, List.nil_append]; rotate_left
  · refine JC.drawTree 9 rfl [5, 6, 7, 8, 9, 10, 11] [0] (.alt (ofL [1, 2, 3, 4, 5, 6, 7, 8, 9, 10, 11] .nil) (ofL [2] (.alt (ofL [1, 3, 4, 5, 6, 7, 8, 9, 10, 11] .nil) (ofL [3, 1, 4, 5, 6, 7, 8, 9, 10, 11] .nil)))) Tryz_mixed (by decide +kernel) ?_
    repeat' (first | (refine Walk ?_; intros) | refine JC.block ?_ | (refine JO.eff rfl rfl rfl (JEff.callLs rfl (w10_Run h10_6 (by exact vta) (by exact vta) (by exact vta)) rfl ?_); intro _ _ _ _ _ _) | refine JO.alt ?_ ?_ | (refine JO.eff rfl rfl rfl (JEff.buildS (bt := 8) (rep := rI64) (ys := [(0 : Int)]) rfl rfl ⟨⟨V_num, nna⟩, trivial⟩ rfl rfl rfl (by decide) rfl ?_); intro _ _ _ _) | (refine JO.eff rfl rfl rfl (JEff.buildS (bt := 24) (rep := rStep) (ys := [(⟨1, 0, 0⟩ : Step)]) rfl rfl ⟨⟨V_st, nna⟩, trivial⟩ rfl rfl rfl (by decide) rfl ?_); intro _ _ _ _) | (refine JO.eff rfl rfl rfl (JEff.callR rfl (q10_chapter) rfl ?_); intro _ _ _ _) | (refine JO.eff rfl rfl rfl (JEff.callV rfl (q10_on _ _ (by unfold Rng; omega) (by unfold Rng; omega)) rfl ?_); intro _ _) | (refine JO.eff rfl rfl rfl (JEff.callV rfl (q10_off _ (by unfold Rng; omega)) rfl ?_); intro _ _) | (refine JO.eff rfl rfl rfl (JEff.callV rfl (q10_works) rfl ?_); intro _ _) | (refine JO.eff rfl rfl rfl (JEff.callV rfl (r0_EqInts (by exact vta) (by exact vta)) rfl ?_); intro _ _) | (refine JO.eff rfl rfl rfl (JEff.callV rfl (p10_May (by exact vta) (by exact vta) (by exact vta)) rfl ?_); intro _ _) | (refine JO.eff rfl rfl rfl (JEff.callL rfl (p10_Ways _ (by exact vta) (by exact vta) (by first | assumption | omega) (by first | assumption | (unfold Rng; omega))) rfl ?_); intro _ _ _ _ _ _) | (refine WNew ?_; intros) | (refine WPut ?_; intros) | (refine JO.guard rfl rfl rfl rfl ?_ ?_ <;> intro _) | (refine JC.cond rfl ?_ ?_ <;> intro _))
    all_goals exact JX.partF ((())) (by exact lea) (trivial) rfl (by exact sba) (by exact sba)
  refine JX.then_ ?_
  have hso := ne_none (none_le hl3 ho3) hS2
  have hsn := ne_none (none_le hl3 hn3) hS2
  have hno := ne_none ho4 hS4
  have hop := ne_none hp5 hS5
  have hnp := ne_none hp5 (hl5 _ _ hS4)
  have w1 := hV1.mono (show SHeap.le S1 S3 by exact lea)
  have w2 := hV2.mono (show SHeap.le S1 S3 by exact lea)
  refine JC.thaw ho0 hob ((show SHeap.le S5 SG by exact lea) _ _ hS5) ?_
  have dS := (SHeap.del_other hso).trans ((show SHeap.le S2 SG by exact lea) _ _ hS2)
  have dN := (SHeap.del_other hno).trans ((show SHeap.le S4 SG by exact lea) _ _ hS4)
  have dB := (SHeap.del_other hop.symm).trans ((show SHeap.le S6 SG by exact lea) _ _ hS6)
  have dC := (SHeap.del_other hco.symm).trans ((show SHeap.le S7 SG by exact lea) _ _ hS7)
  have dQ := (SHeap.del_other hqo.symm).trans ((show SHeap.le S9 SG by exact lea) _ _ hS9)
  have dl := SHeap.le_del (show SHeap.le S3 SG by exact lea) ho3
  clear hsnapA
  generalize SG.del ob = T1 at dl dS dN dB dC dQ ⊢
  have hprB := raw10 dS
  repeat (refine s3_L10n ?_; intros)
  refine JO.pure rfl rfl rfl (JPure.indexR rOwner rfl rfl rfl (by decide) (by decide) ?_)
  refine JO.pure rfl rfl rfl (JPure.fieldP rfl rfl ?_)
  refine JO.eff rfl rfl rfl (JEff.storeTo (flatCells [ownV0 2 false]).toArray (rep := rI64) rfl rfl V_num nna pma (Nat.le_of_ble_eq_true rfl) (by intro l hl; cases hl) rfl ?_)
  refine JO.freeze hob (by intro l hl; cases hl) (fun T2 hlT2 hT2 => ?_)
  have hsnapB := snap10 (m := 2) (x := false) (by simp [Rng]) hcap (w1.mono (dl.trans hlT2)) (w2.mono (dl.trans hlT2)) (hlT2 _ _ dS) (hlT2 _ _ dN) (hlT2 _ _ dB) hT2
  clear hprB
  repeat (refine s3_L10n ?_; intros)
  refine JC.partF (σ := Nat) [(1, _), (2, _), (4, _), (5, _), (8, _), (11, _), (14, _), (15, _), (16, _), (17, _), (19, _), (20, _)] (fun q => [(22, .pointer (some ⟨q, 0, none⟩)), (23, .int .i64 100)]) (fun q => [.blk q (.cells (clV ⟨8, 0, 0, 1⟩).cells 35 (0, 0))]) (fun SH q => True) ?_ (by exact sba) ?_; rotate_left; rintro SH cf hlH hiH; (try dsimp only at hiH); dsimp only [List.cons_append, List.nil_append]; rotate_left
  · refine JC.drawTree 11 rfl [9, 11] [0, 1] (.alt (ofL [2] (.alt (ofL [3, 4, 5, 6, 7, 8, 9, 10, 11] .nil) (ofL [8, 3, 4, 5, 6, 7, 9, 10, 11] .nil))) (ofL [8, 2, 3, 4, 5, 6, 7, 9, 10, 11] .nil)) Tryz_mixed (by decide +kernel) ?_
    repeat' (first | (refine Walk ?_; intros) | refine JC.block ?_ | (refine JO.eff rfl rfl rfl (JEff.callSt rfl (w10_Step h10_7 (by exact vta) (by exact vta) V_st) rfl ?_); intro _ _ _ _ _ _ _) | refine JO.alt ?_ ?_ | refine JO.eff rfl rfl rfl (JEff.storeW rfl rfl (V_clV (by simp [Rng])) nna pma rfl (by intro l hl; cases hl) ?_) | (refine JO.eff rfl rfl rfl (JEff.callR rfl (q10_chapter) rfl ?_); intro _ _ _ _) | (refine JO.eff rfl rfl rfl (JEff.callV rfl (q10_on _ _ (by unfold Rng; omega) (by unfold Rng; omega)) rfl ?_); intro _ _) | (refine JO.eff rfl rfl rfl (JEff.callV rfl (q10_off _ (by unfold Rng; omega)) rfl ?_); intro _ _) | (refine JO.eff rfl rfl rfl (JEff.callV rfl (q10_works) rfl ?_); intro _ _) | (refine JO.eff rfl rfl rfl (JEff.callV rfl (r0_EqInts (by exact vta) (by exact vta)) rfl ?_); intro _ _) | (refine JO.eff rfl rfl rfl (JEff.callV rfl (p10_May (by exact vta) (by exact vta) (by exact vta)) rfl ?_); intro _ _) | (refine JO.eff rfl rfl rfl (JEff.callL rfl (p10_Ways _ (by exact vta) (by exact vta) (by first | assumption | omega) (by first | assumption | (unfold Rng; omega))) rfl ?_); intro _ _ _ _ _ _) | (refine WNew ?_; intros) | (refine WPut ?_; intros) | (refine JO.guard rfl rfl rfl rfl ?_ ?_ <;> intro _) | (refine JC.cond rfl ?_ ?_ <;> intro _))
    all_goals exact JX.partF ((_)) (by exact lea) (trivial) rfl (by exact sba) (by exact sba)
  refine JX.then_ ?_
  refine JC.blkNew rfl (fun _ hcf => ?_)
  refine JC.out (fun houtf => ?_)
  have hf0 := houtf (.blk cf _) List.mem_cons_self cf rfl
  have hfn := ne_none hf0 ((show SHeap.le T1 SH by exact lea) _ _ dN)
  refine JC.freeze hcf (fun T3 hlT3 hT3 => ?_)
  refine JC.thaw hn0 hnb ((show SHeap.le T1 T3 by exact lea) _ _ dN) ?_
  have eS := (SHeap.del_other hsn).trans ((show SHeap.le T1 T3 by exact lea) _ _ dS)
  have eO := (SHeap.del_other hno.symm).trans ((show SHeap.le T2 T3 by exact lea) _ _ hT2)
  have eB := (SHeap.del_other hnp.symm).trans ((show SHeap.le T1 T3 by exact lea) _ _ dB)
  have eC := (SHeap.del_other hcn.symm).trans ((show SHeap.le T1 T3 by exact lea) _ _ dC)
  have eQ := (SHeap.del_other hqn.symm).trans ((show SHeap.le T1 T3 by exact lea) _ _ dQ)
  have eF := (SHeap.del_other hfn.symm).trans hT3
  have el := SHeap.le_del (show SHeap.le S3 T3 by exact lea) hn3
  clear hsnapB
  generalize T3.del nb = T4 at el eS eO eB eC eQ eF ⊢
  have hprC := raw10 eS
  repeat (refine s3_L10n ?_; intros)
  refine JO.pure rfl rfl rfl (JPure.indexR rNode rfl rfl rfl (by decide) (by decide) ?_)
  refine JO.pure rfl rfl rfl (JPure.fieldP rfl rfl ?_)
  refine JO.eff rfl rfl rfl (JEff.storeTo (flatCells [ndV 97 (.slice a1 1 1) (.slice none 0 0) false false, ndV 98 (.slice a2 1 1) (.slice none 0 0) false true, ndV 99 (.slice none 0 0) (.slice none 0 0) true false]).toArray (rep := rBool) rfl rfl (V_bool.2 rfl) nna pma (Nat.le_of_ble_eq_true rfl) (by intro l hl; cases hl) rfl ?_)
  refine JO.freeze hnb (by intro l hl; cases hl) (fun T5 hlT5 hT5 => ?_)
  have hsnapC := snap10 (m := 2) (x := true) (by simp [Rng]) hcap (w1.mono (el.trans hlT5)) (w2.mono (el.trans hlT5)) (hlT5 _ _ eS) hT5 (hlT5 _ _ eB) (hlT5 _ _ eO)
  clear hprC hRaw
  have hPc := clP10 noC_rng (hlT5 _ _ eC)
  have hPf := clP10 (c := ⟨8, 0, 0, 1⟩) (by simp [Rng]) (hlT5 _ _ eF)
  have hVq := blk_slice (SHeap.le.refl _) (hlT5 _ _ eQ) rfl hr1 hr2 hr3
  have hVp := hV3.mono (el.trans hlT5)
  repeat (refine s3_L10n ?_; intros)
  refine JC.drawTree 13 rfl [0, 2, 3, 4, 5, 6, 7, 8, 9, 10, 11, 12, 13, 14, 15, 16, 17, 18, 19, 20, 21, 22, 23, 24, 25, 26, 28, 29, 30, 31, 32, 33, 34, 35, 36, 37, 38, 39, 40, 41, 42, 43, 44, 45, 46, 47, 48, 49, 50, 51, 52, 53, 54, 59, 60, 61, 65, 66, 67, 68, 72, 73, 74, 75] [0, 1, 2, 3, 4, 5, 6, 7, 8, 9, 10, 11, 12, 13, 14, 15, 16, 17, 18, 19, 20, 21, 22, 23, 24, 25, 26, 27, 28, 29, 30, 31, 32, 33, 34, 35, 36, 37, 38, 39, 40, 41, 42, 43, 44, 45, 46, 47, 48, 49, 50, 51, 52, 53, 54, 55] (.alt (ofL [56, 57, 58, 59, 60, 61, 63, 62, 64, 65, 66, 67, 68, 70, 69, 71, 72, 73, 74, 75] .nil) (ofL [57, 56, 58, 59, 60, 61, 63, 62, 64, 65, 66, 67, 68, 70, 69, 71, 72, 73, 74, 75] .nil)) Tryz_mixed (by decide +kernel) ?_
  repeat' (first | (refine Walk ?_; intros) | refine JC.block ?_ | (refine JO.eff rfl rfl rfl (JEff.callV rfl (w_EqInts (by exact vta) (by exact vta)) rfl ?_); intro _ _) | (refine JO.eff rfl rfl rfl (JEff.callV rfl (w10_May h10_8 (by exact vta) (by exact vta) V_st) rfl ?_); intro _ _) | (refine JO.eff rfl rfl rfl (JEff.callL rfl (w10_Ways h10_9 (by decide) (by simp [Rng]) (by exact vta) (by exact vta)) rfl ?_); intro _ _ _ _ _ _) | (refine JO.eff rfl rfl rfl (JEff.callL rfl (w10_Ways h10_10 (by decide) (by simp [Rng]) (by exact vta) (by exact vta)) rfl ?_); intro _ _ _ _ _ _) | refine JO.alt ?_ ?_ | refine JO.pure rfl rfl rfl (JPure.eqR rfl vta rfl V_cl rfl rfl ?_) | (refine JO.eff rfl rfl rfl (JEff.buildS (bt := 8) (rep := rI64) (ys := [(0 : Int), -1, -1]) rfl rfl ⟨⟨V_num, nna⟩, ⟨V_num, nna⟩, ⟨V_num, nna⟩, trivial⟩ rfl rfl rfl (by decide) rfl ?_); intro _ _ _ _) | (refine JO.eff rfl rfl rfl (JEff.callR rfl (q10_chapter) rfl ?_); intro _ _ _ _) | (refine JO.eff rfl rfl rfl (JEff.callV rfl (q10_on _ _ (by unfold Rng; omega) (by unfold Rng; omega)) rfl ?_); intro _ _) | (refine JO.eff rfl rfl rfl (JEff.callV rfl (q10_off _ (by unfold Rng; omega)) rfl ?_); intro _ _) | (refine JO.eff rfl rfl rfl (JEff.callV rfl (q10_works) rfl ?_); intro _ _) | (refine JO.eff rfl rfl rfl (JEff.callV rfl (r0_EqInts (by exact vta) (by exact vta)) rfl ?_); intro _ _) | (refine JO.eff rfl rfl rfl (JEff.callV rfl (p10_May (by exact vta) (by exact vta) (by exact vta)) rfl ?_); intro _ _) | (refine JO.eff rfl rfl rfl (JEff.callL rfl (p10_Ways _ (by exact vta) (by exact vta) (by first | assumption | omega) (by first | assumption | (unfold Rng; omega))) rfl ?_); intro _ _ _ _ _ _) | (refine WNew ?_; intros) | (refine WPut ?_; intros) | (refine JO.guard rfl rfl rfl rfl ?_ ?_ <;> intro _) | (refine JC.cond rfl ?_ ?_ <;> intro _))
  all_goals ((refine JX.ret1 Tryz.results3 (ResV.tmp rfl) (List.nil_sublist _) ?_); exact ⟨rfl, rfl⟩)
end Go.Dr
namespace Go.Dr
open Go.RowKit
def heapS (w : World) : SHeap := fun b => w.heap[b]?
theorem agree_heapS (w : World) : Agree (heapS w) w := fun _ _ h => h
theorem heapS_cell {w : World} {a : Addr} {v : Value} (h : w.cell? a = some v) : (heapS w).cell? a = some v := by
  unfold World.cell? at h
  unfold SHeap.cell? heapS
  exact h
class RdR {α : Type} (P : Program) (T : TypeId) (rep : Rp α) : Prop where
  rd : ∀ {H : Type} {enc : TypeId × Value → H} {w : World} {base : Nat} {spare : Nat → Bool} {held : Bool} {fuel : Nat} {cs : List Value} {d : DataW H} {ps : List MemPlace},
    DataW.trod enc P w base spare held fuel T cs = some (d, ps) → (∀ n ∈ d.weights P T, n ≤ reachBytes) → ∃ x, rep.R (heapS w) cs x
theorem cells_sz {α : Type} {P : Program} {T : TypeId} {rep : Rp α} (h : TyR P T rep) : P.cellsOf T = rep.sz := by
  obtain ⟨i, hi, hs⟩ := h.i
  unfold Program.cellsOf
  rw [hi]
  exact hs
theorem bytes_of {P : Program} {E : TypeId} {bt : Nat} (h : Byt P E bt) : P.bytesOf E = bt := by
  have := h.h
  unfold Program.bytesOf
  rw [this]; rfl
instance {P : Program} {T : TypeId} [h : Und P T (.int .i64)] : RdR P T rI64 where
  rd ht _ := by
    obtain ⟨n, rfl, _, hw⟩ := DataW.trod_int h.h ht
    refine ⟨n, rfl, ?_⟩
    simp only [Lit.wf, Bool.and_eq_true, decide_eq_true_eq] at hw
    exact hw
instance {P : Program} {T : TypeId} [h : Und P T .bool] : RdR P T rBool where
  rd ht _ := by
    obtain ⟨b, rfl, _⟩ := DataW.trod_bool h.h ht
    exact ⟨b, rfl⟩
theorem reach_big : reachBytes ≤ big := by decide
instance {P : Program} {T : TypeId} [h : Und P T .string] : RdR P T rStr where
  rd ht hw := by
    obtain ⟨s, rfl, hd, hs⟩ := DataW.trod_string h.h ht
    cases hd
    refine ⟨s, rfl, ?_⟩
    have := hw s.data.toList.length (by simp [DataW.weights])
    have e : s.data.toList.length = s.size := Array.length_toList
    have := reach_big
    omega
theorem list_of {α : Type} : ∀ {n : Nat} {q : Nat → α → Prop}, (∀ i, i < n → ∃ x, q i x) → ∃ l : List α, l.length = n ∧ ∀ i x, l[i]? = some x → q i x
  | 0, _, _ => ⟨[], rfl, fun i x h => by simp at h⟩
  | n + 1, q, h => by
    obtain ⟨x, hx⟩ := h 0 (by omega)
    obtain ⟨l, hl, hq⟩ := list_of (n := n) (q := fun i => q (i + 1)) (fun i hi => h (i + 1) (by omega))
    refine ⟨x :: l, by simp [hl], fun i y hy => ?_⟩
    cases i with
    | zero => cases hy; exact hx
    | succ i => exact hq i y hy
theorem weights_all {H : Type} {P : Program} {e : TypeId} : ∀ {l : List (DataW H)} {d : DataW H} {n : Nat}, d ∈ l → n ∈ d.weights P e → n ∈ DataW.weightsAll P e l
  | a :: l, d, n, hd, hn => by
    simp only [DataW.weightsAll, List.mem_append]
    rcases List.mem_cons.1 hd with rfl | hd
    · exact .inl hn
    · exact .inr (weights_all hd hn)
instance {α : Type} {P : Program} {T E : TypeId} {bt : Nat} {rep : Rp α} [hu : Und P T (.slice E)] [hr : RdR P E rep] [ht : TyR P E rep] [hb : Byt P E bt] [hz : NeZero bt] : RdR P T (rSlice bt rep) where
  rd h hw := by
    rcases Deep.open_slice hu.h h with ⟨rfl, _⟩ | ⟨a, len, cap, m, n, D, Pl, rfl, _, hlc, hcm, hm, hx, hel⟩
    · exact ⟨[], none, 0, 0, rfl, rfl, Nat.le_refl _, by simp, Nat.zero_le _, fun i x h => by simp at h⟩
    · cases hx
      have hmb : len ≤ m := by rw [hm]; split <;> omega
      have hrb := reach_big
      have hbt1 : 1 ≤ bt := Nat.one_le_iff_ne_zero.2 hz.out
      have hlen1 : len * 1 ≤ len * bt := Nat.mul_le_mul_left _ hbt1
      have hwt := hw ((((List.range len).map D).length + ((List.range (m - len)).map fun j => D (len + j)).length) * P.bytesOf E) (by simp [DataW.weights, hu.h])
      rw [bytes_of hb] at hwt
      simp only [List.length_map, List.length_range] at hwt
      have hlen : len * bt ≤ (len + (m - len)) * bt := Nat.mul_le_mul_right _ (by omega)
      obtain ⟨xs, hxl, hxs⟩ := list_of (n := len) (q := fun i x => PtrTo (heapS _) (a.add (i * rep.sz)) rep x) (fun i hi => by
        obtain ⟨cs', h1, h2⟩ := hel i (by omega)
        obtain ⟨_, hcl, hcs⟩ := World.cells?_some h1
        obtain ⟨x, hx⟩ := hr.rd h2 (fun k hk => hw k (by
          simp only [DataW.weights, hu.h, List.mem_cons, List.mem_append]
          exact .inr (.inl (weights_all (List.mem_map.2 ⟨i, by simpa using hi, rfl⟩) hk))))
        rw [cells_sz ht] at hcs hcl
        refine ⟨x, cs', hx, fun j v hv => heapS_cell ?_⟩
        have hj := (List.getElem?_eq_some_iff.1 hv).1
        rw [hcs j (by omega)]; exact hv)
      refine ⟨xs, some a, len, cap, rfl, hxl, hlc, by omega, by omega, fun i x h => ⟨a, rfl, hxs i x h⟩⟩
instance {P : Program} {T E : TypeId} {n : Nat} [hu : Und P T (.array n E)] [he : Und P E (.int .i64)] [ht : TyR P E rI64] [htt : TyR P T (rArr n)] : RdR P T (rArr n) where
  rd h _ := by
    rename_i cs d ps _
    obtain ⟨xs, m, rfl, _, hcl, hxl, hx⟩ := DataW.trod_array hu.h h
    have hsz : P.cellsOf E = 1 := cells_sz ht
    rw [cells_sz htt] at hcl
    have hcl : cs.length = n := hcl
    obtain ⟨l, hll, hl⟩ := list_of (n := n) (q := fun i (z : Int) => cs[i]? = some (.int .i64 z) ∧ Rng z) (fun i hi => by
      have h1 := hx i hi
      rw [hsz, Nat.mul_one, List.getElem?_eq_getElem (by omega)] at h1
      obtain ⟨z, hz, _, hw⟩ := DataW.trod_int he.h h1
      refine ⟨z, ?_, ?_⟩
      · have : ((cs.drop i).take 1)[0]? = some (.int .i64 z) := by rw [hz]; rfl
        rw [List.getElem?_take, if_pos (by omega), List.getElem?_drop] at this
        simpa using this
      · simp only [Lit.wf, Bool.and_eq_true, decide_eq_true_eq] at hw
        exact hw)
    refine ⟨l, hll, ?_, fun x hx => ?_⟩
    · apply List.ext_getElem?
      intro i
      rw [List.getElem?_map]
      by_cases hi : i < n
      · have hg : l[i]? = some l[i] := List.getElem?_eq_getElem (by omega)
        rw [hg, (hl i _ hg).1]; rfl
      · rw [List.getElem?_eq_none (by omega), List.getElem?_eq_none (by omega)]; rfl
    · obtain ⟨i, hi⟩ := List.getElem?_of_mem hx
      exact (hl i x hi).2
structure RdF {α : Type} (P : Program) (off : Nat) (fs : List Field) (rep : Rp α) : Prop where
  run : ∀ {H : Type} {enc : TypeId × Value → H} {w : World} {base : Nat} {spare : Nat → Bool} {held : Bool} {m : Nat} {cs : List Value} {xs : List (DataW H × List MemPlace)}, cs.length = off + rep.sz → xs.length = fs.length →
    (∀ (i : Nat) (f : Field), fs[i]? = some f → DataW.trod enc P w base spare held m f.type ((cs.drop f.offset).take (P.cellsOf f.type)) = xs[i]?) →
    (∀ n ∈ DataW.weightsEach P (fs.map (·.type)) (xs.map (·.1)), n ≤ reachBytes) → ∃ x, rep.R (heapS w) (cs.drop off) x
theorem RdF.last {α : Type} {P : Program} {off : Nat} {f : Field} {rep : Rp α} (ho : f.offset = off) (hr : RdR P f.type rep) (hs : P.cellsOf f.type = rep.sz) : RdF P off [f] rep := ⟨by
  intro H enc w base spare held m cs xs hc hl hx hw
  match xs, hl with
  | [y], _ =>
    have h1 := hx 0 f rfl
    rw [ho, hs, List.take_of_length_le (by rw [List.length_drop]; omega)] at h1
    refine hr.rd (d := y.1) (ps := y.2) h1 (fun n hn => hw n ?_)
    simp only [List.map_cons, DataW.weightsEach, List.mem_append]
    exact .inl hn⟩
theorem RdF.cons {α β : Type} {P : Program} {off : Nat} {f : Field} {fs : List Field} {a : Rp α} {b : Rp β} (ho : f.offset = off) (hr : RdR P f.type a) (hs : P.cellsOf f.type = a.sz) (h : RdF P (off + a.sz) fs b) : RdF P off (f :: fs) (rSeq a b) := ⟨by
  intro H enc w base spare held m cs xs hc hl hx hw
  match xs, hl with
  | y :: ys, hl =>
    have hc : cs.length = off + (a.sz + b.sz) := hc
    have h1 := hx 0 f rfl
    rw [ho, hs] at h1
    obtain ⟨x1, hx1⟩ := hr.rd (d := y.1) (ps := y.2) h1 (fun n hn => hw n (by
      simp only [List.map_cons, DataW.weightsEach, List.mem_append]
      exact .inl hn))
    obtain ⟨x2, hx2⟩ := h.run (cs := cs) (xs := ys) (by omega) (by simpa using hl) (fun i g hg => hx (i + 1) g hg) (fun n hn => hw n (by
      simp only [List.map_cons, DataW.weightsEach, List.mem_append]
      exact .inr hn))
    refine ⟨(x1, x2), (cs.drop off).take a.sz, cs.drop (off + a.sz), ?_, hx1, hx2⟩
    rw [← List.drop_drop, List.take_append_drop]⟩
theorem RdR.struct {α : Type} {P : Program} {T : TypeId} {fs : Array Field} {rep : Rp α} (hu : P.underlying T = some (.struct fs)) (hs : P.cellsOf T = rep.sz) (h : RdF P 0 fs.toList rep) : RdR P T rep where
  rd ht hw := by
    obtain ⟨xs, n, rfl, hx, hcl, hxl, hel⟩ := DataW.trod_struct hu ht
    cases hx
    obtain ⟨x, hx⟩ := h.run (xs := xs) (by rw [hcl, hs]; omega) (by simpa using hxl) (fun i f hf => hel i f (by simpa using hf)) (fun k hk => hw k (by simpa [DataW.weights, hu] using hk))
    exact ⟨x, by simpa using hx⟩
theorem RdR.map {α γ : Type} {P : Program} {T : TypeId} {a : Rp α} {f : γ → α} (g : α → γ) (hg : ∀ y, f (g y) = y) (h : RdR P T a) : RdR P T (rMap f a) where
  rd ht hw := by
    obtain ⟨x, hx⟩ := h.rd ht hw
    exact ⟨g x, by show a.R _ _ (f (g x)); rw [hg]; exact hx⟩
theorem FnV.calls {P : Program} {f : FuncId} {args : Array Value} {r : Value} {W : World} (h : FnV P f args (heapS W) r) : Calls P f args W fun e W' => e = .returned r ∧ Below W.heap.size W W' := by
  refine (h W (agree_heapS W) (by simp) .nil (by simp)).mono ?_
  rintro e w' ⟨v, S', M', rfl, hw, rfl, rfl⟩
  exact ⟨rfl, hw.below⟩
end Go.Dr
namespace Go.Dr
open Go.Proofs
set_option maxRecDepth 20000
instance : RdR Tryz.prog 82 rLabel := RdR.map (fun y => ⟨y.1, y.2⟩) (fun _ => rfl) (RdR.struct Tryz.underlying82 (by kernel_rfl) (RdF.cons rfl (show RdR Tryz.prog 9 rStr from inferInstance) (by kernel_rfl) (RdF.last rfl (show RdR Tryz.prog 9 rStr from inferInstance) (by kernel_rfl))))
instance : RdR Tryz.prog 199 rTerm := RdR.map (fun y => ⟨y.1, y.2.1, y.2.2⟩) (fun _ => rfl) (RdR.struct Tryz.underlying199 (by kernel_rfl) (RdF.cons rfl (show RdR Tryz.prog 3 rI64 from inferInstance) (by kernel_rfl) (RdF.cons rfl (show RdR Tryz.prog 9 rStr from inferInstance) (by kernel_rfl) (RdF.last rfl (show RdR Tryz.prog 9 rStr from inferInstance) (by kernel_rfl)))))
instance : RdR Tryz.prog 77 rNear := RdR.map (fun y => ⟨y.1, y.2⟩) (fun _ => rfl) (RdR.struct Tryz.underlying77 (by kernel_rfl) (RdF.cons rfl (show RdR Tryz.prog 9 rStr from inferInstance) (by kernel_rfl) (RdF.last rfl (show RdR Tryz.prog 75 (rSlice 40 rTerm) from inferInstance) (by kernel_rfl))))
instance : RdR Tryz.prog 33 rNode := RdR.map (fun y => ⟨y.1, y.2.1, y.2.2.1, y.2.2.2.1, y.2.2.2.2.1, y.2.2.2.2.2⟩) (fun _ => rfl) (RdR.struct Tryz.underlying33 (by kernel_rfl) (RdF.cons rfl (show RdR Tryz.prog 9 rStr from inferInstance) (by kernel_rfl) (RdF.cons rfl (show RdR Tryz.prog 30 (rArr 5) from inferInstance) (by kernel_rfl) (RdF.cons rfl (show RdR Tryz.prog 31 (rSlice 32 rLabel) from inferInstance) (by kernel_rfl) (RdF.cons rfl (show RdR Tryz.prog 31 (rSlice 32 rLabel) from inferInstance) (by kernel_rfl) (RdF.cons rfl (show RdR Tryz.prog 4 rBool from inferInstance) (by kernel_rfl) (RdF.last rfl (show RdR Tryz.prog 4 rBool from inferInstance) (by kernel_rfl))))))))
instance : RdR Tryz.prog 79 rPod := RdR.map (fun y => ⟨y.1, y.2.1, y.2.2.1, y.2.2.2.1, y.2.2.2.2.1, y.2.2.2.2.2.1, y.2.2.2.2.2.2.1, y.2.2.2.2.2.2.2.1, y.2.2.2.2.2.2.2.2⟩) (fun _ => rfl) (RdR.struct Tryz.underlying79 (by kernel_rfl) (RdF.cons rfl (show RdR Tryz.prog 9 rStr from inferInstance) (by kernel_rfl) (RdF.cons rfl (show RdR Tryz.prog 9 rStr from inferInstance) (by kernel_rfl) (RdF.cons rfl (show RdR Tryz.prog 30 (rArr 5) from inferInstance) (by kernel_rfl) (RdF.cons rfl (show RdR Tryz.prog 31 (rSlice 32 rLabel) from inferInstance) (by kernel_rfl) (RdF.cons rfl (show RdR Tryz.prog 75 (rSlice 40 rTerm) from inferInstance) (by kernel_rfl) (RdF.cons rfl (show RdR Tryz.prog 31 (rSlice 32 rLabel) from inferInstance) (by kernel_rfl) (RdF.cons rfl (show RdR Tryz.prog 77 rNear from inferInstance) (by kernel_rfl) (RdF.cons rfl (show RdR Tryz.prog 77 rNear from inferInstance) (by kernel_rfl) (RdF.last rfl (show RdR Tryz.prog 9 rStr from inferInstance) (by kernel_rfl)))))))))))
instance : RdR Tryz.prog 47 rOwner := RdR.map (fun y => ⟨y.1, y.2.1, y.2.2.1, y.2.2.2.1, y.2.2.2.2⟩) (fun _ => rfl) (RdR.struct Tryz.underlying47 (by kernel_rfl) (RdF.cons rfl (show RdR Tryz.prog 9 rStr from inferInstance) (by kernel_rfl) (RdF.cons rfl (show RdR Tryz.prog 3 rI64 from inferInstance) (by kernel_rfl) (RdF.cons rfl (show RdR Tryz.prog 9 rStr from inferInstance) (by kernel_rfl) (RdF.cons rfl (show RdR Tryz.prog 3 rI64 from inferInstance) (by kernel_rfl) (RdF.last rfl (show RdR Tryz.prog 4 rBool from inferInstance) (by kernel_rfl)))))))
instance : RdR Tryz.prog 26 rSnap := RdR.map (fun y => ⟨y.1, y.2.1, y.2.2⟩) (fun _ => rfl) (RdR.struct Tryz.underlying26 (by kernel_rfl) (RdF.cons rfl (show RdR Tryz.prog 22 (rSlice 112 rNode) from inferInstance) (by kernel_rfl) (RdF.cons rfl (show RdR Tryz.prog 23 (rSlice 240 rPod) from inferInstance) (by kernel_rfl) (RdF.last rfl (show RdR Tryz.prog 24 (rSlice 56 rOwner) from inferInstance) (by kernel_rfl)))))
instance : RdR Tryz.prog 40 rStep := RdR.map (fun y => ⟨y.1, y.2.1, y.2.2⟩) (fun _ => rfl) (RdR.struct Tryz.underlying40 (by kernel_rfl) (RdF.cons rfl (show RdR Tryz.prog 3 rI64 from inferInstance) (by kernel_rfl) (RdF.cons rfl (show RdR Tryz.prog 3 rI64 from inferInstance) (by kernel_rfl) (RdF.last rfl (show RdR Tryz.prog 3 rI64 from inferInstance) (by kernel_rfl)))))
instance : RdR Tryz.prog 35 rClause := RdR.map (fun y => ⟨y.1, y.2.1, y.2.2.1, y.2.2.2⟩) (fun _ => rfl) (RdR.struct Tryz.underlying35 (by kernel_rfl) (RdF.cons rfl (show RdR Tryz.prog 3 rI64 from inferInstance) (by kernel_rfl) (RdF.cons rfl (show RdR Tryz.prog 3 rI64 from inferInstance) (by kernel_rfl) (RdF.cons rfl (show RdR Tryz.prog 3 rI64 from inferInstance) (by kernel_rfl) (RdF.last rfl (show RdR Tryz.prog 3 rI64 from inferInstance) (by kernel_rfl))))))
end Go.Dr
