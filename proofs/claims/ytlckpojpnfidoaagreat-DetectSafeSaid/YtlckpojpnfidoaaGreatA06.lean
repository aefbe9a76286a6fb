/- Part 7 of the rules and of the walks that the proofs of this seat rest on; no condition. -/
import Derived.Test.YtlckpojpnfidoaaGreatA05
import Derived.RangeFuncBound
set_option linter.unusedVariables false
set_option linter.unusedSimpArgs false
namespace Go.Dr
open Go.Proofs
set_option maxRecDepth 20000
set_option maxHeartbeats 1000000
set_option linter.unusedSimpArgs false
set_option linter.unusedVariables false
theorem spread_rng {s:Snap} {p:List Int} {o:Nat} (h:p.length≤1000) (hlen:p.length=s.pods.length) (hn:s.nodes.length≤1000):∀ x∈spreadL s p o,0≤x∧x≤1000000:=by
 intro x hx
 obtain ⟨v,_,rfl⟩:=List.mem_map.1 hx
 have:=domSum_rng (s:=s) (key:=topoOf s o) (v:=v) (counts_rng (o:=o) h hlen) s.nodes.length
 unfold domCount
 unfold domSum at this
 omega
theorem shaped_owner {s:Snap} (h:shapedB s=true):∀ o∈s.owners,0≤o.min∧o.min≤24∧0≤o.skew∧o.skew≤24:=by
 intro o ho
 unfold shapedB at h
 simp only [Bool.and_eq_true,List.all_eq_true] at h
 have h1:=h.2.2 o ho
 unfold ownerB at h1
 simp only [Bool.and_eq_true,decide_eq_true_eq] at h1
 obtain ⟨⟨h1,h2⟩,h3⟩:=h1
 split at h1
 ·have:=of_decide_eq_true h1;omega
 ·simp only [Bool.and_eq_true,decide_eq_true_eq] at h1;omega
end Go.Dr
namespace Go.Dr
open Go.Proofs
set_option maxRecDepth 20000
set_option maxHeartbeats 1000000
set_option linter.unusedSimpArgs false
set_option linter.unusedVariables false
theorem used_fine {s:Snap} (h:checkS s=0) {p:List Int} (hlen:p.length=s.pods.length) (n:Int):(usedV s p n).length=5∧(∀ x∈usedV s p n,0≤x∧x≤Qty):=by
 refine ⟨by simp [usedV],fun z hz=>?_⟩
 obtain ⟨j,hj,rfl⟩:=List.mem_map.1 hz
 have:=used_bound h p n p.length j (by simpa using hj)
 rwa [onK_all hlen] at this
theorem check_vec {v:List Int} (h:z0 (checkV v)=true):∀ x∈v,0≤x∧x≤Qty:=by
 intro x hx
 unfold z0 checkV at h
 split at h
 ·cases h
 ·rename_i h1
  split at h
  ·cases h
  ·rename_i h2
   have h1:=(List.any_eq_false.1 (by simpa using h1)) x hx
   have h2:=(List.any_eq_false.1 (by simpa using h2)) x hx
   simp only [negB,overB,decide_eq_true_eq] at h1 h2
   omega
theorem shaped_cap {s:Snap} (h:shapedB s=true):∀ n∈s.nodes,∀ x∈n.cap,0≤x∧x≤Qty:=by
 intro n hn
 unfold shapedB at h
 simp only [Bool.and_eq_true,List.all_eq_true] at h
 have h1:=h.2.1.1 n hn
 unfold nodeB at h1
 simp only [Bool.and_eq_true] at h1
 exact check_vec h1.1.1
end Go.Dr
namespace Go.Dr
open Go.Proofs
set_option maxRecDepth 20000
set_option maxHeartbeats 2000000
set_option linter.unusedSimpArgs false
set_option linter.unusedVariables false
theorem used_nn {s:Snap} (h:checkS s=0) {p:List Int} (hlen:p.length=s.pods.length) (n:Int) (k:Nat):0≤at0 (usedV s p n) k:=by
 obtain ⟨_,h2⟩:=used_fine h hlen n
 unfold at0
 rw [List.getD_eq_getElem?_getD]
 cases hz:(usedV s p n)[k]? with
 | none=>simp
 | some z=>exact (h2 z (List.mem_of_getElem? hz)).1
theorem p7_Used_eq {S:SHeap} {u v:Value} {s:Snap} {p l:List Int} {node:Int} (h:usedP s p node=l) (hu:rSnap.V S u s) (hv:(rSlice 8 rI64).V S v p):FnV Tryz.prog 121 #[u,v,.int .i64 node] S (.agg (ints l)):=by
 have hh:=p7_Used node hu hv
 rw [h] at hh;exact hh
end Go.Dr
namespace Go.Dr
open Go.Proofs
set_option maxRecDepth 20000
set_option maxHeartbeats 2000000
set_option linter.unusedSimpArgs false
set_option linter.unusedVariables false
theorem p12_may {S:SHeap} {u v:Value} {s:Snap} {p:List Int} (hu:rSnap.V S u s) (hv:(rSlice 8 rI64).V S v p):FnV Tryz.prog 247 #[u,v] S (.bool (decide (checkP s p=0))):=by
 (refine Fn.enter (args:=[u,v]) Tryz.func247 rfl Tryz.ntmps247 rfl ?_;intro w0)
 repeat (first|(refine Walk ?_;intros)|refine JC.block ?_|(refine JO.eff rfl rfl rfl (JEff.callV rfl (p7_Check (by exact vta) (by exact vta)) rfl ?_);intro _ _)|(refine WBox ?_;intros))
 (refine JX.ret1 Tryz.results247 (ResV.tmp rfl) (List.nil_sublist _) ?_)
 exact ⟨rfl,rfl⟩
def twoK (a b:Int) (k:Nat):List Int:=[if 0 < k then a else 0,if 1 < k then b else 0]
theorem twoK_len (a b:Int) (k:Nat):(twoK a b k).length=2:=rfl
theorem twoK_rng {a b:Int} (ha:Rng a) (hb:Rng b) (k:Nat):∀ z∈twoK a b k,Rng z:=by
 intro z hz
 simp only [twoK,List.mem_cons,List.mem_nil_iff,or_false] at hz
 rcases hz with rfl|rfl
 ·split
  ·exact ha
  ·simp [Rng]
 ·split
  ·exact hb
  ·simp [Rng]
theorem twoK_set (a b:Int) {k:Nat} (h:k < 2):(twoK a b k).set k (if k=0 then a else b)=twoK a b (k+1):=by
 match k with
 | 0=>rfl
 | 1=>rfl
 | k+2=>omega
def shAt (s:Snap) (p:List Int) (n:Int) (k:Nat):Int:=share1 (at0 (usedV s p n) k) (at0 (capOf s n.toNat) k)
theorem shareV_ok {s:Snap} {p:List Int} {n:Int} (h:checkP s p=0∧0≤n∧n < s.nodes.length):shareV s p n=[shAt s p n 0,shAt s p n 1]:=if_pos h
theorem shAt_rng {s:Snap} {p:List Int} {n:Int} (h:checkP s p=0) (k:Nat):0≤shAt s p n k∧shAt s p n k≤1000*Qty:=by
 obtain ⟨hs,hlen,_⟩:=checkP_ok h
 have h1:=used_nn hs hlen n k
 obtain ⟨_,h2⟩:=used_fine hs hlen n
 have h3:at0 (usedV s p n) k≤Qty:=by
  unfold at0
  rw [List.getD_eq_getElem?_getD]
  cases hz:(usedV s p n)[k]? with
  | none=>simp [Qty]
  | some z=>exact (h2 z (List.mem_of_getElem? hz)).2
 have h4:0≤at0 (capOf s n.toNat) k:=by
  unfold capOf at0
  cases hn:s.nodes[n.toNat]? with
  | none=>simp
  | some x=>
   have hx:=shaped_cap (checkS_ok hs).1 x (List.mem_of_getElem? hn)
   rw [List.getD_eq_getElem?_getD]
   cases hz:x.cap[k]? with
   | none=>simp [hz]
   | some z=>simpa [hz] using (hx z (List.mem_of_getElem? hz)).1
 exact share1_rng ⟨h1,h3⟩ h4
theorem shareV_rng (s:Snap) (p:List Int) (n:Int):∀ z∈shareV s p n,Rng z:=by
 intro z hz
 unfold shareV at hz
 split at hz
 ·rename_i h
  have h0:=shAt_rng (n:=n) h.1 0
  have h1:=shAt_rng (n:=n) h.1 1
  unfold Qty at h0 h1
  simp only [List.mem_cons,List.mem_nil_iff,or_false] at hz
  rcases hz with rfl|rfl
  ·show Rng (shAt s p n 0);unfold Rng;omega
  ·show Rng (shAt s p n 1);unfold Rng;omega
 ·simp only [List.mem_cons,List.mem_nil_iff,or_false] at hz
  rcases hz with rfl|rfl<;>simp [Rng]
theorem V_share {S:SHeap} (s:Snap) (p:List Int) (n:Int):(rArr 2).V S (.agg (ints (shareV s p n))) (shareV s p n):=V_arr.2 ⟨rfl,shareV_len s p n,shareV_rng s p n⟩
theorem s249_L12h {P K:Prop} (k:K) (h:Goal K→P:=by
 intro zk
 (first|refine Walk ?_|refine JC.block ?_|refine JC.drawN 7 rfl [0,1,2,3,4,5,6,7,8,9,10,11,12,13,14] [1,2,3,4,5,6,7,8,9,10,11,13] Tryz_mixed (by decide +kernel) ?_|(refine JO.eff rfl rfl rfl (JEff.callV rfl (p12_may (by exact vta) (by exact vta)) rfl ?_);intro zqa zqb)|(refine JO.eff rfl rfl rfl (JEff.callV rfl (p12_share _ _ (by first|assumption|omega) (by first|assumption|omega)) rfl ?_);intro zqa zqb)|(refine WBox ?_))
 (repeat (first|revert zqg|revert zqf|revert zqe|revert zqd|revert zqc|revert zqb|revert zqa))
 exact zk.k):P:=h ⟨k⟩
theorem p12_Share {S:SHeap} {u v:Value} {s:Snap} {p:List Int} (node:Int) (hu:rSnap.V S u s) (hv:(rSlice 8 rI64).V S v p):FnV Tryz.prog 249 #[u,v,.int .i64 node] S (.agg (ints (shareV s p node))):=by
 (refine Fn.enter (args:=[u,v,.int .i64 node]) Tryz.func249 rfl Tryz.ntmps249 rfl ?_;intro w0)
 repeat (refine s249_L12h ?_;intros)
 (refine JO.eff rfl rfl rfl (JEff.alloc rfl ?_);intro b6 hb6)
 repeat (refine s249_L12h ?_;intros)
 by_cases hc:checkP s p=0
 ·rw [decide_eq_true hc]
  repeat (refine s249_L12h ?_;intros)
  by_cases h0:node < 0
  ·rw [decide_eq_true h0,shareV_no (by omega)]
   repeat (refine s249_L12h ?_;intros)
   refine JO.pure rfl rfl rfl (JPure.loadMA (n:=2) (xs:=[0,0]) rfl (by (first|exact List.mem_cons_self|exact List.mem_cons_of_mem _ List.mem_cons_self|exact List.mem_cons_of_mem _ (List.mem_cons_of_mem _ List.mem_cons_self))) rfl (by simp [Rng]) (.inl rfl) rfl ?_)
   refine JO.eff rfl rfl rfl (JEff.storeA (n:=2) (xs:=[0,0]) (ys:=[0,0]) rfl rfl rfl (by simp [Rng]) (List.Perm.refl _) rfl (by intro l hl;cases hl) ?_)
   repeat (refine s249_L12h ?_;intros)
   refine JX.ret1 Tryz.results249 (ResV.cellA (n:=2) (xs:=[0,0]) rfl (by (first|exact List.mem_cons_self|exact List.mem_cons_of_mem _ List.mem_cons_self|exact List.mem_cons_of_mem _ (List.mem_cons_of_mem _ List.mem_cons_self))) rfl) (List.nil_sublist _) ?_
   exact ⟨rfl,rfl⟩
  rw [decide_eq_false h0]
  repeat (refine s249_L12h ?_;intros)
  by_cases h1:(s.nodes.length:Int)≤node
  ·rw [decide_eq_true h1,shareV_no (by omega)]
   repeat (refine s249_L12h ?_;intros)
   refine JO.pure rfl rfl rfl (JPure.loadMA (n:=2) (xs:=[0,0]) rfl (by (first|exact List.mem_cons_self|exact List.mem_cons_of_mem _ List.mem_cons_self|exact List.mem_cons_of_mem _ (List.mem_cons_of_mem _ List.mem_cons_self))) rfl (by simp [Rng]) (.inl rfl) rfl ?_)
   refine JO.eff rfl rfl rfl (JEff.storeA (n:=2) (xs:=[0,0]) (ys:=[0,0]) rfl rfl rfl (by simp [Rng]) (List.Perm.refl _) rfl (by intro l hl;cases hl) ?_)
   repeat (refine s249_L12h ?_;intros)
   refine JX.ret1 Tryz.results249 (ResV.cellA (n:=2) (xs:=[0,0]) rfl (by (first|exact List.mem_cons_self|exact List.mem_cons_of_mem _ List.mem_cons_self|exact List.mem_cons_of_mem _ (List.mem_cons_of_mem _ List.mem_cons_self))) rfl) (List.nil_sublist _) ?_
   exact ⟨rfl,rfl⟩
  rw [decide_eq_false h1]
  obtain ⟨hs,hlen,_⟩:=checkP_ok hc
  obtain ⟨x,hx⟩:∃ x,s.nodes[node.toNat]?=some x:=⟨_,List.getElem?_eq_getElem (by omega)⟩
  have hxm:=List.mem_of_getElem? hx
  have hxr:=shaped_cap (checkS_ok hs).1 x hxm
  obtain ⟨hul,hur⟩:=used_fine hs hlen node
  have hU:∀ S,(rArr 5).V S (.agg (ints (usedV s p node))) (usedV s p node):=fun S=>V_arr.2 ⟨rfl,hul,fun z hz=>by have:=hur z hz;unfold Qty at this;unfold Rng;omega⟩
  have hcap:capOf s node.toNat=x.cap:=by simp [capOf,hx]
  have hus:usedP s p node=usedV s p node:=by unfold usedP;rw [if_pos (by simp [z0,hc];omega)]
  have hr0:=shAt_rng (n:=node) hc 0
  have hr1:=shAt_rng (n:=node) hc 1
  unfold Qty at hr0 hr1
  have hg0:Rng (shAt s p node 0):=by unfold Rng;omega
  have hg1:Rng (shAt s p node 1):=by unfold Rng;omega
  rw [shareV_ok ⟨hc,by omega,by omega⟩]
  have hq:=(by assumption:PtrTo _ _ rSnap s)
  have hcl:=(snap_caps hq x hxm).1
  repeat (first|(refine Walk ?_;intros)|refine JC.block ?_|refine JC.drawN 7 rfl [0,1,2,3,4,5,6,7,8,9,10,11,12,13,14] [1,2,3,4,5,6,7,8,9,10,11,13] Tryz_mixed (by decide +kernel) ?_|(refine JO.eff rfl rfl rfl (JEff.callV rfl (p7_Used_eq hus (by exact vta) (by exact vta)) rfl ?_);intro _ _)|(refine WNew ?_;intros)|((refine JO.eff rfl rfl rfl (JEff.storeW rfl rfl (hU _) nna pma rfl (by intro l hl;cases hl) ?_));refine JO.freezeV (hU _) nna (by assumption) (by intro l hl;cases hl) ?_;intro _ _ _)|(refine JO.eff rfl rfl rfl (JEff.callV rfl (p12_may (by exact vta) (by exact vta)) rfl ?_);intro _ _)|(refine JO.eff rfl rfl rfl (JEff.callV rfl (p12_share _ _ (by first|assumption|omega) (by first|assumption|omega)) rfl ?_);intro _ _)|(refine WBox ?_;intros))
  refine JC.loopF (σ:=Nat) [(2,_),(3,_),(6,_),(7,_)] (fun q=>[(29,.int .i64 q)]) (fun q=>[.blk b6 (.cells (ints (twoK (shAt s p node 0) (shAt s p node 1) q)) 50 (0,0))]) (fun Si q=>q≤2) (fun q=>2 - q) (0) (by exact sba) (by exact sba) rfl (Nat.zero_le _) ?_;rintro Si k hli hii;(try dsimp only at hii);dsimp only [List.cons_append,List.nil_append]
  repeat (refine s249_L12h ?_;intros)
  refine JC.cond rfl (fun hc2=>?_) (fun hc2=>?_)
  ·have hk':k < 2:=by have:=of_decide_eq_true hc2;omega
   obtain ⟨z,hz⟩:∃ z,(usedV s p node)[k]?=some z:=⟨_,List.getElem?_eq_getElem (by omega)⟩
   obtain ⟨y,hy⟩:∃ y,x.cap[k]?=some y:=⟨_,List.getElem?_eq_getElem (by omega)⟩
   have hzr:=hur z (List.mem_of_getElem? hz)
   have hyr:=hxr y (List.mem_of_getElem? hy)
   have hz':(usedV s p node)[((k:Int)).toNat]?=some z:=by rw [Int.toNat_natCast];exact hz
   have hy':x.cap[((k:Int)).toNat]?=some y:=by rw [Int.toNat_natCast];exact hy
   have hsh:shAt s p node k=share1 z y:=by unfold shAt;rw [hcap,at0_some hz,at0_some hy]
   have hshr:=shAt_rng (n:=node) hc k
   rw [hsh] at hshr
   unfold Qty at hshr
   have hst:=twoK_set (shAt s p node 0) (shAt s p node 1) hk'
   have hpk:(if k=0 then shAt s p node 0 else shAt s p node 1)=share1 z y:=by
    rw [← hsh]
    match k with
    | 0=>rfl
    | 1=>rfl
    | k+2=>omega
   rw [hpk] at hst
   repeat (refine s249_L12h ?_;intros)
   refine JO.pure rfl rfl rfl (JPure.indexBI rfl rfl rfl (by omega) (by omega) ?_)
   refine JO.eff rfl rfl rfl (JEff.storeI (i:=k) rfl rfl (by unfold Rng;omega) (List.Perm.refl _) (by rw [twoK_len];exact hk') (by intro l hl;cases hl) ?_)
   rw [hst]
   repeat (refine s249_L12h ?_;intros)
   exact JX.roundF (k+1) (by exact lea) (by omega) (by (try dsimp only);omega) rfl (by exact sba) (by exact sba)
  ·have hk':k=2:=by have:=of_decide_eq_false hc2;omega
   subst hk'
   repeat (refine s249_L12h ?_;intros)
   refine JO.pure rfl rfl rfl (JPure.loadMA (n:=2) rfl (by (first|exact List.mem_cons_self|exact List.mem_cons_of_mem _ List.mem_cons_self|exact List.mem_cons_of_mem _ (List.mem_cons_of_mem _ List.mem_cons_self))) (twoK_len _ _ _) (twoK_rng hg0 hg1 2) (.inl rfl) rfl ?_)
   refine JO.eff rfl rfl rfl (JEff.storeA (n:=2) (ys:=twoK (shAt s p node 0) (shAt s p node 1) 2) rfl rfl (twoK_len _ _ _) (twoK_rng hg0 hg1 2) (List.Perm.refl _) (twoK_len _ _ _) (by intro l hl;cases hl) ?_)
   repeat (refine s249_L12h ?_;intros)
   refine JX.ret1 Tryz.results249 (ResV.cellA (n:=2) rfl (by (first|exact List.mem_cons_self|exact List.mem_cons_of_mem _ List.mem_cons_self|exact List.mem_cons_of_mem _ (List.mem_cons_of_mem _ List.mem_cons_self))) (twoK_len _ _ _)) (List.nil_sublist _) ?_
   exact ⟨rfl,rfl⟩
 ·rw [decide_eq_false hc,shareV_no (fun h=>hc h.1)]
  repeat (refine s249_L12h ?_;intros)
  refine JO.pure rfl rfl rfl (JPure.loadMA (n:=2) (xs:=[0,0]) rfl (by (first|exact List.mem_cons_self|exact List.mem_cons_of_mem _ List.mem_cons_self|exact List.mem_cons_of_mem _ (List.mem_cons_of_mem _ List.mem_cons_self))) rfl (by simp [Rng]) (.inl rfl) rfl ?_)
  refine JO.eff rfl rfl rfl (JEff.storeA (n:=2) (xs:=[0,0]) (ys:=[0,0]) rfl rfl rfl (by simp [Rng]) (List.Perm.refl _) rfl (by intro l hl;cases hl) ?_)
  repeat (refine s249_L12h ?_;intros)
  refine JX.ret1 Tryz.results249 (ResV.cellA (n:=2) (xs:=[0,0]) rfl (by (first|exact List.mem_cons_self|exact List.mem_cons_of_mem _ List.mem_cons_self|exact List.mem_cons_of_mem _ (List.mem_cons_of_mem _ List.mem_cons_self))) rfl) (List.nil_sublist _) ?_
  exact ⟨rfl,rfl⟩
theorem s248_L12h {P K:Prop} (k:K) (h:Goal K→P:=by
 intro zk
 (first|refine Walk ?_|refine JC.block ?_|(refine JO.eff rfl rfl rfl (JEff.callV rfl (p12_may (by exact vta) (by exact vta)) rfl ?_);intro zqa zqb)|(refine WBox ?_))
 (repeat (first|revert zqg|revert zqf|revert zqe|revert zqd|revert zqc|revert zqb|revert zqa))
 exact zk.k):P:=h ⟨k⟩
theorem p12_Pods {S:SHeap} {u v:Value} {s:Snap} {p:List Int} (node:Int) (hu:rSnap.V S u s) (hv:(rSlice 8 rI64).V S v p):FnL Tryz.prog 248 #[u,v,.int .i64 node] S 8 rI64 (podsV s p node):=by
 have hv0:=hv
 obtain ⟨pa,pc,rfl,_,_,hpb,_⟩:=V_slice.1 hv0
 unfold big at hpb
 (refine Fn.enter (args:=[u,.slice pa p.length pc,.int .i64 node]) Tryz.func248 rfl Tryz.ntmps248 rfl ?_;intro w0)
 repeat (refine s248_L12h ?_;intros)
 by_cases hc:checkP s p=0
 ·rw [decide_eq_true hc]
  repeat (refine s248_L12h ?_;intros)
  by_cases h0:node < 0
  ·rw [decide_eq_true h0,show podsV s p node=[] from if_neg (by omega)]
   repeat (refine s248_L12h ?_;intros)
   (refine JX.ret1 Tryz.results248 (ResV.tmp rfl) (List.nil_sublist _) ?_)
   exact ⟨rfl,V_nil⟩
  rw [decide_eq_false h0,show podsV s p node=podsK p node p.length from if_pos ⟨hc,by omega⟩]
  obtain ⟨_,_,hp24,_,_,_,_⟩:=placed_hyps hc
  repeat (refine s248_L12h ?_;intros)
  (first|refine JC.newRow 3 1 ?_|refine JO.newRow 3 1 ?_|refine JX.newRow 3 1 ?_)
  refine JC.loopF (σ:=Nat × Option Addr × Nat × List Value) [(2,_),(17,_),(18,_)] (fun q=>[(6,.slice q.2.1 ((fun k=>podsK p node k) q.1).length q.2.2.1),(19,((fun k=>.int .i64 k) q.1))]) (fun q=>[.row w0.heap.size 3 (Rp.sz rI64) (.slice q.2.1 ((fun k=>podsK p node k) q.1).length q.2.2.1) ((fun k=>podsK p node k) q.1).length (flatCells q.2.2.2)]) (fun Sk q=>q.1≤p.length∧allV rI64 Sk q.2.2.2 ((fun k=>podsK p node k) q.1)∧((fun k=>True) q.1)) (fun q=>p.length - q.1) (0,none,0,[]) (by exact sba) (by exact sba) (by first|rfl|simp) (⟨Nat.zero_le _,trivial,trivial⟩) ?_;rintro Sk ⟨k,rak,rck,vsk⟩ hlk ⟨hk,hvk,hik⟩;(try dsimp only at hk hvk hik);dsimp only [List.cons_append,List.nil_append]
  have hfl:=podsK_len p node k
  repeat (refine s248_L12h ?_;intros)
  refine JC.cond rfl (fun hc2=>?_) (fun hc2=>?_)
  ·have hk':=dlt hc2
   obtain ⟨x,hx,_⟩:=drop_at hk'
   have hst:=podsK_step p node k
   rw [at0_some hx] at hst
   repeat (refine s248_L12h ?_;intros)
   by_cases hf:x=node
   ·rw [if_pos hf] at hst
    rw [decide_eq_true hf]
    repeat (refine s248_L12h ?_;intros)
    (refine JO.eff rfl rfl rfl (JEff.build (rep:=rI64) (ys:=[(k:Int)]) rfl rfl ⟨⟨(V_i64.2 ⟨rfl,by unfold Rng;omega⟩),nna⟩,trivial⟩ rfl rfl rfl rfl ?_);intro bb hbb hvv);(repeat (first|(refine Walk ?_;intros)|refine JC.block ?_));(refine JO.eff rfl rfl rfl (JEff.appendL (rep:=rI64) rfl rfl rfl rfl (List.Perm.swap _ _ _) (by exact hvv.flat) (by intro c hc;exact flat_one (fun v hv=>(hvv.size v hv).2) c hc) (by first|omega|(unfold big;omega)) (by unfold big;omega) (by first|exact rowT_ok|(intro l hl;cases hl)) rfl ?_);intro a2 c2;clear hvv hbb)
    repeat (refine s248_L12h ?_;intros)
    exact JX.roundF (k+1,a2,c2,vsk++[(.int .i64 k)]) (by exact lea) ⟨by omega,by (try dsimp only);rw [hst];exact allV_add (by exact lea) hvk (V_i64.2 ⟨rfl,by unfold Rng;omega⟩) nna,(trivial)⟩ (by (try dsimp only);omega) (by (try dsimp only);rw [hst];(simp [flat_append]<;>omega)) (by (try dsimp only);rw [hst];simp only [List.length_append,List.length_cons,List.length_nil];exact sba) (by exact sba)
   ·rw [if_neg hf,List.append_nil] at hst
    rw [decide_eq_false hf]
    repeat (refine s248_L12h ?_;intros)
    exact JX.roundF (k+1,rak,rck,vsk) (by exact lea) ⟨by omega,by (try dsimp only);rw [hst];exact hvk.mono (by exact lea),(trivial)⟩ (by (try dsimp only);omega) (by (try dsimp only);rw [hst]) (by (try dsimp only);rw [hst];exact sba) (by exact sba)
  ·have hk':=dnlt hc2
   obtain rfl:k=p.length:=by omega
   repeat (refine s248_L12h ?_;intros)
   refine JX.freezeRow (rep:=rI64) (bt:=8) hvk rfl (by unfold big;omega) (by unfold big;omega) (fun S9 hl9 hV9=>?_)
   (refine JX.ret1 Tryz.results248 (ResV.tmp rfl) (List.nil_sublist _) ?_)
   exact ⟨rfl,hV9⟩
 ·rw [decide_eq_false hc,show podsV s p node=[] from if_neg (fun h=>hc h.1)]
  repeat (refine s248_L12h ?_;intros)
  (refine JX.ret1 Tryz.results248 (ResV.tmp rfl) (List.nil_sublist _) ?_)
  exact ⟨rfl,V_nil⟩
end Go.Dr
namespace Go.Dr
section
variable {C:Cx} {Q:Post} {S:SHeap} {M:List MEnt} {e:Env}
theorem JC.out {x:Code} (k:(∀ m∈M,∀ b,m.own=some b→S b=none)→JC C x Q S M e):JC C x Q S M e:=⟨fun a w hw=>(k fun m hm b hb=>(hw.wd.out m hm b hb).1).run a w hw⟩
end
section
variable {C:Cx} {R:Rg} {Q:Post} {S:SHeap} {M:List MEnt} {e:Env} {rest:List Nat}
variable {ty:TypeId} {pos:String} {aft:Array Edge} {g:Option (Nat × Bool)}
end
theorem none_le {S S':SHeap} {b:Nat} (h:S.le S') (hb:S' b=none):S b=none:=by
 cases hs:S b with
 | none=>rfl
 | some o=>have:=h b o hs;rw [hb] at this;cases this
def rRaw3:Rp (Value × Value × Value):=rSeq rVal (rSeq rVal rVal)
instance:Fld rRaw3 0 rVal (fun x=>x.1):=⟨Part.first⟩
instance:Fld rRaw3 1 rVal (fun x=>x.2.1):=⟨Part.next Part.first rfl⟩
instance:Fld rRaw3 2 rVal (fun x=>x.2.2):=⟨Part.next (Part.last rfl) rfl⟩
end Go.Dr
namespace Go.Dr
theorem none_of_le {S S':SHeap} {b:Nat} (h:S.le S') (hb:S' b=none):S b=none:=none_le h hb
theorem some_ne {S:SHeap} {b:Nat} (h:S b≠none):∃ o,S b=some o:=by
 cases hb:S b with
 | none=>exact absurd hb h
 | some o=>exact ⟨o,rfl⟩
theorem Wd.forget {w0 w:World} {B0:List Nat} {S0 S S1:SHeap} {M:List MEnt} (h:Wd w0 B0 S0 S M w) (h1:S0.le S1) (h2:S1.le S):Wd w0 B0 S0 S1 M w:=
 { h with
  le:=h1
  new:=fun b hb=>h.new b (by
   obtain ⟨o,ho⟩:=some_ne hb
   rw [h2 b o ho];simp)
  agree:=h.agree.mono h2
  out:=fun m hm b hb=>⟨none_of_le h2 (h.out m hm b hb).1,(h.out m hm b hb).2⟩ }
theorem JX.forget {C:Cx} {x:Exit} {Q:Post} {S S1:SHeap} {M:List MEnt} {e:Env} (h1:C.S0.le S1) (h2:S1.le S) (k:JX C x Q S1 M e):JX C x Q S M e:=
 ⟨fun a w hw=>k.run a w ⟨hw.env,hw.defers,hw.wd.forget h1 h2⟩⟩
theorem Wd.lift {w w':World} {B0:List Nat} {S1 S2 S:SHeap} {M:List MEnt} (hw:Wd w B0 S1 S2 M w') (hl:S1.le S) (hg:Agree S w) (hB:∀ b∈B0,S b=none):∃ S3,S2.le S3∧Wd w B0 S S3 M w':=by
 refine ⟨fun k=>match S2 k with|some o=>some o|none=>S k,fun b o hb=>by dsimp only;rw [hb],?_⟩
 have hkeep:∀ b o,S b=some o→w'.heap[b]?=some o:=fun b o hb=>by
  have h1:=hg b o hb
  rw [hw.keep b (Array.getElem?_eq_some_iff.1 h1).1 (fun hm=>by rw [hB b hm] at hb;cases hb)]
  exact h1
 exact { hw with
  le:=fun b o hb=>by
   show (match S2 b with|some o=>some o|none=>S b)=some o
   cases h2:S2 b with
   | none=>exact hb
   | some o2=>
    have h3:=hw.agree b o2 h2
    rw [hkeep b o hb] at h3
    cases h3;rfl
  new:=fun b hb=>by
   have hb:(match S2 b with|some o=>some o|none=>S b)≠none:=hb
   cases h2:S2 b with
   | none=>rw [h2] at hb;exact .inl hb
   | some o2=>
    rcases hw.new b (by rw [h2];simp) with h3|h3
    ·obtain ⟨o,ho⟩:=some_ne h3
     exact .inl (by rw [hl b o ho];simp)
    ·exact .inr h3
  agree:=fun b o hb=>by
   have hb:(match S2 b with|some o=>some o|none=>S b)=some o:=hb
   cases h2:S2 b with
   | none=>rw [h2] at hb;exact hkeep b o hb
   | some o2=>rw [h2] at hb;cases hb;exact hw.agree b _ h2
  out:=fun m hm b hb=>by
   obtain ⟨h1,h2⟩:=hw.out m hm b hb
   refine ⟨?_,h2⟩
   show (match S2 b with|some o=>some o|none=>S b)=none
   rw [h1]
   show S b=none
   rcases h2 with h2|h2
   ·exact hg.fresh b h2
   ·exact hB b h2 }
theorem YFn.lift {P:Program} {L:Nat} {args:Array Value} {S1 S:SHeap} {M:List MEnt} {PP:SHeap→List MEnt→Prop} (h:YFn P L args S1 M PP) (hl:S1.le S):YFn P L args S M (fun S' M'=>∃ S2,S1.le S2∧S2.le S'∧PP S2 M'):=by
 intro w hg hok hsep hout
 refine YieldAt.mono (h w (hg.mono hl) hok hsep (fun m hm b hb=>none_of_le hl (hout m hm b hb))) ?_
 rintro e w' ⟨rfl,S',M',hw,hp⟩
 obtain ⟨S3,h3,hw3⟩:=hw.lift hl hg (fun b hb=>by
  obtain ⟨m,hm,hmb⟩:=List.mem_filterMap.1 hb
  exact hout m hm b hmb)
 exact ⟨rfl,S3,M',hw3,S',hw.le,h3,hp⟩
end Go.Dr
namespace Go.Dr
open Go.Proofs
set_option maxRecDepth 20000
set_option maxHeartbeats 2000000
set_option linter.unusedSimpArgs false
set_option linter.unusedVariables false
instance:Zero Tryz.prog 151 .nilFunc:=⟨by kernel_rfl⟩
theorem Iter.toS {α:Type} {P:Program} {gf:FuncId} {lb:Array Value} {rep:Rp α} {S:SHeap} {xs:List α} (h:Iter P gf lb rep S xs):IterS P gf lb rep S (fun l=>l=xs):=by
 intro L J S1 M1 hl h0 hy
 refine Fn.mono (h L (fun k=>J (xs.take k)) S1 M1 hl (by simpa using h0) ?_) (fun v S' M' _ hp=>⟨xs,rfl,by rw [List.take_length] at hp;exact hp⟩)
 intro k x v S' M' hle hx hv hJ
 have ht:xs.take (k+1)=xs.take k++[x]:=by rw [List.take_add_one,hx];rfl
 show YFn P L #[v] S' M' (J (xs.take (k+1)))
 rw [ht]
 exact hy _ x v S' M' hle ⟨xs,rfl,by rw [← ht];exact List.take_prefix _ _⟩ hv hJ
theorem JX.ret0 {P:Program} {r:Option Nat} {N:Nat} {fn:Func} {w0:World} {B0:List Nat} {S0 S:SHeap} {M M':List MEnt} {e:Env} {PP:Value→SHeap→List MEnt→Prop} (hr:fn.results=#[]) (hM:M'.Sublist M) (hp:PP (.tuple #[]) S M') :
  JX ⟨P,r,N,[],w0,B0,S0⟩ .ret (bodyPost P fn (EndPost w0 B0 S0 PP)) S M e:=⟨fun a w hw=>
 ⟨hw.defers,_,(by unfold results;rw [hr];simp),_,S,M',rfl,hw.wd.sub hM,hp⟩⟩
theorem p_AppendSeqI {S:SHeap} {gf:FuncId} {lb:Array Value} {Sx:List Int→Prop} (hE:Ent Tryz.prog gf) (hit:IterS Tryz.prog gf lb rI64 S Sx) (hlen:∀ xs,Sx xs→xs.length≤1000000) :
  Fn Tryz.prog 245 #[.slice none 0 0,.func (.func gf) #[] lb] S [] (fun v S' M'=>∃ xs a c vs,Sx xs∧v=.slice a xs.length c∧allV rI64 S' vs xs∧M'=[.row 0 3 1 v xs.length (flatCells vs)]):=by
 haveI:TyR Tryz.prog 27 rVal:=⟨(inferInstance:TyR Tryz.prog 27 (rSlice 8 rI64)).b⟩
 (refine Fn.enterM (args:=[.slice none 0 0,.func (.func gf) #[] lb]) Tryz.func245 rfl Tryz.ntmps245 rfl ?_;intro w0)
 repeat (first|(refine Walk ?_;intros)|refine JC.block ?_)
 refine JO.eff rfl rfl rfl (JEff.box rfl rfl ?_);intro b2 hb2
 repeat (first|(refine Walk ?_;intros)|refine JC.block ?_)
 refine JC.newRow0 3 1 ?_
 refine JC.rangeFuncS (rep:=rI64) (Sx:=Sx) (fun pre S' M'=>∃ a c vs,allV rI64 S' vs pre∧M'=[.row 0 3 1 (.slice a pre.length c) pre.length (flatCells vs),.blk b2 (.cells (Value.slice a pre.length c).cells 27 (0,0))]) rfl rfl hE rfl hit ⟨none,0,[],trivial,rfl⟩ ?_ ?_
 ·rintro w1 B1 K L Rc pre y v S' M' hR hp hl ⟨xs,hxs,hpx⟩ hv ⟨a,c,vs,hvs,rfl⟩
  have hpl:=hpx.length_le
  have hxl:=hlen xs hxs
  simp only [List.length_append,List.length_cons,List.length_nil] at hpl
  repeat (first|(refine Walk ?_;intros)|refine JC.block ?_)
  refine JX.begin rfl hR ?_
  refine JC.perm (List.perm_append_comm (l₁:=[_,_]) (l₂:=[_,_])) ?_
  repeat (first|(refine Walk ?_;intros)|refine JC.block ?_)
  dsimp only [List.cons_append,List.nil_append]
  obtain ⟨rfl,hys⟩:=V_i64.1 hv
  refine JO.pure rfl rfl rfl (JPure.loadM (mid:=[.slice a pre.length c]) (rep:=rVal) rfl (List.mem_cons_of_mem _ List.mem_cons_self) rfl ⟨rfl,rfl⟩ (.inl rfl) rfl ?_)
  repeat (first|(refine Walk ?_;intros)|refine JC.block ?_)
  refine JO.eff rfl rfl rfl (JEff.build (rep:=rI64) (ys:=[y]) rfl rfl ⟨⟨V_i64.2 ⟨rfl,hys⟩,nna⟩,trivial⟩ rfl rfl rfl rfl ?_);intro bb hbb hvv
  repeat (first|(refine Walk ?_;intros)|refine JC.block ?_)
  refine JO.eff rfl rfl rfl (JEff.appendLB (B:=0) (rep:=rI64) (Nat.zero_le _) rfl rfl rfl rfl (List.Perm.swap _ _ _) (by exact hvv.flat) (by intro c hc;exact flat_one (fun v hv=>(hvv.size v hv).2) c hc) (by first|omega|(unfold big;omega)) (by unfold big;omega) (by intro l hl;cases hl) rfl ?_);intro a2 c2
  repeat (first|(refine Walk ?_;intros)|refine JC.block ?_)
  refine JO.eff rfl rfl rfl (JEff.storeW (rep:=rVal) rfl rfl (V_val.2 ⟨rfl,rfl⟩) nna (List.Perm.swap _ _ _) rfl (by intro l hl;cases hl) ?_)
  repeat (first|(refine Walk ?_;intros)|refine JC.block ?_)
  refine JX.endRound hR hp ((List.perm_append_comm (l₁:=[_,_]) (l₂:=[_,_])).trans (List.Perm.swap _ _ _)) ?_
  refine ⟨a2,c2,vs++[.int .i64 y],allV.append (us:=[.int .i64 y]) (ys:=[y]) ⟨⟨V_i64.2 ⟨rfl,hys⟩,nna⟩,trivial⟩ hvs,?_⟩
  rw [flat_append,List.length_append]
  rfl
 ·rintro K xs S' M' hl hxs ⟨a,c,vs,hvs,rfl⟩
  repeat (first|(refine Walk ?_;intros)|refine JC.block ?_)
  refine JO.pure rfl rfl rfl (JPure.loadM (mid:=[.slice a xs.length c]) (rep:=rVal) rfl (List.mem_cons_of_mem _ (List.mem_cons_of_mem _ List.mem_cons_self)) rfl ⟨rfl,rfl⟩ (.inl rfl) rfl ?_)
  repeat (first|(refine Walk ?_;intros)|refine JC.block ?_)
  refine JX.retM1 Tryz.results245 (List.Perm.refl _) (ResV.tmp rfl) (List.Sublist.cons_cons _ (List.nil_sublist _)) ?_
  exact ⟨xs,a,c,vs,hxs,rfl,hvs,rfl⟩
theorem p_CollectI {S:SHeap} {gf:FuncId} {lb:Array Value} {Sx:List Int→Prop} (hE:Ent Tryz.prog gf) (hit:IterS Tryz.prog gf lb rI64 S Sx) (hlen:∀ xs,Sx xs→xs.length≤1000000) :
  Fn Tryz.prog 165 #[.func (.func gf) #[] lb] S [] (fun v S' M'=>∃ xs a c vs,Sx xs∧v=.slice a xs.length c∧allV rI64 S' vs xs∧M'=[.row 0 3 1 v xs.length (flatCells vs)]):=by
 (refine Fn.enter (args:=[.func (.func gf) #[] lb]) Tryz.func165 rfl Tryz.ntmps165 rfl ?_;intro w0)
 repeat (first|(refine Walk ?_;intros)|refine JC.block ?_)
 refine JO.eff rfl rfl rfl (JEff.fn (Mc:=[]) (Mr:=[]) (sem_call rfl _ _ _ _ _) rfl rfl rfl (List.Perm.refl _) (by intro l hl m hm;cases hm) (p_AppendSeqI hE hit hlen) ?_);rintro v S' M' hl ⟨xs,a,c,vs,hxs,rfl,hvs,rfl⟩
 repeat (first|(refine Walk ?_;intros)|refine JC.block ?_)
 refine JX.ret1 Tryz.results165 (ResV.tmp rfl) (List.Sublist.refl _) ?_
 exact ⟨xs,a,c,vs,hxs,rfl,hvs,by simp⟩
/-! ### The nodes that are picked -/
theorem pickK_at (f:Nat→Bool) {k:Nat} (hf:f k=true):∀ n:Nat,k < n→(pickK f n)[(pickK f k).length]?=some (k:Int)
 | 0,h=>by omega
 | n+1,h=>by
  rw [pickK_step]
  by_cases e:k=n
  ·subst e
   rw [List.getElem?_append_right (Nat.le_refl _),Nat.sub_self,if_pos hf];rfl
  ·have ih:=pickK_at f hf n (by omega)
   rw [List.getElem?_append_left (List.getElem?_eq_some_iff.1 ih).1]
   exact ih
def liveF (s:Snap) (b:Nat→Bool) (n:Nat):Bool:=!lostAt s n&&b n
def liveL (s:Snap) (p:List Int) (b:Nat→Bool):List Int:=if checkP s p=0 then pickK (liveF s b) s.nodes.length else []
theorem s246_L12i {P K:Prop} (k:K) (h:Goal K→P:=by
 intro zk
 (first|refine Walk ?_|refine JC.block ?_|refine JC.drawN 4 rfl [0,1,2,3,4,5,6,7,10,11,12,8,9,13,14,15,16,17,18,19,20,21] [0,1,2,3,5,6,7,15,16,17,18,20,21] Tryz_mixed (by decide +kernel) ?_|(refine JO.eff rfl rfl rfl (JEff.callV rfl (p12_may (by exact vta) (by exact vta)) rfl ?_);intro zqa zqb)|(refine JO.eff rfl rfl rfl (JEff.callL rfl (p12_Pods _ (by exact vta) (by exact vta)) rfl ?_);intro zqa zqb zqc zqd zqe zqf)|(refine JO.eff rfl rfl rfl (JEff.callV rfl (p12_Share _ (by exact vta) (by exact vta)) rfl ?_);intro zqa zqb)|(refine WNew ?_)|(refine WPut ?_))
 (repeat (first|revert zqg|revert zqf|revert zqe|revert zqd|revert zqc|revert zqb|revert zqa))
 exact zk.k):P:=h ⟨k⟩
theorem p12_live1 {S:SHeap} {s:Snap} {p:List Int} {qs qp qi:Addr} {f:FuncId} {fs cs:Array Value} {b:Nat→Bool} (hs:PtrTo S qs rSnap s) (hp:PtrTo S qp (rSlice 8 rI64) p) (hi:PtrTo S qi rVal (.func (.func f) fs cs)) (hE:Ent Tryz.prog f)
  (hf:checkP s p=0→∀ S',S.le S'→∀ n:Nat,n < s.nodes.length→FnV Tryz.prog f (fs.toList++[Value.int .i64 (podsV s p n).length,.agg (ints (shareV s p n))]++cs.toList).toArray S' (.bool (b n))) :
  Iter Tryz.prog 246 #[.pointer (some qs),.pointer (some qp),.pointer (some qi)] rI64 S (liveL s p b):=by
 haveI:TyR Tryz.prog 151 rVal:=⟨by kernel_rfl⟩
 intro L J S1 M1 hl h0 hy
 have hp1:=hp.mono hl
 have hi1:=hi.mono hl
 have hs1:=hs.mono hl
 clear hp hs hi
 rw [show (#[.func (.yield L) #[] #[]]++#[.pointer (some qs),.pointer (some qp),.pointer (some qi)]:Array Value)=#[.func (.yield L) #[] #[],.pointer (some qs),.pointer (some qp),.pointer (some qi)] from rfl]
 (refine Fn.enter (args:=[.func (.yield L) #[] #[],.pointer (some qs),.pointer (some qp),.pointer (some qi)]) Tryz.func246 rfl Tryz.ntmps246 rfl ?_;intro w0)
 repeat (refine s246_L12i ?_;intros)
 by_cases hc:checkP s p=0
 ·rw [decide_eq_true hc]
  have hL:liveL s p b=pickK (liveF s b) s.nodes.length:=if_pos hc
  rw [hL] at hy ⊢
  have hn8:=(placed_hyps hc).2.2.2.1
  repeat (refine s246_L12i ?_;intros)
  refine JC.loopF (σ:=Nat × List MEnt) [(0,_),(1,_),(2,_),(3,_),(12,_),(13,_)] (fun q=>[(14,.int .i64 q.1)]) (fun q=>q.2) (fun Si q=>q.1≤s.nodes.length∧∃ T,S1.le T∧T.le Si∧J (pickK (liveF s b) q.1).length T q.2) (fun q=>s.nodes.length - q.1) ((0,M1)) (by exact sba) (by exact sba) rfl (⟨Nat.zero_le _,S1,SHeap.le.refl _,by exact lea,h0⟩) ?_;rintro Si ⟨i,Mi⟩ hli hii;(try dsimp only at hii);dsimp only [List.cons_append,List.nil_append]
  obtain ⟨hi1',T,hT1,hT2,hi2⟩:=hii
  try dsimp only at hi1' hi2
  repeat (refine s246_L12i ?_;intros)
  refine JC.cond rfl (fun hc2=>?_) (fun hc2=>?_)
  ·have hk':=dlt hc2
   obtain ⟨x,hx,_⟩:=drop_at hk'
   have hst:=pickK_step (liveF s b) i
   have hlo:lostAt s i=x.lost:=by simp [lostAt,hx]
   repeat (first|(refine Walk ?_;intros)|refine JC.block ?_|refine JC.drawN 4 rfl [0,1,2,3,4,5,6,7,10,11,12,8,9,13,14,15,16,17,18,19,20,21] [0,1,2,3,5,6,7,15,16,17,18,20,21] Tryz_mixed (by decide +kernel) ?_|(refine WNew ?_;intros)|(refine WPut ?_;intros)|(refine JO.eff rfl rfl rfl (JEff.callV rfl (p12_may (by exact vta) (by exact vta)) rfl ?_);intro _ _)|(refine JO.eff rfl rfl rfl (JEff.callL rfl (p12_Pods _ (by exact vta) (by exact vta)) rfl ?_);intro _ _ _ _ _ _)|(refine JO.eff rfl rfl rfl (JEff.callV rfl (p12_Share _ (by exact vta) (by exact vta)) rfl ?_);intro _ _)|(refine WNew ?_;intros)|(refine WPut ?_;intros))
   cases hls:x.lost
   ·repeat (first|(refine Walk ?_;intros)|refine JC.block ?_|refine JC.drawN 4 rfl [0,1,2,3,4,5,6,7,10,11,12,8,9,13,14,15,16,17,18,19,20,21] [0,1,2,3,5,6,7,15,16,17,18,20,21] Tryz_mixed (by decide +kernel) ?_|(refine JO.eff rfl rfl rfl (JEff.callV rfl (p12_Share (i:Int) (by exact vta) (by exact vta)) rfl ?_);intro _ _)|(refine JO.eff rfl rfl rfl (JEff.callL rfl (p12_Pods (i:Int) (by exact vta) (by exact vta)) rfl ?_);intro _ _ _ _ _ _)|(refine JO.eff rfl rfl rfl (JEff.dynV rfl hE rfl (hf hc _ (by exact lea) i hk') rfl ?_);intro _ _)|(refine JO.eff rfl rfl rfl (JEff.callV rfl (p12_may (by exact vta) (by exact vta)) rfl ?_);intro _ _)|(refine JO.eff rfl rfl rfl (JEff.callL rfl (p12_Pods _ (by exact vta) (by exact vta)) rfl ?_);intro _ _ _ _ _ _)|(refine JO.eff rfl rfl rfl (JEff.callV rfl (p12_Share _ (by exact vta) (by exact vta)) rfl ?_);intro _ _)|(refine WNew ?_;intros)|(refine WPut ?_;intros))
    cases hb:b i
    ·rw [show liveF s b i=false by unfold liveF;rw [hb];simp,if_neg (by simp),List.append_nil] at hst
     repeat (refine s246_L12i ?_;intros)
     exact JX.roundF ((i+1,Mi)) (by exact lea) (⟨hk',T,hT1,by exact lea,by (try dsimp only);rw [hst];exact hi2⟩) (by (try dsimp only);omega) rfl (by exact sba) (by exact sba)
    ·have hF:liveF s b i=true:=by unfold liveF;rw [hb,hlo,hls];rfl
     have hat:=pickK_at (liveF s b) hF s.nodes.length hk'
     rw [hF,if_pos rfl] at hst
     repeat (refine s246_L12i ?_;intros)
     refine JO.eff rfl rfl rfl (JEff.yield (Mc:=Mi) (Mr:=[]) rfl rfl rfl (by rw [List.append_nil]) (by intro l hl;cases hl) ((hy _ (i:Int) _ _ _ hT1 hat (V_i64.2 ⟨rfl,by unfold Rng;omega⟩) hi2).lift (by exact lea)) rfl ?_);rintro S' M' hl' ⟨T',hT3,hT4,hJ'⟩
     rw [List.append_nil]
     repeat (refine s246_L12i ?_;intros)
     exact JX.roundF ((i+1,M')) (by exact lea) (⟨hk',T',hT1.trans hT3,by exact lea,by (try dsimp only);rw [hst,List.length_append];exact hJ'⟩) (by (try dsimp only);omega) rfl (by exact sba) (by exact sba)
   ·rw [show liveF s b i=false by unfold liveF;rw [hlo,hls];rfl,if_neg (by simp),List.append_nil] at hst
    repeat (refine s246_L12i ?_;intros)
    exact JX.roundF ((i+1,Mi)) (by exact lea) (⟨hk',T,hT1,by exact lea,by (try dsimp only);rw [hst];exact hi2⟩) (by (try dsimp only);omega) rfl (by exact sba) (by exact sba)
  ·have hk':=dnlt hc2
   obtain rfl:i=s.nodes.length:=by omega
   repeat (refine s246_L12i ?_;intros)
   refine JX.forget hT1 (by exact lea) ?_
   refine JX.end0 Tryz.results246 (List.Sublist.refl _) ?_
   exact hi2
 ·rw [decide_eq_false hc]
  have hL:liveL s p b=[]:=if_neg hc
  rw [hL] at hy ⊢
  repeat (refine s246_L12i ?_;intros)
  refine JX.forget (SHeap.le.refl S1) (by exact lea) ?_
  refine JX.ret0 Tryz.results246 (List.Sublist.refl _) ?_
  exact h0
theorem p12_live {S:SHeap} {u v:Value} {s:Snap} {p:List Int} {f:FuncId} {fs cs:Array Value} (hu:rSnap.V S u s) (hv:(rSlice 8 rI64).V S v p) :
  FnR Tryz.prog 166 #[u,v,.func (.func f) fs cs] S (fun w S'=>∃ qs qp qi,w=.func (.func 246) #[] #[.pointer (some qs),.pointer (some qp),.pointer (some qi)]∧PtrTo S' qs rSnap s∧PtrTo S' qp (rSlice 8 rI64) p∧PtrTo S' qi rVal (.func (.func f) fs cs)):=by
 haveI:TyR Tryz.prog 151 rVal:=⟨by kernel_rfl⟩
 obtain ⟨pa,pc,rfl,_⟩:=V_slice.1 hv
 (refine Fn.enter (args:=[u,.slice pa p.length pc,.func (.func f) fs cs]) Tryz.func166 rfl Tryz.ntmps166 rfl ?_;intro w0)
 repeat (first|(refine Walk ?_;intros)|refine JC.block ?_|(refine WBox ?_;intros)|(refine WBox ?_;intros))
 (refine JX.ret1 Tryz.results166 (ResV.tmp rfl) (List.nil_sublist _) ?_)
 exact ⟨rfl,_,_,_,rfl,by exact pta,by exact pta,by exact pta⟩
theorem s101_L12i {P K:Prop} (k:K) (h:Goal K→P:=by
 intro zk
 (first|refine Walk ?_|refine JC.block ?_|(refine JO.eff rfl rfl rfl (JEff.callV rfl (p6_Check (by exact vta)) rfl ?_);intro zqa zqb)|(refine WBox ?_))
 (repeat (first|revert zqg|revert zqf|revert zqe|revert zqd|revert zqc|revert zqb|revert zqa))
 exact zk.k):P:=h ⟨k⟩
theorem p12_picked {S:SHeap} {u v w:Value} {s:Snap} {p:List Int} {g:Pol} {f:FuncId} {fs cs:Array Value} {b:Nat→Bool} (hu:rSnap.V S u s) (hv:(rSlice 8 rI64).V S v p) (hg:rPol.V S w g) (hE:Ent Tryz.prog f)
  (hf:checkP s p=0→∀ S',S.le S'→∀ n:Nat,n < s.nodes.length→FnV Tryz.prog f (fs.toList++[Value.int .i64 (podsV s p n).length,.agg (ints (shareV s p n))]++cs.toList).toArray S' (.bool (b n))) :
  FnL Tryz.prog 101 #[u,v,w,.func (.func f) fs cs] S 8 rI64 (pickV s p g (liveF s b)):=by
 (refine Fn.enter (args:=[u,v,w,.func (.func f) fs cs]) Tryz.func101 rfl Tryz.ntmps101 rfl ?_;intro w0)
 repeat (refine s101_L12i ?_;intros)
 by_cases hG:checkG g=0
 ·rw [decide_eq_true hG]
  have hpk:pickV s p g (liveF s b)=liveL s p b:=by
   unfold pickV liveL
   by_cases hc:checkP s p=0
   ·rw [if_pos ⟨hG,hc⟩,if_pos hc]
   ·rw [if_neg (fun h=>hc h.2),if_neg hc]
  rw [hpk]
  have hll:(liveL s p b).length≤1000:=by
   unfold liveL
   split
   ·rename_i hc
    have h1:=pickK_len (liveF s b) s.nodes.length
    have h2:=(placed_hyps hc).2.2.2.1
    omega
   ·simp
  repeat (first|(refine Walk ?_;intros)|refine JC.block ?_|(refine JO.eff rfl rfl rfl (JEff.callR rfl (p12_live (by exact vta) (by exact vta)) rfl ?_);rintro lv S2 hl2 ⟨qs,qp,qi,rfl,hqs,hqp,hqi⟩)|(refine JO.eff rfl rfl rfl (JEff.callV rfl (p6_Check (by exact vta)) rfl ?_);intro _ _)|(refine WBox ?_;intros))
  refine JO.eff rfl rfl rfl (JEff.callM (Mc:=[]) rfl (List.Perm.refl _) (mayAll rfl) (p_CollectI (Sx:=fun l=>l=liveL s p b) inferInstance (p12_live1 hqs hqp hqi hE (fun hc S' h n hn=>hf hc S' (by exact lea) n hn)).toS (fun xs h=>by rw [h];omega)) rfl ?_)
  rintro w3 S3 M3 hl3 ⟨xs,a,c,vs,rfl,rfl,hvs,rfl⟩
  dsimp only [List.cons_append,List.nil_append]
  generalize liveL s p b=xs at *
  by_cases h0:xs=[]
  ·subst h0
   repeat (refine s101_L12i ?_;intros)
   (refine JX.ret1 Tryz.results101 (ResV.tmp rfl) (List.nil_sublist _) ?_)
   exact ⟨rfl,V_slice.2 ⟨_,_,rfl,by simp,by simp,by simp,by simp⟩⟩
  ·have h1:0 < xs.length:=List.length_pos_iff.2 h0
   refine JO.rowBlkB h1 (fun rb tl hab hcap hsz=>?_)
   subst hab
   refine JO.blkNew rfl (fun hb0 hbb=>?_)
   refine JO.freeze hbb (by intro l hl;cases hl) (fun S9 hl9 hS9=>?_)
   have hVr:=blk_sliceR (S:=S9) (rep:=rI64) (bt:=8) hvs (show SHeap.le S3 S9 by exact lea) hS9 rfl hcap (by unfold big;omega) (by unfold big;omega)
   repeat (refine s101_L12i ?_;intros)
   (refine JX.ret1 Tryz.results101 (ResV.tmp rfl) (List.nil_sublist _) ?_)
   exact ⟨rfl,hVr.mono (by exact lea)⟩
 ·rw [decide_eq_false hG,show pickV s p g (liveF s b)=[] from if_neg (fun h=>hG h.1)]
  repeat (refine s101_L12i ?_;intros)
  (refine JX.ret1 Tryz.results101 (ResV.tmp rfl) (List.nil_sublist _) ?_)
  exact ⟨rfl,V_nil⟩
theorem two_at {l:List Int} (h:l.length=2):l[(0:Int).toNat]?=some (at0 l 0)∧l[(1:Int).toNat]?=some (at0 l 1):=by
 match l,h with
 | [a,b],_=>exact ⟨rfl,rfl⟩
theorem p12_Low1 {S:SHeap} {q:Addr} {g:Pol} {n:Nat} {xs:List Int} (hq:PtrTo S q rPol g) (hx:(rArr 2).V S (.agg (ints xs)) xs):FnV Tryz.prog 217 #[.int .i64 n,.agg (ints xs),.pointer (some q)] S (.bool (decide (0 < n)&&decide (at0 xs 0 < at0 g.low 0)&&decide (at0 xs 1 < at0 g.low 1))):=by
 obtain ⟨_,hxl,_⟩:=V_arr.1 hx
 obtain ⟨gv,hgv⟩:∃ gv,rPol.V S gv g:=by
  obtain ⟨cs,hR,_⟩:=hq
  exact ⟨_,Rp.val_V hR⟩
 obtain ⟨hl2,hh2,_⟩:=drain_size hgv
 obtain ⟨hx0,hx1⟩:=two_at hxl
 obtain ⟨hg0,hg1⟩:=two_at hl2
 (refine Fn.enter (args:=[.int .i64 n,.agg (ints xs),.pointer (some q)]) Tryz.func217 rfl Tryz.ntmps217 rfl ?_;intro w0)
 repeat (first|(refine Walk ?_;intros)|refine JC.block ?_|(refine WBox ?_;intros))
 by_cases h0:0 < n
 ·rw [decide_eq_true (show (0:Int) < (n:Int) by omega),decide_eq_true h0]
  repeat (first|(refine Walk ?_;intros)|refine JC.block ?_|(refine WBox ?_;intros))
  by_cases h1:at0 xs 0 < at0 g.low 0
  ·rw [decide_eq_true h1]
   repeat (first|(refine Walk ?_;intros)|refine JC.block ?_|(refine WBox ?_;intros))
   (refine JX.ret1 Tryz.results217 (ResV.tmp rfl) (List.nil_sublist _) ?_)
   exact ⟨rfl,rfl⟩
  ·rw [decide_eq_false h1]
   repeat (first|(refine Walk ?_;intros)|refine JC.block ?_|(refine WBox ?_;intros))
   (refine JX.ret1 Tryz.results217 (ResV.tmp rfl) (List.nil_sublist _) ?_)
   exact ⟨rfl,rfl⟩
 ·rw [decide_eq_false (show ¬ (0:Int) < (n:Int) by omega),decide_eq_false h0]
  repeat (first|(refine Walk ?_;intros)|refine JC.block ?_|(refine WBox ?_;intros))
  (refine JX.ret1 Tryz.results217 (ResV.tmp rfl) (List.nil_sublist _) ?_)
  exact ⟨rfl,rfl⟩
theorem p12_Low {S:SHeap} {u v w:Value} {s:Snap} {p:List Int} {g:Pol} (hu:rSnap.V S u s) (hv:(rSlice 8 rI64).V S v p) (hg:rPol.V S w g):FnL Tryz.prog 151 #[u,v,w] S 8 rI64 (lowV s p g):=by
 have hlow:lowV s p g=pickV s p g (liveF s (fun n=>decide (0 < (podsV s p n).length)&&decide (at0 (shareV s p n) 0 < at0 g.low 0)&&decide (at0 (shareV s p n) 1 < at0 g.low 1))):=by
  unfold lowV
  congr 1
  funext n
  unfold lowB liveF
  simp only [Bool.and_assoc]
 rw [hlow]
 (refine Fn.enter (args:=[u,v,w]) Tryz.func151 rfl Tryz.ntmps151 rfl ?_;intro w0)
 repeat (first|(refine Walk ?_;intros)|refine JC.block ?_|(refine WBox ?_;intros)|(refine WBox ?_;intros))
 have hq:=(by assumption:PtrTo _ _ rPol g)
 refine JO.eff rfl rfl rfl (JEff.callL rfl (p12_picked (by exact vta) (by exact vta) (by exact vta) inferInstance (fun hc S' h n hn=>p12_Low1 (hq.mono (by exact lea)) (V_share s p n))) rfl ?_);intro a c S5 hl5 hV5 hb5
 repeat (first|(refine Walk ?_;intros)|refine JC.block ?_|(refine WBox ?_;intros))
 (refine JX.ret1 Tryz.results151 (ResV.tmp rfl) (List.nil_sublist _) ?_)
 exact ⟨rfl,hV5⟩
theorem s100_L12i {P K:Prop} (k:K) (h:Goal K→P:=by
 intro zk
 (first|refine Walk ?_|refine JC.block ?_|refine JC.drawN 1 rfl [0,1,2,3,4,5,6,7,8,9,10,11,12,13,14,15] [0,1,2,3,4,5,6,7,8,9,10,11,12,13,14,15] Tryz_mixed (by decide +kernel) ?_|(refine WBox ?_))
 (repeat (first|revert zqg|revert zqf|revert zqe|revert zqd|revert zqc|revert zqb|revert zqa))
 exact zk.k):P:=h ⟨k⟩
theorem p12_High1 {S:SHeap} {q:Addr} {g:Pol} {i:Nat} {xs:List Int} (hi:i < 2) (hq:PtrTo S q rPol g) (hx:(rArr 2).V S (.agg (ints xs)) xs):FnV Tryz.prog 100 #[.int .i64 i,.agg (ints xs),.pointer (some q)] S (.bool (decide (0 < at0 g.high i)&&decide (at0 g.high i < at0 xs i))):=by
 obtain ⟨_,hxl,_⟩:=V_arr.1 hx
 obtain ⟨gv,hgv⟩:∃ gv,rPol.V S gv g:=by
  obtain ⟨cs,hR,_⟩:=hq
  exact ⟨_,Rp.val_V hR⟩
 obtain ⟨hl2,hh2,_⟩:=drain_size hgv
 obtain ⟨y,hy⟩:∃ y,g.high[i]?=some y:=⟨_,List.getElem?_eq_getElem (by omega)⟩
 obtain ⟨z,hz⟩:∃ z,xs[i]?=some z:=⟨_,List.getElem?_eq_getElem (by omega)⟩
 have hy':g.high[((i:Int)).toNat]?=some y:=by rw [Int.toNat_natCast];exact hy
 have hz':xs[((i:Int)).toNat]?=some z:=by rw [Int.toNat_natCast];exact hz
 rw [at0_some hy,at0_some hz]
 (refine Fn.enter (args:=[.int .i64 i,.agg (ints xs),.pointer (some q)]) Tryz.func100 rfl Tryz.ntmps100 rfl ?_;intro w0)
 repeat (refine s100_L12i ?_;intros)
 by_cases h0:0 < y
 ·rw [decide_eq_true h0]
  repeat (refine s100_L12i ?_;intros)
  (refine JX.ret1 Tryz.results100 (ResV.tmp rfl) (List.nil_sublist _) ?_)
  exact ⟨rfl,rfl⟩
 ·rw [decide_eq_false h0]
  repeat (refine s100_L12i ?_;intros)
  (refine JX.ret1 Tryz.results100 (ResV.tmp rfl) (List.nil_sublist _) ?_)
  exact ⟨rfl,rfl⟩
theorem p12_High2 {S:SHeap} {qa q:Addr} {g:Pol} {n:Nat} {xs:List Int} (ha:PtrTo S qa rVal (.func (.func 100) #[] #[.pointer (some q)])) (hq:PtrTo S q rPol g) (hx:(rArr 2).V S (.agg (ints xs)) xs):FnV Tryz.prog 102 #[.int .i64 n,.agg (ints xs),.pointer (some qa)] S (.bool ((decide (0 < at0 g.high 0)&&decide (at0 g.high 0 < at0 xs 0))||(decide (0 < at0 g.high 1)&&decide (at0 g.high 1 < at0 xs 1)))):=by
 haveI:TyR Tryz.prog 151 rVal:=⟨by kernel_rfl⟩
 obtain ⟨_,hxl,hxr⟩:=V_arr.1 hx
 have hX:∀ S,(rArr 2).V S (.agg (ints xs)) xs:=fun S=>V_arr.2 ⟨rfl,hxl,hxr⟩
 (refine Fn.enter (args:=[.int .i64 n,.agg (ints xs),.pointer (some qa)]) Tryz.func102 rfl Tryz.ntmps102 rfl ?_;intro w0)
 repeat (first|(refine Walk ?_;intros)|refine JC.block ?_|(refine WBox ?_;intros))
 obtain ⟨rfl,_,_⟩:=V_arr.1 (by assumption:(rArr 2).V _ _ xs)
 refine JO.eff rfl rfl rfl (JEff.dynV rfl inferInstance rfl (p12_High1 (i:=0) (by decide) (hq.mono (by exact lea)) (hX _)) rfl ?_);intro S3 hl3
 cases hb0:(decide (0 < at0 g.high 0)&&decide (at0 g.high 0 < at0 xs 0))
 ·repeat (first|(refine Walk ?_;intros)|refine JC.block ?_|(refine WBox ?_;intros))
  obtain ⟨rfl,_,_⟩:=V_arr.1 (by assumption:(rArr 2).V S3 _ xs)
  refine JO.eff rfl rfl rfl (JEff.dynV rfl inferInstance rfl (p12_High1 (i:=1) (by decide) (hq.mono (by exact lea)) (hX _)) rfl ?_);intro S4 hl4
  repeat (first|(refine Walk ?_;intros)|refine JC.block ?_|(refine WBox ?_;intros))
  (refine JX.ret1 Tryz.results102 (ResV.tmp rfl) (List.nil_sublist _) ?_)
  exact ⟨rfl,rfl⟩
 ·repeat (first|(refine Walk ?_;intros)|refine JC.block ?_|(refine WBox ?_;intros))
  (refine JX.ret1 Tryz.results102 (ResV.tmp rfl) (List.nil_sublist _) ?_)
  exact ⟨rfl,rfl⟩
theorem p12_High {S:SHeap} {u v w:Value} {s:Snap} {p:List Int} {g:Pol} (hu:rSnap.V S u s) (hv:(rSlice 8 rI64).V S v p) (hg:rPol.V S w g):FnL Tryz.prog 37 #[u,v,w] S 8 rI64 (highV s p g):=by
 haveI:TyR Tryz.prog 151 rVal:=⟨by kernel_rfl⟩
 have hhigh:highV s p g=pickV s p g (liveF s (fun n=>(decide (0 < at0 g.high 0)&&decide (at0 g.high 0 < at0 (shareV s p n) 0))||(decide (0 < at0 g.high 1)&&decide (at0 g.high 1 < at0 (shareV s p n) 1)))):=by
  unfold highV
  congr 1
 rw [hhigh]
 (refine Fn.enter (args:=[u,v,w]) Tryz.func37 rfl Tryz.ntmps37 rfl ?_;intro w0)
 repeat (first|(refine Walk ?_;intros)|refine JC.block ?_|(refine WBox ?_;intros)|(refine WNew ?_;intros)|(refine WPut ?_;intros)|(refine WBox ?_;intros)|(refine WNew ?_;intros)|(refine WPut ?_;intros))
 have hq:=(by assumption:PtrTo _ _ rPol g)
 have hqa:=(by assumption:PtrTo _ _ rVal (.func (.func 100) #[] #[.pointer (some _)]))
 refine JO.eff rfl rfl rfl (JEff.callL rfl (p12_picked (by exact vta) (by exact vta) (by exact vta) inferInstance (fun hc S' h n hn=>p12_High2 (hqa.mono (by exact lea)) (hq.mono (by exact lea)) (V_share s p n))) rfl ?_);intro a c S5 hl5 hV5 hb5
 repeat (first|(refine Walk ?_;intros)|refine JC.block ?_|(refine WBox ?_;intros)|(refine WNew ?_;intros)|(refine WPut ?_;intros))
 (refine JX.ret1 Tryz.results37 (ResV.tmp rfl) (List.nil_sublist _) ?_)
 exact ⟨rfl,hV5⟩
end Go.Dr
namespace Go.Dr
open Go.Proofs
set_option linter.unusedVariables false
structure LookD where
 s:Snap
 p:List Int
 used:List (List Int)
 dm:Value
def rLook:Rp LookD:=rMap (fun x:LookD=>(x.s,x.p,x.used,x.dm)) (rSeq rSnap (rSeq (rSlice 8 rI64) (rSeq (rSlice 40 (rArr 5)) rVal)))
instance:Fld rLook 0 rSnap LookD.s:=⟨(Part.map Part.first)⟩
instance:Fld rLook 3 (rSlice 8 rI64) LookD.p:=⟨(Part.map (Part.next Part.first rfl))⟩
instance:Fld rLook 4 (rSlice 40 (rArr 5)) LookD.used:=⟨(Part.map (Part.next (Part.next Part.first rfl) rfl))⟩
instance:Fld rLook 5 rVal LookD.dm:=⟨(Part.map (Part.next (Part.next (Part.last rfl) rfl) rfl))⟩
def rDom:Rp (ByteArray × Bool):=rSeq rStr rBool
instance:Fld rDom 0 rStr Prod.fst:=⟨Part.first⟩
instance:Fld rDom 1 rBool Prod.snd:=⟨Part.last rfl⟩
instance:TyR Tryz.prog 276 rLook:=⟨by kernel_rfl⟩
instance:TyR Tryz.prog 359 rDom:=⟨by kernel_rfl⟩
instance:TyR Tryz.prog 356 (rSlice 24 rDom):=⟨by kernel_rfl⟩
def doms (s:Snap) (key:ByteArray):List (ByteArray × Bool):=s.nodes.map (fun n=>valB n key)
def Cache (s:Snap) (S:SHeap) (l:List (ByteArray × Value)):Prop:=DistinctK l∧∀ q∈l,(rSlice 24 rDom).V S q.2 (doms s q.1)
theorem Cache.mono {s:Snap} {S S':SHeap} {l:List (ByteArray × Value)} (h:Cache s S l) (hl:S.le S'):Cache s S' l:=⟨h.1,fun q hq=>(h.2 q hq).mono hl⟩
theorem Cache.nil {s:Snap} {S:SHeap}:Cache s S []:=⟨DistinctK.nil,by simp⟩
theorem cntI_congr {n:Nat} {f g:Nat→Bool} (h:∀ i,i < n→f i=g i):cntI n f=cntI n g:=by
 unfold cntI
 congr 2
 exact List.filter_congr (fun i hi=>h i (by simpa using hi))
end Go.Dr
namespace Go.Dr
open Go.Proofs
set_option maxRecDepth 20000
set_option maxHeartbeats 2000000
set_option linter.unusedSimpArgs false
set_option linter.unusedVariables false
theorem doms_at {s:Snap} {key:ByteArray} {a:Nat} {x:Node} (h:s.nodes[a]?=some x):(doms s key)[((a:Int)).toNat]?=some (valB x key):=by
 have e:((a:Int)).toNat=a:=by omega
 rw [e,doms,List.getElem?_map,h];rfl
def dmK (s:Snap) (key:ByteArray) (k:Nat):List (ByteArray × Bool):=(doms s key).take k
theorem domainP_doms {s:Snap} {key:ByteArray} {k:Nat} {x:Node} (hok:checkS s=0) (hx:s.nodes[k]?=some x):domainP s k key=valB x key:=by
 have hk:=(List.getElem?_eq_some_iff.1 hx).1
 have e:((k:Int)).toNat=k:=by omega
 unfold domainP
 rw [e,hx]
 simp [z0,hok,hk]
theorem dmK_step {s:Snap} {key:ByteArray} {k:Nat} {x:Node} (hok:checkS s=0) (hx:s.nodes[k]?=some x):dmK s key (k+1)=dmK s key k++[domainP s k key]:=by
 unfold dmK
 rw [domainP_doms hok hx,List.take_add_one]
 simp [doms,hx]
theorem dmK_len (s:Snap) (key:ByteArray) (k:Nat):(dmK s key k).length≤k:=by unfold dmK;rw [List.length_take];omega
theorem dmK_all (s:Snap) (key:ByteArray):dmK s key s.nodes.length=doms s key:=by unfold dmK;rw [List.take_of_length_le (by simp [doms])]
theorem s366_L8a {P K:Prop} (k:K) (h:Goal K→P:=by
 intro zk
 (first|refine Walk ?_|refine JC.block ?_|refine JC.drawN 10 rfl [0,1,2,3,4,5,6,7,8,9,10,11,12,13,14,15,16,17,18,19,20,21,22,23,24,25] [0,1,2,3,4,5,6,7,8,9,10,11,12,13,14,15,16,17,18,19,20,21,22,23,24,25] Tryz_mixed (by decide +kernel) ?_|(refine JO.eff rfl rfl rfl (JEff.callV rfl (p7_Domain _ _ (by assumption) (by exact vta)) rfl ?_);intro zqa zqb))
 (repeat (first|revert zqg|revert zqf|revert zqe|revert zqd|revert zqc|revert zqb|revert zqa))
 exact zk.k):P:=h ⟨k⟩
theorem p8_near {S:SHeap} {kp:Addr} {s:Snap} {p:List Int} {us:List (List Int)} {mb:Nat} {l:List (ByteArray × Value)} (a b:Nat) (key:ByteArray) (hkey:key.size≤big) (hok:checkS s=0) (ha:a < s.nodes.length) (hb:b < s.nodes.length)
  (hL:PtrTo S kp rLook ⟨s,p,us,.map (some mb)⟩) (hco:Cache s S l) :
  FnC Tryz.prog 366 #[.pointer (some kp),.int .i64 a,.int .i64 b,.string key] S Value.string mb (Cache s) l (fun w _=>w=.bool (near8 s a b key)):=by
 obtain ⟨xa,hxa⟩:∃ x,s.nodes[a]?=some x:=⟨_,List.getElem?_eq_getElem ha⟩
 obtain ⟨xb,hxb⟩:∃ x,s.nodes[b]?=some x:=⟨_,List.getElem?_eq_getElem hb⟩
 have hda:=doms_at (key:=key) hxa
 have hdb:=doms_at (key:=key) hxb
 have hn8:=(shaped_small (checkS_ok hok).1).1
 have hsz:=snap_val (PtrTo.part hL (Part.map Part.first)) key
 (refine Fn.enter (args:=[.pointer (some kp),.int .i64 a,.int .i64 b,.string key]) Tryz.func366 rfl Tryz.ntmps366 rfl ?_;intro w0)
 repeat (refine s366_L8a ?_;intros)
 refine JO.pure rfl rfl rfl (JPure.lookM (s:=key) rfl rfl (by (first|exact List.mem_cons_self|exact List.mem_cons_of_mem _ List.mem_cons_self|exact List.mem_cons_of_mem _ (List.mem_cons_of_mem _ List.mem_cons_self))) hco.1 (.inl rfl) rfl (fun hno=>?_) (fun j q hj hq=>?_))
 ·repeat (refine s366_L8a ?_;intros)
  (first|refine JC.newRow 359 2 ?_|refine JO.newRow 359 2 ?_|refine JX.newRow 359 2 ?_)
  refine JC.loopF (σ:=Nat × Option Addr × Nat × List Value) [(0,_),(1,_),(2,_),(3,_),(30,_)] (fun q=>[(9,.slice q.2.1 ((fun k=>dmK s key k) q.1).length q.2.2.1),(31,((fun k=>.int .i64 k) q.1))]) (fun q=>[.row w0.heap.size 359 (Rp.sz rDom) (.slice q.2.1 ((fun k=>dmK s key k) q.1).length q.2.2.1) ((fun k=>dmK s key k) q.1).length (flatCells q.2.2.2),((fun k=>.blk mb (mapK Value.string l)) q.1)]) (fun Sk q=>q.1≤s.nodes.length∧allV rDom Sk q.2.2.2 ((fun k=>dmK s key k) q.1)∧((fun k=>True) q.1)) (fun q=>s.nodes.length - q.1) (0,none,0,[]) (by exact sba) (by exact sba) (by first|rfl|simp) (⟨Nat.zero_le _,trivial,trivial⟩) ?_;rintro Sk ⟨k,rak,rck,vsk⟩ hlk ⟨hk,hvk,hik⟩;(try dsimp only at hk hvk hik);dsimp only [List.cons_append,List.nil_append]
  have hfl:=dmK_len s key k
  repeat (refine s366_L8a ?_;intros)
  refine JC.cond rfl (fun hc=>?_) (fun hc=>?_)
  ·have hk':=dlt hc
   obtain ⟨x,hx,_⟩:=drop_at hk'
   have hst:=dmK_step (key:=key) hok hx
   have hvs:(domainP s k key).1.size≤big:=by rw [domainP_doms hok hx];exact hsz x (List.mem_of_getElem? hx)
   have hDV:∀ S,rDom.V S (.agg (flatCells [.string (domainP s k key).1,.bool (domainP s k key).2]).toArray) (domainP s k key):=fun S=>⟨_,⟨_,_,by simp [flatCells,Value.cells];rfl,⟨rfl,hvs⟩,rfl⟩,by rfl⟩
   repeat (refine s366_L8a ?_;intros)
   (refine JO.eff rfl rfl rfl (JEff.build (rep:=rDom) (ys:=[domainP s k key]) rfl rfl ⟨⟨(hDV _),nna⟩,trivial⟩ rfl rfl rfl rfl ?_);intro bb hbb hvv);(repeat (first|(refine Walk ?_;intros)|refine JC.block ?_));(refine JO.eff rfl rfl rfl (JEff.appendL (rep:=rDom) rfl rfl rfl rfl (List.Perm.swap _ _ _) (by exact hvv.flat) (by intro c hc;exact flat_one (fun v hv=>(hvv.size v hv).2) c hc) (by first|omega|(unfold big;omega)) (by unfold big;omega) (by first|exact rowT_ok|(intro l hl;cases hl)) rfl ?_);intro a2 c2;clear hvv hbb)
   repeat (refine s366_L8a ?_;intros)
   exact JX.roundF (k+1,a2,c2,vsk++[((.agg (flatCells [.string (domainP s k key).1,.bool (domainP s k key).2]).toArray))]) (by exact lea) ⟨by omega,by (try dsimp only);rw [hst];exact allV_add (by exact lea) hvk (hDV _) nna,(trivial)⟩ (by (try dsimp only);omega) (by (try dsimp only);rw [hst];(simp [flat_append]<;>omega)) (by (try dsimp only);rw [hst];simp only [List.length_append,List.length_cons,List.length_nil];exact sba) (by exact sba)
  ·have hk':=dnlt hc
   obtain rfl:k=s.nodes.length:=by omega
   rw [dmK_all] at hvk hfl
   rw [dmK_all]
   refine JC.freezeRow (rep:=rDom) (bt:=24) hvk rfl (by unfold big;omega) (by unfold big;omega) (fun S9 hl9 hV9=>?_)
   repeat (refine s366_L8a ?_;intros)
   refine JO.eff rfl rfl rfl (JEff.putK (kv:=Value.string) (s:=key) rfl rfl rfl (List.Perm.refl _) (by intro l hl;cases hl) (fun _=>?_) (fun j q hj hq=>absurd hq (hno q (List.mem_of_getElem? hj))))
   have hcoF:Cache s S9 (l++[(key,.slice rak (doms s key).length rck)]):=⟨hco.1.snoc hno,fun q hq=>by
    rcases List.mem_append.1 hq with h|h
    ·exact (hco.2 q h).mono (by exact lea)
    ·rw [List.mem_singleton] at h
     subst h
     exact hV9⟩
   repeat' (first|(refine s366_L8a ?_;intros)|(refine JO.guard rfl rfl rfl rfl ?_ ?_<;>intro _)|(refine JC.cond rfl ?_ ?_<;>intro _))
   all_goals
    refine JX.ret1 Tryz.results366 (ResV.tmp rfl) (List.Sublist.refl _) ?_
    refine ⟨?_,_,rfl,hcoF.mono (by exact lea)⟩
    simp only [near8,hxa,hxb]
    simp [*]
 ·obtain ⟨qk,qv⟩:=q
  dsimp only at hq
  subst hq
  have hV:=hco.2 _ (List.mem_of_getElem? hj)
  obtain ⟨a1,c1,hq2,_⟩:=V_slice.1 hV
  dsimp only at hq2
  subst hq2
  have hcoF:=hco
  repeat' (first|(refine s366_L8a ?_;intros)|(refine JO.guard rfl rfl rfl rfl ?_ ?_<;>intro _)|(refine JC.cond rfl ?_ ?_<;>intro _))
  all_goals
   refine JX.ret1 Tryz.results366 (ResV.tmp rfl) (List.Sublist.refl _) ?_
   refine ⟨?_,_,rfl,hcoF.mono (by exact lea)⟩
   simp only [near8,hxa,hxb]
   simp [*]
end Go.Dr
namespace Go.Dr
open Go.Proofs
set_option maxRecDepth 20000
set_option maxHeartbeats 2000000
set_option linter.unusedSimpArgs false
set_option linter.unusedVariables false
def thereB (p:List Int) (F:Nat→Bool) (j:Nat):Bool:=decide (0≤at0 p j)&&F j
theorem p8_many {S:SHeap} {kp:Addr} {s:Snap} {p:List Int} {us:List (List Int)} {mb:Nat} {l:List (ByteArray × Value)} {f:FuncId} {fs cs:Array Value} (F:Nat→Bool) (hE:Ent Tryz.prog f) (hp:p.length≤1000)
  (hL:PtrTo S kp rLook ⟨s,p,us,.map (some mb)⟩) (hco:Cache s S l)
  (hf:∀ (S':SHeap) (l':List (ByteArray × Value)) (j:Nat) (n:Int),S.le S'→Cache s S' l'→p[j]?=some n→0≤n→FnC Tryz.prog f (fs.toList++[Value.int .i64 j]++cs.toList).toArray S' Value.string mb (Cache s) l' (fun w _=>w=.bool (F j))) :
  FnC Tryz.prog 344 #[.pointer (some kp),.func (.func f) fs cs] S Value.string mb (Cache s) l (fun w _=>w=.int .i64 (cntI p.length (thereB p F))):=by
 (refine Fn.enter (args:=[.pointer (some kp),.func (.func f) fs cs]) Tryz.func344 rfl Tryz.ntmps344 rfl ?_;intro w0)
 repeat (first|(refine Walk ?_;intros)|refine JC.block ?_)
 refine JC.loopF (σ:=Nat × List (ByteArray × Value)) [(1,_),(10,_),(11,_)] (fun q=>[(4,.int .i64 (cntI q.1 (thereB p F))),(12,.int .i64 q.1)]) (fun q=>[.blk mb (mapK Value.string q.2)]) (fun Sk q=>q.1≤p.length∧Cache s Sk q.2) (fun q=>p.length - q.1) ((0,l)) (by exact sba) (by exact sba) rfl (⟨Nat.zero_le _,hco⟩) ?_;rintro Sk ⟨k,l1⟩ hlk hik;(try dsimp only at hik);dsimp only [List.cons_append,List.nil_append]
 obtain ⟨hk,hco1⟩:=hik
 have hrg:=cntI_rng k (thereB p F)
 repeat (first|(refine Walk ?_;intros)|refine JC.block ?_)
 refine JC.cond rfl (fun hc=>?_) (fun hc=>?_)
 ·have hk':=dlt hc
  obtain ⟨n,hn,_⟩:=drop_at hk'
  have hst:=cntI_step k (thereB p F)
  have hG:thereB p F k=(decide (0≤n)&&F k):=by simp [thereB,at0_some hn]
  rw [hG] at hst
  repeat (first|(refine Walk ?_;intros)|refine JC.block ?_)
  refine JO.guard rfl rfl rfl rfl (fun h1=>?_) (fun h1=>?_)
  ·have h1':0≤n:=by simpa using h1
   repeat (first|(refine Walk ?_;intros)|refine JC.block ?_)
   refine JO.eff rfl rfl rfl (JEff.dynC (kv:=Value.string) rfl hE rfl (List.Perm.refl _) (by intro l hl;cases hl) (hf _ _ k n (by exact lea) hco1 hn h1') rfl ?_);intro w S2 l2 hl2 hw hco2;subst hw
   repeat (first|(refine Walk ?_;intros)|refine JC.block ?_)
   refine JC.cond rfl (fun h2=>?_) (fun h2=>?_)
   ·have hst1:cntI (k+1) (thereB p F)=cntI k (thereB p F)+1:=by rw [hst];simp [h1',h2]
    repeat (first|(refine Walk ?_;intros)|refine JC.block ?_)
    exact JX.roundF ((k+1,l2)) (by exact lea) (⟨by omega,hco2⟩) (by (try dsimp only);omega) rfl (by (try dsimp only);rw [hst1];exact sba) (by exact sba)
   ·have hst1:cntI (k+1) (thereB p F)=cntI k (thereB p F):=by rw [hst];simp [h2]
    repeat (first|(refine Walk ?_;intros)|refine JC.block ?_)
    exact JX.roundF ((k+1,l2)) (by exact lea) (⟨by omega,hco2⟩) (by (try dsimp only);omega) rfl (by (try dsimp only);rw [hst1];exact sba) (by exact sba)
  ·have h1':¬ 0≤n:=by simpa using h1
   have hst1:cntI (k+1) (thereB p F)=cntI k (thereB p F):=by rw [hst];simp [h1']
   repeat (first|(refine Walk ?_;intros)|refine JC.block ?_)
   exact JX.roundF ((k+1,l1)) (by exact lea) (⟨by omega,hco1⟩) (by (try dsimp only);omega) rfl (by (try dsimp only);rw [hst1];exact sba) (by exact sba)
 ·have hk':=dnlt hc
  obtain rfl:k=p.length:=by omega
  repeat (first|(refine Walk ?_;intros)|refine JC.block ?_)
  refine JX.ret1 Tryz.results344 (ResV.tmp rfl) (List.Sublist.refl _) ?_
  exact ⟨rfl,_,rfl,hco1⟩
def aroundF (s:Snap) (p:List Int) (i:Nat) (x:Near) (self:Bool) (j:Nat):Bool:=
 match p[j]?,s.pods[j]?,p[i]? with
 | some n,some q,some m=>(self||!decide (j=i))&&near8 s n.toNat m.toNat x.topo&&holdsB x.terms q.labels
 | _,_,_=>false
theorem around_about {s:Snap} {p:List Int} {i:Nat} {x:Near} {self:Bool} (hlen:p.length=s.pods.length):cntI p.length (thereB p (aroundF s p i x self))=about8 s p i x (!self):=by
 unfold about8
 refine cntI_congr fun j hj=>?_
 obtain ⟨n,hn⟩:∃ n,p[j]?=some n:=⟨_,List.getElem?_eq_getElem hj⟩
 unfold thereB aroundF aboutF
 rw [at0_some hn,hn]
 cases s.pods[j]?<;>cases p[i]?<;>simp
 cases self<;>cases decide (j=i)<;>simp [Bool.and_assoc]
theorem s365_L8b {P K:Prop} (k:K) (h:Goal K→P:=by
 intro zk
 (first|refine Walk ?_|refine JC.block ?_|refine JC.drawN 1 rfl [0,1,2,3,4,5,6,7,8,9,10,11,12,13,14,15,16,17,18,19,20,21,22,23,24,25,26,27,28,29,30,31,32,33,34,35,36,37,38,39,40] [0,1,2,3,4,5,6,7,8,9,10,11,12,13,14,15,16,17,18,19,20,21,22,23,25,26,27,28,29,30,31,32,33,34,35,36,37,39,40] Tryz_mixed (by decide +kernel) ?_|(refine JO.eff rfl rfl rfl (JEff.callV rfl (p3_Holds (by exact vta) (by exact vta)) rfl ?_);intro zqa zqb))
 (repeat (first|revert zqg|revert zqf|revert zqe|revert zqd|revert zqc|revert zqb|revert zqa))
 exact zk.k):P:=h ⟨k⟩
theorem p8_around1 {S:SHeap} {kp:Addr} {s:Snap} {p:List Int} {us:List (List Int)} {mb:Nat} {l:List (ByteArray × Value)} {qs qi qk qx:Addr} {self:Bool} {i:Nat} {x:Near} {j:Nat} {n m:Int} (hok:checkP s p=0)
  (hL:PtrTo S kp rLook ⟨s,p,us,.map (some mb)⟩) (hco:Cache s S l) (h1:PtrTo S qs rBool self) (h2:PtrTo S qi rI64 (i:Int)) (h3:PtrTo S qk rVal (.pointer (some kp))) (h4:PtrTo S qx rNear x)
  (hj:p[j]?=some n) (hn:0≤n) (hi:p[i]?=some m) (hm:0≤m) :
  FnC Tryz.prog 365 #[.int .i64 j,.pointer (some qs),.pointer (some qi),.pointer (some qk),.pointer (some qx)] S Value.string mb (Cache s) l (fun w _=>w=.bool (aroundF s p i x self j)):=by
 obtain ⟨hs,hlen,hp24,hn8,ho8,hpr,hprn⟩:=placed_hyps hok
 have hj':=(List.getElem?_eq_some_iff.1 hj).1
 have hi':=(List.getElem?_eq_some_iff.1 hi).1
 obtain ⟨q,hq⟩:∃ q,s.pods[j]?=some q:=⟨_,List.getElem?_eq_getElem (by omega)⟩
 have hnr:=hpr n (List.mem_of_getElem? hj)
 have hmr:=hpr m (List.mem_of_getElem? hi)
 obtain ⟨n,rfl⟩:=Int.eq_ofNat_of_zero_le hn
 obtain ⟨m,rfl⟩:=Int.eq_ofNat_of_zero_le hm
 have haf:aroundF s p i x self j=((self||!decide (j=i))&&near8 s n m x.topo&&holdsB x.terms q.labels):=by simp [aroundF,hj,hq,hi]
 have hij:decide ((j:Int)=(i:Int))=decide (j=i):=by rw [Bool.eq_iff_iff];simp;omega
 have hjr:Rng (j:Int):=by unfold Rng;omega
 (refine Fn.enter (args:=[.int .i64 j,.pointer (some qs),.pointer (some qi),.pointer (some qk),.pointer (some qx)]) Tryz.func365 rfl Tryz.ntmps365 rfl ?_;intro w0)
 cases self with
 | true=>
  repeat (refine s365_L8b ?_;intros)
  refine JO.eff rfl rfl rfl (JEff.callC (kv:=Value.string) rfl (List.Perm.refl _) (by intro l hl;cases hl) (p8_near n m x.topo (by assumption) hs (by omega) (by omega) (by exact pta) (hco.mono (by exact lea))) rfl ?_);intro w S2 l2 hl2 hw hco2;subst hw
  repeat' (first|(refine s365_L8b ?_;intros)|(refine JO.guard rfl rfl rfl rfl ?_ ?_<;>intro _)|(refine JC.cond rfl ?_ ?_<;>intro _))
  all_goals
   refine JX.ret1 Tryz.results365 (ResV.tmp rfl) (List.Sublist.refl _) ?_
   refine ⟨?_,_,rfl,by first|assumption|(exact Cache.mono (by assumption) (by exact lea))⟩
   rw [haf]
   simp_all
 | false=>
  repeat (refine s365_L8b ?_;intros)
  refine JO.guard rfl rfl rfl rfl (fun g1=>?_) (fun g1=>?_)
  ·repeat (refine s365_L8b ?_;intros)
   refine JO.eff rfl rfl rfl (JEff.callC (kv:=Value.string) rfl (List.Perm.refl _) (by intro l hl;cases hl) (p8_near n m x.topo (by assumption) hs (by omega) (by omega) (by exact pta) (hco.mono (by exact lea))) rfl ?_);intro w S2 l2 hl2 hw hco2;subst hw
   repeat' (first|(refine s365_L8b ?_;intros)|(refine JO.guard rfl rfl rfl rfl ?_ ?_<;>intro _)|(refine JC.cond rfl ?_ ?_<;>intro _))
   all_goals
    refine JX.ret1 Tryz.results365 (ResV.tmp rfl) (List.Sublist.refl _) ?_
    refine ⟨?_,_,rfl,by first|assumption|(exact Cache.mono (by assumption) (by exact lea))⟩
    rw [haf]
    simp_all
  ·repeat' (first|(refine s365_L8b ?_;intros)|(refine JO.guard rfl rfl rfl rfl ?_ ?_<;>intro _)|(refine JC.cond rfl ?_ ?_<;>intro _))
   all_goals
    refine JX.ret1 Tryz.results365 (ResV.tmp rfl) (List.Sublist.refl _) ?_
    refine ⟨?_,_,rfl,by first|assumption|(exact Cache.mono (by assumption) (by exact lea))⟩
    rw [haf]
    simp_all
end Go.Dr
namespace Go.Dr
open Go.Proofs
set_option maxRecDepth 20000
set_option maxHeartbeats 1000000
set_option linter.unusedSimpArgs false
set_option linter.unusedVariables false
end Go.Dr
namespace Go.Dr
open Go.Proofs
set_option maxRecDepth 20000
set_option maxHeartbeats 2000000
set_option linter.unusedSimpArgs false
set_option linter.unusedVariables false
theorem of8_rng {s:Snap} {p:List Int} (hp:p.length≤1000) (hw:∀ x∈s.pods,x.wher.length≤1000) (ht:∀ x∈s.nodes,x.taints.length≤1000) (kind:Int) (i:Nat):0≤(of8 s p kind i).1∧(of8 s p kind i).1≤1000:=by
 unfold of8
 cases hm:p[i]? with
 | none=>simp
 | some m=>
  cases hx:s.pods[i]? with
  | none=>simp
  | some x=>
   dsimp only
   split
   ·simp
   ·cases hn:s.nodes[m.toNat]? with
    | none=>simp
    | some n=>
     dsimp only
     have h1:=hw x (List.mem_of_getElem? hx)
     have h2:=ht n (List.mem_of_getElem? hn)
     have h3:=List.length_filter_le (fun t=>!holdsB [t] n.labels) x.wher
     have h4:=List.length_filter_le (fun t=>!bearsB x.bears [t]) n.taints
     have h5:=cntI_rng p.length (aboutF s p i x.with_ false)
     have h6:=cntI_rng p.length (aboutF s p i x.apart true)
     have h7:=cntI_rng p.length (doubleF s p i)
     unfold termsN taintsN about8 double8
     repeat' split
     all_goals dsimp only
     all_goals omega
theorem shaped_lists {s:Snap} (h:shapedB s=true):(∀ x∈s.pods,x.wher.length≤1000)∧(∀ x∈s.nodes,x.taints.length≤1000):=by
 unfold shapedB at h
 simp only [Bool.and_eq_true,List.all_eq_true] at h
 refine ⟨fun x hx=>?_,fun x hx=>?_⟩
 ·have h1:=h.2.1.2 x hx
  unfold podB at h1
  simp only [Bool.and_eq_true] at h1
  have h2:=h1.1.1.2.1.2
  unfold z0 checkT at h2
  split at h2
  ·rename_i h3
   simp only [Bool.and_eq_true,decide_eq_true_eq] at h3
   omega
  ·simp at h2
 ·have h1:=h.2.1.1 x hx
  unfold nodeB at h1
  simp only [Bool.and_eq_true] at h1
  have h2:=h1.2
  unfold z0 checkL at h2
  split at h2
  ·rename_i h3
   simp only [Bool.and_eq_true,decide_eq_true_eq] at h3
   omega
  ·simp at h2
theorem skewV_rng {s:Snap} {p:List Int} {o:Nat} (h:p.length≤1000) (hlen:p.length=s.pods.length) (hn:s.nodes.length≤1000) (hs:0≤skewOf s o):0≤skewV s p o∧skewV s p o≤1000000:=by
 unfold skewV
 have hr:=spread_rng (o:=o) h hlen hn
 generalize spreadL s p o=L at *
 cases L with
 | nil=>simp
 | cons x L=>
  have r1:=fold_rng min_or (lo:=0) (hi:=1000000) (l:=L) (z:=x) (hr x (by simp)).1 (hr x (by simp)).2 (fun y hy=>hr y (by simp [hy]))
  have r2:=fold_rng max_or (lo:=0) (hi:=1000000) (l:=L) (z:=x) (hr x (by simp)).1 (hr x (by simp)).2 (fun y hy=>hr y (by simp [hy]))
  simp only [minL,maxL]
  split<;>omega
theorem placed_rng {s:Snap} {p:List Int} {o:Nat} (hlen:p.length=s.pods.length):0≤placedN s p o∧placedN s p o≤p.length:=by
 have:(ownedL s p o).length≤p.length:=by rw [← ownedK_all hlen];exact ownedK_len _ _ _ _
 unfold placedN;omega
end Go.Dr
namespace Go.Dr
open Go.Proofs
set_option maxRecDepth 20000
set_option maxHeartbeats 2000000
set_option linter.unusedSimpArgs false
set_option linter.unusedVariables false
theorem p8_around {S:SHeap} {kp:Addr} {s:Snap} {p:List Int} {us:List (List Int)} {mb:Nat} {l:List (ByteArray × Value)} {xv:Value} {i:Nat} {x:Near} {m:Int} (self:Bool) (hok:checkP s p=0)
  (hL:PtrTo S kp rLook ⟨s,p,us,.map (some mb)⟩) (hco:Cache s S l) (hx:rNear.V S xv x) (hi:p[i]?=some m) (hm:0≤m) :
  FnC Tryz.prog 340 #[.pointer (some kp),.int .i64 i,xv,.bool self] S Value.string mb (Cache s) l (fun w _=>w=.int .i64 (about8 s p i x (!self))):=by
 obtain ⟨hs,hlen,hp24,hn8,ho8,hpr,hprn⟩:=placed_hyps hok
 have hi':=(List.getElem?_eq_some_iff.1 hi).1
 have hir:Rng (i:Int):=by unfold Rng;omega
 (refine Fn.enter (args:=[.pointer (some kp),.int .i64 i,xv,.bool self]) Tryz.func340 rfl Tryz.ntmps340 rfl ?_;intro w0)
 repeat (first|(refine Walk ?_;intros)|refine JC.block ?_|(refine WBox ?_;intros))
 refine JO.eff rfl rfl rfl (JEff.callC (kv:=Value.string) rfl (List.Perm.refl _) (by intro l hl;cases hl) (p8_many (aroundF s p i x self) inferInstance (by omega) (by exact pta) (hco.mono (by exact lea)) (fun S' l' j n hl hc hj hn=>p8_around1 hok (by exact pta) hc (by exact pta) (by exact pta) (by exact pta) (by exact pta) hj hn hi hm)) rfl ?_);intro w S2 l2 hl2 hw hco2;subst hw
 rw [around_about hlen]
 repeat (first|(refine Walk ?_;intros)|refine JC.block ?_|(refine WBox ?_;intros))
 refine JX.ret1 Tryz.results340 (ResV.tmp rfl) (List.Sublist.refl _) ?_
 exact ⟨rfl,_,rfl,hco2⟩
theorem p8_single1 {S:SHeap} {u:Value} {o:Owner} {q:Addr} {name:ByteArray} (hu:rOwner.V S u o) (hq:PtrTo S q rStr name):FnV Tryz.prog 367 #[u,.pointer (some q)] S (.bool (decide (o.name=name))):=by
 (refine Fn.enter (args:=[u,.pointer (some q)]) Tryz.func367 rfl Tryz.ntmps367 rfl ?_;intro w0)
 repeat (first|(refine Walk ?_;intros)|refine JC.block ?_|(refine WBox ?_;intros))
 (refine JX.ret1 Tryz.results367 (ResV.tmp rfl) (List.nil_sublist _) ?_)
 exact ⟨rfl,rfl⟩
theorem idx_find {α:Type} {f:α→Bool} {xs:List α}:(∃ (i:Nat) (x:α),idxF f xs=i∧xs[i]?=some x∧xs.find? f=some x)∨(idxF f xs=-1∧xs.find? f=none):=by
 unfold idxF
 cases h:xs.findIdx? f with
 | none=>
  right
  refine ⟨rfl,?_⟩
  rw [List.find?_eq_none]
  intro x hx
  have:=List.findIdx?_eq_none_iff.1 h x hx
  simpa using this
 | some i=>
  left
  obtain ⟨hi,h1,h2⟩:=List.findIdx?_eq_some_iff_getElem.1 h
  refine ⟨i,xs[i],rfl,List.getElem?_eq_getElem hi,?_⟩
  rw [List.find?_eq_some_iff_getElem]
  exact ⟨h1,i,hi,rfl,fun j hj=>by simpa using h2 j hj⟩
theorem p8_single {S:SHeap} {kp:Addr} {s:Snap} {p:List Int} {us:List (List Int)} {d:Value} (name:ByteArray) (hn:name.size≤big) (hL:PtrTo S kp rLook ⟨s,p,us,d⟩):FnV Tryz.prog 343 #[.pointer (some kp),.string name] S (.bool (single8 s name)):=by
 (refine Fn.enter (args:=[.pointer (some kp),.string name]) Tryz.func343 rfl Tryz.ntmps343 rfl ?_;intro w0)
 repeat (first|(refine Walk ?_;intros)|refine JC.block ?_|(refine WBox ?_;intros))
 (refine JO.eff rfl rfl rfl (JEff.callV rfl (p_IndexFunc_Owner (fun o=>decide (o.name=name)) (by exact vta) inferInstance (fun S' hl u x hx=>p8_single1 hx (by exact pta))) rfl ?_);intro _ _)
 rcases idx_find (f:=fun o:Owner=>decide (o.name=name)) (xs:=s.owners) with ⟨i,o,h1,h2,h3⟩|⟨h1,h3⟩
 ·rw [h1]
  repeat' (first|(refine Walk ?_;intros)|refine JC.block ?_|(refine WBox ?_;intros)|(refine JO.guard rfl rfl rfl rfl ?_ ?_<;>intro _)|(refine JC.cond rfl ?_ ?_<;>intro _))
  all_goals first
   | ((refine JX.ret1 Tryz.results343 (ResV.tmp rfl) (List.nil_sublist _) ?_);exact ⟨rfl,by simp [single8,h3, *]⟩)
   | (exfalso;first|(simp only [decide_eq_true_eq,decide_eq_false_iff_not,Bool.not_eq_true',Bool.not_eq_false',Bool.and_eq_true,Bool.or_eq_true,Bool.and_eq_false_iff,Bool.or_eq_false_iff] at *;omega)|(simp_all;done)|(simp_all;omega))
 ·rw [h1]
  repeat' (first|(refine Walk ?_;intros)|refine JC.block ?_|(refine WBox ?_;intros)|(refine JO.guard rfl rfl rfl rfl ?_ ?_<;>intro _)|(refine JC.cond rfl ?_ ?_<;>intro _))
  all_goals first
   | ((refine JX.ret1 Tryz.results343 (ResV.tmp rfl) (List.nil_sublist _) ?_);exact ⟨rfl,by simp [single8,h3]⟩)
   | (exfalso;first|(simp only [decide_eq_true_eq,decide_eq_false_iff_not,Bool.not_eq_true',Bool.not_eq_false',Bool.and_eq_true,Bool.or_eq_true,Bool.and_eq_false_iff,Bool.or_eq_false_iff] at *;omega)|(simp_all;done)|(simp_all;omega))
theorem p8_withoutT {S:SHeap} {u:Value} {l:List Term} {f:FuncId} {fs cs:Array Value} (F:Term→Bool) (hu:(rSlice 40 rTerm).V S u l) (hE:Ent Tryz.prog f)
  (hf:∀ (S':SHeap) (v:Value) (x:Term),S.le S'→(rSlice 40 rTerm).V S' v [x]→FnV Tryz.prog f (fs.toList++[v]++cs.toList).toArray S' (.bool (F x))):FnV Tryz.prog 332 #[u,.func (.func f) fs cs] S (.int .i64 ((l.filter (fun t=>!F t)).length:Int)):=by
 obtain ⟨a,c,rfl,_,_,hb,_⟩:=V_slice.1 hu
 unfold big at hb
 (refine Fn.enter (args:=[.slice a l.length c,.func (.func f) fs cs]) Tryz.func332 rfl Tryz.ntmps332 rfl ?_;intro w0)
 repeat (first|(refine Walk ?_;intros)|refine JC.block ?_)
 refine JC.loopF0 [(0,_),(1,_),(7,_)] (fun (k:Nat)=>[(4,.int .i64 (((l.take k).filter (fun t=>!F t)).length:Int)),(8,.int .i64 k)]) (fun Sk k=>k≤l.length∧(True)) (fun k=>l.length - k) 0 (by exact sba) (by exact sba) ⟨Nat.zero_le _,trivial⟩ ?_;intro Sk k hlk hik;obtain ⟨hk,hik⟩:=hik;(try dsimp only at hk hik);dsimp only [List.cons_append,List.nil_append]
 repeat (first|(refine Walk ?_;intros)|refine JC.block ?_)
 refine JC.cond rfl (fun hc=>?_) (fun hc=>?_)
 ·have hk':=dlt hc
  obtain ⟨x,hx,hd⟩:=drop_at hk'
  have hst:=filt_take (f:=fun t=>!F t) hx
  have hle:=filt_le l (fun t=>!F t) k
  repeat (first|(refine Walk ?_;intros)|refine JC.block ?_)
  refine JO.pure rfl rfl rfl (JPure.sliceS (xs:=l) (rep:=rTerm) (bt:=40) rfl (by exact vta) rfl rfl rfl (by omega) (by omega) (by omega) ?_);intro a1 c1 ys hys hV hyl hyb
  rw [cut1 hx] at hys
  subst hys
  repeat (first|(refine Walk ?_;intros)|refine JC.block ?_)
  (refine JO.eff rfl rfl rfl (JEff.dynV rfl (by assumption) rfl (hf _ _ x (by exact lea) (by exact vta)) rfl ?_);intro _ _)
  repeat (first|(refine Walk ?_;intros)|refine JC.block ?_)
  refine JC.cond rfl (fun h1=>?_) (fun h1=>?_)
  ·rw [h1,if_pos rfl] at hst
   repeat (first|(refine Walk ?_;intros)|refine JC.block ?_)
   (refine JX.roundF (k+1) (by exact lea) ⟨by omega,(trivial)⟩ (by (try dsimp only);omega) rfl ?_ (by exact sba);(try dsimp only);rw [hst];exact sba;done)
  ·rw [h1,if_neg (by simp),Int.add_zero] at hst
   repeat (first|(refine Walk ?_;intros)|refine JC.block ?_)
   (refine JX.roundF (k+1) (by exact lea) ⟨by omega,(trivial)⟩ (by (try dsimp only);omega) rfl ?_ (by exact sba);(try dsimp only);rw [hst];exact sba;done)
 ·have hk':=dnlt hc
  rw [List.take_of_length_le hk']
  repeat (first|(refine Walk ?_;intros)|refine JC.block ?_)
  (refine JX.ret1 Tryz.results332 (ResV.tmp rfl) (List.nil_sublist _) ?_)
  exact ⟨rfl,rfl⟩
theorem p8_withoutL {S:SHeap} {u:Value} {l:List Label} {f:FuncId} {fs cs:Array Value} (F:Label→Bool) (hu:(rSlice 32 rLabel).V S u l) (hE:Ent Tryz.prog f)
  (hf:∀ (S':SHeap) (v:Value) (x:Label),S.le S'→(rSlice 32 rLabel).V S' v [x]→FnV Tryz.prog f (fs.toList++[v]++cs.toList).toArray S' (.bool (F x))):FnV Tryz.prog 336 #[u,.func (.func f) fs cs] S (.int .i64 ((l.filter (fun t=>!F t)).length:Int)):=by
 obtain ⟨a,c,rfl,_,_,hb,_⟩:=V_slice.1 hu
 unfold big at hb
 (refine Fn.enter (args:=[.slice a l.length c,.func (.func f) fs cs]) Tryz.func336 rfl Tryz.ntmps336 rfl ?_;intro w0)
 repeat (first|(refine Walk ?_;intros)|refine JC.block ?_)
 refine JC.loopF0 [(0,_),(1,_),(7,_)] (fun (k:Nat)=>[(4,.int .i64 (((l.take k).filter (fun t=>!F t)).length:Int)),(8,.int .i64 k)]) (fun Sk k=>k≤l.length∧(True)) (fun k=>l.length - k) 0 (by exact sba) (by exact sba) ⟨Nat.zero_le _,trivial⟩ ?_;intro Sk k hlk hik;obtain ⟨hk,hik⟩:=hik;(try dsimp only at hk hik);dsimp only [List.cons_append,List.nil_append]
 repeat (first|(refine Walk ?_;intros)|refine JC.block ?_)
 refine JC.cond rfl (fun hc=>?_) (fun hc=>?_)
 ·have hk':=dlt hc
  obtain ⟨x,hx,hd⟩:=drop_at hk'
  have hst:=filt_take (f:=fun t=>!F t) hx
  have hle:=filt_le l (fun t=>!F t) k
  repeat (first|(refine Walk ?_;intros)|refine JC.block ?_)
  refine JO.pure rfl rfl rfl (JPure.sliceS (xs:=l) (rep:=rLabel) (bt:=32) rfl (by exact vta) rfl rfl rfl (by omega) (by omega) (by omega) ?_);intro a1 c1 ys hys hV hyl hyb
  rw [cut1 hx] at hys
  subst hys
  repeat (first|(refine Walk ?_;intros)|refine JC.block ?_)
  (refine JO.eff rfl rfl rfl (JEff.dynV rfl (by assumption) rfl (hf _ _ x (by exact lea) (by exact vta)) rfl ?_);intro _ _)
  repeat (first|(refine Walk ?_;intros)|refine JC.block ?_)
  refine JC.cond rfl (fun h1=>?_) (fun h1=>?_)
  ·rw [h1,if_pos rfl] at hst
   repeat (first|(refine Walk ?_;intros)|refine JC.block ?_)
   (refine JX.roundF (k+1) (by exact lea) ⟨by omega,(trivial)⟩ (by (try dsimp only);omega) rfl ?_ (by exact sba);(try dsimp only);rw [hst];exact sba;done)
  ·rw [h1,if_neg (by simp),Int.add_zero] at hst
   repeat (first|(refine Walk ?_;intros)|refine JC.block ?_)
   (refine JX.roundF (k+1) (by exact lea) ⟨by omega,(trivial)⟩ (by (try dsimp only);omega) rfl ?_ (by exact sba);(try dsimp only);rw [hst];exact sba;done)
 ·have hk':=dnlt hc
  rw [List.take_of_length_le hk']
  repeat (first|(refine Walk ?_;intros)|refine JC.block ?_)
  (refine JX.ret1 Tryz.results336 (ResV.tmp rfl) (List.nil_sublist _) ?_)
  exact ⟨rfl,rfl⟩
end Go.Dr
namespace Go.Dr
open Go.Proofs
set_option maxRecDepth 20000
set_option maxHeartbeats 2000000
set_option linter.unusedSimpArgs false
set_option linter.unusedVariables false
structure PodAt (s:Snap) (p:List Int) (i m:Nat) (x:Pod) (n:Node):Prop where
 ok:checkP s p=0
 hm:p[i]?=some (m:Int)
 hx:s.pods[i]?=some x
 hn:s.nodes[m]?=some n
theorem of8_at {s:Snap} {p:List Int} {i m:Nat} {x:Pod} {n:Node} (h:PodAt s p i m x n) (kind:Int):of8 s p kind i =
   if kind=2 then (termsN x.wher n.labels,true)
   else if kind=3 then (taintsN n.taints x.bears,true)
   else if kind=4 then (if x.with_.topo=noS then (0,false) else (max 0 (1 - about8 s p i x.with_ false),true))
   else if kind=5 then (if x.apart.topo=noS then (0,false) else (about8 s p i x.apart true,true))
   else if x.owner=noS then (0,false) else if !single8 s x.owner then (0,false) else (double8 s p i,true):=by
 unfold of8
 rw [h.hm,h.hx]
 have e:((m:Int)).toNat=m:=by omega
 have e2:¬ (m:Int) < 0:=by omega
 simp only [e,h.hn,if_neg e2]
def KindAns (f:FuncId) (kind:Int):Prop:=
 ∀ {S:SHeap} {kp:Addr} {s:Snap} {p:List Int} {us:List (List Int)} {mb:Nat} {l:List (ByteArray × Value)} {i m:Nat} {x:Pod} {n:Node},PodAt s p i m x n →
  PtrTo S kp rLook ⟨s,p,us,.map (some mb)⟩→Cache s S l→FnC Tryz.prog f #[.pointer (some kp),.int .i64 i] S Value.string mb (Cache s) l (fun w _=>w=.tuple #[.int .i64 (of8 s p kind i).1,.bool (of8 s p kind i).2])
theorem p8_kinds11 {S:SHeap} {u:Value} {t:Term} {ls:List Label} {q:Addr} (hu:(rSlice 40 rTerm).V S u [t]) (hq:PtrTo S q (rSlice 32 rLabel) ls):FnV Tryz.prog 333 #[u,.pointer (some q)] S (.bool (holdsB [t] ls)):=by
 (refine Fn.enter (args:=[u,.pointer (some q)]) Tryz.func333 rfl Tryz.ntmps333 rfl ?_;intro w0)
 repeat (first|(refine Walk ?_;intros)|refine JC.block ?_|(refine JO.eff rfl rfl rfl (JEff.callV rfl (p3_Holds (by exact vta) (by exact vta)) rfl ?_);intro _ _))
 (refine JX.ret1 Tryz.results333 (ResV.tmp rfl) (List.nil_sublist _) ?_)
 exact ⟨rfl,rfl⟩
theorem p8_kinds21 {S:SHeap} {u:Value} {t:Label} {ls:List Label} {q:Addr} (hu:(rSlice 32 rLabel).V S u [t]) (hq:PtrTo S q (rSlice 32 rLabel) ls):FnV Tryz.prog 337 #[u,.pointer (some q)] S (.bool (bearsB ls [t])):=by
 (refine Fn.enter (args:=[u,.pointer (some q)]) Tryz.func337 rfl Tryz.ntmps337 rfl ?_;intro w0)
 repeat (first|(refine Walk ?_;intros)|refine JC.block ?_|(refine JO.eff rfl rfl rfl (JEff.callV rfl (p3_Bears (by exact vta) (by exact vta)) rfl ?_);intro _ _))
 (refine JX.ret1 Tryz.results337 (ResV.tmp rfl) (List.nil_sublist _) ?_)
 exact ⟨rfl,rfl⟩
theorem s331_L8d {P K:Prop} (k:K) (h:Goal K→P:=by
 intro zk
 (first|refine Walk ?_|refine JC.block ?_|refine JC.drawN 1 rfl [0,1,2,3,4,5,6,7,8,9,10,11,12,13,14,15,16] [] Tryz_mixed (by decide +kernel) ?_|(refine WNew ?_)|(refine WPut ?_))
 (repeat (first|revert zqg|revert zqf|revert zqe|revert zqd|revert zqc|revert zqb|revert zqa))
 exact zk.k):P:=h ⟨k⟩
theorem p8_kinds1:KindAns 331 2:=by
 intro S kp s p us mb l i m x n h hL hco
 rw [of8_at h]
 have hm:=h.hm
 have hx:=h.hx
 have hn:=h.hn
 refine FnR.toC ?_ (fun S' hl=>hco.mono hl)
 (refine Fn.enter (args:=[.pointer (some kp),.int .i64 i]) Tryz.func331 rfl Tryz.ntmps331 rfl ?_;intro w0)
 repeat (refine s331_L8d ?_;intros)
 (refine JO.eff rfl rfl rfl (JEff.callV rfl (p8_withoutT (fun t=>holdsB [t] n.labels) (by exact vta) inferInstance (fun S' v t hl hv=>p8_kinds11 hv (by exact pta))) rfl ?_);intro _ _)
 repeat (refine s331_L8d ?_;intros)
 (refine JX.ret2 Tryz.results331 (ResV.tmp rfl) (ResV.tmp rfl) (List.nil_sublist _) ?_)
 exact ⟨rfl,rfl⟩
theorem s335_L8d {P K:Prop} (k:K) (h:Goal K→P:=by
 intro zk
 (first|refine Walk ?_|refine JC.block ?_|refine JC.drawN 2 rfl [0,1,2,3,4,5,6,7,8,9,10,11,12,13,14,15,16,17,18] [0,1,2,3,4,5,6,7,8,9,10,11,12,13,14,15,17,18] Tryz_mixed (by decide +kernel) ?_|(refine WNew ?_)|(refine WPut ?_))
 (repeat (first|revert zqg|revert zqf|revert zqe|revert zqd|revert zqc|revert zqb|revert zqa))
 exact zk.k):P:=h ⟨k⟩
theorem p8_kinds2:KindAns 335 3:=by
 intro S kp s p us mb l i m x n h hL hco
 rw [of8_at h]
 have hm:=h.hm
 have hx:=h.hx
 have hn:=h.hn
 refine FnR.toC ?_ (fun S' hl=>hco.mono hl)
 (refine Fn.enter (args:=[.pointer (some kp),.int .i64 i]) Tryz.func335 rfl Tryz.ntmps335 rfl ?_;intro w0)
 repeat (refine s335_L8d ?_;intros)
 (refine JO.eff rfl rfl rfl (JEff.callV rfl (p8_withoutL (fun t=>bearsB x.bears [t]) (by exact vta) inferInstance (fun S' v t hl hv=>p8_kinds21 hv (by exact pta))) rfl ?_);intro _ _)
 repeat (refine s335_L8d ?_;intros)
 (refine JX.ret2 Tryz.results335 (ResV.tmp rfl) (ResV.tmp rfl) (List.nil_sublist _) ?_)
 exact ⟨rfl,rfl⟩
theorem p8_kinds3:KindAns 339 4:=by
 intro S kp s p us mb l i m x n h hL hco
 rw [of8_at h]
 have hm:=h.hm
 have hx:=h.hx
 obtain ⟨hs,hlen,hp24,hn8,ho8,hpr,hprn⟩:=placed_hyps h.ok
 have hab:=cntI_rng p.length (aboutF s p i x.with_ false)
 (refine Fn.enter (args:=[.pointer (some kp),.int .i64 i]) Tryz.func339 rfl Tryz.ntmps339 rfl ?_;intro w0)
 repeat (first|(refine Walk ?_;intros)|refine JC.block ?_|(refine WNew ?_;intros)|(refine WPut ?_;intros))
 refine JC.cond rfl (fun h1=>?_) (fun h1=>?_)
 ·have h1:x.with_.topo=noS:=by simpa [noS] using h1
  repeat (first|(refine Walk ?_;intros)|refine JC.block ?_|(refine WNew ?_;intros)|(refine WPut ?_;intros))
  refine JX.ret2 Tryz.results339 (ResV.tmp rfl) (ResV.tmp rfl) (List.Sublist.refl _) ?_
  exact ⟨by simp [h1],_,rfl,hco.mono (by exact lea)⟩
 ·have h1:¬ x.with_.topo=noS:=by simpa [noS] using h1
  repeat (first|(refine Walk ?_;intros)|refine JC.block ?_|(refine WNew ?_;intros)|(refine WPut ?_;intros))
  refine JO.eff rfl rfl rfl (JEff.callC (kv:=Value.string) rfl (List.Perm.refl _) (by intro l hl;cases hl) (p8_around true h.ok (by exact pta) (hco.mono (by exact lea)) (by exact vta) hm (by omega)) rfl ?_);intro w S2 l2 hl2 hw hco2;subst hw
  have e:about8 s p i x.with_ (!true)=about8 s p i x.with_ false:=rfl
  have hab2:0≤about8 s p i x.with_ (!true)∧about8 s p i x.with_ (!true)≤p.length:=hab
  repeat (first|(refine Walk ?_;intros)|refine JC.block ?_|(refine WNew ?_;intros)|(refine WPut ?_;intros))
  refine JX.ret2 Tryz.results339 (ResV.tmp rfl) (ResV.tmp rfl) (List.Sublist.refl _) ?_
  exact ⟨by simp [h1],_,rfl,hco2⟩
theorem p8_kinds4:KindAns 341 5:=by
 intro S kp s p us mb l i m x n h hL hco
 rw [of8_at h]
 have hm:=h.hm
 have hx:=h.hx
 obtain ⟨hs,hlen,hp24,hn8,ho8,hpr,hprn⟩:=placed_hyps h.ok
 (refine Fn.enter (args:=[.pointer (some kp),.int .i64 i]) Tryz.func341 rfl Tryz.ntmps341 rfl ?_;intro w0)
 repeat (first|(refine Walk ?_;intros)|refine JC.block ?_|(refine WNew ?_;intros)|(refine WPut ?_;intros))
 refine JC.cond rfl (fun h1=>?_) (fun h1=>?_)
 ·have h1:x.apart.topo=noS:=by simpa [noS] using h1
  repeat (first|(refine Walk ?_;intros)|refine JC.block ?_|(refine WNew ?_;intros)|(refine WPut ?_;intros))
  refine JX.ret2 Tryz.results341 (ResV.tmp rfl) (ResV.tmp rfl) (List.Sublist.refl _) ?_
  exact ⟨by simp [h1],_,rfl,hco.mono (by exact lea)⟩
 ·have h1:¬ x.apart.topo=noS:=by simpa [noS] using h1
  repeat (first|(refine Walk ?_;intros)|refine JC.block ?_|(refine WNew ?_;intros)|(refine WPut ?_;intros))
  refine JO.eff rfl rfl rfl (JEff.callC (kv:=Value.string) rfl (List.Perm.refl _) (by intro l hl;cases hl) (p8_around false h.ok (by exact pta) (hco.mono (by exact lea)) (by exact vta) hm (by omega)) rfl ?_);intro w S2 l2 hl2 hw hco2;subst hw
  repeat (first|(refine Walk ?_;intros)|refine JC.block ?_|(refine WNew ?_;intros)|(refine WPut ?_;intros))
  refine JX.ret2 Tryz.results341 (ResV.tmp rfl) (ResV.tmp rfl) (List.Sublist.refl _) ?_
  exact ⟨by simp [h1],_,rfl,hco2⟩
def dblF (s:Snap) (p:List Int) (i m:Nat) (x:Pod) (j:Nat):Bool:=
 match p[j]?,s.pods[j]? with
 | some n,some q=>!decide (j=i)&&decide (n=(m:Int))&&decide (q.owner=x.owner)
 | _,_=>false
theorem dbl_double {s:Snap} {p:List Int} {i m:Nat} {x:Pod} {n:Node} (h:PodAt s p i m x n):cntI p.length (thereB p (dblF s p i m x))=double8 s p i:=by
 unfold double8
 refine cntI_congr fun j hj=>?_
 obtain ⟨n,hn⟩:∃ n,p[j]?=some n:=⟨_,List.getElem?_eq_getElem hj⟩
 unfold thereB dblF doubleF
 rw [at0_some hn,hn,h.hm,h.hx]
 cases s.pods[j]?<;>simp
 intro _ h1 _
 omega
theorem p8_kinds51 {S:SHeap} {kp:Addr} {s:Snap} {p:List Int} {us:List (List Int)} {d:Value} {qi qk qn:Addr} {i m j:Nat} {x:Pod} {n:Node} {nj:Int} (h:PodAt s p i m x n)
  (hL:PtrTo S kp rLook ⟨s,p,us,d⟩) (h2:PtrTo S qi rI64 (i:Int)) (h3:PtrTo S qk rVal (.pointer (some kp))) (h4:PtrTo S qn rStr x.owner) (hj:p[j]?=some nj) :
  FnV Tryz.prog 345 #[.int .i64 j,.pointer (some qi),.pointer (some qk),.pointer (some qn)] S (.bool (dblF s p i m x j)):=by
 obtain ⟨hs,hlen,hp24,hn8,ho8,hpr,hprn⟩:=placed_hyps h.ok
 have hm:=h.hm
 have hj':=(List.getElem?_eq_some_iff.1 hj).1
 have hi':=(List.getElem?_eq_some_iff.1 hm).1
 obtain ⟨q,hq⟩:∃ q,s.pods[j]?=some q:=⟨_,List.getElem?_eq_getElem (by omega)⟩
 have haf:dblF s p i m x j=(!decide (j=i)&&decide (nj=(m:Int))&&decide (q.owner=x.owner)):=by simp [dblF,hj,hq]
 have hij:decide ((j:Int)=(i:Int))=decide (j=i):=by rw [Bool.eq_iff_iff];simp;omega
 have hjr:Rng (j:Int):=by unfold Rng;omega
 rw [haf]
 clear haf
 (refine Fn.enter (args:=[.int .i64 j,.pointer (some qi),.pointer (some qk),.pointer (some qn)]) Tryz.func345 rfl Tryz.ntmps345 rfl ?_;intro w0)
 repeat' (first|(refine Walk ?_;intros)|refine JC.block ?_|refine JC.drawN 1 rfl [0,1,2,3,4,5,6,7,8,9,10,11,12,13,14,15,16,17,18,19,20,21,22,23,24,25,26,27,28,29,30,31,32,33] [0,1,2,3,4,5,6,7,8,9,10,11,12,13,14,15,16,17,18,19,20,21,22,23,24,25,26,27,28,29,30,31,32,33] Tryz_mixed (by decide +kernel) ?_|(refine JO.guard rfl rfl rfl rfl ?_ ?_<;>intro _)|(refine JC.cond rfl ?_ ?_<;>intro _))
 all_goals ((refine JX.ret1 Tryz.results345 (ResV.tmp rfl) (List.nil_sublist _) ?_);refine ⟨rfl,?_⟩;simp_all)
theorem single_no {s:Snap} (h:shapedB s=true):single8 s noS=false:=by
 unfold single8
 cases hf:s.owners.find? (fun o=>decide (o.name=noS)) with
 | none=>rfl
 | some o=>
  exfalso
  have h1:=List.find?_some hf
  have h2:=List.mem_of_find?_eq_some hf
  have h1:o.name=noS:=by simpa using h1
  unfold shapedB at h
  simp only [Bool.and_eq_true] at h
  have h3:=h.1.2.2
  have h4:nameB o.name=true:=by
   have:∀ (l:List ByteArray) (a:Option ByteArray),riseN a l=true→∀ x∈l,nameB x=true:=by
    intro l
    induction l with
    | nil=>intro a _ x hx;cases hx
    | cons y l ih=>
     intro a hr x hx
     simp only [riseN,Bool.and_eq_true] at hr
     rcases List.mem_cons.1 hx with rfl|hx
     ·exact hr.1.1
     ·exact ih _ hr.2 x hx
   exact this _ _ h3 _ (List.mem_map.2 ⟨o,h2,rfl⟩)
  rw [h1] at h4
  exact absurd h4 (by decide)
theorem s342_L8d {P K:Prop} (k:K) (h:Goal K→P:=by
 intro zk
 (first|refine Walk ?_|refine JC.block ?_|refine JC.drawN 1 rfl [0,1,2,3,4,5,6,7,8,9,10] [] Tryz_mixed (by decide +kernel) ?_|(refine WBox ?_)|(refine WNew ?_)|(refine WPut ?_))
 (repeat (first|revert zqg|revert zqf|revert zqe|revert zqd|revert zqc|revert zqb|revert zqa))
 exact zk.k):P:=h ⟨k⟩
theorem p8_kinds5:KindAns 342 6:=by
 intro S kp s p us mb l i m x n h hL hco
 have hm:=h.hm
 have hx:=h.hx
 obtain ⟨hs,hlen,hp24,hn8,ho8,hpr,hprn⟩:=placed_hyps h.ok
 have hi':=(List.getElem?_eq_some_iff.1 hm).1
 have hir:Rng (i:Int):=by unfold Rng;omega
 have hno:=single_no (checkS_ok hs).1
 have hval:(if x.owner=noS then ((0:Int),false) else if !single8 s x.owner then (0,false) else (double8 s p i,true))=if single8 s x.owner then (double8 s p i,true) else (0,false):=by
  by_cases h1:x.owner=noS
  ·rw [if_pos h1,h1,hno];rfl
  ·rw [if_neg h1];cases single8 s x.owner<;>rfl
 have hv6:of8 s p 6 i=if single8 s x.owner then (double8 s p i,true) else (0,false):=by rw [of8_at h,if_neg (by decide),if_neg (by decide),if_neg (by decide),if_neg (by decide)];exact hval
 rw [hv6]
 (refine Fn.enter (args:=[.pointer (some kp),.int .i64 i]) Tryz.func342 rfl Tryz.ntmps342 rfl ?_;intro w0)
 repeat (refine s342_L8d ?_;intros)
 (refine JO.eff rfl rfl rfl (JEff.callV rfl (p8_single x.owner (by assumption) (by exact pta)) rfl ?_);intro _ _)
 repeat (refine s342_L8d ?_;intros)
 cases h1:single8 s x.owner with
 | false=>
  repeat (refine s342_L8d ?_;intros)
  refine JX.ret2 Tryz.results342 (ResV.tmp rfl) (ResV.tmp rfl) (List.Sublist.refl _) ?_
  exact ⟨by simp [h1],_,rfl,hco.mono (by exact lea)⟩
 | true=>
  repeat (refine s342_L8d ?_;intros)
  refine JO.eff rfl rfl rfl (JEff.callC (kv:=Value.string) rfl (List.Perm.refl _) (by intro l hl;cases hl) (p8_many (dblF s p i m x) inferInstance (by omega) (by exact pta) (hco.mono (by exact lea)) (fun S' l' j n hl hc hj hn=>FnR.toC (p8_kinds51 h (by exact pta) (by exact pta) (by exact pta) (by exact pta) hj) (fun _ hl=>hc.mono hl))) rfl ?_);intro w S2 l2 hl2 hw hco2;subst hw
  rw [dbl_double h]
  repeat (refine s342_L8d ?_;intros)
  refine JX.ret2 Tryz.results342 (ResV.tmp rfl) (ResV.tmp rfl) (List.Sublist.refl _) ?_
  exact ⟨by simp [h1],_,rfl,hco2⟩
end Go.Dr
namespace Go.Dr
open Go.Proofs
set_option maxRecDepth 20000
set_option maxHeartbeats 2000000
set_option linter.unusedSimpArgs false
set_option linter.unusedVariables false
instance:Fld1 Tryz.prog 313 0 0:=⟨by kernel_rfl⟩
def kindV (f:FuncId):Value:=.agg #[.func (.func f) #[] #[]]
def kindsL:List (Int × Value):=[(2,kindV 331),(3,kindV 335),(4,kindV 339),(5,kindV 341),(6,kindV 342)]
theorem p8_kinds {S:SHeap}:FnR Tryz.prog 302 #[] S (fun w S'=>∃ b,w=.map (some b)∧S' b=some (mapK (Value.int .i64) kindsL)):=by
 (refine Fn.enter (args:=[]) Tryz.func302 rfl Tryz.ntmps302 rfl ?_;intro w0)
 repeat (first|(refine Walk ?_;intros)|refine JC.block ?_)
 refine JO.eff rfl rfl rfl (JEff.makeMapK (Value.int .i64) rfl ?_);intro b hb
 repeat (first|(refine Walk ?_;intros)|refine JC.block ?_)
 refine JO.eff rfl rfl rfl (JEff.insNew (kv:=Value.int .i64) rfl rfl rfl (List.Perm.refl _) (by intro l hl;cases hl) rfl ?_)
 repeat (first|(refine Walk ?_;intros)|refine JC.block ?_)
 refine JO.eff rfl rfl rfl (JEff.insNew (kv:=Value.int .i64) rfl rfl rfl (List.Perm.refl _) (by intro l hl;cases hl) rfl ?_)
 repeat (first|(refine Walk ?_;intros)|refine JC.block ?_)
 refine JO.eff rfl rfl rfl (JEff.insNew (kv:=Value.int .i64) rfl rfl rfl (List.Perm.refl _) (by intro l hl;cases hl) rfl ?_)
 repeat (first|(refine Walk ?_;intros)|refine JC.block ?_)
 refine JO.eff rfl rfl rfl (JEff.insNew (kv:=Value.int .i64) rfl rfl rfl (List.Perm.refl _) (by intro l hl;cases hl) rfl ?_)
 repeat (first|(refine Walk ?_;intros)|refine JC.block ?_)
 refine JO.eff rfl rfl rfl (JEff.insNew (kv:=Value.int .i64) rfl rfl rfl (List.Perm.refl _) (by intro l hl;cases hl) rfl ?_)
 repeat (first|(refine Walk ?_;intros)|refine JC.block ?_)
 refine JX.freeze hb (fun S' hl hS=>?_)
 (refine JX.ret1 Tryz.results302 (ResV.tmp rfl) (List.nil_sublist _) ?_)
 exact ⟨rfl,b,rfl,hS⟩
theorem kinds_all {j:Nat} {q:Int × Value} (h:kindsL[j]?=some q):∃ f,q.2=kindV f∧Ent Tryz.prog f∧KindAns f q.1:=by
 match j with
 | 0=>cases h;exact ⟨_,rfl,inferInstance,p8_kinds1⟩
 | 1=>cases h;exact ⟨_,rfl,inferInstance,p8_kinds2⟩
 | 2=>cases h;exact ⟨_,rfl,inferInstance,p8_kinds3⟩
 | 3=>cases h;exact ⟨_,rfl,inferInstance,p8_kinds4⟩
 | 4=>cases h;exact ⟨_,rfl,inferInstance,p8_kinds5⟩
 | j+5=>simp [kindsL] at h
theorem kinds_there {kind:Int} (h1:2≤kind) (h2:kind≤6):∃ q∈kindsL,q.1=kind:=by
 have:kind=2∨kind=3∨kind=4∨kind=5∨kind=6:=by omega
 rcases this with rfl|rfl|rfl|rfl|rfl<;>simp [kindsL]
theorem kinds_distinct:DistinctK kindsL:=by
 intro i j p q hi hj h
 have hi5:=(List.getElem?_eq_some_iff.1 hi).1
 have hj5:=(List.getElem?_eq_some_iff.1 hj).1
 simp only [kindsL,List.length_cons,List.length_nil] at hi5 hj5
 match i,j,hi,hj with
 | 0,0,_,_=>rfl
 | 1,1,_,_=>rfl
 | 2,2,_,_=>rfl
 | 3,3,_,_=>rfl
 | 4,4,_,_=>rfl
 | 0,1,hi,hj|0,2,hi,hj|0,3,hi,hj|0,4,hi,hj|1,0,hi,hj|1,2,hi,hj|1,3,hi,hj|1,4,hi,hj|2,0,hi,hj|2,1,hi,hj|2,3,hi,hj|2,4,hi,hj|3,0,hi,hj|3,1,hi,hj|3,2,hi,hj|3,4,hi,hj|4,0,hi,hj|4,1,hi,hj|4,2,hi,hj|4,3,hi,hj=>cases hi;cases hj;simp at h
 | i+5,_,hi,_=>omega
 | _,j+5,_,hj=>omega
theorem p8_numN {S:SHeap} (n:Int):FnV Tryz.prog 405 #[.int .i64 n] S (.int .i64 n):=by
 (refine Fn.enter (args:=[.int .i64 n]) Tryz.func405 rfl Tryz.ntmps405 rfl ?_;intro w0)
 repeat (first|(refine Walk ?_;intros)|refine JC.block ?_)
 (refine JX.ret1 Tryz.results405 (ResV.tmp rfl) (List.nil_sublist _) ?_)
 exact ⟨rfl,rfl⟩
theorem p8_numP {S:SHeap} (n:Int):FnV Tryz.prog 406 #[.int .i64 n] S (.int .i64 n):=by
 (refine Fn.enter (args:=[.int .i64 n]) Tryz.func406 rfl Tryz.ntmps406 rfl ?_;intro w0)
 repeat (first|(refine Walk ?_;intros)|refine JC.block ?_)
 (refine JX.ret1 Tryz.results406 (ResV.tmp rfl) (List.nil_sublist _) ?_)
 exact ⟨rfl,rfl⟩
theorem p8_numO {S:SHeap} (n:Int):FnV Tryz.prog 407 #[.int .i64 n] S (.int .i64 n):=by
 (refine Fn.enter (args:=[.int .i64 n]) Tryz.func407 rfl Tryz.ntmps407 rfl ?_;intro w0)
 repeat (first|(refine Walk ?_;intros)|refine JC.block ?_)
 (refine JX.ret1 Tryz.results407 (ResV.tmp rfl) (List.nil_sublist _) ?_)
 exact ⟨rfl,rfl⟩
theorem m8_N (v : Value) (w : World) : (callMethod (.iface 278 v) "drayage/clause.number" #[]).run Tryz.prog w = .ok (.enter 405 #[v]) w := by kernel_rfl
theorem m8_P (v : Value) (w : World) : (callMethod (.iface 279 v) "drayage/clause.number" #[]).run Tryz.prog w = .ok (.enter 406 #[v]) w := by kernel_rfl
theorem m8_O (v : Value) (w : World) : (callMethod (.iface 280 v) "drayage/clause.number" #[]).run Tryz.prog w = .ok (.enter 407 #[v]) w := by kernel_rfl
end Go.Dr
namespace Go.Dr
open Go.Proofs
set_option maxRecDepth 20000
set_option maxHeartbeats 2000000
set_option linter.unusedSimpArgs false
set_option linter.unusedVariables false
def usedAll (s:Snap) (p:List Int):List (List Int):=(List.range s.nodes.length).map (fun (n:Nat)=>usedV s p n)
def capW (s:Snap) (p:List Int) (n:Nat):Nat→List Int
 | 0=>[1,n,0,0]
 | k+1=>[1,n,k,(capN s p n k).by_]
theorem capW_len (s:Snap) (p:List Int) (n k:Nat):(capW s p n k).length=4:=by cases k<;>rfl
theorem capW_set (s:Snap) (p:List Int) (n k:Nat):((capW s p n k).set 2 (k:Int)).set 3 (capN s p n k).by_=capW s p n (k+1):=by cases k<;>rfl
def capsK (s:Snap) (p:List Int) (n k:Nat):List Clause:=(List.range k).map (capN s p n)
theorem capsK_step (s:Snap) (p:List Int) (n k:Nat):capsK s p n (k+1)=capsK s p n k++[capN s p n k]:=by
 unfold capsK;rw [List.range_succ];simp
theorem capsK_len (s:Snap) (p:List Int) (n k:Nat):(capsK s p n k).length=k:=by simp [capsK]
theorem s250_L8f {P K:Prop} (k:K) (h:Goal K→P:=by
 intro zk
 (first|refine Walk ?_|refine JC.block ?_|refine JC.drawN 8 rfl [0,1,2,3,4,5,6,7,8,9,10,11,12,13,14,15,16,17,18] [0,15,17] Tryz_mixed (by decide +kernel) ?_|refine JC.drawN 24 rfl [0,1,2,3,4,5,6,7,8,9,10,11,12,13,14,15] [2,3,4,5,6,7,8,9,10,12,13,14] Tryz_mixed (by decide +kernel) ?_|refine JC.drawN 27 rfl [0,1,2,3,4,5,6,7,8,9,10] [0,1,2,3,4,5,6,7,8,10] Tryz_mixed (by decide +kernel) ?_|refine JC.drawN 29 rfl [0,2,5,6,1,3,4,7,8,9,10] [0,4,7,8,9] Tryz_mixed (by decide +kernel) ?_|(refine JO.eff rfl rfl rfl (JEff.callV rfl (p_Max (by exact vta) (by first|assumption|simp)) rfl ?_);intro zqa zqb)|(refine JO.eff rfl rfl rfl (JEff.callV rfl (p_Min (by exact vta) (by first|assumption|simp)) rfl ?_);intro zqa zqb)|(refine JO.eff rfl rfl rfl (JEff.callL rfl (p7_Spread _ (by exact vta) (by exact vta)) rfl ?_);intro zqa zqb zqc zqd zqe zqf))
 (repeat (first|revert zqg|revert zqf|revert zqe|revert zqd|revert zqc|revert zqb|revert zqa))
 exact zk.k):P:=h ⟨k⟩
theorem p8_ofNode {S:SHeap} {kp:Addr} {s:Snap} {p:List Int} {mb:Nat} {l:List (ByteArray × Value)} {n:Nat} (hok:checkP s p=0) (hn:n < s.nodes.length)
  (hL:PtrTo S kp rLook ⟨s,p,usedAll s p,.map (some mb)⟩) (hco:Cache s S l) :
  FnC Tryz.prog 250 #[.pointer (some kp),.iface 278 (.int .i64 n),.int .i64 1] S Value.string mb (Cache s) l (fun w S'=>(rSlice 32 rClause).V S' w (capsK s p n 5)):=by
 obtain ⟨hs,hlen,hp24,hn8,ho8,hpr,hprn⟩:=placed_hyps hok
 have hnr:Rng (n:Int):=by unfold Rng;omega
 obtain ⟨x,hx,_⟩:=drop_at hn
 have hxm:=List.mem_of_getElem? hx
 have hcl:=snap_caps (PtrTo.part hL (Part.map Part.first))
 have hxl:=(hcl x hxm).1
 have hxr:=shaped_cap (checkS_ok hs).1 x hxm
 obtain ⟨hul,hur⟩:=used_fine hs hlen n
 have hus:(usedAll s p)[n]?=some (usedV s p n):=by simp [usedAll,hn]
 have hcap:capOf s n=x.cap:=by simp [capOf,hx]
 have hV0:∀ S,rClause.V S (.agg (flatCells [.int .i64 1,.int .i64 n,.int .i64 0,.int .i64 0]).toArray) ⟨1,n,0,0⟩:=fun S=>V_clause.2 ⟨by simp [flatCells,Value.cells],by unfold Rng;dsimp only;omega,hnr,by unfold Rng;dsimp only;omega,by unfold Rng;dsimp only;omega⟩
 (refine Fn.enter (args:=[.pointer (some kp),.iface 278 (.int .i64 n),.int .i64 1]) Tryz.func250 rfl Tryz.ntmps250 rfl ?_;intro w0)
 repeat (refine s250_L8f ?_;intros)
 refine JO.eff rfl rfl rfl (JEff.method rfl rfl (m8_N _) (p8_numN _) rfl ?_);intro S1 hl1
 repeat (refine s250_L8f ?_;intros)
 (refine JO.eff rfl rfl rfl (JEff.alloc rfl ?_);intro cb hcb)
 repeat (refine s250_L8f ?_;intros)
 refine JO.eff rfl rfl rfl (JEff.storeW rfl rfl (hV0 _) nna (List.Perm.refl _) rfl (by intro l hl;cases hl) ?_)
 repeat (refine s250_L8f ?_;intros)
 refine JO.pure rfl rfl rfl (JPure.assertT rfl rfl ?_)
 repeat (refine s250_L8f ?_;intros)
 obtain ⟨hv31,_,_⟩:=V_arr.1 (by assumption:(rArr 5).V _ _ (usedV s p n))
 subst hv31
 (first|refine JC.newRow 41 (Rp.sz rClause) ?_|refine JO.newRow 41 (Rp.sz rClause) ?_|refine JX.newRow 41 (Rp.sz rClause) ?_)
 refine JC.loopF (σ:=Nat × Option Addr × Nat × List Value) [(0,_),(7,_),(8,_),(31,_)] (fun q=>[(6,.slice q.2.1 ((fun k=>capsK s p n k) q.1).length q.2.2.1),(32,((fun k=>.int .i64 k) q.1))]) (fun q=>[.row w0.heap.size 41 (Rp.sz rClause) (.slice q.2.1 ((fun k=>capsK s p n k) q.1).length q.2.2.1) ((fun k=>capsK s p n k) q.1).length (flatCells q.2.2.2),((fun k=>.blk cb (.cells (ints (capW s p n k)) 41 (0,0))) q.1),((fun k=>.blk mb (mapK Value.string l)) q.1)]) (fun Sk q=>q.1≤5∧allV rClause Sk q.2.2.2 ((fun k=>capsK s p n k) q.1)∧((fun k=>True) q.1)) (fun q=>5 - q.1) (0,none,0,[]) (by exact sba) (by exact sba) (by first|rfl|simp) (⟨Nat.zero_le _,trivial,trivial⟩) ?_;rintro Sk ⟨k,rak,rck,vsk⟩ hlk ⟨hk,hvk,hik⟩;(try dsimp only at hk hvk hik);dsimp only [List.cons_append,List.nil_append]
 repeat (refine s250_L8f ?_;intros)
 refine JC.cond rfl (fun hc2=>?_) (fun hc2=>?_)
 ·have hk':=dlt5 hc2
  obtain ⟨z,hz⟩:∃ z,(usedV s p n)[k]?=some z:=⟨_,List.getElem?_eq_getElem (by omega)⟩
  obtain ⟨y,hy⟩:∃ y,x.cap[k]?=some y:=⟨_,List.getElem?_eq_getElem (by omega)⟩
  have hzr:=hur z (List.mem_of_getElem? hz)
  have hyr:=hxr y (List.mem_of_getElem? hy)
  have hz0:=at0_some hz
  have hy0:=at0_some hy
  have hst:=capsK_step s p n k
  have hcl:=capsK_len s p n k
  unfold Qty at hzr hyr
  have hby:(capN s p n k).by_=max 0 (z - y):=by simp [capN,hcap,hz0,hy0]
  repeat (refine s250_L8f ?_;intros)
  refine JO.pure rfl rfl rfl (JPure.indexV rfl rfl rfl (by omega) hul hz ?_)
  repeat (refine s250_L8f ?_;intros)
  refine JO.pure rfl rfl rfl (JPure.fieldP rfl rfl ?_)
  refine JO.eff rfl rfl rfl (JEff.storeI (i:=2) (xs:=capW s p n k) rfl rfl (by unfold Rng;omega) (List.perm_middle (l₁:=[_])).symm (by rw [capW_len];omega) (by intro l hl;cases hl) ?_)
  refine JO.pure rfl rfl rfl (JPure.fieldP rfl rfl ?_)
  refine JO.eff rfl rfl rfl (JEff.storeI (i:=3) (xs:=(capW s p n k).set 2 (k:Int)) rfl rfl (by unfold Rng;omega) (List.Perm.refl _) (by rw [List.length_set,capW_len];omega) (by intro l hl;cases hl) ?_)
  rw [← hby,capW_set]
  repeat (refine s250_L8f ?_;intros)
  refine JO.pure rfl rfl rfl (JPure.loadCl (c:=capN s p n k) rfl (by (first|exact List.mem_cons_self|exact List.mem_cons_of_mem _ List.mem_cons_self|exact List.mem_cons_of_mem _ (List.mem_cons_of_mem _ List.mem_cons_self))) rfl ⟨by unfold Rng capN;dsimp only;omega,hnr,by unfold Rng capN;dsimp only;omega,by rw [hby];unfold Rng;omega⟩ (.inl rfl) rfl ?_);intro hV
  refine JO.perm (M':=[_,_,_]) (List.Perm.swap _ _ _) ?_
  repeat (refine s250_L8f ?_;intros)
  (refine JO.eff rfl rfl rfl (JEff.build (rep:=rClause) (ys:=[capN s p n k]) rfl rfl ⟨⟨(hV),nna⟩,trivial⟩ rfl rfl rfl rfl ?_);intro bb hbb hvv);(repeat (first|(refine Walk ?_;intros)|refine JC.block ?_));(refine JO.eff rfl rfl rfl (JEff.appendL (rep:=rClause) rfl rfl rfl rfl (List.Perm.swap _ _ _) (by exact hvv.flat) (by intro c hc;exact flat_one (fun v hv=>(hvv.size v hv).2) c hc) (by first|omega|(unfold big;omega)) (by unfold big;omega) (by first|exact rowT_ok|(intro l hl;cases hl)) rfl ?_);intro a2 c2;clear hvv hbb)
  repeat (refine s250_L8f ?_;intros)
  exact JX.roundF (k+1,a2,c2,vsk++[(clV (capN s p n k))]) (by exact lea) ⟨by omega,by (try dsimp only);rw [hst];exact allV_add (by exact lea) hvk (hV.mono (by exact lea)) nna,(trivial)⟩ (by (try dsimp only);omega) (by (try dsimp only);rw [hst];(simp [flat_append]<;>omega)) (by (try dsimp only);rw [hst];simp only [List.length_append,List.length_cons,List.length_nil];exact sba) (by exact sba)
 ·have hk':=dnlt5 hc2
  obtain rfl:k=5:=by omega
  have hcl:=capsK_len s p n 5
  refine JC.freezeRow (rep:=rClause) (bt:=32) hvk rfl (by unfold big;omega) (by unfold big;omega) (fun S9 hl9 hV9=>?_)
  repeat (refine s250_L8f ?_;intros)
  refine JX.ret1 Tryz.results250 (ResV.tmp rfl) (List.sublist_cons_self _ _) ?_
  exact ⟨hV9,_,rfl,hco.mono (by exact lea)⟩
end Go.Dr
namespace Go.Dr
open Go.Proofs
set_option maxRecDepth 20000
set_option maxHeartbeats 2000000
set_option linter.unusedSimpArgs false
set_option linter.unusedVariables false
theorem s250_L8g {P K:Prop} (k:K) (h:Goal K→P:=by
 intro zk
 (first|refine Walk ?_|refine JC.block ?_|refine JC.drawN 8 rfl [0,1,2,3,4,5,6,7,8,9,10,11,12,13,14,15,16,17,18] [0,15,17] Tryz_mixed (by decide +kernel) ?_|refine JC.drawN 24 rfl [0,1,2,3,4,5,6,7,8,9,10,11,12,13,14,15] [2,3,4,5,6,7,8,9,10,12,13,14] Tryz_mixed (by decide +kernel) ?_|refine JC.drawN 27 rfl [0,1,2,3,4,5,6,7,8,9,10] [0,1,2,3,4,5,6,7,8,10] Tryz_mixed (by decide +kernel) ?_|refine JC.drawN 29 rfl [0,2,5,6,1,3,4,7,8,9,10] [0,4,7,8,9] Tryz_mixed (by decide +kernel) ?_|(refine JO.eff rfl rfl rfl (JEff.callV rfl (p_Max (by exact vta) (by first|assumption|simp)) rfl ?_);intro zqa zqb)|(refine JO.eff rfl rfl rfl (JEff.callV rfl (p_Min (by exact vta) (by first|assumption|simp)) rfl ?_);intro zqa zqb)|(refine JO.eff rfl rfl rfl (JEff.callL rfl (p7_Spread _ (by exact vta) (by exact vta)) rfl ?_);intro zqa zqb zqc zqd zqe zqf))
 (repeat (first|revert zqg|revert zqf|revert zqe|revert zqd|revert zqc|revert zqb|revert zqa))
 exact zk.k):P:=h ⟨k⟩
theorem p8_ofPod {S:SHeap} {kp:Addr} {s:Snap} {p:List Int} {us:List (List Int)} {mb:Nat} {l:List (ByteArray × Value)} {i:Nat} {kind:Int} (hok:checkP s p=0) (hi:i < p.length) (hk1:2≤kind) (hk2:kind≤6)
  (hL:PtrTo S kp rLook ⟨s,p,us,.map (some mb)⟩) (hco:Cache s S l) :
  FnC Tryz.prog 250 #[.pointer (some kp),.iface 279 (.int .i64 i),.int .i64 kind] S Value.string mb (Cache s) l (fun w S'=>(rSlice 32 rClause).V S' w (podC1 s p kind i)):=by
 obtain ⟨hs,hlen,hp24,hn8,ho8,hpr,hprn⟩:=placed_hyps hok
 have hir:Rng (i:Int):=by unfold Rng;omega
 have hkr:Rng kind:=by unfold Rng;omega
 obtain ⟨m,hm,_⟩:=drop_at hi
 obtain ⟨x,hx⟩:∃ x,s.pods[i]?=some x:=⟨_,List.getElem?_eq_getElem (by omega)⟩
 have hmr:=hpr m (List.mem_of_getElem? hm)
 obtain ⟨hwl,htl⟩:=shaped_lists (checkS_ok hs).1
 have hof:=of8_rng (s:=s) (p:=p) (by omega) hwl htl kind i
 have hV0:∀ S,rClause.V S (.agg (flatCells [.int .i64 kind,.int .i64 i,.int .i64 0,.int .i64 0]).toArray) ⟨kind,i,0,0⟩:=fun S=>V_clause.2 ⟨by simp [flatCells,Value.cells],hkr,hir,by unfold Rng;dsimp only;omega,by unfold Rng;dsimp only;omega⟩
 (refine Fn.enter (args:=[.pointer (some kp),.iface 279 (.int .i64 i),.int .i64 kind]) Tryz.func250 rfl Tryz.ntmps250 rfl ?_;intro w0)
 repeat (refine s250_L8g ?_;intros)
 refine JO.eff rfl rfl rfl (JEff.method rfl rfl (m8_P _) (p8_numP _) rfl ?_);intro S1 hl1
 repeat (refine s250_L8g ?_;intros)
 (refine JO.eff rfl rfl rfl (JEff.alloc rfl ?_);intro cb hcb)
 repeat (refine s250_L8g ?_;intros)
 refine JO.eff rfl rfl rfl (JEff.storeW rfl rfl (hV0 _) nna (List.Perm.refl _) rfl (by intro l hl;cases hl) ?_)
 repeat (refine s250_L8g ?_;intros)
 refine JO.pure rfl rfl rfl (JPure.assertF rfl rfl rfl ?_)
 repeat (refine s250_L8g ?_;intros)
 refine JO.pure rfl rfl rfl (JPure.assertT rfl rfl ?_)
 repeat (refine s250_L8g ?_;intros)
 refine JC.cond rfl (fun hneg=>?_) (fun hneg=>?_)
 ·have hneg:m < 0:=by simpa using hneg
  have hp1:podC1 s p kind i=[]:=by unfold podC1 of8;rw [hm,hx];simp [hneg]
  repeat (refine s250_L8g ?_;intros)
  refine JX.ret1 Tryz.results250 (ResV.tmp rfl) (List.sublist_cons_self _ _) ?_
  exact ⟨by rw [hp1];exact V_nil,_,rfl,hco.mono (by exact lea)⟩
 ·have hneg:¬ m < 0:=by simpa using hneg
  obtain ⟨m,rfl⟩:=Int.eq_ofNat_of_zero_le (show 0≤m by omega)
  obtain ⟨nd,hnd,_⟩:=drop_at (l:=s.nodes) (show m < s.nodes.length by omega)
  have hat:PodAt s p i m x nd:=⟨hok,hm,hx,hnd⟩
  repeat (refine s250_L8g ?_;intros)
  (refine JO.eff rfl rfl rfl (JEff.callR rfl (p8_kinds) rfl ?_);intro w S2 hl2 hw)
  obtain ⟨b,rfl,hSb⟩:=hw
  repeat (refine s250_L8g ?_;intros)
  refine JO.pure rfl rfl rfl (JPure.lookS (kv:=Value.int .i64) (s:=kind) rfl rfl hSb kinds_distinct rfl (fun hno=>?_) (fun j q hj hq=>?_))
  ·obtain ⟨q,hq,hqk⟩:=kinds_there hk1 hk2
   exact absurd hqk (hno q hq)
  obtain ⟨g,hg,hE,hans⟩:=kinds_all hj
  rw [hq] at hans
  rw [hg]
  refine JO.pure rfl rfl rfl (JPure.fieldV rfl rfl rfl ?_)
  repeat (refine s250_L8g ?_;intros)
  refine JO.eff rfl rfl rfl (JEff.dynC (kv:=Value.string) rfl hE rfl (List.Perm.swap _ _ _) (by intro l hl;cases hl) (hans hat (by exact pta) (hco.mono (by exact lea))) rfl ?_);intro w S3 l3 hl3 hw hco3;subst hw
  repeat (refine s250_L8g ?_;intros)
  cases his:(of8 s p kind i).2 with
  | false=>
   have hp1:podC1 s p kind i=[]:=by unfold podC1;rw [his];rfl
   repeat (refine s250_L8g ?_;intros)
   refine JX.ret1 Tryz.results250 (ResV.tmp rfl) (M':=[_]) (List.Sublist.cons_cons _ (List.nil_sublist _)) ?_
   exact ⟨by rw [hp1];exact V_nil,_,rfl,hco3.mono (by exact lea)⟩
  | true=>
   have hp1:podC1 s p kind i=[⟨kind,i,0,(of8 s p kind i).1⟩]:=by unfold podC1;rw [his];rfl
   repeat (refine s250_L8g ?_;intros)
   refine JO.pure rfl rfl rfl (JPure.fieldP rfl rfl ?_)
   refine JO.eff rfl rfl rfl (JEff.storeI (i:=3) (xs:=[kind,i,0,0]) rfl rfl (by unfold Rng;omega) (List.Perm.swap _ _ _) (by simp) (by intro l hl;cases hl) ?_)
   repeat (refine s250_L8g ?_;intros)
   refine JO.pure rfl rfl rfl (JPure.loadCl (c:=⟨kind,i,0,(of8 s p kind i).1⟩) rfl (by (first|exact List.mem_cons_self|exact List.mem_cons_of_mem _ List.mem_cons_self|exact List.mem_cons_of_mem _ (List.mem_cons_of_mem _ List.mem_cons_self))) rfl ⟨hkr,hir,by unfold Rng;dsimp only;omega,by unfold Rng;dsimp only;omega⟩ (.inl rfl) rfl ?_);intro hV
   (refine JO.eff rfl rfl rfl (JEff.buildS (bt:=32) (rep:=rClause) (ys:=[(⟨kind,i,0,(of8 s p kind i).1⟩:Clause)]) rfl rfl (⟨⟨hV,nna⟩,trivial⟩) rfl rfl rfl (by decide) rfl ?_);intro S4 a4 hl4 hV4)
   repeat (refine s250_L8g ?_;intros)
   refine JX.ret1 Tryz.results250 (ResV.tmp rfl) (M':=[_]) (List.sublist_cons_self _ _) ?_
   exact ⟨by rw [hp1];exact hV4,_,rfl,hco3.mono (by exact lea)⟩
end Go.Dr
namespace Go.Dr
open Go.Proofs
set_option maxRecDepth 20000
set_option maxHeartbeats 2000000
set_option linter.unusedSimpArgs false
set_option linter.unusedVariables false
def ownC1 (s:Snap) (p:List Int) (kind:Int) (o:Nat):List Clause:=if kind=8 then [minC1 s p o] else spreadC1 s p o
theorem maxmin_rng {L:List Int} (hne:L≠[]) (hr:∀ x∈L,0≤x∧x≤1000000):(0≤maxL L∧maxL L≤1000000)∧(0≤minL L∧minL L≤1000000):=by
 cases L with
 | nil=>exact absurd rfl hne
 | cons x L=>
  have r1:=fold_rng min_or (lo:=0) (hi:=1000000) (l:=L) (z:=x) (hr x (by simp)).1 (hr x (by simp)).2 (fun y hy=>hr y (by simp [hy]))
  have r2:=fold_rng max_or (lo:=0) (hi:=1000000) (l:=L) (z:=x) (hr x (by simp)).1 (hr x (by simp)).2 (fun y hy=>hr y (by simp [hy]))
  exact ⟨r2,r1⟩
theorem s250_L8h {P K:Prop} (k:K) (h:Goal K→P:=by
 intro zk
 (first|refine Walk ?_|refine JC.block ?_|refine JC.drawN 8 rfl [0,1,2,3,4,5,6,7,8,9,10,11,12,13,14,15,16,17,18] [0,15,17] Tryz_mixed (by decide +kernel) ?_|refine JC.drawN 24 rfl [0,1,2,3,4,5,6,7,8,9,10,11,12,13,14,15] [2,3,4,5,6,7,8,9,10,12,13,14] Tryz_mixed (by decide +kernel) ?_|refine JC.drawN 27 rfl [0,1,2,3,4,5,6,7,8,9,10] [0,1,2,3,4,5,6,7,8,10] Tryz_mixed (by decide +kernel) ?_|refine JC.drawN 29 rfl [0,2,5,6,1,3,4,7,8,9,10] [0,4,7,8,9] Tryz_mixed (by decide +kernel) ?_|(refine JO.eff rfl rfl rfl (JEff.callV rfl (p_Max (by exact vta) (by first|assumption|simp)) rfl ?_);intro zqa zqb)|(refine JO.eff rfl rfl rfl (JEff.callV rfl (p_Min (by exact vta) (by first|assumption|simp)) rfl ?_);intro zqa zqb)|(refine JO.eff rfl rfl rfl (JEff.callL rfl (p7_Spread _ (by exact vta) (by exact vta)) rfl ?_);intro zqa zqb zqc zqd zqe zqf))
 (repeat (first|revert zqg|revert zqf|revert zqe|revert zqd|revert zqc|revert zqb|revert zqa))
 exact zk.k):P:=h ⟨k⟩
theorem p8_ofMin {S:SHeap} {kp:Addr} {s:Snap} {p:List Int} {us:List (List Int)} {mb:Nat} {l:List (ByteArray × Value)} {o:Nat} (hok:checkP s p=0) (ho:o < s.owners.length)
  (hL:PtrTo S kp rLook ⟨s,p,us,.map (some mb)⟩) (hco:Cache s S l) :
  FnC Tryz.prog 250 #[.pointer (some kp),.iface 280 (.int .i64 o),.int .i64 8] S Value.string mb (Cache s) l (fun w S'=>(rSlice 32 rClause).V S' w [minC1 s p o]):=by
 obtain ⟨hs,hlen,hp24,hn8,ho8,hpr,hprn⟩:=placed_hyps hok
 have hor:Rng (o:Int):=by unfold Rng;omega
 obtain ⟨ow,how,_⟩:=drop_at ho
 have hmo:minOf s o=ow.min:=by simp [minOf,how]
 have hsr:=shaped_owner (checkS_ok hs).1 ow (List.mem_of_getElem? how)
 have hplr:=placed_rng (s:=s) (p:=p) (o:=o) hlen
 have hV0:∀ S,rClause.V S (.agg (flatCells [.int .i64 8,.int .i64 o,.int .i64 0,.int .i64 0]).toArray) ⟨8,o,0,0⟩:=fun S=>V_clause.2 ⟨by simp [flatCells,Value.cells],by unfold Rng;dsimp only;omega,hor,by unfold Rng;dsimp only;omega,by unfold Rng;dsimp only;omega⟩
 (refine Fn.enter (args:=[.pointer (some kp),.iface 280 (.int .i64 o),.int .i64 8]) Tryz.func250 rfl Tryz.ntmps250 rfl ?_;intro w0)
 repeat (refine s250_L8h ?_;intros)
 refine JO.eff rfl rfl rfl (JEff.method rfl rfl (m8_O _) (p8_numO _) rfl ?_);intro S1 hl1
 repeat (refine s250_L8h ?_;intros)
 (refine JO.eff rfl rfl rfl (JEff.alloc rfl ?_);intro cb hcb)
 repeat (refine s250_L8h ?_;intros)
 refine JO.eff rfl rfl rfl (JEff.storeW rfl rfl (hV0 _) nna (List.Perm.refl _) rfl (by intro l hl;cases hl) ?_)
 repeat (refine s250_L8h ?_;intros)
 refine JO.pure rfl rfl rfl (JPure.assertF rfl rfl rfl ?_)
 repeat (refine s250_L8h ?_;intros)
 refine JO.pure rfl rfl rfl (JPure.assertF rfl rfl rfl ?_)
 repeat (refine s250_L8h ?_;intros)
 refine JO.pure rfl rfl rfl (JPure.assertT rfl rfl ?_)
 repeat (refine s250_L8h ?_;intros)
 (refine JO.eff rfl rfl rfl (JEff.alloc rfl ?_);intro ob hob)
 repeat (refine s250_L8h ?_;intros)
 refine JO.eff rfl rfl rfl (JEff.storeW rfl rfl (by exact vta) nna (List.Perm.refl _) rfl (by intro l hl;cases hl) ?_)
 refine JO.freezeV (by exact vta) nna hob (by intro l hl;cases hl) ?_;intro S2 hl2 hpo
 repeat (refine s250_L8h ?_;intros)
 refine JO.eff rfl rfl rfl (JEff.callV rfl (p7_Placed (s:=s) (p:=p) o (by exact vta) (by exact vta)) rfl ?_);intro S3 hl3
 have hpl:(if (z0 (checkP s p)&&(decide ((0:Int)≤o)&&decide ((o:Int) < s.owners.length)))=true then placedN s p ((o:Int)).toNat else 0)=placedN s p o:=by
  rw [if_pos (by simp [z0,hok,ho])];rfl
 rw [hpl]
 repeat (refine s250_L8h ?_;intros)
 refine JO.pure rfl rfl rfl (JPure.fieldP rfl rfl ?_)
 refine JO.eff rfl rfl rfl (JEff.storeI (i:=3) (xs:=[8,o,0,0]) rfl rfl (by unfold Rng;omega) (List.Perm.refl _) (by simp) (by intro l hl;cases hl) ?_)
 have hp1:[minC1 s p o]=[⟨8,o,0,max 0 (ow.min - placedN s p o)⟩]:=by rw [minC1,hmo]
 repeat (refine s250_L8h ?_;intros)
 refine JO.pure rfl rfl rfl (JPure.loadCl (c:=⟨8,o,0,max 0 (ow.min - placedN s p o)⟩) rfl (by (first|exact List.mem_cons_self|exact List.mem_cons_of_mem _ List.mem_cons_self|exact List.mem_cons_of_mem _ (List.mem_cons_of_mem _ List.mem_cons_self))) rfl ⟨by unfold Rng;dsimp only;omega,hor,by unfold Rng;dsimp only;omega,by unfold Rng;dsimp only;omega⟩ (.inl rfl) rfl ?_);intro hV
 (refine JO.eff rfl rfl rfl (JEff.buildS (bt:=32) (rep:=rClause) (ys:=[(⟨8,o,0,max 0 (ow.min - placedN s p o)⟩:Clause)]) rfl rfl (⟨⟨hV,nna⟩,trivial⟩) rfl rfl rfl (by decide) rfl ?_);intro S4 a4 hl4 hV4)
 repeat (refine s250_L8h ?_;intros)
 refine JX.ret1 Tryz.results250 (ResV.tmp rfl) (M':=[_]) (List.sublist_cons_self _ _) ?_
 exact ⟨by rw [hp1];exact hV4,_,rfl,hco.mono (by exact lea)⟩
theorem p8_ofSpread {S:SHeap} {kp:Addr} {s:Snap} {p:List Int} {us:List (List Int)} {mb:Nat} {l:List (ByteArray × Value)} {o:Nat} (hok:checkP s p=0) (ho:o < s.owners.length)
  (hL:PtrTo S kp rLook ⟨s,p,us,.map (some mb)⟩) (hco:Cache s S l) :
  FnC Tryz.prog 250 #[.pointer (some kp),.iface 280 (.int .i64 o),.int .i64 7] S Value.string mb (Cache s) l (fun w S'=>(rSlice 32 rClause).V S' w (spreadC1 s p o)):=by
 obtain ⟨hs,hlen,hp24,hn8,ho8,hpr,hprn⟩:=placed_hyps hok
 have hor:Rng (o:Int):=by unfold Rng;omega
 obtain ⟨ow,how,_⟩:=drop_at ho
 have htp:topoOf s o=ow.topo:=by simp [topoOf,how]
 have hsko:skewOf s o=ow.skew:=by simp [skewOf,how]
 have hsr:=shaped_owner (checkS_ok hs).1 ow (List.mem_of_getElem? how)
 have hspr:=spread_rng (s:=s) (p:=p) (o:=o) (by omega) hlen (by omega)
 have hV0:∀ S,rClause.V S (.agg (flatCells [.int .i64 7,.int .i64 o,.int .i64 0,.int .i64 0]).toArray) ⟨7,o,0,0⟩:=fun S=>V_clause.2 ⟨by simp [flatCells,Value.cells],by unfold Rng;dsimp only;omega,hor,by unfold Rng;dsimp only;omega,by unfold Rng;dsimp only;omega⟩
 have hspp:spreadP s p o=spreadL s p o:=by unfold spreadP;rw [if_pos (by simp [z0,hok,ho])];rfl
 (refine Fn.enter (args:=[.pointer (some kp),.iface 280 (.int .i64 o),.int .i64 7]) Tryz.func250 rfl Tryz.ntmps250 rfl ?_;intro w0)
 repeat (refine s250_L8h ?_;intros)
 refine JO.eff rfl rfl rfl (JEff.method rfl rfl (m8_O _) (p8_numO _) rfl ?_);intro S1 hl1
 repeat (refine s250_L8h ?_;intros)
 (refine JO.eff rfl rfl rfl (JEff.alloc rfl ?_);intro cb hcb)
 repeat (refine s250_L8h ?_;intros)
 refine JO.eff rfl rfl rfl (JEff.storeW rfl rfl (hV0 _) nna (List.Perm.refl _) rfl (by intro l hl;cases hl) ?_)
 repeat (refine s250_L8h ?_;intros)
 refine JO.pure rfl rfl rfl (JPure.assertF rfl rfl rfl ?_)
 repeat (refine s250_L8h ?_;intros)
 refine JO.pure rfl rfl rfl (JPure.assertF rfl rfl rfl ?_)
 repeat (refine s250_L8h ?_;intros)
 refine JO.pure rfl rfl rfl (JPure.assertT rfl rfl ?_)
 repeat (refine s250_L8h ?_;intros)
 (refine JO.eff rfl rfl rfl (JEff.alloc rfl ?_);intro ob hob)
 repeat (refine s250_L8h ?_;intros)
 refine JO.eff rfl rfl rfl (JEff.storeW rfl rfl (by exact vta) nna (List.Perm.refl _) rfl (by intro l hl;cases hl) ?_)
 refine JO.freezeV (by exact vta) nna hob (by intro l hl;cases hl) ?_;intro S2 hl2 hpo
 repeat (refine s250_L8h ?_;intros)
 refine JC.cond rfl (fun ht=>?_) (fun ht=>?_)
 ·have ht:topoOf s o=noS:=by rw [htp];simpa [noS] using ht
  have hp1:spreadC1 s p o=[]:=by rw [spreadC1,if_pos ht]
  repeat (refine s250_L8h ?_;intros)
  refine JX.ret1 Tryz.results250 (ResV.tmp rfl) (M':=[_]) (List.sublist_cons_self _ _) ?_
  exact ⟨by rw [hp1];exact V_nil,_,rfl,hco.mono (by exact lea)⟩
 ·have ht:¬ topoOf s o=noS:=by rw [htp];simpa [noS] using ht
  repeat (refine s250_L8h ?_;intros)
  have hVs:=(by assumption:(rSlice 8 rI64).V _ _ (spreadP s p o))
  rw [hspp] at hVs
  rw [hspp]
  refine JC.cond rfl (fun hle=>?_) (fun hle=>?_)
  ·have hne:spreadL s p o≠[]:=by intro h;rw [h] at hle;simp at hle
   have hne2:¬ (spreadL s p o).length=0:=by intro h;exact hne (List.length_eq_zero_iff.1 h)
   have hsk:skewV s p o=max 0 (maxL (spreadL s p o) - minL (spreadL s p o) - ow.skew):=by rw [skewV,if_neg hne2,hsko]
   obtain ⟨hmx,hmn⟩:=maxmin_rng hne hspr
   repeat (refine s250_L8h ?_;intros)
   refine JO.pure rfl rfl rfl (JPure.fieldP rfl rfl ?_)
   refine JO.eff rfl rfl rfl (JEff.storeI (i:=3) (xs:=[7,o,0,0]) rfl rfl (by unfold Rng;omega) (List.Perm.refl _) (by simp) (by intro l hl;cases hl) ?_)
   have hp1:spreadC1 s p o=[⟨7,o,0,max 0 (maxL (spreadL s p o) - minL (spreadL s p o) - ow.skew)⟩]:=by rw [spreadC1,if_neg ht,hsk]
   repeat (refine s250_L8h ?_;intros)
   refine JO.pure rfl rfl rfl (JPure.loadCl (c:=⟨7,o,0,max 0 (maxL (spreadL s p o) - minL (spreadL s p o) - ow.skew)⟩) rfl (by (first|exact List.mem_cons_self|exact List.mem_cons_of_mem _ List.mem_cons_self|exact List.mem_cons_of_mem _ (List.mem_cons_of_mem _ List.mem_cons_self))) rfl ⟨by unfold Rng;dsimp only;omega,hor,by unfold Rng;dsimp only;omega,by unfold Rng;dsimp only;omega⟩ (.inl rfl) rfl ?_);intro hV
   (refine JO.eff rfl rfl rfl (JEff.buildS (bt:=32) (rep:=rClause) (ys:=[(⟨7,o,0,max 0 (maxL (spreadL s p o) - minL (spreadL s p o) - ow.skew)⟩:Clause)]) rfl rfl (⟨⟨hV,nna⟩,trivial⟩) rfl rfl rfl (by decide) rfl ?_);intro S4 a4 hl4 hV4)
   repeat (refine s250_L8h ?_;intros)
   refine JX.ret1 Tryz.results250 (ResV.tmp rfl) (M':=[_]) (List.sublist_cons_self _ _) ?_
   exact ⟨by rw [hp1];exact hV4,_,rfl,hco.mono (by exact lea)⟩
  ·have hz:(spreadL s p o).length=0:=by
    have:¬ (0:Int) < ((spreadL s p o).length:Int):=by simpa using hle
    omega
   have hsk:skewV s p o=0:=by rw [skewV,if_pos hz]
   have hp1:spreadC1 s p o=[⟨7,o,0,0⟩]:=by rw [spreadC1,if_neg ht,hsk]
   repeat (refine s250_L8h ?_;intros)
   refine JO.pure rfl rfl rfl (JPure.loadCl (c:=⟨7,o,0,0⟩) rfl (by (first|exact List.mem_cons_self|exact List.mem_cons_of_mem _ List.mem_cons_self|exact List.mem_cons_of_mem _ (List.mem_cons_of_mem _ List.mem_cons_self))) rfl ⟨by unfold Rng;dsimp only;omega,hor,by unfold Rng;dsimp only;omega,by unfold Rng;dsimp only;omega⟩ (.inl rfl) rfl ?_);intro hV
   (refine JO.eff rfl rfl rfl (JEff.buildS (bt:=32) (rep:=rClause) (ys:=[(⟨7,o,0,0⟩:Clause)]) rfl rfl (⟨⟨hV,nna⟩,trivial⟩) rfl rfl rfl (by decide) rfl ?_);intro S4 a4 hl4 hV4)
   repeat (refine s250_L8h ?_;intros)
   refine JX.ret1 Tryz.results250 (ResV.tmp rfl) (M':=[_]) (List.sublist_cons_self _ _) ?_
   exact ⟨by rw [hp1];exact hV4,_,rfl,hco.mono (by exact lea)⟩
end Go.Dr
namespace Go.Dr
open Go.Proofs
set_option maxRecDepth 20000
set_option maxHeartbeats 2000000
set_option linter.unusedSimpArgs false
set_option linter.unusedVariables false
def usedK (s:Snap) (p:List Int) (k:Nat):List (List Int):=(List.range k).map (fun (n:Nat)=>usedV s p n)
theorem usedK_step (s:Snap) (p:List Int) (k:Nat):usedK s p (k+1)=usedK s p k++[usedV s p k]:=by unfold usedK;rw [List.range_succ];simp
theorem usedK_len (s:Snap) (p:List Int) (k:Nat):(usedK s p k).length=k:=by simp [usedK]
def SeeAns (s:Snap) (p:List Int) (w:Value) (S':SHeap) (M':List MEnt):Prop:=
 (¬ checkP s p=0∧w=.tuple #[.pointer none,.int .i64 (checkP s p)]∧M'=[]) ∨
 (checkP s p=0∧∃ kp mb,w=.tuple #[.pointer (some kp),.int .i64 0]∧PtrTo S' kp rLook ⟨s,p,usedAll s p,.map (some mb)⟩∧M'=[.blk mb (mapK Value.string [])])
theorem s167_L8i {P K:Prop} (k:K) (h:Goal K→P:=by
 intro zk
 (first|refine Walk ?_|refine JC.block ?_|(refine JO.eff rfl rfl rfl (JEff.callV rfl (p7_Check (by exact vta) (by exact vta)) rfl ?_);intro zqa zqb))
 (repeat (first|revert zqg|revert zqf|revert zqe|revert zqd|revert zqc|revert zqb|revert zqa))
 exact zk.k):P:=h ⟨k⟩
theorem p8_see {S:SHeap} {u v:Value} {s:Snap} {p:List Int} (hu:rSnap.V S u s) (hv:(rSlice 8 rI64).V S v p):Fn Tryz.prog 167 #[u,v] S [] (SeeAns s p):=by
 haveI:TyR Tryz.prog 188 rVal:=⟨(inferInstance:TyR Tryz.prog 188 (rSlice 40 (rArr 5))).b⟩
 obtain ⟨a,c,rfl,_⟩:=V_slice.1 hv
 (refine Fn.enter (args:=[u,.slice a p.length c]) Tryz.func167 rfl Tryz.ntmps167 rfl ?_;intro w0)
 repeat (refine s167_L8i ?_;intros)
 (refine JO.eff rfl rfl rfl (JEff.boxS rfl (by exact vta) nna rfl ?_);intro S0 pa l0 hp0)
 repeat (refine s167_L8i ?_;intros)
 refine JC.cond rfl (fun he=>?_) (fun he=>?_)
 ·have he:¬ checkP s p=0:=by simpa using he
  repeat (refine s167_L8i ?_;intros)
  refine JX.ret2 Tryz.results167 (ResV.tmp rfl) (ResV.tmp rfl) (List.nil_sublist _) ?_
  exact .inl ⟨he,rfl,rfl⟩
 have hok:checkP s p=0:=by simpa using he
 obtain ⟨hs,hlen,hp24,hn8,ho8,hpr,hprn⟩:=placed_hyps hok
 repeat (refine s167_L8i ?_;intros)
 obtain ⟨cs,rfl,hcs⟩:=V_agg rfl (by assumption:rSnap.V _ _ s)
 obtain ⟨n1,n2,n3,rfl⟩:∃ n1 n2 n3,cs=[n1,n2,n3]:=by
  have h3:cs.length=3:=rSnap.len hcs
  match cs,h3 with
  | [n1,n2,n3],_=>exact ⟨n1,n2,n3,rfl⟩
 refine JO.eff rfl rfl rfl (JEff.makeMapK Value.string rfl ?_);intro mb hmb
 repeat (refine s167_L8i ?_;intros)
 refine JO.eff rfl rfl rfl (JEff.box rfl rfl ?_);intro kb hkb
 repeat (refine s167_L8i ?_;intros)
 refine JC.newRow 91 (Rp.sz (rArr 5)) ?_
 refine JC.loopF (σ:=Nat × Option Addr × Nat × List Value) [(1,_),(2,_),(7,_),(22,_)] (fun q=>[(23,.int .i64 q.1)])
  (fun q=>[.row w0.heap.size 91 (Rp.sz (rArr 5)) (.slice q.2.1 q.1 q.2.2.1) q.1 (flatCells q.2.2.2),.blk kb (.cells #[n1,n2,n3,.slice a p.length c,.slice q.2.1 q.1 q.2.2.1,.map (some mb)] 276 (0,0)),.blk mb (mapK Value.string [])])
  (fun Sk q=>q.1≤s.nodes.length∧allV (rArr 5) Sk q.2.2.2 (usedK s p q.1)) (fun q=>s.nodes.length - q.1) (0,none,0,[]) (by exact sba) (by exact sba) (by rfl) ⟨Nat.zero_le _,trivial⟩ ?_
 rintro Sk ⟨k,ra,rc,vs⟩ hlk ⟨hk,hv1⟩
 dsimp only at hk hv1
 dsimp only [List.cons_append,List.nil_append]
 repeat (refine s167_L8i ?_;intros)
 refine JC.cond rfl (fun hc=>?_) (fun hc=>?_)
 ·have hk':=dlt hc
  have hst:=usedK_step s p k
  obtain ⟨hul,hur⟩:=used_fine hs hlen k
  have hU:∀ S,(rArr 5).V S (.agg (ints (usedV s p k))) (usedV s p k):=fun S=>V_arr.2 ⟨rfl,hul,fun z hz=>by have:=hur z hz;unfold Qty at this;unfold Rng;omega⟩
  have hup:usedP s p k=usedV s p k:=by unfold usedP;rw [if_pos (by simp [z0,hok,hk'])]
  have hkl:=usedK_len s p k
  have hvl:=hv1.length
  rw [hkl] at hvl
  repeat (refine s167_L8i ?_;intros)
  refine JC.drawTreeF 8 rfl [11,12] [4] [0,1,2,3,5,6,7] (.alt (ofL [4,8,9,10,11,12,13] .nil) (ofL [8] (.alt (ofL [4,9,10,11,12,13] .nil) (ofL [9,4,10,11,12,13] .nil)))) Tryz_mixed (by decide +kernel) ?_
  repeat (refine s167_L8i ?_;intros)
  refine JO.pure rfl rfl rfl (JPure.fieldP rfl rfl ?_)
  repeat (refine s167_L8i ?_;intros)
  refine JO.alt ?_ ?_
  ·refine JO.eff rfl rfl rfl (JEff.loadE (rVal) (x0:=.slice ra k rc) rfl (by (first|exact List.mem_cons_self|exact List.mem_cons_of_mem _ List.mem_cons_self|exact List.mem_cons_of_mem _ (List.mem_cons_of_mem _ List.mem_cons_self))) rfl ⟨rfl,rfl⟩ inferInstance rfl ?_)
   repeat (refine s167_L8i ?_;intros)
   refine JO.eff rfl rfl rfl (JEff.callV rfl (p7_Used (s:=s) (p:=p) k (by exact vta) (by exact vta)) rfl ?_);intro S3 hl3
   rw [hup]
   repeat (refine s167_L8i ?_;intros)
   (refine JO.eff rfl rfl rfl (JEff.build (rep:=rArr 5) (ys:=[usedV s p k]) rfl rfl ⟨⟨hU _,nna⟩,trivial⟩ rfl rfl rfl rfl ?_);intro bb hbb hvv)
   (refine JO.eff rfl rfl rfl (JEff.appendL (rep:=rArr 5) rfl rfl rfl rfl (List.Perm.swap _ _ _) (by exact hvv.flat) (by intro c hc;exact flat_one (fun v hv=>(hvv.size v hv).2) c hc) (by unfold big;omega) (by unfold big;omega) (by first|exact rowT_ok|(intro l hl;cases hl)) rfl ?_);intro a2 c2;clear hvv hbb)
   repeat (refine s167_L8i ?_;intros)
   refine JO.pure rfl rfl rfl (JPure.fieldP rfl rfl ?_)
   refine JO.eff rfl rfl rfl (JEff.store (rep:=rVal) (x0:=.slice a2 (k+1) c2) rfl rfl (V_val.2 ⟨rfl,rfl⟩) nna (List.Perm.swap _ _ _) (by simp [rVal]) (by intro l hl;cases hl) ?_)
   repeat (refine s167_L8i ?_;intros)
   refine JX.perm (M':=[_,_,_]) (List.Perm.swap _ _ _) ?_
   exact JX.roundF (k+1,a2,c2,vs++[.agg (ints (usedV s p k))]) (by exact lea) ⟨by dsimp only;omega,by (try dsimp only);rw [hst];exact allV_add (by exact lea) hv1 (hU _) nna⟩ (by (try dsimp only);omega) (by simp [flat_append];rfl) (by exact sba) (by exact sba)
  ·refine JO.eff rfl rfl rfl (JEff.callV rfl (p7_Used (s:=s) (p:=p) k (by exact vta) (by exact vta)) rfl ?_);intro S3 hl3
   rw [hup]
   repeat (refine s167_L8i ?_;intros)
   refine JO.alt ?_ ?_
   ·refine JO.eff rfl rfl rfl (JEff.loadE (rVal) (x0:=.slice ra k rc) rfl (by (first|exact List.mem_cons_self|exact List.mem_cons_of_mem _ List.mem_cons_self|exact List.mem_cons_of_mem _ (List.mem_cons_of_mem _ List.mem_cons_self))) rfl ⟨rfl,rfl⟩ inferInstance rfl ?_)
    (refine JO.eff rfl rfl rfl (JEff.build (rep:=rArr 5) (ys:=[usedV s p k]) rfl rfl ⟨⟨hU _,nna⟩,trivial⟩ rfl rfl rfl rfl ?_);intro bb hbb hvv)
    (refine JO.eff rfl rfl rfl (JEff.appendL (rep:=rArr 5) rfl rfl rfl rfl (List.Perm.swap _ _ _) (by exact hvv.flat) (by intro c hc;exact flat_one (fun v hv=>(hvv.size v hv).2) c hc) (by unfold big;omega) (by unfold big;omega) (by first|exact rowT_ok|(intro l hl;cases hl)) rfl ?_);intro a2 c2;clear hvv hbb)
    repeat (refine s167_L8i ?_;intros)
    refine JO.pure rfl rfl rfl (JPure.fieldP rfl rfl ?_)
    refine JO.eff rfl rfl rfl (JEff.store (rep:=rVal) (x0:=.slice a2 (k+1) c2) rfl rfl (V_val.2 ⟨rfl,rfl⟩) nna (List.Perm.swap _ _ _) (by simp [rVal]) (by intro l hl;cases hl) ?_)
    repeat (refine s167_L8i ?_;intros)
    refine JX.perm (M':=[_,_,_]) (List.Perm.swap _ _ _) ?_
    exact JX.roundF (k+1,a2,c2,vs++[.agg (ints (usedV s p k))]) (by exact lea) ⟨by dsimp only;omega,by (try dsimp only);rw [hst];exact allV_add (by exact lea) hv1 (hU _) nna⟩ (by (try dsimp only);omega) (by simp [flat_append];rfl) (by exact sba) (by exact sba)
   ·(refine JO.eff rfl rfl rfl (JEff.build (rep:=rArr 5) (ys:=[usedV s p k]) rfl rfl ⟨⟨hU _,nna⟩,trivial⟩ rfl rfl rfl rfl ?_);intro bb hbb hvv)
    refine JO.eff rfl rfl rfl (JEff.loadE (rVal) (x0:=.slice ra k rc) rfl (by (first|exact List.mem_cons_self|exact List.mem_cons_of_mem _ List.mem_cons_self|exact List.mem_cons_of_mem _ (List.mem_cons_of_mem _ List.mem_cons_self))) rfl ⟨rfl,rfl⟩ inferInstance rfl ?_)
    (refine JO.eff rfl rfl rfl (JEff.appendL (rep:=rArr 5) rfl rfl rfl rfl (List.Perm.swap _ _ _) (by exact hvv.flat) (by intro c hc;exact flat_one (fun v hv=>(hvv.size v hv).2) c hc) (by unfold big;omega) (by unfold big;omega) (by first|exact rowT_ok|(intro l hl;cases hl)) rfl ?_);intro a2 c2;clear hvv hbb)
    repeat (refine s167_L8i ?_;intros)
    refine JO.pure rfl rfl rfl (JPure.fieldP rfl rfl ?_)
    refine JO.eff rfl rfl rfl (JEff.store (rep:=rVal) (x0:=.slice a2 (k+1) c2) rfl rfl (V_val.2 ⟨rfl,rfl⟩) nna (List.Perm.swap _ _ _) (by simp [rVal]) (by intro l hl;cases hl) ?_)
    repeat (refine s167_L8i ?_;intros)
    refine JX.perm (M':=[_,_,_]) (List.Perm.swap _ _ _) ?_
    exact JX.roundF (k+1,a2,c2,vs++[.agg (ints (usedV s p k))]) (by exact lea) ⟨by dsimp only;omega,by (try dsimp only);rw [hst];exact allV_add (by exact lea) hv1 (hU _) nna⟩ (by (try dsimp only);omega) (by simp [flat_append];rfl) (by exact sba) (by exact sba)
 ·have hk':=dnlt hc
  obtain rfl:k=s.nodes.length:=by omega
  have hkl:=usedK_len s p s.nodes.length
  refine JC.freezeRow (rep:=rArr 5) (bt:=40) hv1 hkl.symm (by unfold big;omega) (by unfold big;omega) (fun S9 hl9 hV9=>?_)
  refine JC.freeze hkb (fun S10 hl10 hS10=>?_)
  have hfin:PtrTo S10 ⟨kb,0,none⟩ rLook ⟨s,p,usedAll s p,.map (some mb)⟩:=
   cells_ptr (v:=.agg #[n1,n2,n3,.slice a p.length c,.slice ra s.nodes.length rc,.map (some mb)]) hS10
    ⟨[n1,n2,n3],_,rfl,rSnap.mono (by exact lea) hcs,[_],_,rfl,Rp.V.one rfl (hv.mono (by exact lea)),[_],[_],rfl,Rp.V.one rfl (hV9.mono (by exact lea)),rfl,rfl⟩
  repeat (refine s167_L8i ?_;intros)
  refine JX.ret2 Tryz.results167 (ResV.tmp rfl) (ResV.tmp rfl) (List.Sublist.refl _) ?_
  exact .inr ⟨hok,_,_,rfl,hfin,rfl⟩
end Go.Dr
