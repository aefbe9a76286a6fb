/- Part 9 of the rules and of the walks that the proofs of this seat rest on; no condition. -/
import Derived.Test.YtlckpojpnfidoaaGreatA07
import Derived.Deep.Slices
import Derived.OpenShut
import Derived.SizedLaws
import Derived.Carry
import Derived.Below
set_option linter.unusedVariables false
set_option linter.unusedSimpArgs false
namespace Go.Dr
open Go.Proofs
set_option maxRecDepth 20000
set_option maxHeartbeats 2000000
set_option linter.unusedSimpArgs false
set_option linter.unusedVariables false
instance:TyR Tryz.prog 137 rVal:=⟨by kernel_rfl⟩
instance:TyR Tryz.prog 207 (rSlice 8 rVal):=⟨by kernel_rfl⟩
def keyF:Nat→Value
 | 0=>.func (.func 81) #[] #[]
 | 1=>.func (.func 82) #[] #[]
 | _=>.func (.func 83) #[] #[]
def keysF:List Value:=[keyF 0,keyF 1,keyF 2]
theorem key_at {a b:Wrong} (ha:okW a) (hb:okW b):∀ i:Nat,i < 3 →
  ∃ (f:FuncId) (x y:Int),keysF[i]?=some (.func (.func f) #[] #[])∧(cmpsW a b)[i]?=some (cmpI x y)∧Ent Tryz.prog f∧(∀ S' v,rWrong.V S' v a→FnV Tryz.prog f #[v] S' (.int .i64 x))∧(∀ S' v,rWrong.V S' v b→FnV Tryz.prog f #[v] S' (.int .i64 y))
 | i,hi=>by
  rcases i with _|_|_|i
  ·exact ⟨81,_,_,rfl,rfl,inferInstance,fun _ _ h=>by obtain ⟨rfl,h'⟩:=V_wr.1 h;exact p13_k1 h',fun _ _ h=>by obtain ⟨rfl,h'⟩:=V_wr.1 h;exact p13_k1 h'⟩
  ·exact ⟨82,_,_,rfl,rfl,inferInstance,fun _ _ h=>by obtain ⟨rfl,h'⟩:=V_wr.1 h;exact p13_k2 h',fun _ _ h=>by obtain ⟨rfl,h'⟩:=V_wr.1 h;exact p13_k2 h'⟩
  ·exact ⟨83,_,_,rfl,rfl,inferInstance,fun _ _ h=>by obtain ⟨rfl,h'⟩:=V_wr.1 h;exact p13_k3 h',fun _ _ h=>by obtain ⟨rfl,h'⟩:=V_wr.1 h;exact p13_k3 h'⟩
  ·omega
theorem s154_L13u {P K:Prop} (k:K) (h:Goal K→P:=by
 intro zk
 (first|refine Walk ?_|refine JC.block ?_|refine JC.drawN 4 rfl [0,1,3,4,2,5,6,7] [0,1,7] Tryz_mixed (by decide +kernel) ?_|(refine JO.eff rfl rfl rfl (JEff.callV rfl (p_CompareI _ _) rfl ?_);intro zqa zqb)|(refine WBox ?_))
 (repeat (first|revert zqg|revert zqf|revert zqe|revert zqd|revert zqc|revert zqb|revert zqa))
 exact zk.k):P:=h ⟨k⟩
theorem p13_by1 {S:SHeap} {q:Addr} {a b:Wrong} (hq:PtrTo S q (rSlice 8 rVal) keysF) (ha:okW a) (hb:okW b):FnV Tryz.prog 154 #[.agg (encW a).toArray,.agg (encW b).toArray,.pointer (some q)] S (.int .i64 (cfW a b)):=by
 (refine Fn.enter (args:=[.agg (encW a).toArray,.agg (encW b).toArray,.pointer (some q)]) Tryz.func154 rfl Tryz.ntmps154 rfl ?_;intro w0)
 repeat (first|(refine JO.eff rfl rfl rfl (JEff.boxS (rep:=rWrong) rfl ((V_wr (x:=a)).2 ⟨rfl,ha⟩) nna rfl ?_);intro qa Sa hla hqa)|(refine JO.eff rfl rfl rfl (JEff.boxS (rep:=rWrong) rfl ((V_wr (x:=b)).2 ⟨rfl,hb⟩) nna rfl ?_);intro qb Sb hlb hqb)|(refine Walk ?_;intros)|refine JC.block ?_|refine JC.drawN 4 rfl [0,1,3,4,2,5,6,7] [0,1,7] Tryz_mixed (by decide +kernel) ?_|(refine JO.eff rfl rfl rfl (JEff.callV rfl (p_CompareI _ _) rfl ?_);intro _ _)|(refine WBox ?_;intros))
 refine JC.loopF0 [(3,_),(4,_),(9,_),(10,_)] (fun (i:Nat)=>[(11,.int .i64 i)]) (fun Si i=>i≤3∧(firstN (cmpsW a b)=firstN ((cmpsW a b).drop i))) (fun i=>3 - i) 0 (by exact sba) (by exact sba) ⟨Nat.zero_le _,rfl⟩ ?_;intro Si i hli hii;obtain ⟨hi,hii⟩:=hii;(try dsimp only at hi hii);dsimp only [List.cons_append,List.nil_append]
 repeat (refine s154_L13u ?_;intros)
 refine JC.cond rfl (fun hc=>?_) (fun hc=>?_)
 ·have hc3:i < 3:=dlt hc
  obtain ⟨f,x,y,hki,hci,hE,hx,hy⟩:=key_at ha hb i hc3
  have hstep:firstN ((cmpsW a b).drop i)=if decide (cmpI x y=0)=true then firstN ((cmpsW a b).drop (i+1)) else cmpI x y:=by
   rw [show (cmpsW a b).drop i=_::(cmpsW a b).drop (i+1) from by rw [List.getElem?_eq_some_iff] at hci;obtain ⟨h8,e8⟩:=hci;rw [List.drop_eq_getElem_cons h8,e8]]
   exact firstN_cons _ _
  repeat (first|(refine Walk ?_;intros)|refine JC.block ?_|refine JC.drawN 4 rfl [0,1,3,4,2,5,6,7] [0,1,7] Tryz_mixed (by decide +kernel) ?_|(refine JO.eff rfl rfl rfl (JEff.dynV rfl hE rfl (hx _ _ (by exact vta)) rfl ?_);intro _ _)|(refine JO.eff rfl rfl rfl (JEff.dynV rfl hE rfl (hy _ _ (by exact vta)) rfl ?_);intro _ _)|(refine JO.eff rfl rfl rfl (JEff.callV rfl (p_CompareI _ _) rfl ?_);intro _ _)|(refine WBox ?_;intros))
  cases hcm:decide (cmpI x y=0)
  ·rw [hcm] at hstep
   repeat (refine s154_L13u ?_;intros)
   (refine JX.ret1 Tryz.results154 (ResV.tmp rfl) (List.nil_sublist _) ?_)
   exact ⟨rfl,by unfold cfW;rw [hii.trans hstep];rfl⟩
  ·rw [hcm] at hstep
   repeat (refine s154_L13u ?_;intros)
   exact JX.roundF (i+1) (by exact lea) ⟨by omega,(hii.trans hstep)⟩ (by (try dsimp only);omega) rfl (by exact sba) (by exact sba)
 ·have hc3:3≤i:=dnlt hc
  have h0:cfW a b=0:=by
   unfold cfW
   rw [hii,List.drop_eq_nil_of_le (by show 3≤i;exact hc3)];rfl
  repeat (refine s154_L13u ?_;intros)
  (refine JX.ret1 Tryz.results154 (ResV.tmp rfl) (List.nil_sublist _) ?_)
  exact ⟨rfl,by rw [h0]⟩
theorem p13_by {S:SHeap} {v:Value} (hv:(rSlice 8 rVal).V S v keysF):FnR Tryz.prog 80 #[v] S (fun w S'=>∃ q,w=.func (.func 154) #[] #[.pointer (some q)]∧PtrTo S' q (rSlice 8 rVal) keysF):=by
 obtain ⟨a,c,rfl,_⟩:=V_slice.1 hv
 (refine Fn.enter (args:=[.slice a keysF.length c]) Tryz.func80 rfl Tryz.ntmps80 rfl ?_;intro w0)
 repeat (first|(refine Walk ?_;intros)|refine JC.block ?_|(refine WBox ?_;intros))
 (refine JX.ret1 Tryz.results80 (ResV.tmp rfl) (List.nil_sublist _) ?_)
 exact ⟨rfl,_,rfl,by exact pta⟩
end Go.Dr
namespace Go.Dr
open Go.Proofs
set_option maxRecDepth 20000
set_option maxHeartbeats 2000000
set_option linter.unusedSimpArgs false
set_option linter.unusedVariables false
instance:Zero Tryz.prog 137 .nilFunc:=⟨by kernel_rfl⟩
theorem p13_Why {S:SHeap} {u v w:Value} {s:Snap} {p:List Int} {g:Pol} (i:Int) (hu:rSnap.V S u s) (hv:(rSlice 8 rI64).V S v p) (hw:rPol.V S w g):FnV Tryz.prog 31 #[u,v,w,.int .i64 i] S (.int .i64 (whyV s p g i)):=by
 obtain ⟨pa,pc,rfl,_⟩:=V_slice.1 hv
 (refine Fn.enter (args:=[u,.slice pa p.length pc,w,.int .i64 i]) Tryz.func31 rfl Tryz.ntmps31 rfl ?_;intro w0)
 repeat (first|(refine Walk ?_;intros)|refine JC.block ?_|(refine WBox ?_;intros))
 refine JO.eff rfl rfl rfl (JEff.callR rfl (p13_at (s:=s) (p:=p) (g:=g) (by exact vta) (by exact vta) (by exact vta)) rfl ?_);intro w2 S2 hl2 hw2
 rcases hw2 with ⟨hm,rfl⟩|⟨hm,q,rfl,hq⟩
 ·repeat (first|(refine Walk ?_;intros)|refine JC.block ?_|(refine WBox ?_;intros))
  (refine JX.ret1 Tryz.results31 (ResV.tmp rfl) (List.nil_sublist _) ?_)
  exact ⟨rfl,by unfold whyV;rw [hm,if_neg (by simp)]⟩
 ·repeat (first|(refine Walk ?_;intros)|refine JC.block ?_|(refine JO.eff rfl rfl rfl (JEff.callV rfl (p13_why (hq.mono (by exact lea)) hm) rfl ?_);intro _ _)|(refine WBox ?_;intros))
  (refine JX.ret1 Tryz.results31 (ResV.tmp rfl) (List.nil_sublist _) ?_)
  exact ⟨rfl,rfl⟩
theorem p13_Pods {S:SHeap} {u v w:Value} {s:Snap} {p:List Int} {g:Pol} (hu:rSnap.V S u s) (hv:(rSlice 8 rI64).V S v p) (hw:rPol.V S w g):FnL Tryz.prog 27 #[u,v,w] S 24 rWrong (wrongsV s p g):=by
 obtain ⟨pa,pc,rfl,_⟩:=V_slice.1 hv
 (refine Fn.enter (args:=[u,.slice pa p.length pc,w]) Tryz.func27 rfl Tryz.ntmps27 rfl ?_;intro w0)
 repeat (first|(refine Walk ?_;intros)|refine JC.block ?_|(refine WBox ?_;intros))
 refine JO.eff rfl rfl rfl (JEff.callR rfl (p13_at (s:=s) (p:=p) (g:=g) (by exact vta) (by exact vta) (by exact vta)) rfl ?_);intro w2 S2 hl2 hw2
 rcases hw2 with ⟨hm,rfl⟩|⟨hm,q,rfl,hq⟩
 ·repeat (first|(refine Walk ?_;intros)|refine JC.block ?_|(refine WBox ?_;intros))
  (refine JX.ret1 Tryz.results27 (ResV.tmp rfl) (List.nil_sublist _) ?_)
  exact ⟨rfl,by unfold wrongsV;rw [hm,if_neg (by simp)];exact V_nil⟩
 have hm0:=hm
 simp only [mayD,Bool.and_eq_true,decide_eq_true_eq] at hm0
 obtain ⟨hok,hg⟩:=hm0
 obtain ⟨hs0,hpl,hpl24,hnl,hol,hpr,_⟩:=placed_hyps hok
 repeat (first|(refine Walk ?_;intros)|refine JC.block ?_|(refine WBox ?_;intros))
 (first|refine JC.newRow 60 (Rp.sz rWrong) ?_|refine JO.newRow 60 (Rp.sz rWrong) ?_|refine JX.newRow 60 (Rp.sz rWrong) ?_)
 refine JC.loopF (σ:=Nat × Option Addr × Nat × List Value) [(7,_),(21,_),(22,_)] (fun q=>[(6,.slice q.2.1 ((fun k=>goK s p g k) q.1).length q.2.2.1),(23,((fun k=>.int .i64 k) q.1))]) (fun q=>[.row w0.heap.size 60 (Rp.sz rWrong) (.slice q.2.1 ((fun k=>goK s p g k) q.1).length q.2.2.1) ((fun k=>goK s p g k) q.1).length (flatCells q.2.2.2)]) (fun Sk q=>q.1≤p.length∧allV rWrong Sk q.2.2.2 ((fun k=>goK s p g k) q.1)∧((fun k=>True) q.1)) (fun q=>p.length - q.1) (0,none,0,[]) (by exact sba) (by exact sba) (by first|rfl|simp) (⟨Nat.zero_le _,trivial,trivial⟩) ?_;rintro Sk ⟨k,rak,rck,vsk⟩ hlk ⟨hk,hvk,hik⟩;(try dsimp only at hk hvk hik);dsimp only [List.cons_append,List.nil_append]
 have hfl:=goK_len s p g k
 repeat (first|(refine Walk ?_;intros)|refine JC.block ?_|(refine WBox ?_;intros))
 refine JC.cond rfl (fun hc2=>?_) (fun hc2=>?_)
 ·have hk':=dlt hc2
  obtain ⟨x,hx,_⟩:=drop_at hk'
  have hx0:=at0_some hx
  have hst:=goK_step s p g k
  have hwr:=whyV_rng s p g k
  have hxp:=hpr x (List.mem_of_getElem? hx)
  repeat (first|(refine Walk ?_;intros)|refine JC.block ?_|(refine JO.eff rfl rfl rfl (JEff.callV rfl (p13_why (hq.mono (by exact lea)) hm) rfl ?_);intro _ _)|(refine WBox ?_;intros))
  by_cases hf:whyV s p g k=0
  ·rw [if_pos hf,List.append_nil] at hst
   rw [decide_eq_true hf]
   repeat (first|(refine Walk ?_;intros)|refine JC.block ?_|(refine WBox ?_;intros))
   exact JX.roundF (k+1,rak,rck,vsk) (by exact lea) ⟨by omega,by (try dsimp only);rw [hst];exact hvk.mono (by exact lea),(trivial)⟩ (by (try dsimp only);omega) (by (try dsimp only);rw [hst]) (by (try dsimp only);rw [hst];exact sba) (by exact sba)
  ·rw [if_neg hf,hx0] at hst
   rw [decide_eq_false hf]
   have hW:okW ⟨whyV s p g k,k,x⟩:=by unfold okW Rng;dsimp only;omega
   repeat (first|(refine Walk ?_;intros)|refine JC.block ?_|(refine WBox ?_;intros))
   (refine JO.eff rfl rfl rfl (JEff.build (rep:=rWrong) (ys:=[(⟨whyV s p g k,k,x⟩:Wrong)]) rfl rfl ⟨⟨(V_wr.2 ⟨rfl,hW⟩),nna⟩,trivial⟩ rfl rfl rfl rfl ?_);intro bb hbb hvv);(repeat (first|(refine Walk ?_;intros)|refine JC.block ?_));(refine JO.eff rfl rfl rfl (JEff.appendL (rep:=rWrong) rfl rfl rfl rfl (List.Perm.swap _ _ _) (by exact hvv.flat) (by intro c hc;exact flat_one (fun v hv=>(hvv.size v hv).2) c hc) (by first|omega|(unfold big;omega)) (by unfold big;omega) (by first|exact rowT_ok|(intro l hl;cases hl)) rfl ?_);intro a2 c2;clear hvv hbb)
   repeat (first|(refine Walk ?_;intros)|refine JC.block ?_|(refine WBox ?_;intros))
   exact JX.roundF (k+1,a2,c2,vsk++[(.agg (encW ⟨whyV s p g k,k,x⟩).toArray)]) (by exact lea) ⟨by omega,by (try dsimp only);rw [hst];exact allV_add (by exact lea) hvk (V_wr.2 ⟨rfl,hW⟩) nna,(trivial)⟩ (by (try dsimp only);omega) (by (try dsimp only);rw [hst];simp [flat_append,flatCells,encW,Value.cells]) (by (try dsimp only);rw [hst];simp only [List.length_append,List.length_cons,List.length_nil];exact sba) (by exact sba)
 ·have hk':=dnlt hc2
  obtain rfl:k=p.length:=by omega
  have hwv:wrongsV s p g=sortW (goK s p g p.length):=by unfold wrongsV;rw [if_pos hm]
  obtain ⟨d,hd,rfl⟩:=allV_wr hvk
  rw [hwv,← hd]
  rw [← hd] at hfl
  rw [List.length_map] at hfl
  repeat (first|(refine Walk ?_;intros)|refine JC.block ?_|(refine WBox ?_;intros))
  by_cases h0:d=[]
  ·subst h0
   (refine JO.eff rfl rfl rfl (JEff.buildS (bt:=8) (rep:=rVal) (ys:=keysF) rfl rfl (⟨⟨⟨[_],⟨rfl,rfl⟩,rfl⟩,nna⟩,⟨⟨[_],⟨rfl,rfl⟩,rfl⟩,nna⟩,⟨⟨[_],⟨rfl,rfl⟩,rfl⟩,nna⟩,trivial⟩) rfl rfl rfl (by decide) rfl ?_);intro S6 a6 hl6 hV6)
   refine JO.eff rfl rfl rfl (JEff.callR rfl (p13_by hV6) rfl ?_);intro w7 S7 hl7 hw7
   obtain ⟨q7,rfl,hq7⟩:=hw7
   repeat (first|(refine Walk ?_;intros)|refine JC.block ?_|(refine JO.eff rfl rfl rfl (JEff.callV rfl (p_SortWrong0 _ _ _) rfl ?_);intro _ _)|(refine WBox ?_;intros))
   (refine JX.ret1 Tryz.results27 (ResV.tmp rfl) (List.nil_sublist _) ?_)
   exact ⟨rfl,by simpa [sortW] using (V_slice.2 ⟨rak,rck,rfl,by simp,by simp,by simp,by simp⟩:(rSlice 24 rWrong).V _ (.slice rak ([]:List Wrong).length rck) [])⟩
  ·have hpos:=List.length_pos_iff.2 h0
   refine JO.rowBlkR (by rw [List.length_map];exact hpos) (fun b tl hab hbb hnc=>?_)
   subst hab
   rw [List.length_map] at hnc
   (refine JO.eff rfl rfl rfl (JEff.buildS (bt:=8) (rep:=rVal) (ys:=keysF) rfl rfl (⟨⟨⟨[_],⟨rfl,rfl⟩,rfl⟩,nna⟩,⟨⟨[_],⟨rfl,rfl⟩,rfl⟩,nna⟩,⟨⟨[_],⟨rfl,rfl⟩,rfl⟩,nna⟩,trivial⟩) rfl rfl rfl (by decide) rfl ?_);intro S6 a6 hl6 hV6)
   refine JO.eff rfl rfl rfl (JEff.callR rfl (p13_by hV6) rfl ?_);intro w7 S7 hl7 hw7
   obtain ⟨q7,rfl,hq7⟩:=hw7
   refine JO.eff rfl rfl rfl (JEff.callM (Mc:=[.blk b (.cells (cellsR (d.map (fun x=>Value.agg (encW x.1).toArray)) tl) 60 (0,0))]) (Mr:=[]) rfl (List.Perm.refl _) (mayAll rfl) (p_SortWrong (α:=WrD) (fun x=>encW x.1) (fun _=>rfl) (by intro x v hv;simp only [encW,List.mem_cons,List.not_mem_nil,or_false] at hv;rcases hv with rfl|rfl|rfl<;>rfl) (fun x y=>cfW x.1 y.1) swoW totW 154 #[.pointer (some q7)] (enters_of Tryz.func154 (by kernel_rfl) rfl) d (List.length_map _) (by rw [List.length_map];omega) (fun x y=>p13_by1 hq7 x.2 y.2)) rfl ?_)
   intro w8 S8 M8 hl8 hw8
   obtain ⟨rfl,rfl,rfl⟩:=hw8
   dsimp only [List.cons_append,List.nil_append]
   refine JO.freeze hbb (by intro l hl;cases hl) (fun S9 hl9 hS9=>?_)
   repeat (first|(refine Walk ?_;intros)|refine JC.block ?_|(refine WBox ?_;intros))
   (refine JX.ret1 Tryz.results27 (ResV.tmp rfl) (List.nil_sublist _) ?_)
   have hV:=blk_sliceR (S:=S9) (rep:=rWrong) (bt:=24) (allV_wr' (S:=S9) (d.mergeSort fun x y=>!(ltOf (fun x y:WrD=>cfW x.1 y.1)) y x)) (SHeap.le.refl S9) hS9 (n:=(d.map Subtype.val).length) (c:=rck) (by simp [List.length_mergeSort]) (by rw [List.length_map];exact hnc) (by rw [List.length_map];unfold big;omega) (by rw [List.length_map];unfold big;omega)
   rw [sortW_map] at hV
   exact ⟨rfl,hV⟩
theorem s29_L13v {P K:Prop} (k:K) (h:Goal K→P:=by
 intro zk
 (first|refine Walk ?_|refine JC.block ?_|(refine JO.eff rfl rfl rfl (JEff.callL rfl (p13_Pods (by exact vta) (by exact vta) (by exact vta)) rfl ?_);intro zqa zqb zqc zqd zqe zqf)|(refine WBox ?_))
 (repeat (first|revert zqg|revert zqf|revert zqe|revert zqd|revert zqc|revert zqb|revert zqa))
 exact zk.k):P:=h ⟨k⟩
theorem p13_Fine {S:SHeap} {u v w:Value} {s:Snap} {p:List Int} {g:Pol} (hu:rSnap.V S u s) (hv:(rSlice 8 rI64).V S v p) (hw:rPol.V S w g):FnV Tryz.prog 29 #[u,v,w] S (.bool (fineV s p g)):=by
 obtain ⟨pa,pc,rfl,_⟩:=V_slice.1 hv
 (refine Fn.enter (args:=[u,.slice pa p.length pc,w]) Tryz.func29 rfl Tryz.ntmps29 rfl ?_;intro w0)
 repeat (refine s29_L13v ?_;intros)
 refine JO.eff rfl rfl rfl (JEff.callR rfl (p13_at (s:=s) (p:=p) (g:=g) (by exact vta) (by exact vta) (by exact vta)) rfl ?_);intro w2 S2 hl2 hw2
 rcases hw2 with ⟨hm,rfl⟩|⟨hm,q,rfl,hq⟩
 ·repeat (refine s29_L13v ?_;intros)
  (refine JX.ret1 Tryz.results29 (ResV.tmp rfl) (List.nil_sublist _) ?_)
  exact ⟨rfl,by unfold fineV;rw [hm];rfl⟩
 ·repeat (refine s29_L13v ?_;intros)
  (refine JX.ret1 Tryz.results29 (ResV.tmp rfl) (List.nil_sublist _) ?_)
  exact ⟨rfl,by unfold fineV;rw [hm];simp⟩
end Go.Dr
namespace Go.Dr
def noNr13:Near:=⟨noS,[]⟩
def ex13:Snap:=⟨[⟨⟨#[97]⟩,[100,100,0,0,0],[],[],false,false⟩,⟨⟨#[98]⟩,[100,0,0,0,0],[],[⟨⟨#[107]⟩,⟨#[118]⟩⟩],false,false⟩],
 [⟨⟨#[112]⟩,noS,[30,10,0,0,0],[],[],[],noNr13,noNr13,noS⟩,⟨⟨#[113]⟩,noS,[90,1,0,0,0],[],[⟨1,⟨#[110,111,110,101]⟩,⟨#[49]⟩⟩],[],noNr13,noNr13,noS⟩],[]⟩
def pol0 (on:Int):Pol:=⟨[0,0],[0,0],on,[],0,0,false⟩
def polB1:Pol:=⟨[0,0],[100,0],0,[⟨#[98]⟩],0,0,false⟩
def polA1:Pol:=⟨[0,0],[0,0],0,[⟨#[97]⟩],0,0,false⟩
theorem wrongs_is {s:Snap} {p:List Int} {g:Pol} {m:List Wrong} (hm:mayD s p g=true) (h:m.isPerm (goK s p g p.length)=true) (hs:m.Pairwise (fun a b=>ltW b a=false)):wrongsV s p g=m:=by
 unfold wrongsV
 rw [if_pos hm]
 exact (sortW_eq (List.isPerm_iff.1 h) hs).symm
theorem f13_1:wrongsV ex13 [1,1] (pol0 0)=[⟨2,1,1⟩]:=wrongs_is (by decide +kernel) (by decide +kernel) (by decide +kernel)
theorem f13_2:wrongsV ex13 [1,1] (pol0 4)=[⟨2,0,1⟩,⟨2,1,1⟩]:=wrongs_is (by decide +kernel) (by decide +kernel) (by decide +kernel)
theorem f13_3:wrongsV ex13 [1,0] polB1=[⟨1,0,1⟩,⟨2,1,0⟩]:=wrongs_is (by decide +kernel) (by decide +kernel) (by decide +kernel)
theorem f13_4:whyV ex13 [0,-1] polA1 1=0:=by decide +kernel
def trip (l:List Wrong):List Int:=l.flatMap (fun x=>[x.why,x.pod,x.node])
theorem trip_len:∀ l:List Wrong,(trip l).length=3*l.length
 | []=>rfl
 | x::l=>by unfold trip;rw [List.flatMap_cons,List.length_append];have:=trip_len l;unfold trip at this;rw [this];simp;omega
theorem trip_at:∀ (l:List Wrong) (i:Nat) (x:Wrong),l[i]?=some x→(trip l)[3*i]?=some x.why∧(trip l)[3*i+1]?=some x.pod∧(trip l)[3*i+2]?=some x.node
 | y::l,0,x,h=>by
  rw [List.getElem?_cons_zero,Option.some.injEq] at h
  subst h
  exact ⟨rfl,rfl,rfl⟩
 | y::l,i+1,x,h=>by
  rw [List.getElem?_cons_succ] at h
  obtain ⟨h1,h2,h3⟩:=trip_at l i x h
  unfold trip at *
  rw [List.flatMap_cons,show 3*(i+1)=3*i+3 from by omega]
  refine ⟨?_,?_,?_⟩
  ·rw [List.getElem?_append_right (by simp)];simpa using h1
  ·rw [show 3*i+3+1=3*i+1+3 from by omega,List.getElem?_append_right (by simp)];simpa using h2
  ·rw [show 3*i+3+2=3*i+2+3 from by omega,List.getElem?_append_right (by simp)];simpa using h3
end Go.Dr
namespace Go.Dr
def whereV (s:Snap) (x:Pod):Int:=if x.on=noS then -1 else idxS (nNames s) x.on
def placeV (s:Snap):List Int:=s.pods.map (whereV s)
theorem whereV_rng (s:Snap) (x:Pod):-1≤whereV s x∧whereV s x < s.nodes.length:=by
 unfold whereV
 split
 ·omega
 ·have h1:=idxF_lt (fun y=>decide (y=x.on)) (nNames s)
  have h2:=idxF_ge (fun y=>decide (y=x.on)) (nNames s)
  have h3:(nNames s).length=s.nodes.length:=by unfold nNames;rw [List.length_map]
  rw [h3] at h1
  exact ⟨h2,h1⟩
end Go.Dr
namespace Go.Dr
open Go.Proofs
set_option maxRecDepth 20000
set_option maxHeartbeats 2000000
set_option linter.unusedSimpArgs false
set_option linter.unusedVariables false
theorem snap_small {S:SHeap} {u:Value} {s:Snap} (hu:rSnap.V S u s):s.nodes.length≤1300000000000∧s.pods.length≤1300000000000∧s.owners.length≤3000000000000:=by
 obtain ⟨cs,rfl,hR⟩:=V_agg rfl hu
 obtain ⟨_,_,rfl,⟨a1,n1,c1,rfl,e1,k1,h1,_⟩,_,_,rfl,⟨a2,n2,c2,rfl,e2,k2,h2,_⟩,⟨a3,n3,c3,rfl,e3,k3,h3,_⟩⟩:=hR
 unfold big at h1 h2 h3
 dsimp only at e1 e2 e3
 omega
theorem p5_each_PI {S:SHeap} {u:Value} {l:List Pod} {f:FuncId} {fs cs:Array Value} (g:Pod→Int) (hn:l.length≤1300000000000) (hu:(rSlice 240 rPod).V S u l) (hE:Ent Tryz.prog f) (hV:∀ S v x,(rPod).V S v x→(rI64).V S (Value.int .i64 (g x)) (g x))
  (hf:∀ S',S.le S'→∀ u x,(rPod).V S' u x→FnV Tryz.prog f (fs.toList++[u]++cs.toList).toArray S' (Value.int .i64 (g x))):FnL Tryz.prog 97 #[u,.func (.func f) fs cs] S 8 rI64 (l.map g):=by
 obtain ⟨a,c,rfl,_,_,hb,_⟩:=V_slice.1 hu
 unfold big at hb
 (refine Fn.enter (args:=[.slice a l.length c,.func (.func f) fs cs]) Tryz.func97 rfl Tryz.ntmps97 rfl ?_;intro w0)
 repeat (first|(refine Walk ?_;intros)|refine JC.block ?_|(refine WNew ?_;intros)|(refine WPut ?_;intros))
 refine JO.eff rfl rfl rfl (JEff.makeRow (rep:=rI64) rfl rfl (by unfold big;omega) (by unfold big;omega) rfl ?_);intro a0
 repeat (first|(refine Walk ?_;intros)|refine JC.block ?_|(refine WNew ?_;intros)|(refine WPut ?_;intros))
 refine JC.loopF (σ:=Nat × Option Addr × Nat × List Value) [(1,_),(11,_),(12,_)] (fun q=>[(5,.slice q.2.1 ((fun k=>(l.take k).map g) q.1).length q.2.2.1),(13,((fun k=>.int .i64 k) q.1))]) (fun q=>[.row w0.heap.size 3 (Rp.sz rI64) (.slice q.2.1 ((fun k=>(l.take k).map g) q.1).length q.2.2.1) ((fun k=>(l.take k).map g) q.1).length (flatCells q.2.2.2)]) (fun Sk q=>q.1≤l.length∧allV rI64 Sk q.2.2.2 ((fun k=>(l.take k).map g) q.1)∧((fun k=>True) q.1)) (fun q=>l.length - q.1) (0,a0,l.length,[]) (by exact sba) (by exact sba) (by first|rfl|simp) (⟨Nat.zero_le _,trivial,trivial⟩) ?_;rintro Sk ⟨k,rak,rck,vsk⟩ hlk ⟨hk,hvk,hik⟩;(try dsimp only at hk hvk hik);dsimp only [List.cons_append,List.nil_append]
 have hkl:((l.take k).map g).length≤k:=by rw [List.length_map,List.length_take];omega
 repeat (first|(refine Walk ?_;intros)|refine JC.block ?_|(refine WNew ?_;intros)|(refine WPut ?_;intros))
 refine JC.cond rfl (fun hc=>?_) (fun hc=>?_)
 ·have hk':=dlt hc
  obtain ⟨x,hx,_⟩:=drop_at hk'
  have hst:(l.take (k+1)).map g=(l.take k).map g++[g x]:=by rw [List.take_add_one,hx];simp
  repeat (first|(refine Walk ?_;intros)|refine JC.block ?_|(refine WNew ?_;intros)|(refine WPut ?_;intros))
  have hvx:=(by assumption:(rPod).V _ _ x)
  (refine JO.eff rfl rfl rfl (JEff.dynV rfl (by assumption) rfl ((hf _ (by exact lea) _ x (by exact vta))) rfl ?_);intro _ _)
  repeat (first|(refine Walk ?_;intros)|refine JC.block ?_|(refine WNew ?_;intros)|(refine WPut ?_;intros))
  (refine JO.eff rfl rfl rfl (JEff.build (rep:=rI64) (ys:=[g x]) rfl rfl ⟨⟨((hV _ _ x hvx).mono (by exact lea)),nna⟩,trivial⟩ rfl rfl rfl rfl ?_);intro bb hbb hvv);(repeat (first|(refine Walk ?_;intros)|refine JC.block ?_));(refine JO.eff rfl rfl rfl (JEff.appendL (rep:=rI64) rfl rfl rfl rfl (List.Perm.swap _ _ _) (by exact hvv.flat) (by intro c hc;exact flat_one (fun v hv=>(hvv.size v hv).2) c hc) (by first|omega|(unfold big;omega)) (by unfold big;omega) (by first|exact rowT_ok|(intro l hl;cases hl)) rfl ?_);intro a2 c2;clear hvv hbb)
  repeat (first|(refine Walk ?_;intros)|refine JC.block ?_|(refine WNew ?_;intros)|(refine WPut ?_;intros))
  exact JX.roundF (k+1,a2,c2,vsk++[((Value.int .i64 (g x)))]) (by exact lea) ⟨by omega,by (try dsimp only);rw [hst];exact allV_add (by exact lea) hvk ((hV _ _ x hvx).mono (by exact lea)) nna,(trivial)⟩ (by (try dsimp only);omega) (by (try dsimp only);rw [hst];(simp [flat_append]<;>omega)) (by (try dsimp only);rw [hst];simp only [List.length_append,List.length_cons,List.length_nil];exact sba) (by exact sba)
 ·have hk':=dnlt hc
  rw [List.take_of_length_le hk'] at hvk hkl ⊢
  repeat (first|(refine Walk ?_;intros)|refine JC.block ?_|(refine WNew ?_;intros)|(refine WPut ?_;intros))
  refine JX.freezeRow (rep:=rI64) (bt:=8) hvk rfl (by unfold big;rw [List.length_map];omega) (by unfold big;rw [List.length_map];omega) (fun S9 hl9 hV9=>?_)
  (refine JX.ret1 Tryz.results97 (ResV.tmp rfl) (List.nil_sublist _) ?_)
  exact ⟨rfl,hV9⟩
theorem s98_L5z {P K:Prop} (k:K) (h:Goal K→P:=by
 intro zk
 (first|refine Walk ?_|refine JC.block ?_|(refine JO.eff rfl rfl rfl (JEff.callV rfl (p5_Node _ (by exact vta) (by omega)) rfl ?_);intro zqa zqb)|(refine WBox ?_))
 (repeat (first|revert zqg|revert zqf|revert zqe|revert zqd|revert zqc|revert zqb|revert zqa))
 exact zk.k):P:=h ⟨k⟩
theorem p5_place1 {S:SHeap} {u:Value} {x:Pod} {s:Snap} {q:Addr} (hu:rPod.V S u x) (hq:PtrTo S q rSnap s):FnV Tryz.prog 98 #[u,.pointer (some q)] S (.int .i64 (whereV s x)):=by
 have hnl:s.nodes.length≤1300000000000:=by
  obtain ⟨cs,hR,_⟩:=hq
  exact (snap_small (Rp.val_V hR)).1
 (refine Fn.enter (args:=[u,.pointer (some q)]) Tryz.func98 rfl Tryz.ntmps98 rfl ?_;intro w0)
 repeat (refine s98_L5z ?_;intros)
 by_cases h:x.on=noS
 ·rw [decide_eq_true (show x.on=⟨#[]⟩ from h)]
  repeat (refine s98_L5z ?_;intros)
  (refine JX.ret1 Tryz.results98 (ResV.tmp rfl) (List.nil_sublist _) ?_)
  exact ⟨rfl,by unfold whereV;rw [if_pos h]⟩
 ·rw [decide_eq_false (show ¬ x.on=⟨#[]⟩ from h)]
  repeat (refine s98_L5z ?_;intros)
  (refine JX.ret1 Tryz.results98 (ResV.tmp rfl) (List.nil_sublist _) ?_)
  exact ⟨rfl,by unfold whereV;rw [if_neg h]⟩
theorem p5_Placement {S:SHeap} {u:Value} {s:Snap} (hu:rSnap.V S u s):FnL Tryz.prog 35 #[u] S 8 rI64 (placeV s):=by
 obtain ⟨hn,hp,_⟩:=snap_small hu
 (refine Fn.enter (args:=[u]) Tryz.func35 rfl Tryz.ntmps35 rfl ?_;intro w0)
 repeat (first|(refine Walk ?_;intros)|refine JC.block ?_|(refine WBox ?_;intros))
 have hq:=(by assumption:PtrTo _ _ rSnap s)
 (refine JO.eff rfl rfl rfl (JEff.callR rfl (p5_each_PI (l:=s.pods) (whereV s) hp (by exact vta) inferInstance (fun S v x _=>V_i64.2 ⟨rfl,by have:=whereV_rng s x;unfold Rng;omega⟩) (fun S' h u x hx=>p5_place1 hx (hq.mono (by exact lea)))) rfl ?_);intro w S2 hl2 hV)
 repeat (first|(refine Walk ?_;intros)|refine JC.block ?_|(refine WBox ?_;intros))
 (refine JX.ret1 Tryz.results35 (ResV.tmp rfl) (List.nil_sublist _) ?_)
 exact ⟨rfl,hV⟩
end Go.Dr
namespace Go.Dr
open Go.Proofs
set_option maxRecDepth 20000
set_option maxHeartbeats 2000000
set_option linter.unusedSimpArgs false
set_option linter.unusedVariables false
theorem V_nodeG {S:SHeap} {n:ByteArray} {c d:Int} {a:Option Addr} {m k:Nat} {ts:List Label} (hn:n.size≤big) (hc:Rng c) (hd:Rng d) (ht:(rSlice 32 rLabel).V S (.slice a m k) ts) :
  rNode.V S (.agg (flatCells [.string n,.agg (flatCells [.int .i64 c,.int .i64 d,.int .i64 0,.int .i64 0,.int .i64 0]).toArray,.slice none 0 0,.slice a m k,.bool false,.bool false]).toArray) ⟨n,[c,d,0,0,0],[],ts,false,false⟩:=
 ⟨[_,_,_,_,_,_,_,_,_,_],map_R (seq1 (R_str hn) (seq5 (R_vec (by simp [Rng] at *;omega)) (seq1 (V_nil.one rfl) (seq1 (ht.one rfl) (seq1 R_bool R_bool))))),rfl⟩
theorem V_podG {S:SHeap} {n:ByteArray} {c d:Int} {a:Option Addr} {m k:Nat} {ts:List Term} (hn:n.size≤big) (hc:Rng c) (hd:Rng d) (ht:(rSlice 40 rTerm).V S (.slice a m k) ts) :
  rPod.V S (.agg (flatCells [.string n,.string ⟨#[]⟩,.agg (flatCells [.int .i64 c,.int .i64 d,.int .i64 0,.int .i64 0,.int .i64 0]).toArray,.slice none 0 0,.slice a m k,.slice none 0 0,.agg #[.string ⟨#[]⟩,.slice none 0 0],.agg #[.string ⟨#[]⟩,.slice none 0 0],.string ⟨#[]⟩]).toArray) ⟨n,noS,[c,d,0,0,0],[],ts,[],noNr13,noNr13,noS⟩:=
 ⟨[_,_,_,_,_,_,_,_,_,_,_,_,_,_,_],map_R (seq1 (R_str hn) (seq1 (R_str sz0) (seq5 (R_vec (by simp [Rng] at *;omega)) (seq1 (V_nil.one rfl) (seq1 (ht.one rfl) (seq1 (V_nil.one rfl)
  (seq2 (map_R (seq1 (R_str sz0) (V_nil.one rfl))) (seq2 (map_R (seq1 (R_str sz0) (V_nil.one rfl))) (R_str sz0))))))))),rfl⟩
theorem V_termG {S:SHeap} {k:Int} {a b:ByteArray} (h0:Rng k) (h1:a.size≤big) (h2:b.size≤big):rTerm.V S (.agg (flatCells [.int .i64 k,.string a,.string b]).toArray) ⟨k,a,b⟩:=⟨_,map_R (seq1 ((V_i64.2 ⟨rfl,h0⟩).one rfl) (seq1 (R_str h1) (R_str h2))),rfl⟩
theorem q13_example {S:SHeap}:FnR Tryz.prog 95 #[] S (fun w S'=>rSnap.V S' w ex13):=by
 (refine Fn.enter (args:=[]) Tryz.func95 rfl Tryz.ntmps95 rfl ?_;intro w0)
 repeat (first|(refine Walk ?_;intros)|refine JC.block ?_)
 (refine JO.eff rfl rfl rfl (JEff.alloc rfl ?_);intro rb hrb)
 repeat (first|(refine Walk ?_;intros)|refine JC.block ?_)
 (refine JO.eff rfl rfl rfl (JEff.buildS (bt:=32) (rep:=rLabel) (ys:=[(⟨⟨#[107]⟩,⟨#[118]⟩⟩:Label)]) rfl rfl (⟨⟨V_lab (by decide) (by decide),nna⟩,trivial⟩) rfl rfl rfl (by decide) rfl ?_);intro S2 a2 hl2 hV2)
 repeat (first|(refine Walk ?_;intros)|refine JC.block ?_)
 (refine JO.eff rfl rfl rfl (JEff.buildS (bt:=112) (rep:=rNode) (ys:=ex13.nodes) rfl rfl ⟨⟨V_nodeG (sz1 _) (by simp [Rng]) (by simp [Rng]) V_nil,nna⟩,⟨V_nodeG (sz1 _) (by simp [Rng]) (by simp [Rng]) hV2,nna⟩,trivial⟩ rfl rfl rfl (by decide) rfl ?_);intro S4 a4 hl4 hV4)
 repeat (first|(refine Walk ?_;intros)|refine JC.block ?_)
 (refine JO.eff rfl rfl rfl (JEff.buildS (bt:=40) (rep:=rTerm) (ys:=[(⟨1,⟨#[110,111,110,101]⟩,⟨#[49]⟩⟩:Term)]) rfl rfl (⟨⟨V_termG (by simp [Rng]) (by decide) (by decide),nna⟩,trivial⟩) rfl rfl rfl (by decide) rfl ?_);intro S5 a5 hl5 hV5)
 repeat (first|(refine Walk ?_;intros)|refine JC.block ?_)
 (refine JO.eff rfl rfl rfl (JEff.buildS (bt:=240) (rep:=rPod) (ys:=ex13.pods) rfl rfl ⟨⟨V_podG (sz1 _) (by simp [Rng]) (by simp [Rng]) V_nil,nna⟩,⟨V_podG (sz1 _) (by simp [Rng]) (by simp [Rng]) hV5,nna⟩,trivial⟩ rfl rfl rfl (by decide) rfl ?_);intro S6 a6 hl6 hV6)
 repeat (first|(refine Walk ?_;intros)|refine JC.block ?_)
 refine JO.eff rfl rfl rfl (JEff.storeW rfl rfl (V_snap (x:=ex13) (hV4.mono (by exact lea)) (hV6.mono (by exact lea)) V_nil) nna (List.Perm.refl _) rfl (by intro l hl;cases hl) ?_)
 refine JO.freezeV (V_snap (x:=ex13) (hV4.mono (by exact lea)) (hV6.mono (by exact lea)) V_nil) nna hrb (by intro l hl;cases hl) ?_;intro S11 hl11 hpo
 repeat (first|(refine Walk ?_;intros)|refine JC.block ?_)
 exact JX.retCell Tryz.results95 rfl hpo (List.nil_sublist _) (fun w hw=>⟨rfl,hw⟩)
theorem s96_L13l {P K:Prop} (k:K) (h:Goal K→P:=by
 intro zk
 (first|refine Walk ?_|refine JC.block ?_|refine JC.drawN 6 rfl [0,1,2,3,4,5,6,7,8,9,10,11,12,13,14,15,16,17,18,19,20,21,22] [0,1,2,3,4,5,6,7,8,9,10,11,12,13,14,15,16,17,18,19,20,21,22] Tryz_mixed (by decide +kernel) ?_)
 (repeat (first|revert zqg|revert zqf|revert zqe|revert zqd|revert zqc|revert zqb|revert zqa))
 exact zk.k):P:=h ⟨k⟩
theorem q13_told {S:SHeap} {u v:Value} {l:List Wrong} (hu:(rSlice 24 rWrong).V S u l) (hv:(rSlice 8 rI64).V S v (trip l)):FnV Tryz.prog 96 #[u,v] S (.bool true):=by
 obtain ⟨a,c,rfl,_,_,hb,_⟩:=V_slice.1 hu
 obtain ⟨a2,c2,rfl,_,_,hb2,_⟩:=V_slice.1 hv
 unfold big at hb hb2
 have hlen:=trip_len l
 (refine Fn.enter (args:=[.slice a l.length c,.slice a2 (trip l).length c2]) Tryz.func96 rfl Tryz.ntmps96 rfl ?_;intro w0)
 repeat (refine s96_L13l ?_;intros)
 rw [decide_eq_true (show 3*(l.length:Int)=(trip l).length by omega)]
 repeat (refine s96_L13l ?_;intros)
 refine JC.loopF0 [(0,_),(1,_)] (fun (i:Nat)=>[(5,.int .i64 i)]) (fun Si i=>i≤l.length∧(True)) (fun i=>l.length - i) 0 (by exact sba) (by exact sba) ⟨Nat.zero_le _,trivial⟩ ?_;intro Si i hli hii;obtain ⟨hi,hii⟩:=hii;(try dsimp only at hi hii);dsimp only [List.cons_append,List.nil_append]
 repeat (refine s96_L13l ?_;intros)
 refine JC.cond rfl (fun hc=>?_) (fun hc=>?_)
 ·have hk':=dlt hc
  obtain ⟨x,hx,_⟩:=drop_at hk'
  obtain ⟨t0,t1,t2⟩:=trip_at l i x hx
  have t0':(trip l)[(3*(i:Int)).toNat]?=some x.why:=by rw [show (3*(i:Int)).toNat=3*i by omega];exact t0
  have t1':(trip l)[(3*(i:Int)+1).toNat]?=some x.pod:=by rw [show (3*(i:Int)+1).toNat=3*i+1 by omega];exact t1
  have t2':(trip l)[(3*(i:Int)+2).toNat]?=some x.node:=by rw [show (3*(i:Int)+2).toNat=3*i+2 by omega];exact t2
  repeat (refine s96_L13l ?_;intros)
  have hwx:=(by assumption:rWrong.V _ _ x)
  have hokx:=(V_wr.1 hwx).2
  repeat (first|(refine Walk ?_;intros)|refine JC.block ?_|refine JC.drawN 6 rfl [0,1,2,3,4,5,6,7,8,9,10,11,12,13,14,15,16,17,18,19,20,21,22] [0,1,2,3,4,5,6,7,8,9,10,11,12,13,14,15,16,17,18,19,20,21,22] Tryz_mixed (by decide +kernel) ?_|refine JO.pure rfl rfl rfl (JPure.neR rfl hwx rfl ((V_wr (x:=x)).2 ⟨rfl,hokx⟩) rfl rfl ?_))
  rw [show (!decide (x=x))=false by simp]
  repeat (refine s96_L13l ?_;intros)
  exact JX.roundF (i+1) (by exact lea) ⟨by omega,(trivial)⟩ (by (try dsimp only);omega) rfl (by exact sba) (by exact sba)
 ·have hk':=dnlt hc
  repeat (refine s96_L13l ?_;intros)
  (refine JX.ret1 Tryz.results96 (ResV.tmp rfl) (List.nil_sublist _) ?_)
  exact ⟨rfl,rfl⟩
theorem V_polG {S:SHeap} {a b:Int} {on:Int} {p:Option Addr} {m k:Nat} {ds:List ByteArray} (ha:Rng a) (hb:Rng b) (hon:Rng on) (hd:(rSlice 16 rStr).V S (.slice p m k) ds) :
  rPol.V S (.agg #[.int .i64 0,.int .i64 0,.int .i64 a,.int .i64 b,.int .i64 on,.slice p m k,.int .i64 0,.int .i64 0,.bool false]) ⟨[0,0],[a,b],on,ds,0,0,false⟩:=
 ⟨[_,_,_,_,_,_,_,_,_],map_R (seq2 ⟨rfl,rfl,by simp [Rng]⟩ (seq2 ⟨rfl,rfl,by simp [Rng] at *;omega⟩ (seq1 ((V_i64.2 ⟨rfl,hon⟩).one rfl) (seq1 (hd.one rfl) (seq1 ((V_i64.2 ⟨rfl,by simp [Rng]⟩).one rfl) (seq1 ((V_i64.2 ⟨rfl,by simp [Rng]⟩).one rfl) R_bool)))))),rfl⟩
theorem w13_Pods {S:SHeap} {u v w:Value} {s:Snap} {p:List Int} {g:Pol} {l:List Wrong} (h:wrongsV s p g=l) (hu:rSnap.V S u s) (hv:(rSlice 8 rI64).V S v p) (hw:rPol.V S w g):FnL Tryz.prog 27 #[u,v,w] S 24 rWrong l:=by
 rw [← h];exact p13_Pods hu hv hw
theorem w13_Why {S:SHeap} {u v w:Value} {s:Snap} {p:List Int} {g:Pol} {i n:Int} (h:whyV s p g i=n) (hu:rSnap.V S u s) (hv:(rSlice 8 rI64).V S v p) (hw:rPol.V S w g):FnV Tryz.prog 31 #[u,v,w,.int .i64 i] S (.int .i64 n):=by
 rw [← h];exact p13_Why i hu hv hw
theorem n2 {S:SHeap} (a b:Int) (ha:Rng a:=by simp [Rng]) (hb:Rng b:=by simp [Rng]):allV rI64 S [.int .i64 a,.int .i64 b] [a,b]:=⟨⟨V_i64.2 ⟨rfl,ha⟩,nna⟩,⟨V_i64.2 ⟨rfl,hb⟩,nna⟩,trivial⟩
theorem s34_L13l {P K:Prop} (k:K) (h:Goal K→P:=by
 intro zk
 (first|refine Walk ?_|refine JC.block ?_|(refine JO.eff rfl rfl rfl (JEff.callL rfl (p13_Pods (by exact vta) (by exact vta) (by exact vta)) rfl ?_);intro zqa zqb zqc zqd zqe zqf)|(refine JO.eff rfl rfl rfl (JEff.callV rfl (p13_Why _ (by exact vta) (by exact vta) (by exact vta)) rfl ?_);intro zqa zqb)|(refine JO.eff rfl rfl rfl (JEff.callR rfl (q13_example) rfl ?_);intro zqa zqb zqc zqd)|(refine JO.eff rfl rfl rfl (JEff.callV rfl (q13_told (by exact vta) (by exact vta)) rfl ?_);intro zqa zqb)|(refine WNew ?_)|(refine WPut ?_))
 (repeat (first|revert zqg|revert zqf|revert zqe|revert zqd|revert zqc|revert zqb|revert zqa))
 exact zk.k):P:=h ⟨k⟩
theorem q13_works {S:SHeap}:FnV Tryz.prog 34 #[] S (.bool true):=by
 (refine Fn.enter (args:=[]) Tryz.func34 rfl Tryz.ntmps34 rfl ?_;intro w0)
 repeat (refine s34_L13l ?_;intros)
 (refine JO.eff rfl rfl rfl (JEff.buildS (bt:=8) (rep:=rI64) (ys:=[(1:Int),1]) rfl rfl (⟨⟨V_num,nna⟩,⟨V_num,nna⟩,trivial⟩) rfl rfl rfl (by decide) rfl ?_);intro S2 a2 hl2 hV2)
 repeat (first|(refine Walk ?_;intros)|refine JC.block ?_|(refine JO.eff rfl rfl rfl (JEff.callL rfl (w13_Pods f13_1 (by exact vta) hV2 (V_polG (by simp [Rng]) (by simp [Rng]) (by simp [Rng]) V_nil)) rfl ?_);intro _ _ _ _ _ _)|(refine JO.eff rfl rfl rfl (JEff.callL rfl (p13_Pods (by exact vta) (by exact vta) (by exact vta)) rfl ?_);intro _ _ _ _ _ _)|(refine JO.eff rfl rfl rfl (JEff.callV rfl (p13_Why _ (by exact vta) (by exact vta) (by exact vta)) rfl ?_);intro _ _)|(refine JO.eff rfl rfl rfl (JEff.callR rfl (q13_example) rfl ?_);intro _ _ _ _)|(refine JO.eff rfl rfl rfl (JEff.callV rfl (q13_told (by exact vta) (by exact vta)) rfl ?_);intro _ _)|(refine WNew ?_;intros)|(refine WPut ?_;intros))
 (refine JO.eff rfl rfl rfl (JEff.buildS (bt:=8) (rep:=rI64) (ys:=[(2:Int),1,1]) rfl rfl (⟨⟨V_num,nna⟩,⟨V_num,nna⟩,⟨V_num,nna⟩,trivial⟩) rfl rfl rfl (by decide) rfl ?_);intro S3 a3 hl3 hV3)
 repeat (first|(refine Walk ?_;intros)|refine JC.block ?_|(refine JO.eff rfl rfl rfl (JEff.callV rfl (q13_told (by exact vta) hV3) rfl ?_);intro _ _)|(refine JO.eff rfl rfl rfl (JEff.callL rfl (p13_Pods (by exact vta) (by exact vta) (by exact vta)) rfl ?_);intro _ _ _ _ _ _)|(refine JO.eff rfl rfl rfl (JEff.callV rfl (p13_Why _ (by exact vta) (by exact vta) (by exact vta)) rfl ?_);intro _ _)|(refine JO.eff rfl rfl rfl (JEff.callR rfl (q13_example) rfl ?_);intro _ _ _ _)|(refine JO.eff rfl rfl rfl (JEff.callV rfl (q13_told (by exact vta) (by exact vta)) rfl ?_);intro _ _)|(refine WNew ?_;intros)|(refine WPut ?_;intros))
 (refine JO.eff rfl rfl rfl (JEff.buildS (bt:=8) (rep:=rI64) (ys:=[(1:Int),1]) rfl rfl (⟨⟨V_num,nna⟩,⟨V_num,nna⟩,trivial⟩) rfl rfl rfl (by decide) rfl ?_);intro S4 a4 hl4 hV4)
 repeat (first|(refine Walk ?_;intros)|refine JC.block ?_|(refine JO.eff rfl rfl rfl (JEff.callL rfl (w13_Pods f13_2 (by exact vta) hV4 (V_polG (by simp [Rng]) (by simp [Rng]) (by simp [Rng]) V_nil)) rfl ?_);intro _ _ _ _ _ _)|(refine JO.eff rfl rfl rfl (JEff.callL rfl (p13_Pods (by exact vta) (by exact vta) (by exact vta)) rfl ?_);intro _ _ _ _ _ _)|(refine JO.eff rfl rfl rfl (JEff.callV rfl (p13_Why _ (by exact vta) (by exact vta) (by exact vta)) rfl ?_);intro _ _)|(refine JO.eff rfl rfl rfl (JEff.callR rfl (q13_example) rfl ?_);intro _ _ _ _)|(refine JO.eff rfl rfl rfl (JEff.callV rfl (q13_told (by exact vta) (by exact vta)) rfl ?_);intro _ _)|(refine WNew ?_;intros)|(refine WPut ?_;intros))
 (refine JO.eff rfl rfl rfl (JEff.buildS (bt:=8) (rep:=rI64) (ys:=[(2:Int),0,1,2,1,1]) rfl rfl (⟨⟨V_num,nna⟩,⟨V_num,nna⟩,⟨V_num,nna⟩,⟨V_num,nna⟩,⟨V_num,nna⟩,⟨V_num,nna⟩,trivial⟩) rfl rfl rfl (by decide) rfl ?_);intro S5 a5 hl5 hV5)
 repeat (first|(refine Walk ?_;intros)|refine JC.block ?_|(refine JO.eff rfl rfl rfl (JEff.callV rfl (q13_told (by exact vta) hV5) rfl ?_);intro _ _)|(refine JO.eff rfl rfl rfl (JEff.callL rfl (p13_Pods (by exact vta) (by exact vta) (by exact vta)) rfl ?_);intro _ _ _ _ _ _)|(refine JO.eff rfl rfl rfl (JEff.callV rfl (p13_Why _ (by exact vta) (by exact vta) (by exact vta)) rfl ?_);intro _ _)|(refine JO.eff rfl rfl rfl (JEff.callR rfl (q13_example) rfl ?_);intro _ _ _ _)|(refine JO.eff rfl rfl rfl (JEff.callV rfl (q13_told (by exact vta) (by exact vta)) rfl ?_);intro _ _)|(refine WNew ?_;intros)|(refine WPut ?_;intros))
 (refine JO.eff rfl rfl rfl (JEff.buildS (bt:=8) (rep:=rI64) (ys:=[(1:Int),0]) rfl rfl (⟨⟨V_num,nna⟩,⟨V_num,nna⟩,trivial⟩) rfl rfl rfl (by decide) rfl ?_);intro S6 a6 hl6 hV6)
 repeat (refine s34_L13l ?_;intros)
 (refine JO.eff rfl rfl rfl (JEff.buildS (bt:=16) (rep:=rStr) (ys:=[(⟨#[98]⟩:ByteArray)]) rfl rfl (⟨⟨V_str.2 ⟨rfl,sz1 _⟩,nna⟩,trivial⟩) rfl rfl rfl (by decide) rfl ?_);intro S7 a7 hl7 hV7)
 repeat (first|(refine Walk ?_;intros)|refine JC.block ?_|(refine JO.eff rfl rfl rfl (JEff.callL rfl (w13_Pods f13_3 (by exact vta) (hV6.mono (by exact lea)) (V_polG (by simp [Rng]) (by simp [Rng]) (by simp [Rng]) hV7)) rfl ?_);intro _ _ _ _ _ _)|(refine JO.eff rfl rfl rfl (JEff.callL rfl (p13_Pods (by exact vta) (by exact vta) (by exact vta)) rfl ?_);intro _ _ _ _ _ _)|(refine JO.eff rfl rfl rfl (JEff.callV rfl (p13_Why _ (by exact vta) (by exact vta) (by exact vta)) rfl ?_);intro _ _)|(refine JO.eff rfl rfl rfl (JEff.callR rfl (q13_example) rfl ?_);intro _ _ _ _)|(refine JO.eff rfl rfl rfl (JEff.callV rfl (q13_told (by exact vta) (by exact vta)) rfl ?_);intro _ _)|(refine WNew ?_;intros)|(refine WPut ?_;intros))
 (refine JO.eff rfl rfl rfl (JEff.buildS (bt:=8) (rep:=rI64) (ys:=[(1:Int),0,1,2,1,0]) rfl rfl (⟨⟨V_num,nna⟩,⟨V_num,nna⟩,⟨V_num,nna⟩,⟨V_num,nna⟩,⟨V_num,nna⟩,⟨V_num,nna⟩,trivial⟩) rfl rfl rfl (by decide) rfl ?_);intro S8 a8 hl8 hV8)
 repeat (first|(refine Walk ?_;intros)|refine JC.block ?_|(refine JO.eff rfl rfl rfl (JEff.callV rfl (q13_told (by exact vta) hV8) rfl ?_);intro _ _)|(refine JO.eff rfl rfl rfl (JEff.callL rfl (p13_Pods (by exact vta) (by exact vta) (by exact vta)) rfl ?_);intro _ _ _ _ _ _)|(refine JO.eff rfl rfl rfl (JEff.callV rfl (p13_Why _ (by exact vta) (by exact vta) (by exact vta)) rfl ?_);intro _ _)|(refine JO.eff rfl rfl rfl (JEff.callR rfl (q13_example) rfl ?_);intro _ _ _ _)|(refine JO.eff rfl rfl rfl (JEff.callV rfl (q13_told (by exact vta) (by exact vta)) rfl ?_);intro _ _)|(refine WNew ?_;intros)|(refine WPut ?_;intros))
 (refine JO.eff rfl rfl rfl (JEff.buildS (bt:=8) (rep:=rI64) (ys:=[(0:Int),-1]) rfl rfl (⟨⟨V_num,nna⟩,⟨V_num,nna⟩,trivial⟩) rfl rfl rfl (by decide) rfl ?_);intro S9 a9 hl9 hV9)
 repeat (refine s34_L13l ?_;intros)
 (refine JO.eff rfl rfl rfl (JEff.buildS (bt:=16) (rep:=rStr) (ys:=[(⟨#[97]⟩:ByteArray)]) rfl rfl (⟨⟨V_str.2 ⟨rfl,sz1 _⟩,nna⟩,trivial⟩) rfl rfl rfl (by decide) rfl ?_);intro S10 a10 hl10 hV10)
 repeat (first|(refine Walk ?_;intros)|refine JC.block ?_|(refine JO.eff rfl rfl rfl (JEff.callV rfl (w13_Why f13_4 (by exact vta) (hV9.mono (by exact lea)) (V_polG (by simp [Rng]) (by simp [Rng]) (by simp [Rng]) hV10)) rfl ?_);intro _ _)|(refine JO.eff rfl rfl rfl (JEff.callL rfl (p13_Pods (by exact vta) (by exact vta) (by exact vta)) rfl ?_);intro _ _ _ _ _ _)|(refine JO.eff rfl rfl rfl (JEff.callV rfl (p13_Why _ (by exact vta) (by exact vta) (by exact vta)) rfl ?_);intro _ _)|(refine JO.eff rfl rfl rfl (JEff.callR rfl (q13_example) rfl ?_);intro _ _ _ _)|(refine JO.eff rfl rfl rfl (JEff.callV rfl (q13_told (by exact vta) (by exact vta)) rfl ?_);intro _ _)|(refine WNew ?_;intros)|(refine WPut ?_;intros))
 (refine JX.ret1 Tryz.results34 (ResV.tmp rfl) (List.nil_sublist _) ?_)
 exact ⟨rfl,rfl⟩
end Go.Dr
namespace Go.Dr
theorem mid_mem {s:Snap} {p:List Int} {c:Clause} (hc:c∈allL s p) (h2:2≤c.kind) (h6:c.kind≤6):∃ t i:Nat,t < 5∧i < p.length∧c=⟨(t:Int)+2,i,0,(of8 s p ((t:Int)+2) i).1⟩∧(of8 s p ((t:Int)+2) i).2=true:=by
 unfold allL at hc
 split at hc
 ·unfold allC at hc
  simp only [List.mem_append] at hc
  rcases hc with ((hc|hc)|hc)|hc
  ·obtain ⟨n,k,_,_,rfl⟩:=mem_caps hc
   simp [capN] at h2
  ·obtain ⟨t,i,ht,hi,rfl,h⟩:=mem_kinds hc
   exact ⟨t,i,ht,hi,rfl,h⟩
  ·obtain ⟨o,_,rfl,_⟩:=mem_spread hc
   simp at h6
  ·obtain ⟨o,_,rfl⟩:=mem_min hc
   simp [minC1] at h6
 ·cases hc
theorem of8_no {s:Snap} {p:List Int} {kind:Int} {i:Nat} (h:(of8 s p kind i).2=false):of8 s p kind i=(0,false):=by
 unfold of8 at *
 repeat' split
 all_goals first
  | rfl
  | (simp_all;done)
theorem ofC_mid {s:Snap} {p:List Int} {t i:Nat} (hok:checkP s p=0) (ht:t < 5) (hi:i < p.length):ofC s p ((t:Int)+2) i 0=of8 s p ((t:Int)+2) i:=by
 unfold ofC
 cases hf:(allL s p).find? (isC ((t:Int)+2) i 0) with
 | none=>
  dsimp only
  cases h8:(of8 s p ((t:Int)+2) i).2 with
  | false=>exact (of8_no h8).symm
  | true=>
   have hm:=in_kinds hok ht hi h8
   have:=List.find?_eq_none.1 hf _ hm
   simp [isC] at this
 | some c=>
  dsimp only
  have hc:=List.mem_of_find?_eq_some hf
  have hp:=List.find?_some hf
  simp only [isC,Bool.and_eq_true,decide_eq_true_eq] at hp
  obtain ⟨t',i',ht',hi',e,h8⟩:=mid_mem hc (by omega) (by omega)
  rw [e] at hp
  dsimp only at hp
  have e1:t'=t:=by omega
  have e2:i'=i:=by omega
  subst e1;subst e2
  rw [e]
  dsimp only
  rw [← h8]
theorem of8_wait {s:Snap} {p:List Int} {kind:Int} {i:Nat} (h:at0 p i=-1) (hi:i < p.length):of8 s p kind i=(0,false):=by
 unfold of8
 have e:p[i]?=some (-1):=by
  rw [List.getElem?_eq_getElem hi]
  unfold at0 at h
  rw [List.getD_eq_getElem?_getD,List.getElem?_eq_getElem hi] at h
  simpa using h
 rw [e]
 cases s.pods[i]?<;>simp
end Go.Dr
namespace Go.Dr
theorem pol0_ok {on:Int} (h:0≤on∧on≤31):checkG (pol0 on)=0:=by
 unfold checkG
 rw [if_pos]
 simp [polB,polB0,loTo,loHi,drTo,withinB,pol0,at0,h]
theorem pol0_high {s:Snap} {p:List Int} {on x:Int}:¬ x∈highV s p (pol0 on):=by
 intro h
 unfold highV pickV at h
 split at h
 ·have:=(pickK_mem.1 h).2.2
  simp [highB,pol0,at0] at this
 ·cases h
theorem pol0_drain {s:Snap} {on:Int} {n:ByteArray}:drainsB (pol0 on) n=false:=rfl
theorem bit4_off {on:Int} (h:0≤on∧on≤15):bitB on 4=false:=by
 unfold bitB
 apply Nat.testBit_lt_two_pow
 omega
theorem and_pos:∀ n:Fin 32,∀ b:Fin 5,decide (andV (n.val:Int) ((2 ^ b.val:Nat):Int) > 0)=n.val.testBit b.val:=by decide +kernel
theorem on_pos {on:Int} (h:0≤on∧on≤31) (b:Fin 5):decide (andV on ((2 ^ b.val:Nat):Int) > 0)=bitB on b.val:=by
 have e:((on.toNat:Nat):Int)=on:=by omega
 have:=and_pos ⟨on.toNat,by omega⟩ b
 dsimp only at this
 rw [e] at this
 exact this
def lookB (on kind:Int):Bool:=if kind=2 then true else if kind=3 then bitB on 2 else if kind=4 then bitB on 1 else if kind=5 then bitB on 1 else if kind=6 then bitB on 0 else false
def lookL (on:Int):List Bool:=[false,false,true,bitB on 2,bitB on 1,bitB on 1,bitB on 0]
theorem look_at {on kind:Int} (h2:2≤kind) (h6:kind≤6):(lookL on)[kind.toNat]?=some (lookB on kind):=by
 have:kind=2∨kind=3∨kind=4∨kind=5∨kind=6:=by omega
 rcases this with rfl|rfl|rfl|rfl|rfl<;>rfl
def safeF (s:Snap) (p:List Int) (on:Int) (i:Int):List (Bool × Int):=
 [(brk s p 2 i,2),(bitB on 2&&brk s p 3 i,2),(bitB on 1&&(brk s p 4 i||brk s p 5 i),3),(bitB on 0&&brk s p 6 i,4),(bitB on 3&&crowdB s p i,5)]
theorem safe_why {s:Snap} {p:List Int} {on:Int} {i:Nat} (hok:checkP s p=0) (h:0≤on∧on≤15) (hi:i < p.length) (hw:¬ at0 p i=-1):whyV s p (pol0 on) i=firstW (safeF s p on i):=by
 have hm:mayD s p (pol0 on)=true:=by unfold mayD;rw [hok,pol0_ok (by omega)];rfl
 unfold whyV
 rw [if_pos ⟨hm,by omega,by omega,by rw [Int.toNat_natCast];exact hw⟩]
 unfold whyL safeF
 simp only [firstW_cons,show (pol0 on).on=on from rfl,pol0_drain,decide_eq_false pol0_high,bit4_off h,Bool.false_and,Bool.false_eq_true,if_false]
theorem why_wait {s:Snap} {p:List Int} {g:Pol} {i:Nat} (hw:at0 p i=-1):whyV s p g i=0:=by
 unfold whyV
 rw [if_neg]
 rintro ⟨_,_,_,h⟩
 exact h (by rw [Int.toNat_natCast];exact hw)
def wB (on:Int) (c:Clause):Bool:=decide (2≤c.kind)&&decide (c.kind≤6)&&lookB on c.kind
theorem brk_mid {s:Snap} {p:List Int} {t i:Nat} (hok:checkP s p=0) (ht:t < 5) (hi:i < p.length):brk s p ((t:Int)+2) i=true↔∃ c∈brokenC s p,c.kind=(t:Int)+2∧c.a=i:=by
 unfold brk
 rw [ofC_mid hok ht hi,decide_eq_true_eq]
 constructor
 ·intro h
  have h8:(of8 s p ((t:Int)+2) i).2=true:=by
   cases hh:(of8 s p ((t:Int)+2) i).2 with
   | true=>rfl
   | false=>rw [of8_no hh] at h;simp at h
  refine ⟨_,List.mem_filter.2 ⟨in_kinds hok ht hi h8,?_⟩,rfl,rfl⟩
  simp [badC,h]
 ·rintro ⟨c,hc,hk,ha⟩
  obtain ⟨hc1,hc2⟩:=List.mem_filter.1 hc
  obtain ⟨t',i',_,_,e,h8⟩:=mid_mem hc1 (by omega) (by omega)
  rw [e] at hk ha hc2
  dsimp only at hk ha
  have e1:t'=t:=by omega
  have e2:i'=i:=by omega
  subst e1;subst e2
  simpa [badC] using hc2
theorem firstW_pos {l:List (Bool × Int)} {x:Bool × Int} (hx:x∈l) (hb:x.1=true) (h:∀ y∈l,1≤y.2):¬ firstW l=0:=by
 unfold firstW
 cases hf:l.find? (fun x=>x.1) with
 | none=>have:=List.find?_eq_none.1 hf x hx;simp [hb] at this
 | some y=>have:=h y (List.mem_of_find?_eq_some hf);dsimp only;omega
theorem wrong_why {s:Snap} {p:List Int} {on:Int} {i:Nat} (hok:checkP s p=0) (h:0≤on∧on≤15) (hi:i < p.length) (hw:(brokenC s p).any (fun c=>wB on c&&decide (c.a=i))=true):¬ whyV s p (pol0 on) i=0:=by
 obtain ⟨c,hc,hcw⟩:=List.any_eq_true.1 hw
 simp only [wB,Bool.and_eq_true,decide_eq_true_eq] at hcw
 obtain ⟨⟨⟨h2,h6⟩,hl⟩,ha⟩:=hcw
 obtain ⟨t,ht,ek⟩:∃ t:Nat,t < 5∧c.kind=(t:Int)+2:=⟨(c.kind - 2).toNat,by omega,by omega⟩
 have hb:brk s p ((t:Int)+2) i=true:=(brk_mid hok ht hi).2 ⟨c,hc,ek,ha⟩
 have hnw:¬ at0 p i=-1:=fun hh=>by
  unfold brk at hb
  rw [ofC_mid hok ht hi,of8_wait hh hi] at hb
  simp at hb
 rw [safe_why hok h hi hnw]
 have hr:∀ y∈safeF s p on i,1≤y.2:=by
  intro y hy
  simp only [safeF,List.mem_cons,List.not_mem_nil,or_false] at hy
  rcases hy with rfl|rfl|rfl|rfl|rfl<;>simp
 rw [ek] at hl
 have:t=0∨t=1∨t=2∨t=3∨t=4:=by omega
 rcases this with rfl|rfl|rfl|rfl|rfl
 ·exact firstW_pos (x:=(brk s p 2 i,2)) (by simp [safeF]) hb hr
 ·have hl':bitB on 2=true:=hl
  exact firstW_pos (x:=(bitB on 2&&brk s p 3 i,2)) (by simp [safeF]) (by rw [hl'];exact hb) hr
 ·have hl':bitB on 1=true:=hl
  have hb':brk s p 4 i=true:=hb
  exact firstW_pos (x:=(bitB on 1&&(brk s p 4 i||brk s p 5 i),3)) (by simp [safeF]) (by rw [hl',hb'];rfl) hr
 ·have hl':bitB on 1=true:=hl
  have hb':brk s p 5 i=true:=hb
  exact firstW_pos (x:=(bitB on 1&&(brk s p 4 i||brk s p 5 i),3)) (by simp [safeF]) (by rw [hl',hb'];simp) hr
 ·have hl':bitB on 0=true:=hl
  exact firstW_pos (x:=(bitB on 0&&brk s p 6 i,4)) (by simp [safeF]) (by rw [hl'];exact hb) hr
theorem right_why {s:Snap} {p:List Int} {on:Int} {i:Nat} (hok:checkP s p=0) (h:0≤on∧on≤15) (hi:i < p.length) (hw:(brokenC s p).any (fun c=>wB on c&&decide (c.a=i))=false) (hy:¬ whyV s p (pol0 on) i=0) :
  whyV s p (pol0 on) i=5∧(brokenC s p).any (fun c=>decide (c.kind=7))=true∧bitB on 3=true:=by
 have hnw:¬ at0 p i=-1:=fun hh=>hy (why_wait hh)
 rw [safe_why hok h hi hnw] at hy ⊢
 have hno:∀ t:Nat,t < 5→lookB on ((t:Int)+2)=true→brk s p ((t:Int)+2) i=false:=fun t ht hl=>by
  cases hb:brk s p ((t:Int)+2) i with
  | false=>rfl
  | true=>
   obtain ⟨c,hc,ek,ha⟩:=(brk_mid hok ht hi).1 hb
   have:=List.any_eq_false.1 hw c hc
   simp only [wB,Bool.and_eq_true,decide_eq_true_eq,not_and] at this
   exact absurd ha (this ⟨⟨by omega,by omega⟩,by rw [ek];exact hl⟩)
 have h0:brk s p 2 i=false:=hno 0 (by omega) rfl
 have h1:(bitB on 2&&brk s p 3 i)=false:=by
  cases hb:bitB on 2 with
  | false=>rfl
  | true=>exact hno 1 (by omega) hb
 have h2:(bitB on 1&&(brk s p 4 i||brk s p 5 i))=false:=by
  cases hb:bitB on 1 with
  | false=>rfl
  | true=>
   have a:=hno 2 (by omega) hb
   have b:=hno 3 (by omega) hb
   rw [show brk s p 4 i=false from a,show brk s p 5 i=false from b];rfl
 have h3:(bitB on 0&&brk s p 6 i)=false:=by
  cases hb:bitB on 0 with
  | false=>rfl
  | true=>exact hno 4 (by omega) hb
 unfold safeF at hy ⊢
 simp only [firstW_cons,h0,h1,h2,h3,Bool.false_eq_true,if_false] at hy ⊢
 cases hc:(bitB on 3&&crowdB s p i) with
 | false=>rw [hc] at hy;exact absurd rfl hy
 | true=>
  simp only [Bool.and_eq_true] at hc
  refine ⟨rfl,?_,hc.1⟩
  have hb:brk s p 7 (ownerOf s i)=true:=by
   have:=hc.2
   unfold crowdB at this
   simp only [Bool.and_eq_true] at this
   exact this.1.1.2
  unfold brk ofC at hb
  rw [decide_eq_true_eq] at hb
  cases hf:(allL s p).find? (isC 7 (ownerOf s i) 0) with
  | none=>rw [hf] at hb;simp at hb
  | some c=>
   rw [hf] at hb
   dsimp only at hb
   have hp:=List.find?_some hf
   simp only [isC,Bool.and_eq_true,decide_eq_true_eq] at hp
   exact List.any_eq_true.2 ⟨c,List.mem_filter.2 ⟨List.mem_of_find?_eq_some hf,by simp [badC,hb]⟩,by simp [hp.1.1]⟩
theorem safe_brk {s:Snap} {p:List Int} (h:sumV s p=0) (k a:Int):brk s p k a=false:=by
 have h0:=(sum_zero (allL_rng s p).2).1 h
 unfold brk ofC
 cases hf:(allL s p).find? (isC k a 0) with
 | none=>rfl
 | some c=>have:=h0 c (List.mem_of_find?_eq_some hf);dsimp only;simp [this]
theorem safe_fine {s:Snap} {p:List Int} {on:Int} (hok:checkP s p=0) (h:0≤on∧on≤15) (hs:safeB s p=true):fineV s p (pol0 on)=true:=by
 have h0:sumV s p=0:=by simp only [safeB,Bool.and_eq_true,decide_eq_true_eq] at hs;exact hs.2
 have hm:mayD s p (pol0 on)=true:=by unfold mayD;rw [hok,pol0_ok (by omega)];rfl
 unfold fineV
 rw [hm]
 have hno:wrongsV s p (pol0 on)=[]:=by
  apply List.eq_nil_iff_forall_not_mem.2
  intro x hx
  obtain ⟨x0,x1,x2,x3,_⟩:=(wrongs_mem hm).1 hx
  apply x2
  rw [x3]
  obtain ⟨i,ei⟩:∃ i:Nat,x.pod=i:=⟨x.pod.toNat,by omega⟩
  rw [ei] at x1 ⊢
  by_cases hw:at0 p i=-1
  ·exact why_wait hw
  ·rw [safe_why hok h (by omega) hw]
   unfold safeF crowdB
   simp only [firstW_cons,safe_brk h0,Bool.and_false,Bool.false_and,Bool.or_self,Bool.false_eq_true,if_false]
   rfl
 rw [hno];rfl
def wrK (L:List Clause) (on:Int) (k:Nat):List Bool:=(List.range 64).map (fun (i:Nat)=>(L.take k).any (fun c=>wB on c&&decide (c.a=i)))
theorem wrK_len (L:List Clause) (on:Int) (k:Nat):(wrK L on k).length=64:=by simp [wrK]
theorem wrK_at (L:List Clause) (on:Int) (k:Nat) {i:Nat} (hi:i < 64):(wrK L on k)[i]?=some ((L.take k).any (fun c=>wB on c&&decide (c.a=i))):=by
 unfold wrK
 rw [List.getElem?_map,List.getElem?_range hi];rfl
theorem any_step {α:Type} {l:List α} {k:Nat} {x:α} (f:α→Bool) (h:l[k]?=some x):(l.take (k+1)).any f=((l.take k).any f||f x):=by
 rw [List.take_add_one,h];simp
theorem wrK_step {L:List Clause} {on:Int} {k:Nat} {c:Clause} (h:L[k]?=some c) (ha:wB on c=true→0≤c.a∧c.a < 64):wrK L on (k+1)=if wB on c=true then (wrK L on k).set c.a.toNat true else wrK L on k:=by
 by_cases hw:wB on c=true
 ·rw [if_pos hw]
  obtain ⟨a0,a1⟩:=ha hw
  apply List.ext_getElem?
  intro i
  by_cases hi:i < 64
  ·rw [wrK_at L on _ hi,any_step _ h,hw,List.getElem?_set]
   by_cases e:c.a.toNat=i
   ·rw [if_pos e,if_pos (by rw [wrK_len];exact e▸hi),decide_eq_true (show c.a=(i:Int) by omega)]
    simp
   ·rw [if_neg e,wrK_at L on _ hi,decide_eq_false (show ¬ c.a=(i:Int) by omega)]
    simp
  ·rw [List.getElem?_eq_none (by rw [wrK_len];omega),List.getElem?_eq_none (by rw [List.length_set,wrK_len];omega)]
 ·rw [if_neg hw]
  have hw':wB on c=false:=by simpa using hw
  unfold wrK
  apply List.map_congr_left
  intro i _
  rw [any_step _ h,hw'];simp
end Go.Dr
namespace Go.Dr
open Go.RowKit
set_option linter.unusedSimpArgs false
set_option linter.unusedVariables false
def bls (xs:List Bool):Array Value:=(xs.map (fun x=>Value.bool x)).toArray
theorem bls_size (xs:List Bool):(bls xs).size=xs.length:=by simp [bls]
theorem set_bls (xs:List Bool) (i:Nat) (v:Bool) (hi:i < xs.length):((bls xs).toList.take i++(Value.bool v).cells.toList++(bls xs).toList.drop (i+1)).toArray=bls (xs.set i v):=by
 unfold bls
 congr 1
 rw [List.toList_toArray,List.set_eq_take_append_cons_drop,if_pos hi]
 simp [Value.cells]
section
variable {C:Cx} {R:Rg} {Q:Post} {S:SHeap} {M:List MEnt} {e:Env} {rest:List Nat}
variable {d:Nat} {ty:TypeId} {pos:String} {aft:Array Edge} {g:Option (Nat × Bool)} {an:Bool}
theorem JEff.storeBl {T t:TypeId} {x y:Operand} {b i:Nat} {xs:List Bool} {v:Bool} {Mr:List MEnt} (hx:ev e x=some (.pointer (some ⟨b,i,none⟩))) (hy:ev e y=some (.bool v)) [ht:TyR C.P T rBool]
  (hM:(MEnt.blk b (.cells (bls xs) t (0,0))::Mr).Perm M) (hi:i < xs.length) (hT:∀ l,R.T=some l→b∈l)
  (k:JO C R rest Q S (.blk b (.cells (bls (xs.set i v)) t (0,0))::Mr) e):JEff C R ⟨none,.store T x y,ty,pos,aft,g⟩ rest Q S M e:=by
 have hs:(rBool:Rp Bool).sz=1:=rfl
 refine JEff.store hx hy (V_bool.2 rfl) (fun _ _ h=>by cases h) hM (by rw [hs,bls_size];omega) hT ?_
 rw [hs,set_bls xs i v hi];exact k
theorem JPure.loadMBl {i:Nat} {T t:TypeId} {x:Operand} {b off:Nat} {xs:List Bool} {fr:Nat × Nat} {z:Bool} (hx:ev e x=some (.pointer (some ⟨b,off,none⟩))) (hM:MEnt.blk b (.cells (bls xs) t fr)∈M) (hz:xs[off]?=some z)
  [ht:TyR C.P T rBool] (hst:R.isAnch i=true∨∃ l,R.T=some l∧b∉l) (hdN:Nat.blt d C.N=true) (k:JO C R rest Q S M ((d,.bool z)::e)):JPure C R (R.isAnch i) ⟨some d,.load T x,ty,pos,aft,g⟩ rest Q S M e:=by
 refine JPure.loadM (mid:=[.bool z]) (rep:=rBool) (x0:=z) hx hM ?_ rfl hst hdN k
 have hlt:=(List.getElem?_eq_some_iff.1 hz).1
 have hv:=(List.getElem?_eq_some_iff.1 hz).2
 show ((bls xs).toList.drop off).take 1=_
 unfold bls
 rw [List.toList_toArray,List.drop_eq_getElem_cons (by simpa using hlt)]
 simp [hv]
theorem JPure.indexBl {T E:TypeId} {n b:Nat} {x y:Operand} {k':IntKind} {i:Nat} (hx:ev e x=some (.pointer (some ⟨b,0,none⟩))) (hy:ev e y=some (.int k' i))
  [hu:Und C.P T (.array n E)] [ht:TyR C.P E rBool] (hdN:Nat.blt d C.N=true) (hlt:i < n)
  (k:JO C R rest Q S M ((d,.pointer (some ⟨b,i,none⟩))::e)):JPure C R an ⟨some d,.indexAddr T x y,ty,pos,aft,g⟩ rest Q S M e:=by
 refine JPure.indexB rBool hx hy hdN (by omega) (by omega) ?_
 rw [show 0+((i:Int)).toNat*(rBool:Rp Bool).sz=i by rw [show (rBool:Rp Bool).sz=1 from rfl];omega]
 exact k
end
end Go.Dr
namespace Go.Dr
open Go.Proofs
set_option maxRecDepth 20000
set_option maxHeartbeats 2000000
set_option linter.unusedSimpArgs false
set_option linter.unusedVariables false
theorem bring_self {a n:Int} (h0:0≤a) (h1:a < n):bring a n=a:=by
 unfold bring
 rw [Int.tmod_eq_of_lt h0 h1,if_neg (by omega)]
theorem s7_L013b {P K:Prop} (k:K) (h:Goal K→P:=by
 intro zk
 (first|refine Walk ?_|refine JC.block ?_|(refine JO.eff rfl rfl rfl (JEff.callV rfl (p7_Check (by exact vta) (by exact vta)) rfl ?_);intro zqa zqb)|(refine JO.eff rfl rfl rfl (JEff.callV rfl (p13_Fine (by exact vta) (by exact vta) (by exact vta)) rfl ?_);intro zqa zqb)|(refine JO.eff rfl rfl rfl (JEff.callV rfl (p13_Why _ (by exact vta) (by exact vta) (by exact vta)) rfl ?_);intro zqa zqb)|(refine JO.eff rfl rfl rfl (JEff.callV rfl (q13_works) rfl ?_);intro zqa zqb)|(refine JO.eff rfl rfl rfl (JEff.callL rfl (p5_Placement (by exact vta)) rfl ?_);intro zqa zqb zqc zqd zqe zqf)|(refine JO.eff rfl rfl rfl (JEff.callV rfl (r0_Bring _ _ (by omega) (by omega) (by assumption)) rfl ?_);intro zqa zqb)|(refine JO.eff rfl rfl rfl (JEff.callV rfl (p9_Safe (by exact vta) (by exact vta)) rfl ?_);intro zqa zqb)|(refine JO.eff rfl rfl rfl (JEff.callL rfl (p8_Broken (by exact vta) (by exact vta)) rfl ?_);intro zqa zqb zqc zqd zqe zqf)|(refine WBox ?_))
 (repeat (first|revert zqg|revert zqf|revert zqe|revert zqd|revert zqc|revert zqb|revert zqa))
 exact zk.k):P:=h ⟨k⟩
theorem a13_DetectSafe {S:SHeap} {u v:Value} {s:Snap} {on0:Int} (hu:rSnap.V S u s) (hv:rI64.V S v on0):FnV Tryz.prog 7 #[u,v] S (.bool true):=by
 obtain ⟨rfl,hr⟩:=V_i64.1 hv
 (refine Fn.enter (args:=[u,.int .i64 on0]) Tryz.func7 rfl Tryz.ntmps7 rfl ?_;intro w0)
 repeat (refine s7_L013b ?_;intros)
 by_cases hok:checkP s (placeV s)=0
 ·rw [decide_eq_true hok]
  have hb0:=bring_rng on0 (show (0:Int) < 16 by omega)
  obtain ⟨hs0,hpl,hpl24,hnl,hol,hpr,_⟩:=placed_hyps hok
  have hVg:∀ {S':SHeap},rPol.V S' (.agg #[.int .i64 0,.int .i64 0,.int .i64 0,.int .i64 0,.int .i64 (bring on0 16),.slice none 0 0,.int .i64 0,.int .i64 0,.bool false]) (pol0 (bring on0 16)):=V_polG (by simp [Rng]) (by simp [Rng]) (by unfold Rng;omega) V_nil
  repeat (first|(refine Walk ?_;intros)|refine JC.block ?_|(refine WNew ?_;intros)|((refine JO.eff rfl rfl rfl (JEff.storeW rfl rfl hVg nna pma rfl (by intro l hl;cases hl) ?_));refine JO.freezeV hVg nna (by assumption) (by intro l hl;cases hl) ?_;intro _ _ _)|(refine JO.eff rfl rfl rfl (JEff.callV rfl (p7_Check (by exact vta) (by exact vta)) rfl ?_);intro _ _)|(refine JO.eff rfl rfl rfl (JEff.callV rfl (p13_Fine (by exact vta) (by exact vta) (by exact vta)) rfl ?_);intro _ _)|(refine JO.eff rfl rfl rfl (JEff.callV rfl (p13_Why _ (by exact vta) (by exact vta) (by exact vta)) rfl ?_);intro _ _)|(refine JO.eff rfl rfl rfl (JEff.callV rfl (q13_works) rfl ?_);intro _ _)|(refine JO.eff rfl rfl rfl (JEff.callL rfl (p5_Placement (by exact vta)) rfl ?_);intro _ _ _ _ _ _)|(refine JO.eff rfl rfl rfl (JEff.callV rfl (r0_Bring _ _ (by omega) (by omega) (by assumption)) rfl ?_);intro _ _)|(refine JO.eff rfl rfl rfl (JEff.callV rfl (p9_Safe (by exact vta) (by exact vta)) rfl ?_);intro _ _)|(refine JO.eff rfl rfl rfl (JEff.callL rfl (p8_Broken (by exact vta) (by exact vta)) rfl ?_);intro _ _ _ _ _ _)|(refine WBox ?_;intros))
  clear hVg
  generalize bring on0 16=on at *
  have hfi:safeB s (placeV s)=true→fineV s (placeV s) (pol0 on)=true:=safe_fine hok (by omega)
  have hgon:(pol0 on).on=on:=rfl
  rw [decide_eq_true hok]
  cases hsf:safeB s (placeV s)
  ·repeat (refine s7_L013b ?_;intros)
   repeat (first|(refine Walk ?_;intros)|refine JC.block ?_|(refine JO.pure rfl rfl rfl (JPure.and rfl rfl rfl ?_))|(refine JO.eff rfl rfl rfl (JEff.callV rfl (p7_Check (by exact vta) (by exact vta)) rfl ?_);intro _ _)|(refine JO.eff rfl rfl rfl (JEff.callV rfl (p13_Fine (by exact vta) (by exact vta) (by exact vta)) rfl ?_);intro _ _)|(refine JO.eff rfl rfl rfl (JEff.callV rfl (p13_Why _ (by exact vta) (by exact vta) (by exact vta)) rfl ?_);intro _ _)|(refine JO.eff rfl rfl rfl (JEff.callV rfl (q13_works) rfl ?_);intro _ _)|(refine JO.eff rfl rfl rfl (JEff.callL rfl (p5_Placement (by exact vta)) rfl ?_);intro _ _ _ _ _ _)|(refine JO.eff rfl rfl rfl (JEff.callV rfl (r0_Bring _ _ (by omega) (by omega) (by assumption)) rfl ?_);intro _ _)|(refine JO.eff rfl rfl rfl (JEff.callV rfl (p9_Safe (by exact vta) (by exact vta)) rfl ?_);intro _ _)|(refine JO.eff rfl rfl rfl (JEff.callL rfl (p8_Broken (by exact vta) (by exact vta)) rfl ?_);intro _ _ _ _ _ _)|(refine WBox ?_;intros))
   rw [show decide (andV (pol0 on).on 4 > 0)=bitB on 2 from on_pos (by omega) 2,show decide (andV (pol0 on).on 2 > 0)=bitB on 1 from on_pos (by omega) 1,show decide (andV (pol0 on).on 1 > 0)=bitB on 0 from on_pos (by omega) 0]
   (refine JO.eff rfl rfl rfl (JEff.buildS (bt:=1) (rep:=rBool) (ys:=[false,false,true,bitB on 2,bitB on 1,bitB on 1,bitB on 0]) rfl rfl (⟨⟨V_bool.2 rfl,nna⟩,⟨V_bool.2 rfl,nna⟩,⟨V_bool.2 rfl,nna⟩,⟨V_bool.2 rfl,nna⟩,⟨V_bool.2 rfl,nna⟩,⟨V_bool.2 rfl,nna⟩,⟨V_bool.2 rfl,nna⟩,trivial⟩) rfl rfl rfl (by decide) rfl ?_);intro S2 a2 hl2 hV2)
   repeat (refine s7_L013b ?_;intros)
   (refine JO.eff rfl rfl rfl (JEff.alloc rfl ?_);intro wb hwb)
   repeat (refine s7_L013b ?_;intros)
   have hLr:=(allL_rng s (placeV s)).1
   have hLl:(brokenC s (placeV s)).length≤400:=Nat.le_trans (List.length_filter_le _ _) hLr
   have hLa:∀ c∈brokenC s (placeV s),wB on c=true→0≤c.a∧c.a < 64:=fun c hc hw=>by
    have hc1:=(List.mem_filter.1 hc).1
    simp only [wB,Bool.and_eq_true,decide_eq_true_eq] at hw
    obtain ⟨t,i,_,hi,e,_⟩:=mid_mem hc1 hw.1.1 hw.1.2
    rw [e];dsimp only;omega
   generalize hL:brokenC s (placeV s)=L at *
   refine JC.loopF [(2,_),(5,_),(6,_),(9,_),(10,_),(11,_)] (fun (k:Nat)=>[(12,.bool ((L.take k).any (fun c=>decide (c.kind=7)))),(13,.int .i64 k)]) (fun k=>[.blk wb (.cells (bls (wrK L on k)) 75 (0,0))]) (fun Sk k=>k≤L.length∧(True)) (fun k=>L.length - k) 0 (by exact sba) (by exact sba) rfl ⟨Nat.zero_le _,trivial⟩ ?_;intro Sk k hlk hik;obtain ⟨hk,hik⟩:=hik;(try dsimp only at hk hik);dsimp only [List.cons_append,List.nil_append]
   repeat (refine s7_L013b ?_;intros)
   refine JC.cond rfl (fun hc=>?_) (fun hc=>?_)
   ·have hk':=dlt hc
    obtain ⟨c,hcl,_⟩:=drop_at hk'
    have hws:=wrK_step (on:=on) hcl (hLa c (List.mem_of_getElem? hcl))
    have hsp:=any_step (fun c=>decide (c.kind=7)) hcl
    have hwl:=wrK_len L on k
    have hca:=hLa c (List.mem_of_getElem? hcl)
    repeat (refine s7_L013b ?_;intros)
    by_cases h2:2≤c.kind
    ·rw [show decide (c.kind≥2)=true from decide_eq_true h2]
     repeat (refine s7_L013b ?_;intros)
     by_cases h6:c.kind≤6
     ·rw [decide_eq_true h6]
      have hlk:=look_at (on:=on) h2 h6
      repeat (refine s7_L013b ?_;intros)
      cases hl:lookB on c.kind
      ·have hwb:wB on c=false:=by unfold wB;rw [hl,Bool.and_false]
       rw [if_neg (by rw [hwb];simp)] at hws
       repeat (refine s7_L013b ?_;intros)
       cases hs0:(L.take k).any (fun c=>decide (c.kind=7))
       ·rw [hs0,Bool.false_or] at hsp
        repeat (refine s7_L013b ?_;intros)
        exact JX.roundF (k+1) (by exact lea) ⟨by omega,trivial⟩ (by (try dsimp only);omega) (by (try dsimp only);rw [hws]) (by (try dsimp only);rw [hsp];exact sba) (by exact sba)
       ·rw [hs0,Bool.true_or] at hsp
        repeat (refine s7_L013b ?_;intros)
        exact JX.roundF (k+1) (by exact lea) ⟨by omega,trivial⟩ (by (try dsimp only);omega) (by (try dsimp only);rw [hws]) (by (try dsimp only);rw [hsp];exact sba) (by exact sba)
      ·have hwb:wB on c=true:=by unfold wB;rw [hl,decide_eq_true h2,decide_eq_true h6];rfl
       rw [if_pos hwb] at hws
       obtain ⟨ha0,ha1⟩:=hca hwb
       obtain ⟨j,hj⟩:∃ j:Nat,c.a=(j:Int):=⟨c.a.toNat,by omega⟩
       have hbr:bring c.a 64=(j:Int):=by rw [bring_self ha0 ha1,hj]
       rw [hj,Int.toNat_natCast] at hws
       repeat (refine s7_L013b ?_;intros)
       rw [hbr]
       refine JO.pure rfl rfl rfl (JPure.indexBl rfl rfl rfl (by omega) ?_)
       refine JO.eff rfl rfl rfl (JEff.storeBl rfl rfl (List.Perm.refl _) (by rw [hwl];omega) (by intro l hl;cases hl) ?_)
       repeat (refine s7_L013b ?_;intros)
       cases hs0:(L.take k).any (fun c=>decide (c.kind=7))
       ·rw [hs0,Bool.false_or] at hsp
        repeat (refine s7_L013b ?_;intros)
        exact JX.roundF (k+1) (by exact lea) ⟨by omega,trivial⟩ (by (try dsimp only);omega) (by (try dsimp only);rw [hws]) (by (try dsimp only);rw [hsp];exact sba) (by exact sba)
       ·rw [hs0,Bool.true_or] at hsp
        repeat (refine s7_L013b ?_;intros)
        exact JX.roundF (k+1) (by exact lea) ⟨by omega,trivial⟩ (by (try dsimp only);omega) (by (try dsimp only);rw [hws]) (by (try dsimp only);rw [hsp];exact sba) (by exact sba)
     ·rw [decide_eq_false h6]
      have hwb:wB on c=false:=by unfold wB;rw [decide_eq_false h6,Bool.and_false];rfl
      rw [if_neg (by rw [hwb];simp)] at hws
      repeat (refine s7_L013b ?_;intros)
      cases hs0:(L.take k).any (fun c=>decide (c.kind=7))
      ·rw [hs0,Bool.false_or] at hsp
       repeat (refine s7_L013b ?_;intros)
       exact JX.roundF (k+1) (by exact lea) ⟨by omega,trivial⟩ (by (try dsimp only);omega) (by (try dsimp only);rw [hws]) (by (try dsimp only);rw [hsp];exact sba) (by exact sba)
      ·rw [hs0,Bool.true_or] at hsp
       repeat (refine s7_L013b ?_;intros)
       exact JX.roundF (k+1) (by exact lea) ⟨by omega,trivial⟩ (by (try dsimp only);omega) (by (try dsimp only);rw [hws]) (by (try dsimp only);rw [hsp];exact sba) (by exact sba)
    ·rw [show decide (c.kind≥2)=false from decide_eq_false h2]
     have hwb:wB on c=false:=by unfold wB;rw [decide_eq_false h2];rfl
     rw [if_neg (by rw [hwb];simp)] at hws
     repeat (refine s7_L013b ?_;intros)
     cases hs0:(L.take k).any (fun c=>decide (c.kind=7))
     ·rw [hs0,Bool.false_or] at hsp
      repeat (refine s7_L013b ?_;intros)
      exact JX.roundF (k+1) (by exact lea) ⟨by omega,trivial⟩ (by (try dsimp only);omega) (by (try dsimp only);rw [hws]) (by (try dsimp only);rw [hsp];exact sba) (by exact sba)
     ·rw [hs0,Bool.true_or] at hsp
      repeat (refine s7_L013b ?_;intros)
      exact JX.roundF (k+1) (by exact lea) ⟨by omega,trivial⟩ (by (try dsimp only);omega) (by (try dsimp only);rw [hws]) (by (try dsimp only);rw [hsp];exact sba) (by exact sba)
   ·have hk':=dnlt hc
    have hW:∀ i:Nat,i < 64→(wrK L on k)[i]?=some (L.any (fun c=>wB on c&&decide (c.a=i))):=fun i hi=>by rw [wrK_at L on k hi,List.take_of_length_le hk']
    rw [List.take_of_length_le hk']
    repeat (refine s7_L013b ?_;intros)
    refine JC.loopF [(2,_),(5,_),(6,_),(11,_),(12,_)] (fun (m:Nat)=>[(14,.int .i64 m)]) (fun m=>[.blk wb (.cells (bls (wrK L on k)) 75 (0,0))]) (fun Sm m=>m≤(placeV s).length∧(True)) (fun m=>(placeV s).length - m) 0 (by exact sba) (by exact sba) rfl ⟨Nat.zero_le _,trivial⟩ ?_;intro Sm m hlm him;obtain ⟨hm,him⟩:=him;(try dsimp only at hm him);dsimp only [List.cons_append,List.nil_append]
    repeat (refine s7_L013b ?_;intros)
    cases hc3:decide ((m:Int) < (placeV s).length)
    ·repeat (refine s7_L013b ?_;intros)
     (refine JX.ret1 Tryz.results7 (ResV.tmp rfl) (List.nil_sublist _) ?_)
     exact ⟨rfl,rfl⟩
    ·have hm:=dlt hc3
     have hWm:=hW m (by omega)
     repeat (refine s7_L013b ?_;intros)
     rw [decide_eq_true (show (m:Int) < 64 by omega)]
     repeat (first|(refine Walk ?_;intros)|refine JC.block ?_|refine JO.pure rfl rfl rfl (JPure.indexBl rfl rfl rfl (by omega) ?_)|refine JO.pure rfl rfl rfl (JPure.loadMBl rfl (by (first|exact List.mem_cons_self|exact List.mem_cons_of_mem _ List.mem_cons_self|exact List.mem_cons_of_mem _ (List.mem_cons_of_mem _ List.mem_cons_self))) hWm (.inl rfl) rfl ?_)|(refine JO.pure rfl rfl rfl (JPure.and rfl rfl rfl ?_))|(refine JO.eff rfl rfl rfl (JEff.callV rfl (p7_Check (by exact vta) (by exact vta)) rfl ?_);intro _ _)|(refine JO.eff rfl rfl rfl (JEff.callV rfl (p13_Fine (by exact vta) (by exact vta) (by exact vta)) rfl ?_);intro _ _)|(refine JO.eff rfl rfl rfl (JEff.callV rfl (p13_Why _ (by exact vta) (by exact vta) (by exact vta)) rfl ?_);intro _ _)|(refine JO.eff rfl rfl rfl (JEff.callV rfl (q13_works) rfl ?_);intro _ _)|(refine JO.eff rfl rfl rfl (JEff.callL rfl (p5_Placement (by exact vta)) rfl ?_);intro _ _ _ _ _ _)|(refine JO.eff rfl rfl rfl (JEff.callV rfl (r0_Bring _ _ (by omega) (by omega) (by assumption)) rfl ?_);intro _ _)|(refine JO.eff rfl rfl rfl (JEff.callV rfl (p9_Safe (by exact vta) (by exact vta)) rfl ?_);intro _ _)|(refine JO.eff rfl rfl rfl (JEff.callL rfl (p8_Broken (by exact vta) (by exact vta)) rfl ?_);intro _ _ _ _ _ _)|(refine WBox ?_;intros))
     have hww:=wrong_why (s:=s) (p:=placeV s) (on:=on) (i:=m) hok (by omega) hm
     have hrr:=right_why (s:=s) (p:=placeV s) (on:=on) (i:=m) hok (by omega) hm
     rw [hL] at hww hrr
     cases hwv:L.any (fun c=>wB on c&&decide (c.a=(m:Int)))
     ·rw [hwv] at hWm
      repeat (first|(refine Walk ?_;intros)|refine JC.block ?_|refine JO.pure rfl rfl rfl (JPure.indexBl rfl rfl rfl (by omega) ?_)|refine JO.pure rfl rfl rfl (JPure.loadMBl rfl (by (first|exact List.mem_cons_self|exact List.mem_cons_of_mem _ List.mem_cons_self|exact List.mem_cons_of_mem _ (List.mem_cons_of_mem _ List.mem_cons_self))) hWm (.inl rfl) rfl ?_)|(refine JO.pure rfl rfl rfl (JPure.and rfl rfl rfl ?_))|(refine JO.eff rfl rfl rfl (JEff.callV rfl (p7_Check (by exact vta) (by exact vta)) rfl ?_);intro _ _)|(refine JO.eff rfl rfl rfl (JEff.callV rfl (p13_Fine (by exact vta) (by exact vta) (by exact vta)) rfl ?_);intro _ _)|(refine JO.eff rfl rfl rfl (JEff.callV rfl (p13_Why _ (by exact vta) (by exact vta) (by exact vta)) rfl ?_);intro _ _)|(refine JO.eff rfl rfl rfl (JEff.callV rfl (q13_works) rfl ?_);intro _ _)|(refine JO.eff rfl rfl rfl (JEff.callL rfl (p5_Placement (by exact vta)) rfl ?_);intro _ _ _ _ _ _)|(refine JO.eff rfl rfl rfl (JEff.callV rfl (r0_Bring _ _ (by omega) (by omega) (by assumption)) rfl ?_);intro _ _)|(refine JO.eff rfl rfl rfl (JEff.callV rfl (p9_Safe (by exact vta) (by exact vta)) rfl ?_);intro _ _)|(refine JO.eff rfl rfl rfl (JEff.callL rfl (p8_Broken (by exact vta) (by exact vta)) rfl ?_);intro _ _ _ _ _ _)|(refine WBox ?_;intros))
      by_cases hy:whyV s (placeV s) (pol0 on) m=0
      ·rw [decide_eq_true hy]
       repeat (first|(refine Walk ?_;intros)|refine JC.block ?_|refine JO.pure rfl rfl rfl (JPure.indexBl rfl rfl rfl (by omega) ?_)|refine JO.pure rfl rfl rfl (JPure.loadMBl rfl (by (first|exact List.mem_cons_self|exact List.mem_cons_of_mem _ List.mem_cons_self|exact List.mem_cons_of_mem _ (List.mem_cons_of_mem _ List.mem_cons_self))) hWm (.inl rfl) rfl ?_)|(refine JO.pure rfl rfl rfl (JPure.and rfl rfl rfl ?_))|(refine JO.eff rfl rfl rfl (JEff.callV rfl (p7_Check (by exact vta) (by exact vta)) rfl ?_);intro _ _)|(refine JO.eff rfl rfl rfl (JEff.callV rfl (p13_Fine (by exact vta) (by exact vta) (by exact vta)) rfl ?_);intro _ _)|(refine JO.eff rfl rfl rfl (JEff.callV rfl (p13_Why _ (by exact vta) (by exact vta) (by exact vta)) rfl ?_);intro _ _)|(refine JO.eff rfl rfl rfl (JEff.callV rfl (q13_works) rfl ?_);intro _ _)|(refine JO.eff rfl rfl rfl (JEff.callL rfl (p5_Placement (by exact vta)) rfl ?_);intro _ _ _ _ _ _)|(refine JO.eff rfl rfl rfl (JEff.callV rfl (r0_Bring _ _ (by omega) (by omega) (by assumption)) rfl ?_);intro _ _)|(refine JO.eff rfl rfl rfl (JEff.callV rfl (p9_Safe (by exact vta) (by exact vta)) rfl ?_);intro _ _)|(refine JO.eff rfl rfl rfl (JEff.callL rfl (p8_Broken (by exact vta) (by exact vta)) rfl ?_);intro _ _ _ _ _ _)|(refine WBox ?_;intros))
       exact JX.roundF (m+1) (by exact lea) ⟨by omega,(trivial)⟩ (by (try dsimp only);omega) rfl (by exact sba) (by exact sba)
      ·obtain ⟨e5,esp,eb⟩:=hrr hwv hy
       have e8:decide (andV (pol0 on).on 8=0)=false:=by
        have this:(!decide (andV (pol0 on).on 8=0))=bitB on 3:=on_bit (g:=pol0 on) (pol0_ok (by omega)) 3
        rw [eb,Bool.not_eq_true'] at this
        exact this
       rw [decide_eq_false hy]
       repeat (first|(refine Walk ?_;intros)|refine JC.block ?_|refine JO.pure rfl rfl rfl (JPure.indexBl rfl rfl rfl (by omega) ?_)|refine JO.pure rfl rfl rfl (JPure.loadMBl rfl (by (first|exact List.mem_cons_self|exact List.mem_cons_of_mem _ List.mem_cons_self|exact List.mem_cons_of_mem _ (List.mem_cons_of_mem _ List.mem_cons_self))) hWm (.inl rfl) rfl ?_)|(refine JO.pure rfl rfl rfl (JPure.and rfl rfl rfl ?_))|(refine JO.eff rfl rfl rfl (JEff.callV rfl (p7_Check (by exact vta) (by exact vta)) rfl ?_);intro _ _)|(refine JO.eff rfl rfl rfl (JEff.callV rfl (p13_Fine (by exact vta) (by exact vta) (by exact vta)) rfl ?_);intro _ _)|(refine JO.eff rfl rfl rfl (JEff.callV rfl (p13_Why _ (by exact vta) (by exact vta) (by exact vta)) rfl ?_);intro _ _)|(refine JO.eff rfl rfl rfl (JEff.callV rfl (q13_works) rfl ?_);intro _ _)|(refine JO.eff rfl rfl rfl (JEff.callL rfl (p5_Placement (by exact vta)) rfl ?_);intro _ _ _ _ _ _)|(refine JO.eff rfl rfl rfl (JEff.callV rfl (r0_Bring _ _ (by omega) (by omega) (by assumption)) rfl ?_);intro _ _)|(refine JO.eff rfl rfl rfl (JEff.callV rfl (p9_Safe (by exact vta) (by exact vta)) rfl ?_);intro _ _)|(refine JO.eff rfl rfl rfl (JEff.callL rfl (p8_Broken (by exact vta) (by exact vta)) rfl ?_);intro _ _ _ _ _ _)|(refine WBox ?_;intros))
       rw [e5,esp]
       repeat (first|(refine Walk ?_;intros)|refine JC.block ?_|refine JO.pure rfl rfl rfl (JPure.indexBl rfl rfl rfl (by omega) ?_)|refine JO.pure rfl rfl rfl (JPure.loadMBl rfl (by (first|exact List.mem_cons_self|exact List.mem_cons_of_mem _ List.mem_cons_self|exact List.mem_cons_of_mem _ (List.mem_cons_of_mem _ List.mem_cons_self))) hWm (.inl rfl) rfl ?_)|(refine JO.pure rfl rfl rfl (JPure.and rfl rfl rfl ?_))|(refine JO.eff rfl rfl rfl (JEff.callV rfl (p7_Check (by exact vta) (by exact vta)) rfl ?_);intro _ _)|(refine JO.eff rfl rfl rfl (JEff.callV rfl (p13_Fine (by exact vta) (by exact vta) (by exact vta)) rfl ?_);intro _ _)|(refine JO.eff rfl rfl rfl (JEff.callV rfl (p13_Why _ (by exact vta) (by exact vta) (by exact vta)) rfl ?_);intro _ _)|(refine JO.eff rfl rfl rfl (JEff.callV rfl (q13_works) rfl ?_);intro _ _)|(refine JO.eff rfl rfl rfl (JEff.callL rfl (p5_Placement (by exact vta)) rfl ?_);intro _ _ _ _ _ _)|(refine JO.eff rfl rfl rfl (JEff.callV rfl (r0_Bring _ _ (by omega) (by omega) (by assumption)) rfl ?_);intro _ _)|(refine JO.eff rfl rfl rfl (JEff.callV rfl (p9_Safe (by exact vta) (by exact vta)) rfl ?_);intro _ _)|(refine JO.eff rfl rfl rfl (JEff.callL rfl (p8_Broken (by exact vta) (by exact vta)) rfl ?_);intro _ _ _ _ _ _)|(refine WBox ?_;intros))
       rw [e8]
       repeat (first|(refine Walk ?_;intros)|refine JC.block ?_|refine JO.pure rfl rfl rfl (JPure.indexBl rfl rfl rfl (by omega) ?_)|refine JO.pure rfl rfl rfl (JPure.loadMBl rfl (by (first|exact List.mem_cons_self|exact List.mem_cons_of_mem _ List.mem_cons_self|exact List.mem_cons_of_mem _ (List.mem_cons_of_mem _ List.mem_cons_self))) hWm (.inl rfl) rfl ?_)|(refine JO.pure rfl rfl rfl (JPure.and rfl rfl rfl ?_))|(refine JO.eff rfl rfl rfl (JEff.callV rfl (p7_Check (by exact vta) (by exact vta)) rfl ?_);intro _ _)|(refine JO.eff rfl rfl rfl (JEff.callV rfl (p13_Fine (by exact vta) (by exact vta) (by exact vta)) rfl ?_);intro _ _)|(refine JO.eff rfl rfl rfl (JEff.callV rfl (p13_Why _ (by exact vta) (by exact vta) (by exact vta)) rfl ?_);intro _ _)|(refine JO.eff rfl rfl rfl (JEff.callV rfl (q13_works) rfl ?_);intro _ _)|(refine JO.eff rfl rfl rfl (JEff.callL rfl (p5_Placement (by exact vta)) rfl ?_);intro _ _ _ _ _ _)|(refine JO.eff rfl rfl rfl (JEff.callV rfl (r0_Bring _ _ (by omega) (by omega) (by assumption)) rfl ?_);intro _ _)|(refine JO.eff rfl rfl rfl (JEff.callV rfl (p9_Safe (by exact vta) (by exact vta)) rfl ?_);intro _ _)|(refine JO.eff rfl rfl rfl (JEff.callL rfl (p8_Broken (by exact vta) (by exact vta)) rfl ?_);intro _ _ _ _ _ _)|(refine WBox ?_;intros))
       exact JX.roundF (m+1) (by exact lea) ⟨by omega,(trivial)⟩ (by (try dsimp only);omega) rfl (by exact sba) (by exact sba)
     ·have hy:=hww hwv
      rw [hwv] at hWm
      repeat (first|(refine Walk ?_;intros)|refine JC.block ?_|refine JO.pure rfl rfl rfl (JPure.indexBl rfl rfl rfl (by omega) ?_)|refine JO.pure rfl rfl rfl (JPure.loadMBl rfl (by (first|exact List.mem_cons_self|exact List.mem_cons_of_mem _ List.mem_cons_self|exact List.mem_cons_of_mem _ (List.mem_cons_of_mem _ List.mem_cons_self))) hWm (.inl rfl) rfl ?_)|(refine JO.pure rfl rfl rfl (JPure.and rfl rfl rfl ?_))|(refine JO.eff rfl rfl rfl (JEff.callV rfl (p7_Check (by exact vta) (by exact vta)) rfl ?_);intro _ _)|(refine JO.eff rfl rfl rfl (JEff.callV rfl (p13_Fine (by exact vta) (by exact vta) (by exact vta)) rfl ?_);intro _ _)|(refine JO.eff rfl rfl rfl (JEff.callV rfl (p13_Why _ (by exact vta) (by exact vta) (by exact vta)) rfl ?_);intro _ _)|(refine JO.eff rfl rfl rfl (JEff.callV rfl (q13_works) rfl ?_);intro _ _)|(refine JO.eff rfl rfl rfl (JEff.callL rfl (p5_Placement (by exact vta)) rfl ?_);intro _ _ _ _ _ _)|(refine JO.eff rfl rfl rfl (JEff.callV rfl (r0_Bring _ _ (by omega) (by omega) (by assumption)) rfl ?_);intro _ _)|(refine JO.eff rfl rfl rfl (JEff.callV rfl (p9_Safe (by exact vta) (by exact vta)) rfl ?_);intro _ _)|(refine JO.eff rfl rfl rfl (JEff.callL rfl (p8_Broken (by exact vta) (by exact vta)) rfl ?_);intro _ _ _ _ _ _)|(refine WBox ?_;intros))
      rw [decide_eq_false hy]
      repeat (first|(refine Walk ?_;intros)|refine JC.block ?_|refine JO.pure rfl rfl rfl (JPure.indexBl rfl rfl rfl (by omega) ?_)|refine JO.pure rfl rfl rfl (JPure.loadMBl rfl (by (first|exact List.mem_cons_self|exact List.mem_cons_of_mem _ List.mem_cons_self|exact List.mem_cons_of_mem _ (List.mem_cons_of_mem _ List.mem_cons_self))) hWm (.inl rfl) rfl ?_)|(refine JO.pure rfl rfl rfl (JPure.and rfl rfl rfl ?_))|(refine JO.eff rfl rfl rfl (JEff.callV rfl (p7_Check (by exact vta) (by exact vta)) rfl ?_);intro _ _)|(refine JO.eff rfl rfl rfl (JEff.callV rfl (p13_Fine (by exact vta) (by exact vta) (by exact vta)) rfl ?_);intro _ _)|(refine JO.eff rfl rfl rfl (JEff.callV rfl (p13_Why _ (by exact vta) (by exact vta) (by exact vta)) rfl ?_);intro _ _)|(refine JO.eff rfl rfl rfl (JEff.callV rfl (q13_works) rfl ?_);intro _ _)|(refine JO.eff rfl rfl rfl (JEff.callL rfl (p5_Placement (by exact vta)) rfl ?_);intro _ _ _ _ _ _)|(refine JO.eff rfl rfl rfl (JEff.callV rfl (r0_Bring _ _ (by omega) (by omega) (by assumption)) rfl ?_);intro _ _)|(refine JO.eff rfl rfl rfl (JEff.callV rfl (p9_Safe (by exact vta) (by exact vta)) rfl ?_);intro _ _)|(refine JO.eff rfl rfl rfl (JEff.callL rfl (p8_Broken (by exact vta) (by exact vta)) rfl ?_);intro _ _ _ _ _ _)|(refine WBox ?_;intros))
      exact JX.roundF (m+1) (by exact lea) ⟨by omega,(trivial)⟩ (by (try dsimp only);omega) rfl (by exact sba) (by exact sba)
  ·have hfi':=hfi hsf
   repeat (refine s7_L013b ?_;intros)
   rw [hfi']
   repeat (refine s7_L013b ?_;intros)
   repeat (first|(refine Walk ?_;intros)|refine JC.block ?_|(refine JO.pure rfl rfl rfl (JPure.and rfl rfl rfl ?_))|(refine JO.eff rfl rfl rfl (JEff.callV rfl (p7_Check (by exact vta) (by exact vta)) rfl ?_);intro _ _)|(refine JO.eff rfl rfl rfl (JEff.callV rfl (p13_Fine (by exact vta) (by exact vta) (by exact vta)) rfl ?_);intro _ _)|(refine JO.eff rfl rfl rfl (JEff.callV rfl (p13_Why _ (by exact vta) (by exact vta) (by exact vta)) rfl ?_);intro _ _)|(refine JO.eff rfl rfl rfl (JEff.callV rfl (q13_works) rfl ?_);intro _ _)|(refine JO.eff rfl rfl rfl (JEff.callL rfl (p5_Placement (by exact vta)) rfl ?_);intro _ _ _ _ _ _)|(refine JO.eff rfl rfl rfl (JEff.callV rfl (r0_Bring _ _ (by omega) (by omega) (by assumption)) rfl ?_);intro _ _)|(refine JO.eff rfl rfl rfl (JEff.callV rfl (p9_Safe (by exact vta) (by exact vta)) rfl ?_);intro _ _)|(refine JO.eff rfl rfl rfl (JEff.callL rfl (p8_Broken (by exact vta) (by exact vta)) rfl ?_);intro _ _ _ _ _ _)|(refine WBox ?_;intros))
   rw [show decide (andV (pol0 on).on 4 > 0)=bitB on 2 from on_pos (by omega) 2,show decide (andV (pol0 on).on 2 > 0)=bitB on 1 from on_pos (by omega) 1,show decide (andV (pol0 on).on 1 > 0)=bitB on 0 from on_pos (by omega) 0]
   (refine JO.eff rfl rfl rfl (JEff.buildS (bt:=1) (rep:=rBool) (ys:=[false,false,true,bitB on 2,bitB on 1,bitB on 1,bitB on 0]) rfl rfl (⟨⟨V_bool.2 rfl,nna⟩,⟨V_bool.2 rfl,nna⟩,⟨V_bool.2 rfl,nna⟩,⟨V_bool.2 rfl,nna⟩,⟨V_bool.2 rfl,nna⟩,⟨V_bool.2 rfl,nna⟩,⟨V_bool.2 rfl,nna⟩,trivial⟩) rfl rfl rfl (by decide) rfl ?_);intro S2 a2 hl2 hV2)
   repeat (refine s7_L013b ?_;intros)
   (refine JO.eff rfl rfl rfl (JEff.alloc rfl ?_);intro wb hwb)
   repeat (refine s7_L013b ?_;intros)
   have hLr:=(allL_rng s (placeV s)).1
   have hLl:(brokenC s (placeV s)).length≤400:=Nat.le_trans (List.length_filter_le _ _) hLr
   have hLa:∀ c∈brokenC s (placeV s),wB on c=true→0≤c.a∧c.a < 64:=fun c hc hw=>by
    have hc1:=(List.mem_filter.1 hc).1
    simp only [wB,Bool.and_eq_true,decide_eq_true_eq] at hw
    obtain ⟨t,i,_,hi,e,_⟩:=mid_mem hc1 hw.1.1 hw.1.2
    rw [e];dsimp only;omega
   generalize hL:brokenC s (placeV s)=L at *
   refine JC.loopF [(2,_),(5,_),(6,_),(9,_),(10,_),(11,_)] (fun (k:Nat)=>[(12,.bool ((L.take k).any (fun c=>decide (c.kind=7)))),(13,.int .i64 k)]) (fun k=>[.blk wb (.cells (bls (wrK L on k)) 75 (0,0))]) (fun Sk k=>k≤L.length∧(True)) (fun k=>L.length - k) 0 (by exact sba) (by exact sba) rfl ⟨Nat.zero_le _,trivial⟩ ?_;intro Sk k hlk hik;obtain ⟨hk,hik⟩:=hik;(try dsimp only at hk hik);dsimp only [List.cons_append,List.nil_append]
   repeat (refine s7_L013b ?_;intros)
   refine JC.cond rfl (fun hc=>?_) (fun hc=>?_)
   ·have hk':=dlt hc
    obtain ⟨c,hcl,_⟩:=drop_at hk'
    have hws:=wrK_step (on:=on) hcl (hLa c (List.mem_of_getElem? hcl))
    have hsp:=any_step (fun c=>decide (c.kind=7)) hcl
    have hwl:=wrK_len L on k
    have hca:=hLa c (List.mem_of_getElem? hcl)
    repeat (refine s7_L013b ?_;intros)
    by_cases h2:2≤c.kind
    ·rw [show decide (c.kind≥2)=true from decide_eq_true h2]
     repeat (refine s7_L013b ?_;intros)
     by_cases h6:c.kind≤6
     ·rw [decide_eq_true h6]
      have hlk:=look_at (on:=on) h2 h6
      repeat (refine s7_L013b ?_;intros)
      cases hl:lookB on c.kind
      ·have hwb:wB on c=false:=by unfold wB;rw [hl,Bool.and_false]
       rw [if_neg (by rw [hwb];simp)] at hws
       repeat (refine s7_L013b ?_;intros)
       cases hs0:(L.take k).any (fun c=>decide (c.kind=7))
       ·rw [hs0,Bool.false_or] at hsp
        repeat (refine s7_L013b ?_;intros)
        exact JX.roundF (k+1) (by exact lea) ⟨by omega,trivial⟩ (by (try dsimp only);omega) (by (try dsimp only);rw [hws]) (by (try dsimp only);rw [hsp];exact sba) (by exact sba)
       ·rw [hs0,Bool.true_or] at hsp
        repeat (refine s7_L013b ?_;intros)
        exact JX.roundF (k+1) (by exact lea) ⟨by omega,trivial⟩ (by (try dsimp only);omega) (by (try dsimp only);rw [hws]) (by (try dsimp only);rw [hsp];exact sba) (by exact sba)
      ·have hwb:wB on c=true:=by unfold wB;rw [hl,decide_eq_true h2,decide_eq_true h6];rfl
       rw [if_pos hwb] at hws
       obtain ⟨ha0,ha1⟩:=hca hwb
       obtain ⟨j,hj⟩:∃ j:Nat,c.a=(j:Int):=⟨c.a.toNat,by omega⟩
       have hbr:bring c.a 64=(j:Int):=by rw [bring_self ha0 ha1,hj]
       rw [hj,Int.toNat_natCast] at hws
       repeat (refine s7_L013b ?_;intros)
       rw [hbr]
       refine JO.pure rfl rfl rfl (JPure.indexBl rfl rfl rfl (by omega) ?_)
       refine JO.eff rfl rfl rfl (JEff.storeBl rfl rfl (List.Perm.refl _) (by rw [hwl];omega) (by intro l hl;cases hl) ?_)
       repeat (refine s7_L013b ?_;intros)
       cases hs0:(L.take k).any (fun c=>decide (c.kind=7))
       ·rw [hs0,Bool.false_or] at hsp
        repeat (refine s7_L013b ?_;intros)
        exact JX.roundF (k+1) (by exact lea) ⟨by omega,trivial⟩ (by (try dsimp only);omega) (by (try dsimp only);rw [hws]) (by (try dsimp only);rw [hsp];exact sba) (by exact sba)
       ·rw [hs0,Bool.true_or] at hsp
        repeat (refine s7_L013b ?_;intros)
        exact JX.roundF (k+1) (by exact lea) ⟨by omega,trivial⟩ (by (try dsimp only);omega) (by (try dsimp only);rw [hws]) (by (try dsimp only);rw [hsp];exact sba) (by exact sba)
     ·rw [decide_eq_false h6]
      have hwb:wB on c=false:=by unfold wB;rw [decide_eq_false h6,Bool.and_false];rfl
      rw [if_neg (by rw [hwb];simp)] at hws
      repeat (refine s7_L013b ?_;intros)
      cases hs0:(L.take k).any (fun c=>decide (c.kind=7))
      ·rw [hs0,Bool.false_or] at hsp
       repeat (refine s7_L013b ?_;intros)
       exact JX.roundF (k+1) (by exact lea) ⟨by omega,trivial⟩ (by (try dsimp only);omega) (by (try dsimp only);rw [hws]) (by (try dsimp only);rw [hsp];exact sba) (by exact sba)
      ·rw [hs0,Bool.true_or] at hsp
       repeat (refine s7_L013b ?_;intros)
       exact JX.roundF (k+1) (by exact lea) ⟨by omega,trivial⟩ (by (try dsimp only);omega) (by (try dsimp only);rw [hws]) (by (try dsimp only);rw [hsp];exact sba) (by exact sba)
    ·rw [show decide (c.kind≥2)=false from decide_eq_false h2]
     have hwb:wB on c=false:=by unfold wB;rw [decide_eq_false h2];rfl
     rw [if_neg (by rw [hwb];simp)] at hws
     repeat (refine s7_L013b ?_;intros)
     cases hs0:(L.take k).any (fun c=>decide (c.kind=7))
     ·rw [hs0,Bool.false_or] at hsp
      repeat (refine s7_L013b ?_;intros)
      exact JX.roundF (k+1) (by exact lea) ⟨by omega,trivial⟩ (by (try dsimp only);omega) (by (try dsimp only);rw [hws]) (by (try dsimp only);rw [hsp];exact sba) (by exact sba)
     ·rw [hs0,Bool.true_or] at hsp
      repeat (refine s7_L013b ?_;intros)
      exact JX.roundF (k+1) (by exact lea) ⟨by omega,trivial⟩ (by (try dsimp only);omega) (by (try dsimp only);rw [hws]) (by (try dsimp only);rw [hsp];exact sba) (by exact sba)
   ·have hk':=dnlt hc
    have hW:∀ i:Nat,i < 64→(wrK L on k)[i]?=some (L.any (fun c=>wB on c&&decide (c.a=i))):=fun i hi=>by rw [wrK_at L on k hi,List.take_of_length_le hk']
    rw [List.take_of_length_le hk']
    repeat (refine s7_L013b ?_;intros)
    refine JC.loopF [(2,_),(5,_),(6,_),(11,_),(12,_)] (fun (m:Nat)=>[(14,.int .i64 m)]) (fun m=>[.blk wb (.cells (bls (wrK L on k)) 75 (0,0))]) (fun Sm m=>m≤(placeV s).length∧(True)) (fun m=>(placeV s).length - m) 0 (by exact sba) (by exact sba) rfl ⟨Nat.zero_le _,trivial⟩ ?_;intro Sm m hlm him;obtain ⟨hm,him⟩:=him;(try dsimp only at hm him);dsimp only [List.cons_append,List.nil_append]
    repeat (refine s7_L013b ?_;intros)
    cases hc3:decide ((m:Int) < (placeV s).length)
    ·repeat (refine s7_L013b ?_;intros)
     (refine JX.ret1 Tryz.results7 (ResV.tmp rfl) (List.nil_sublist _) ?_)
     exact ⟨rfl,rfl⟩
    ·have hm:=dlt hc3
     have hWm:=hW m (by omega)
     repeat (refine s7_L013b ?_;intros)
     rw [decide_eq_true (show (m:Int) < 64 by omega)]
     repeat (first|(refine Walk ?_;intros)|refine JC.block ?_|refine JO.pure rfl rfl rfl (JPure.indexBl rfl rfl rfl (by omega) ?_)|refine JO.pure rfl rfl rfl (JPure.loadMBl rfl (by (first|exact List.mem_cons_self|exact List.mem_cons_of_mem _ List.mem_cons_self|exact List.mem_cons_of_mem _ (List.mem_cons_of_mem _ List.mem_cons_self))) hWm (.inl rfl) rfl ?_)|(refine JO.pure rfl rfl rfl (JPure.and rfl rfl rfl ?_))|(refine JO.eff rfl rfl rfl (JEff.callV rfl (p7_Check (by exact vta) (by exact vta)) rfl ?_);intro _ _)|(refine JO.eff rfl rfl rfl (JEff.callV rfl (p13_Fine (by exact vta) (by exact vta) (by exact vta)) rfl ?_);intro _ _)|(refine JO.eff rfl rfl rfl (JEff.callV rfl (p13_Why _ (by exact vta) (by exact vta) (by exact vta)) rfl ?_);intro _ _)|(refine JO.eff rfl rfl rfl (JEff.callV rfl (q13_works) rfl ?_);intro _ _)|(refine JO.eff rfl rfl rfl (JEff.callL rfl (p5_Placement (by exact vta)) rfl ?_);intro _ _ _ _ _ _)|(refine JO.eff rfl rfl rfl (JEff.callV rfl (r0_Bring _ _ (by omega) (by omega) (by assumption)) rfl ?_);intro _ _)|(refine JO.eff rfl rfl rfl (JEff.callV rfl (p9_Safe (by exact vta) (by exact vta)) rfl ?_);intro _ _)|(refine JO.eff rfl rfl rfl (JEff.callL rfl (p8_Broken (by exact vta) (by exact vta)) rfl ?_);intro _ _ _ _ _ _)|(refine WBox ?_;intros))
     have hww:=wrong_why (s:=s) (p:=placeV s) (on:=on) (i:=m) hok (by omega) hm
     have hrr:=right_why (s:=s) (p:=placeV s) (on:=on) (i:=m) hok (by omega) hm
     rw [hL] at hww hrr
     cases hwv:L.any (fun c=>wB on c&&decide (c.a=(m:Int)))
     ·rw [hwv] at hWm
      repeat (first|(refine Walk ?_;intros)|refine JC.block ?_|refine JO.pure rfl rfl rfl (JPure.indexBl rfl rfl rfl (by omega) ?_)|refine JO.pure rfl rfl rfl (JPure.loadMBl rfl (by (first|exact List.mem_cons_self|exact List.mem_cons_of_mem _ List.mem_cons_self|exact List.mem_cons_of_mem _ (List.mem_cons_of_mem _ List.mem_cons_self))) hWm (.inl rfl) rfl ?_)|(refine JO.pure rfl rfl rfl (JPure.and rfl rfl rfl ?_))|(refine JO.eff rfl rfl rfl (JEff.callV rfl (p7_Check (by exact vta) (by exact vta)) rfl ?_);intro _ _)|(refine JO.eff rfl rfl rfl (JEff.callV rfl (p13_Fine (by exact vta) (by exact vta) (by exact vta)) rfl ?_);intro _ _)|(refine JO.eff rfl rfl rfl (JEff.callV rfl (p13_Why _ (by exact vta) (by exact vta) (by exact vta)) rfl ?_);intro _ _)|(refine JO.eff rfl rfl rfl (JEff.callV rfl (q13_works) rfl ?_);intro _ _)|(refine JO.eff rfl rfl rfl (JEff.callL rfl (p5_Placement (by exact vta)) rfl ?_);intro _ _ _ _ _ _)|(refine JO.eff rfl rfl rfl (JEff.callV rfl (r0_Bring _ _ (by omega) (by omega) (by assumption)) rfl ?_);intro _ _)|(refine JO.eff rfl rfl rfl (JEff.callV rfl (p9_Safe (by exact vta) (by exact vta)) rfl ?_);intro _ _)|(refine JO.eff rfl rfl rfl (JEff.callL rfl (p8_Broken (by exact vta) (by exact vta)) rfl ?_);intro _ _ _ _ _ _)|(refine WBox ?_;intros))
      by_cases hy:whyV s (placeV s) (pol0 on) m=0
      ·rw [decide_eq_true hy]
       repeat (first|(refine Walk ?_;intros)|refine JC.block ?_|refine JO.pure rfl rfl rfl (JPure.indexBl rfl rfl rfl (by omega) ?_)|refine JO.pure rfl rfl rfl (JPure.loadMBl rfl (by (first|exact List.mem_cons_self|exact List.mem_cons_of_mem _ List.mem_cons_self|exact List.mem_cons_of_mem _ (List.mem_cons_of_mem _ List.mem_cons_self))) hWm (.inl rfl) rfl ?_)|(refine JO.pure rfl rfl rfl (JPure.and rfl rfl rfl ?_))|(refine JO.eff rfl rfl rfl (JEff.callV rfl (p7_Check (by exact vta) (by exact vta)) rfl ?_);intro _ _)|(refine JO.eff rfl rfl rfl (JEff.callV rfl (p13_Fine (by exact vta) (by exact vta) (by exact vta)) rfl ?_);intro _ _)|(refine JO.eff rfl rfl rfl (JEff.callV rfl (p13_Why _ (by exact vta) (by exact vta) (by exact vta)) rfl ?_);intro _ _)|(refine JO.eff rfl rfl rfl (JEff.callV rfl (q13_works) rfl ?_);intro _ _)|(refine JO.eff rfl rfl rfl (JEff.callL rfl (p5_Placement (by exact vta)) rfl ?_);intro _ _ _ _ _ _)|(refine JO.eff rfl rfl rfl (JEff.callV rfl (r0_Bring _ _ (by omega) (by omega) (by assumption)) rfl ?_);intro _ _)|(refine JO.eff rfl rfl rfl (JEff.callV rfl (p9_Safe (by exact vta) (by exact vta)) rfl ?_);intro _ _)|(refine JO.eff rfl rfl rfl (JEff.callL rfl (p8_Broken (by exact vta) (by exact vta)) rfl ?_);intro _ _ _ _ _ _)|(refine WBox ?_;intros))
       exact JX.roundF (m+1) (by exact lea) ⟨by omega,(trivial)⟩ (by (try dsimp only);omega) rfl (by exact sba) (by exact sba)
      ·obtain ⟨e5,esp,eb⟩:=hrr hwv hy
       have e8:decide (andV (pol0 on).on 8=0)=false:=by
        have this:(!decide (andV (pol0 on).on 8=0))=bitB on 3:=on_bit (g:=pol0 on) (pol0_ok (by omega)) 3
        rw [eb,Bool.not_eq_true'] at this
        exact this
       rw [decide_eq_false hy]
       repeat (first|(refine Walk ?_;intros)|refine JC.block ?_|refine JO.pure rfl rfl rfl (JPure.indexBl rfl rfl rfl (by omega) ?_)|refine JO.pure rfl rfl rfl (JPure.loadMBl rfl (by (first|exact List.mem_cons_self|exact List.mem_cons_of_mem _ List.mem_cons_self|exact List.mem_cons_of_mem _ (List.mem_cons_of_mem _ List.mem_cons_self))) hWm (.inl rfl) rfl ?_)|(refine JO.pure rfl rfl rfl (JPure.and rfl rfl rfl ?_))|(refine JO.eff rfl rfl rfl (JEff.callV rfl (p7_Check (by exact vta) (by exact vta)) rfl ?_);intro _ _)|(refine JO.eff rfl rfl rfl (JEff.callV rfl (p13_Fine (by exact vta) (by exact vta) (by exact vta)) rfl ?_);intro _ _)|(refine JO.eff rfl rfl rfl (JEff.callV rfl (p13_Why _ (by exact vta) (by exact vta) (by exact vta)) rfl ?_);intro _ _)|(refine JO.eff rfl rfl rfl (JEff.callV rfl (q13_works) rfl ?_);intro _ _)|(refine JO.eff rfl rfl rfl (JEff.callL rfl (p5_Placement (by exact vta)) rfl ?_);intro _ _ _ _ _ _)|(refine JO.eff rfl rfl rfl (JEff.callV rfl (r0_Bring _ _ (by omega) (by omega) (by assumption)) rfl ?_);intro _ _)|(refine JO.eff rfl rfl rfl (JEff.callV rfl (p9_Safe (by exact vta) (by exact vta)) rfl ?_);intro _ _)|(refine JO.eff rfl rfl rfl (JEff.callL rfl (p8_Broken (by exact vta) (by exact vta)) rfl ?_);intro _ _ _ _ _ _)|(refine WBox ?_;intros))
       rw [e5,esp]
       repeat (first|(refine Walk ?_;intros)|refine JC.block ?_|refine JO.pure rfl rfl rfl (JPure.indexBl rfl rfl rfl (by omega) ?_)|refine JO.pure rfl rfl rfl (JPure.loadMBl rfl (by (first|exact List.mem_cons_self|exact List.mem_cons_of_mem _ List.mem_cons_self|exact List.mem_cons_of_mem _ (List.mem_cons_of_mem _ List.mem_cons_self))) hWm (.inl rfl) rfl ?_)|(refine JO.pure rfl rfl rfl (JPure.and rfl rfl rfl ?_))|(refine JO.eff rfl rfl rfl (JEff.callV rfl (p7_Check (by exact vta) (by exact vta)) rfl ?_);intro _ _)|(refine JO.eff rfl rfl rfl (JEff.callV rfl (p13_Fine (by exact vta) (by exact vta) (by exact vta)) rfl ?_);intro _ _)|(refine JO.eff rfl rfl rfl (JEff.callV rfl (p13_Why _ (by exact vta) (by exact vta) (by exact vta)) rfl ?_);intro _ _)|(refine JO.eff rfl rfl rfl (JEff.callV rfl (q13_works) rfl ?_);intro _ _)|(refine JO.eff rfl rfl rfl (JEff.callL rfl (p5_Placement (by exact vta)) rfl ?_);intro _ _ _ _ _ _)|(refine JO.eff rfl rfl rfl (JEff.callV rfl (r0_Bring _ _ (by omega) (by omega) (by assumption)) rfl ?_);intro _ _)|(refine JO.eff rfl rfl rfl (JEff.callV rfl (p9_Safe (by exact vta) (by exact vta)) rfl ?_);intro _ _)|(refine JO.eff rfl rfl rfl (JEff.callL rfl (p8_Broken (by exact vta) (by exact vta)) rfl ?_);intro _ _ _ _ _ _)|(refine WBox ?_;intros))
       rw [e8]
       repeat (first|(refine Walk ?_;intros)|refine JC.block ?_|refine JO.pure rfl rfl rfl (JPure.indexBl rfl rfl rfl (by omega) ?_)|refine JO.pure rfl rfl rfl (JPure.loadMBl rfl (by (first|exact List.mem_cons_self|exact List.mem_cons_of_mem _ List.mem_cons_self|exact List.mem_cons_of_mem _ (List.mem_cons_of_mem _ List.mem_cons_self))) hWm (.inl rfl) rfl ?_)|(refine JO.pure rfl rfl rfl (JPure.and rfl rfl rfl ?_))|(refine JO.eff rfl rfl rfl (JEff.callV rfl (p7_Check (by exact vta) (by exact vta)) rfl ?_);intro _ _)|(refine JO.eff rfl rfl rfl (JEff.callV rfl (p13_Fine (by exact vta) (by exact vta) (by exact vta)) rfl ?_);intro _ _)|(refine JO.eff rfl rfl rfl (JEff.callV rfl (p13_Why _ (by exact vta) (by exact vta) (by exact vta)) rfl ?_);intro _ _)|(refine JO.eff rfl rfl rfl (JEff.callV rfl (q13_works) rfl ?_);intro _ _)|(refine JO.eff rfl rfl rfl (JEff.callL rfl (p5_Placement (by exact vta)) rfl ?_);intro _ _ _ _ _ _)|(refine JO.eff rfl rfl rfl (JEff.callV rfl (r0_Bring _ _ (by omega) (by omega) (by assumption)) rfl ?_);intro _ _)|(refine JO.eff rfl rfl rfl (JEff.callV rfl (p9_Safe (by exact vta) (by exact vta)) rfl ?_);intro _ _)|(refine JO.eff rfl rfl rfl (JEff.callL rfl (p8_Broken (by exact vta) (by exact vta)) rfl ?_);intro _ _ _ _ _ _)|(refine WBox ?_;intros))
       exact JX.roundF (m+1) (by exact lea) ⟨by omega,(trivial)⟩ (by (try dsimp only);omega) rfl (by exact sba) (by exact sba)
     ·have hy:=hww hwv
      rw [hwv] at hWm
      repeat (first|(refine Walk ?_;intros)|refine JC.block ?_|refine JO.pure rfl rfl rfl (JPure.indexBl rfl rfl rfl (by omega) ?_)|refine JO.pure rfl rfl rfl (JPure.loadMBl rfl (by (first|exact List.mem_cons_self|exact List.mem_cons_of_mem _ List.mem_cons_self|exact List.mem_cons_of_mem _ (List.mem_cons_of_mem _ List.mem_cons_self))) hWm (.inl rfl) rfl ?_)|(refine JO.pure rfl rfl rfl (JPure.and rfl rfl rfl ?_))|(refine JO.eff rfl rfl rfl (JEff.callV rfl (p7_Check (by exact vta) (by exact vta)) rfl ?_);intro _ _)|(refine JO.eff rfl rfl rfl (JEff.callV rfl (p13_Fine (by exact vta) (by exact vta) (by exact vta)) rfl ?_);intro _ _)|(refine JO.eff rfl rfl rfl (JEff.callV rfl (p13_Why _ (by exact vta) (by exact vta) (by exact vta)) rfl ?_);intro _ _)|(refine JO.eff rfl rfl rfl (JEff.callV rfl (q13_works) rfl ?_);intro _ _)|(refine JO.eff rfl rfl rfl (JEff.callL rfl (p5_Placement (by exact vta)) rfl ?_);intro _ _ _ _ _ _)|(refine JO.eff rfl rfl rfl (JEff.callV rfl (r0_Bring _ _ (by omega) (by omega) (by assumption)) rfl ?_);intro _ _)|(refine JO.eff rfl rfl rfl (JEff.callV rfl (p9_Safe (by exact vta) (by exact vta)) rfl ?_);intro _ _)|(refine JO.eff rfl rfl rfl (JEff.callL rfl (p8_Broken (by exact vta) (by exact vta)) rfl ?_);intro _ _ _ _ _ _)|(refine WBox ?_;intros))
      rw [decide_eq_false hy]
      repeat (first|(refine Walk ?_;intros)|refine JC.block ?_|refine JO.pure rfl rfl rfl (JPure.indexBl rfl rfl rfl (by omega) ?_)|refine JO.pure rfl rfl rfl (JPure.loadMBl rfl (by (first|exact List.mem_cons_self|exact List.mem_cons_of_mem _ List.mem_cons_self|exact List.mem_cons_of_mem _ (List.mem_cons_of_mem _ List.mem_cons_self))) hWm (.inl rfl) rfl ?_)|(refine JO.pure rfl rfl rfl (JPure.and rfl rfl rfl ?_))|(refine JO.eff rfl rfl rfl (JEff.callV rfl (p7_Check (by exact vta) (by exact vta)) rfl ?_);intro _ _)|(refine JO.eff rfl rfl rfl (JEff.callV rfl (p13_Fine (by exact vta) (by exact vta) (by exact vta)) rfl ?_);intro _ _)|(refine JO.eff rfl rfl rfl (JEff.callV rfl (p13_Why _ (by exact vta) (by exact vta) (by exact vta)) rfl ?_);intro _ _)|(refine JO.eff rfl rfl rfl (JEff.callV rfl (q13_works) rfl ?_);intro _ _)|(refine JO.eff rfl rfl rfl (JEff.callL rfl (p5_Placement (by exact vta)) rfl ?_);intro _ _ _ _ _ _)|(refine JO.eff rfl rfl rfl (JEff.callV rfl (r0_Bring _ _ (by omega) (by omega) (by assumption)) rfl ?_);intro _ _)|(refine JO.eff rfl rfl rfl (JEff.callV rfl (p9_Safe (by exact vta) (by exact vta)) rfl ?_);intro _ _)|(refine JO.eff rfl rfl rfl (JEff.callL rfl (p8_Broken (by exact vta) (by exact vta)) rfl ?_);intro _ _ _ _ _ _)|(refine WBox ?_;intros))
      exact JX.roundF (m+1) (by exact lea) ⟨by omega,(trivial)⟩ (by (try dsimp only);omega) rfl (by exact sba) (by exact sba)
 ·rw [decide_eq_false hok]
  repeat (refine s7_L013b ?_;intros)
  (refine JX.ret1 Tryz.results7 (ResV.tmp rfl) (List.nil_sublist _) ?_)
  exact ⟨rfl,rfl⟩
end Go.Dr
namespace Go.Dr
open Go.RowKit
def heapS (w:World):SHeap:=fun b=>w.heap[b]?
theorem agree_heapS (w:World):Agree (heapS w) w:=fun _ _ h=>h
theorem heapS_cell {w:World} {a:Addr} {v:Value} (h:w.cell? a=some v):(heapS w).cell? a=some v:=by
 unfold World.cell? at h
 unfold SHeap.cell? heapS
 exact h
class RdR {α:Type} (P:Program) (T:TypeId) (rep:Rp α):Prop where
 rd:∀ {H:Type} {enc:TypeId × Value→H} {w:World} {base:Nat} {spare:Nat→Bool} {held:Bool} {fuel:Nat} {cs:List Value} {d:DataW H} {ps:List MemPlace},
  DataW.trod enc P w base spare held fuel T cs=some (d,ps)→(∀ n∈d.weights P T,n≤reachBytes)→∃ x,rep.R (heapS w) cs x
theorem cells_sz {α:Type} {P:Program} {T:TypeId} {rep:Rp α} (h:TyR P T rep):P.cellsOf T=rep.sz:=by
 obtain ⟨i,hi,hs⟩:=h.i
 unfold Program.cellsOf
 rw [hi]
 exact hs
theorem bytes_of {P:Program} {E:TypeId} {bt:Nat} (h:Byt P E bt):P.bytesOf E=bt:=by
 have:=h.h
 unfold Program.bytesOf
 rw [this];rfl
instance {P:Program} {T:TypeId} [h:Und P T (.int .i64)]:RdR P T rI64 where
 rd ht _:=by
  obtain ⟨n,rfl,_,hw⟩:=DataW.trod_int h.h ht
  refine ⟨n,rfl,?_⟩
  simp only [Lit.wf,Bool.and_eq_true,decide_eq_true_eq] at hw
  exact hw
instance {P:Program} {T:TypeId} [h:Und P T .bool]:RdR P T rBool where
 rd ht _:=by
  obtain ⟨b,rfl,_⟩:=DataW.trod_bool h.h ht
  exact ⟨b,rfl⟩
theorem reach_big:reachBytes≤big:=by decide
instance {P:Program} {T:TypeId} [h:Und P T .string]:RdR P T rStr where
 rd ht hw:=by
  obtain ⟨s,rfl,hd,hs⟩:=DataW.trod_string h.h ht
  cases hd
  refine ⟨s,rfl,?_⟩
  have:=hw s.data.toList.length (by simp [DataW.weights])
  have e:s.data.toList.length=s.size:=Array.length_toList
  have:=reach_big
  omega
theorem list_of {α:Type}:∀ {n:Nat} {q:Nat→α→Prop},(∀ i,i < n→∃ x,q i x)→∃ l:List α,l.length=n∧∀ i x,l[i]?=some x→q i x
 | 0,_,_=>⟨[],rfl,fun i x h=>by simp at h⟩
 | n+1,q,h=>by
  obtain ⟨x,hx⟩:=h 0 (by omega)
  obtain ⟨l,hl,hq⟩:=list_of (n:=n) (q:=fun i=>q (i+1)) (fun i hi=>h (i+1) (by omega))
  refine ⟨x::l,by simp [hl],fun i y hy=>?_⟩
  cases i with
  | zero=>cases hy;exact hx
  | succ i=>exact hq i y hy
theorem weights_all {H:Type} {P:Program} {e:TypeId}:∀ {l:List (DataW H)} {d:DataW H} {n:Nat},d∈l→n∈d.weights P e→n∈DataW.weightsAll P e l
 | a::l,d,n,hd,hn=>by
  simp only [DataW.weightsAll,List.mem_append]
  rcases List.mem_cons.1 hd with rfl|hd
  ·exact .inl hn
  ·exact .inr (weights_all hd hn)
instance {α:Type} {P:Program} {T E:TypeId} {bt:Nat} {rep:Rp α} [hu:Und P T (.slice E)] [hr:RdR P E rep] [ht:TyR P E rep] [hb:Byt P E bt] [hz:NeZero bt]:RdR P T (rSlice bt rep) where
 rd h hw:=by
  rcases Deep.open_slice hu.h h with ⟨rfl,_⟩|⟨a,len,cap,m,n,D,Pl,rfl,_,hlc,hcm,hm,hx,hel⟩
  ·exact ⟨[],none,0,0,rfl,rfl,Nat.le_refl _,by simp,Nat.zero_le _,fun i x h=>by simp at h⟩
  ·cases hx
   have hmb:len≤m:=by rw [hm];split<;>omega
   have hrb:=reach_big
   have hbt1:1≤bt:=Nat.one_le_iff_ne_zero.2 hz.out
   have hlen1:len*1≤len*bt:=Nat.mul_le_mul_left _ hbt1
   have hwt:=hw ((((List.range len).map D).length+((List.range (m - len)).map fun j=>D (len+j)).length)*P.bytesOf E) (by simp [DataW.weights,hu.h])
   rw [bytes_of hb] at hwt
   simp only [List.length_map,List.length_range] at hwt
   have hlen:len*bt≤(len+(m - len))*bt:=Nat.mul_le_mul_right _ (by omega)
   obtain ⟨xs,hxl,hxs⟩:=list_of (n:=len) (q:=fun i x=>PtrTo (heapS _) (a.add (i*rep.sz)) rep x) (fun i hi=>by
    obtain ⟨cs',h1,h2⟩:=hel i (by omega)
    obtain ⟨_,hcl,hcs⟩:=World.cells?_some h1
    obtain ⟨x,hx⟩:=hr.rd h2 (fun k hk=>hw k (by
     simp only [DataW.weights,hu.h,List.mem_cons,List.mem_append]
     exact .inr (.inl (weights_all (List.mem_map.2 ⟨i,by simpa using hi,rfl⟩) hk))))
    rw [cells_sz ht] at hcs hcl
    refine ⟨x,cs',hx,fun j v hv=>heapS_cell ?_⟩
    have hj:=(List.getElem?_eq_some_iff.1 hv).1
    rw [hcs j (by omega)];exact hv)
   refine ⟨xs,some a,len,cap,rfl,hxl,hlc,by omega,by omega,fun i x h=>⟨a,rfl,hxs i x h⟩⟩
instance {P:Program} {T E:TypeId} {n:Nat} [hu:Und P T (.array n E)] [he:Und P E (.int .i64)] [ht:TyR P E rI64] [htt:TyR P T (rArr n)]:RdR P T (rArr n) where
 rd h _:=by
  rename_i cs d ps _
  obtain ⟨xs,m,rfl,_,hcl,hxl,hx⟩:=DataW.trod_array hu.h h
  have hsz:P.cellsOf E=1:=cells_sz ht
  rw [cells_sz htt] at hcl
  have hcl:cs.length=n:=hcl
  obtain ⟨l,hll,hl⟩:=list_of (n:=n) (q:=fun i (z:Int)=>cs[i]?=some (.int .i64 z)∧Rng z) (fun i hi=>by
   have h1:=hx i hi
   rw [hsz,Nat.mul_one,List.getElem?_eq_getElem (by omega)] at h1
   obtain ⟨z,hz,_,hw⟩:=DataW.trod_int he.h h1
   refine ⟨z,?_,?_⟩
   ·have:((cs.drop i).take 1)[0]?=some (.int .i64 z):=by rw [hz];rfl
    rw [List.getElem?_take,if_pos (by omega),List.getElem?_drop] at this
    simpa using this
   ·simp only [Lit.wf,Bool.and_eq_true,decide_eq_true_eq] at hw
    exact hw)
  refine ⟨l,hll,?_,fun x hx=>?_⟩
  ·apply List.ext_getElem?
   intro i
   rw [List.getElem?_map]
   by_cases hi:i < n
   ·have hg:l[i]?=some l[i]:=List.getElem?_eq_getElem (by omega)
    rw [hg,(hl i _ hg).1];rfl
   ·rw [List.getElem?_eq_none (by omega),List.getElem?_eq_none (by omega)];rfl
  ·obtain ⟨i,hi⟩:=List.getElem?_of_mem hx
   exact (hl i x hi).2
structure RdF {α:Type} (P:Program) (off:Nat) (fs:List Field) (rep:Rp α):Prop where
 run:∀ {H:Type} {enc:TypeId × Value→H} {w:World} {base:Nat} {spare:Nat→Bool} {held:Bool} {m:Nat} {cs:List Value} {xs:List (DataW H × List MemPlace)},cs.length=off+rep.sz→xs.length=fs.length →
  (∀ (i:Nat) (f:Field),fs[i]?=some f→DataW.trod enc P w base spare held m f.type ((cs.drop f.offset).take (P.cellsOf f.type))=xs[i]?) →
  (∀ n∈DataW.weightsEach P (fs.map (·.type)) (xs.map (·.1)),n≤reachBytes)→∃ x,rep.R (heapS w) (cs.drop off) x
theorem RdF.last {α:Type} {P:Program} {off:Nat} {f:Field} {rep:Rp α} (ho:f.offset=off) (hr:RdR P f.type rep) (hs:P.cellsOf f.type=rep.sz):RdF P off [f] rep:=⟨by
 intro H enc w base spare held m cs xs hc hl hx hw
 match xs,hl with
 | [y],_=>
  have h1:=hx 0 f rfl
  rw [ho,hs,List.take_of_length_le (by rw [List.length_drop];omega)] at h1
  refine hr.rd (d:=y.1) (ps:=y.2) h1 (fun n hn=>hw n ?_)
  simp only [List.map_cons,DataW.weightsEach,List.mem_append]
  exact .inl hn⟩
theorem RdF.cons {α β:Type} {P:Program} {off:Nat} {f:Field} {fs:List Field} {a:Rp α} {b:Rp β} (ho:f.offset=off) (hr:RdR P f.type a) (hs:P.cellsOf f.type=a.sz) (h:RdF P (off+a.sz) fs b):RdF P off (f::fs) (rSeq a b):=⟨by
 intro H enc w base spare held m cs xs hc hl hx hw
 match xs,hl with
 | y::ys,hl=>
  have hc:cs.length=off+(a.sz+b.sz):=hc
  have h1:=hx 0 f rfl
  rw [ho,hs] at h1
  obtain ⟨x1,hx1⟩:=hr.rd (d:=y.1) (ps:=y.2) h1 (fun n hn=>hw n (by
   simp only [List.map_cons,DataW.weightsEach,List.mem_append]
   exact .inl hn))
  obtain ⟨x2,hx2⟩:=h.run (cs:=cs) (xs:=ys) (by omega) (by simpa using hl) (fun i g hg=>hx (i+1) g hg) (fun n hn=>hw n (by
   simp only [List.map_cons,DataW.weightsEach,List.mem_append]
   exact .inr hn))
  refine ⟨(x1,x2),(cs.drop off).take a.sz,cs.drop (off+a.sz),?_,hx1,hx2⟩
  rw [← List.drop_drop,List.take_append_drop]⟩
theorem RdR.struct {α:Type} {P:Program} {T:TypeId} {fs:Array Field} {rep:Rp α} (hu:P.underlying T=some (.struct fs)) (hs:P.cellsOf T=rep.sz) (h:RdF P 0 fs.toList rep):RdR P T rep where
 rd ht hw:=by
  obtain ⟨xs,n,rfl,hx,hcl,hxl,hel⟩:=DataW.trod_struct hu ht
  cases hx
  obtain ⟨x,hx⟩:=h.run (xs:=xs) (by rw [hcl,hs];omega) (by simpa using hxl) (fun i f hf=>hel i f (by simpa using hf)) (fun k hk=>hw k (by simpa [DataW.weights,hu] using hk))
  exact ⟨x,by simpa using hx⟩
theorem RdR.map {α γ:Type} {P:Program} {T:TypeId} {a:Rp α} {f:γ→α} (g:α→γ) (hg:∀ y,f (g y)=y) (h:RdR P T a):RdR P T (rMap f a) where
 rd ht hw:=by
  obtain ⟨x,hx⟩:=h.rd ht hw
  exact ⟨g x,by show a.R _ _ (f (g x));rw [hg];exact hx⟩
theorem notAgg_ok {P:Program} {W:World} {base:Nat} {T:TypeId} {v:Value} {d:TypeDesc} (hu:P.underlying T=some d) (ha:isAggD d=false) (h:Value.okWide P W .any base T v):∀ cs,v≠.agg cs:=by
 rintro cs rfl
 unfold Value.okWide at h
 rw [hu] at h
 cases d<;>first|(cases ha;done)|(simp only [Cell.okWide,Cell.ok,hu] at h;done)|(simp [Cell.okWide,Cell.ok,hu] at h)
theorem agg_ok {P:Program} {W:World} {base:Nat} {T:TypeId} {v:Value} {d:TypeDesc} (hu:P.underlying T=some d) (ha:isAggD d=true) (h:Value.okWide P W .any base T v):∃ cs,v=.agg cs:=by
 unfold Value.okWide at h
 rw [hu] at h
 cases d<;>first|(cases ha;done)|(obtain ⟨cs,h,_⟩:=h;exact ⟨cs,h⟩)
theorem rd_arg {α:Type} {H:Type} {enc:TypeId × Value→H} {P:Program} {W:World} {base:Nat} {T:TypeId} {v:Value} {d:DataW H} {ps:List MemPlace} (rep:Rp α) [ht:TyR P T rep] [hr:RdR P T rep] (hok:Value.okWide P W .any base T v)
  (h:DataW.Trod enc P W 0 (fun _=>true) true T v d ps) (hw:∀ n∈d.weights P T,n≤reachBytes):∃ x,rep.V (heapS W) v x:=by
 obtain ⟨fuel,hf⟩:=h
 obtain ⟨x,hx⟩:=hr.rd hf hw
 obtain ⟨dd,hd,ha⟩:=ht.u
 cases hag:rep.agg with
 | true=>
  obtain ⟨cs,rfl⟩:=agg_ok hd (ha.trans hag) hok
  exact ⟨x,cs.toList,by simpa [Value.cells] using hx,by simp [hag]⟩
 | false=>
  have hn:=notAgg_ok hd (ha.trans hag) hok
  have hc:v.cells=#[v]:=by cases v<;>first|rfl|exact absurd rfl (hn _)
  rw [hc] at hx
  exact ⟨x,[v],hx,by simp [hag]⟩
theorem sized_arg {H:Type} {P:Program} {ts:List TypeId} {ds:List (DataW H)} (h:(DataW.weightsEach P ts ds).all (·≤reachBytes)=true) {j:Nat} {t:TypeId} {d:DataW H} (ht:ts[j]?=some t) (hd:ds[j]?=some d):∀ n∈d.weights P t,n≤reachBytes:=fun n hn=>by
 have:=List.all_eq_true.1 h _ (DataW.weights_mem_each ht hd n hn)
 simpa using this
theorem FnV.calls {P:Program} {f:FuncId} {args:Array Value} {r:Value} {W:World} (h:FnV P f args (heapS W) r):Calls P f args W fun e W'=>e=.returned r∧Below W.heap.size W W':=by
 refine (h W (agree_heapS W) (by simp) .nil (by simp)).mono ?_
 rintro e w' ⟨v,S',M',rfl,hw,rfl,rfl⟩
 exact ⟨rfl,hw.below⟩
end Go.Dr
namespace Go.Dr
open Go.Proofs
set_option maxRecDepth 20000
instance:RdR Tryz.prog 213 rLabel:=RdR.map (fun y=>⟨y.1,y.2⟩) (fun _=>rfl) (RdR.struct Tryz.underlying213 (by kernel_rfl) (RdF.cons rfl (show RdR Tryz.prog 9 rStr from inferInstance) (by kernel_rfl) (RdF.last rfl (show RdR Tryz.prog 9 rStr from inferInstance) (by kernel_rfl))))
instance:RdR Tryz.prog 215 rTerm:=RdR.map (fun y=>⟨y.1,y.2.1,y.2.2⟩) (fun _=>rfl) (RdR.struct Tryz.underlying215 (by kernel_rfl) (RdF.cons rfl (show RdR Tryz.prog 3 rI64 from inferInstance) (by kernel_rfl) (RdF.cons rfl (show RdR Tryz.prog 9 rStr from inferInstance) (by kernel_rfl) (RdF.last rfl (show RdR Tryz.prog 9 rStr from inferInstance) (by kernel_rfl)))))
instance:RdR Tryz.prog 125 rNear:=RdR.map (fun y=>⟨y.1,y.2⟩) (fun _=>rfl) (RdR.struct Tryz.underlying125 (by kernel_rfl) (RdF.cons rfl (show RdR Tryz.prog 9 rStr from inferInstance) (by kernel_rfl) (RdF.last rfl (show RdR Tryz.prog 123 (rSlice 40 rTerm) from inferInstance) (by kernel_rfl))))
instance:RdR Tryz.prog 94 rNode:=RdR.map (fun y=>⟨y.1,y.2.1,y.2.2.1,y.2.2.2.1,y.2.2.2.2.1,y.2.2.2.2.2⟩) (fun _=>rfl) (RdR.struct Tryz.underlying94 (by kernel_rfl) (RdF.cons rfl (show RdR Tryz.prog 9 rStr from inferInstance) (by kernel_rfl) (RdF.cons rfl (show RdR Tryz.prog 91 (rArr 5) from inferInstance) (by kernel_rfl) (RdF.cons rfl (show RdR Tryz.prog 92 (rSlice 32 rLabel) from inferInstance) (by kernel_rfl) (RdF.cons rfl (show RdR Tryz.prog 92 (rSlice 32 rLabel) from inferInstance) (by kernel_rfl) (RdF.cons rfl (show RdR Tryz.prog 4 rBool from inferInstance) (by kernel_rfl) (RdF.last rfl (show RdR Tryz.prog 4 rBool from inferInstance) (by kernel_rfl))))))))
instance:RdR Tryz.prog 127 rPod:=RdR.map (fun y=>⟨y.1,y.2.1,y.2.2.1,y.2.2.2.1,y.2.2.2.2.1,y.2.2.2.2.2.1,y.2.2.2.2.2.2.1,y.2.2.2.2.2.2.2.1,y.2.2.2.2.2.2.2.2⟩) (fun _=>rfl) (RdR.struct Tryz.underlying127 (by kernel_rfl) (RdF.cons rfl (show RdR Tryz.prog 9 rStr from inferInstance) (by kernel_rfl) (RdF.cons rfl (show RdR Tryz.prog 9 rStr from inferInstance) (by kernel_rfl) (RdF.cons rfl (show RdR Tryz.prog 91 (rArr 5) from inferInstance) (by kernel_rfl) (RdF.cons rfl (show RdR Tryz.prog 92 (rSlice 32 rLabel) from inferInstance) (by kernel_rfl) (RdF.cons rfl (show RdR Tryz.prog 123 (rSlice 40 rTerm) from inferInstance) (by kernel_rfl) (RdF.cons rfl (show RdR Tryz.prog 92 (rSlice 32 rLabel) from inferInstance) (by kernel_rfl) (RdF.cons rfl (show RdR Tryz.prog 125 rNear from inferInstance) (by kernel_rfl) (RdF.cons rfl (show RdR Tryz.prog 125 rNear from inferInstance) (by kernel_rfl) (RdF.last rfl (show RdR Tryz.prog 9 rStr from inferInstance) (by kernel_rfl)))))))))))
instance:RdR Tryz.prog 147 rOwner:=RdR.map (fun y=>⟨y.1,y.2.1,y.2.2.1,y.2.2.2.1,y.2.2.2.2⟩) (fun _=>rfl) (RdR.struct Tryz.underlying147 (by kernel_rfl) (RdF.cons rfl (show RdR Tryz.prog 9 rStr from inferInstance) (by kernel_rfl) (RdF.cons rfl (show RdR Tryz.prog 3 rI64 from inferInstance) (by kernel_rfl) (RdF.cons rfl (show RdR Tryz.prog 9 rStr from inferInstance) (by kernel_rfl) (RdF.cons rfl (show RdR Tryz.prog 3 rI64 from inferInstance) (by kernel_rfl) (RdF.last rfl (show RdR Tryz.prog 4 rBool from inferInstance) (by kernel_rfl)))))))
instance:RdR Tryz.prog 26 rSnap:=RdR.map (fun y=>⟨y.1,y.2.1,y.2.2⟩) (fun _=>rfl) (RdR.struct Tryz.underlying26 (by kernel_rfl) (RdF.cons rfl (show RdR Tryz.prog 22 (rSlice 112 rNode) from inferInstance) (by kernel_rfl) (RdF.cons rfl (show RdR Tryz.prog 23 (rSlice 240 rPod) from inferInstance) (by kernel_rfl) (RdF.last rfl (show RdR Tryz.prog 24 (rSlice 56 rOwner) from inferInstance) (by kernel_rfl)))))
instance:RdR Tryz.prog 45 rStep:=RdR.map (fun y=>⟨y.1,y.2.1,y.2.2⟩) (fun _=>rfl) (RdR.struct Tryz.underlying45 (by kernel_rfl) (RdF.cons rfl (show RdR Tryz.prog 3 rI64 from inferInstance) (by kernel_rfl) (RdF.cons rfl (show RdR Tryz.prog 3 rI64 from inferInstance) (by kernel_rfl) (RdF.last rfl (show RdR Tryz.prog 3 rI64 from inferInstance) (by kernel_rfl)))))
instance:RdR Tryz.prog 41 rClause:=RdR.map (fun y=>⟨y.1,y.2.1,y.2.2.1,y.2.2.2⟩) (fun _=>rfl) (RdR.struct Tryz.underlying41 (by kernel_rfl) (RdF.cons rfl (show RdR Tryz.prog 3 rI64 from inferInstance) (by kernel_rfl) (RdF.cons rfl (show RdR Tryz.prog 3 rI64 from inferInstance) (by kernel_rfl) (RdF.cons rfl (show RdR Tryz.prog 3 rI64 from inferInstance) (by kernel_rfl) (RdF.last rfl (show RdR Tryz.prog 3 rI64 from inferInstance) (by kernel_rfl))))))
instance:RdR Tryz.prog 78 rMove:=RdR.map (fun y=>⟨y.1,y.2⟩) (fun _=>rfl) (RdR.struct Tryz.underlying78 (by kernel_rfl) (RdF.cons rfl (show RdR Tryz.prog 3 rI64 from inferInstance) (by kernel_rfl) (RdF.last rfl (show RdR Tryz.prog 3 rI64 from inferInstance) (by kernel_rfl))))
instance:RdR Tryz.prog 60 rWrong:=RdR.map (fun y=>⟨y.1,y.2.1,y.2.2⟩) (fun _=>rfl) (RdR.struct Tryz.underlying60 (by kernel_rfl) (RdF.cons rfl (show RdR Tryz.prog 3 rI64 from inferInstance) (by kernel_rfl) (RdF.cons rfl (show RdR Tryz.prog 3 rI64 from inferInstance) (by kernel_rfl) (RdF.last rfl (show RdR Tryz.prog 3 rI64 from inferInstance) (by kernel_rfl)))))
end Go.Dr
