/- Part 11 of the rules and of the walks that the proofs of this seat rest on; no condition. -/
import Derived.Test.YtlckpojpnfidoaaGreatA09
import Derived.WideLaws
import Derived.Deep.Slices
import Derived.OpenShut
import Derived.SizedLaws
import Derived.Carry
import Derived.Below
set_option linter.unusedVariables false
set_option linter.unusedSimpArgs false
namespace Go.Dr
open Go.Proofs
set_option maxRecDepth 20000
set_option maxHeartbeats 2000000
set_option linter.unusedSimpArgs false
set_option linter.unusedVariables false
def idxI (l:List Int) (n:Int):Int:=idxF (fun x=>decide (x=n)) l
theorem idxI_nn (l:List Int) (n:Int):decide (0≤idxI l n)=decide (n∈l):=by
 unfold idxI
 rw [idxF_nn,Bool.eq_iff_iff]
 simp
theorem p_Index_int {S:SHeap} {u:Value} {l:List Int} (n:Int) (hu:(rSlice 8 rI64).V S u l):FnV Tryz.prog 175 #[u,.int .i64 n] S (.int .i64 (idxI l n)):=by
 obtain ⟨a,c,rfl,_,_,hb,_⟩:=V_slice.1 hu
 unfold big at hb
 (refine Fn.enter (args:=[.slice a l.length c,.int .i64 n]) Tryz.func175 rfl Tryz.ntmps175 rfl ?_;intro w0)
 repeat (first|(refine Walk ?_;intros)|refine JC.block ?_)
 refine JC.loopF0 [(0,_),(1,_),(7,_)] (fun (k:Nat)=>[(8,.int .i64 k)]) (fun Sk k=>k≤l.length∧(l.findIdx? (fun x=>decide (x=n))=((l.drop k).findIdx? (fun x=>decide (x=n))).map (·+k))) (fun k=>l.length - k) 0 (by exact sba) (by exact sba) ⟨Nat.zero_le _,by simp⟩ ?_;intro Sk k hlk hik;obtain ⟨hk,hik⟩:=hik;(try dsimp only at hk hik);dsimp only [List.cons_append,List.nil_append]
 repeat (first|(refine Walk ?_;intros)|refine JC.block ?_)
 refine JC.cond rfl (fun hc=>?_) (fun hc=>?_)
 ·have hk':=dlt hc
  obtain ⟨x,hx,hd⟩:=drop_at hk'
  repeat (first|(refine Walk ?_;intros)|refine JC.block ?_)
  refine JC.cond rfl (fun h1=>?_) (fun h1=>?_)
  ·have h1:decide (x=n)=true:=by have:=of_decide_eq_true h1;simp [this]
   repeat (first|(refine Walk ?_;intros)|refine JC.block ?_)
   (refine JX.ret1 Tryz.results175 (ResV.tmp rfl) (List.nil_sublist _) ?_)
   exact ⟨rfl,by rw [idxI,idx_hit hd h1 hik]⟩
  ·have h1:decide (x=n)=false:=by have:=of_decide_eq_false h1;simp;exact fun h=>this h.symm
   repeat (first|(refine Walk ?_;intros)|refine JC.block ?_)
   exact JX.roundF (k+1) (by exact lea) ⟨by omega,(idx_step hd h1 hik)⟩ (by (try dsimp only);omega) rfl (by exact sba) (by exact sba)
 ·have hk':=dnlt hc
  repeat (first|(refine Walk ?_;intros)|refine JC.block ?_)
  (refine JX.ret1 Tryz.results175 (ResV.tmp rfl) (List.nil_sublist _) ?_)
  exact ⟨rfl,by rw [idxI,idx_miss (List.drop_eq_nil_of_le hk') hik]⟩
theorem p_Contains_int {S:SHeap} {u:Value} {l:List Int} (n:Int) (hu:(rSlice 8 rI64).V S u l):FnV Tryz.prog 118 #[u,.int .i64 n] S (.bool (decide (n∈l))):=by
 (refine Fn.enter (args:=[u,.int .i64 n]) Tryz.func118 rfl Tryz.ntmps118 rfl ?_;intro w0)
 repeat (first|(refine Walk ?_;intros)|refine JC.block ?_|(refine JO.eff rfl rfl rfl (JEff.callV rfl (p_Index_int _ (by exact vta)) rfl ?_);intro _ _))
 (refine JX.ret1 Tryz.results118 (ResV.tmp rfl) (List.nil_sublist _) ?_)
 exact ⟨rfl,by rw [← idxI_nn]⟩
theorem s120_L17b {P K:Prop} (k:K) (h:Goal K→P:=by
 intro zk
 (first|refine Walk ?_|refine JC.block ?_|(refine JO.eff rfl rfl rfl (JEff.callV rfl (p17_Can (by exact vta) (by exact vta) (by exact vta)) rfl ?_);intro zqa zqb)|(refine WBox ?_))
 (repeat (first|revert zqg|revert zqf|revert zqe|revert zqd|revert zqc|revert zqb|revert zqa))
 exact zk.k):P:=h ⟨k⟩
theorem p17_Find1 {S:SHeap} {a b c:Addr} {yv:Value} {s:Snap} {q:List Int} {x y:Move} (h1:PtrTo S a rMove x) (h2:PtrTo S b rSnap s) (h3:PtrTo S c (rSlice 8 rI64) q) (hy:rMove.V S yv y):FnV Tryz.prog 120 #[yv,.pointer (some a),.pointer (some b),.pointer (some c)] S (.bool (!decide (y.pod=x.pod)&&canV s q y)):=by
 (refine Fn.enter (args:=[yv,.pointer (some a),.pointer (some b),.pointer (some c)]) Tryz.func120 rfl Tryz.ntmps120 rfl ?_;intro w0)
 repeat (refine s120_L17b ?_;intros)
 by_cases h:y.pod=x.pod
 ·rw [decide_eq_true h]
  repeat (refine s120_L17b ?_;intros)
  (refine JX.ret1 Tryz.results120 (ResV.tmp rfl) (List.nil_sublist _) ?_)
  exact ⟨rfl,rfl⟩
 ·rw [decide_eq_false h]
  repeat (refine s120_L17b ?_;intros)
  (refine JX.ret1 Tryz.results120 (ResV.tmp rfl) (List.nil_sublist _) ?_)
  exact ⟨rfl,rfl⟩
theorem p_Clone_Move {S:SHeap} {u:Value} {l:List Move} (hu:(rSlice 16 rMove).V S u l):FnRow Tryz.prog 115 #[u] S 78 rMove l:=by
 have hu0:=hu
 obtain ⟨a,c,rfl,_,hb16,hb,_⟩:=V_slice.1 hu
 unfold big at hb16 hb
 (refine FnRow.enter (args:=[.slice a l.length c]) Tryz.func115 rfl Tryz.ntmps115 rfl ?_;intro w0)
 repeat (first|(refine Walk ?_;intros)|refine JC.block ?_)
 refine JO.pure rfl rfl rfl (JPure.eqNil rfl rfl rfl ?_)
 repeat (first|(refine Walk ?_;intros)|refine JC.block ?_)
 refine JC.cond rfl (fun hn=>?_) (fun hn=>?_)
 ·have ha:a=none:=by simpa using hn
  subst ha
  have hl:l=[]:=nil_slice hu0
  subst hl
  repeat (first|(refine Walk ?_;intros)|refine JC.block ?_)
  (first|refine JC.newRow 78 (Rp.sz rMove) ?_|refine JO.newRow 78 (Rp.sz rMove) ?_|refine JX.newRow 78 (Rp.sz rMove) ?_)
  exact JX.retRow (vs:=[]) Tryz.results115 (ResV.tmp rfl) rfl trivial
 ·repeat (first|(refine Walk ?_;intros)|refine JC.block ?_)
  refine JO.eff rfl rfl rfl (JEff.build0 rMove rfl ?_);intro b0
  repeat (first|(refine Walk ?_;intros)|refine JC.block ?_)
  (refine JO.eff rfl rfl rfl (JEff.appendS (rep:=rMove) rfl rfl (hu0.mono (by exact lea)) rfl rfl (List.Perm.refl _) (by unfold big;omega) (by unfold big;omega) (by intro l hl;cases hl) rfl ?_);intro a2 c2 us1 hus1)
  repeat (first|(refine Walk ?_;intros)|refine JC.block ?_)
  exact JX.retRow Tryz.results115 (ResV.tmp rfl) (Nat.zero_add _) hus1
theorem ptr_sl {α:Type} {S S':SHeap} {q:Addr} {v:Value} {bt:Nat} {rep:Rp α} {xs:List α} (hl:S.le S') (hq:PtrTo S q rVal v) (hv:(rSlice bt rep).V S' v xs):PtrTo S' q (rSlice bt rep) xs:=by
 obtain ⟨cs,⟨rfl,_⟩,hc⟩:=hq.mono hl
 exact ⟨[v],hv.one rfl,hc⟩
theorem find_none {s:Snap} {p:List Int} {l:List Move} {shun:List Int} {x:Move} {i:Int} {r:List Move} (h:findN s p l shun x=none):findGo s p l shun i (x::r)=findGo s p l shun (i+1) r:=findF_none h
theorem findN_bad {s:Snap} {p:List Int} {l:List Move} {shun:List Int} {x:Move} (h:¬ (askM s p x=0∧¬ at0 p x.pod.toNat=-1∧¬ at0 p x.pod.toNat=x.to∧(stepV s p (offS x.pod)).2.2=0)):findN s p l shun x=none:=if_neg h
theorem s53_L17b {P K:Prop} (k:K) (h:Goal K→P:=by
 intro zk
 (first|refine Walk ?_|refine JC.block ?_|refine JC.drawN 4 rfl [0,1,2,3,4,5,6,7,8,9,10,11,12,13,14,15,16,17,18,19,20,21,22] [0,1,2,4,5,6,7,8,9,10,11,12,13,14,15,16,17,18,19,20,21,22] Tryz_mixed (by decide +kernel) ?_|(refine JO.eff rfl rfl rfl (JEff.callL rfl (p14_Rank _ (by exact vta) (by exact vta) (by first|assumption|omega) (by first|assumption|(unfold Rng;omega))) rfl ?_);intro zqa zqb zqc zqd zqe zqf)|(refine JO.eff rfl rfl rfl (JEff.callRow rfl (p_Clone_int (by exact vta)) rfl ?_);intro zqa zqb zqc zqd zqe zqf)|(refine JO.eff rfl rfl rfl (JEff.callV rfl (p17_asked (by exact vta) (by exact vta) (by exact vta)) rfl ?_);intro zqa zqb)|(refine JO.eff rfl rfl rfl (JEff.callV rfl (p_Contains_int _ (by exact vta)) rfl ?_);intro zqa zqb)|(refine WBox ?_)|(refine WNew ?_)|(refine WPut ?_))
 (repeat (first|revert zqg|revert zqf|revert zqe|revert zqd|revert zqc|revert zqb|revert zqa))
 exact zk.k):P:=h ⟨k⟩
theorem p17_Find {S:SHeap} {u v lv w:Value} {s:Snap} {p shun:List Int} {l:List Move} (hu:rSnap.V S u s) (hv:(rSlice 8 rI64).V S v p) (hl:(rSlice 16 rMove).V S lv l) (hw:(rSlice 8 rI64).V S w shun):FnV Tryz.prog 53 #[u,v,lv,w] S (.tuple #[.int .i64 (findV s p l shun).1,.int .i64 (findV s p l shun).2.1,.bool (findV s p l shun).2.2]):=by
 have hv0:=hv
 obtain ⟨pa,pc,rfl,_,hb8,hb,hpr⟩:=V_slice.1 hv0
 obtain ⟨la,lc,rfl,_,_,hlb,_⟩:=V_slice.1 hl
 unfold big at hb hlb
 (refine Fn.enter (args:=[u,.slice pa p.length pc,.slice la l.length lc,w]) Tryz.func53 rfl Tryz.ntmps53 rfl ?_;intro w0)
 repeat (refine s53_L17b ?_;intros)
 refine JC.scope (fun _ _ _ h=>h) ?_
 repeat (first|(refine Walk ?_;intros)|refine JC.block ?_|refine JC.drawN 4 rfl [0,1,2,3,4,5,6,7,8,9,10,11,12,13,14,15,16,17,18,19,20,21,22] [0,1,2,4,5,6,7,8,9,10,11,12,13,14,15,16,17,18,19,20,21,22] Tryz_mixed (by decide +kernel) ?_|refine JC.label ?_|(refine JO.eff rfl rfl rfl (JEff.callL rfl (p14_Rank _ (by exact vta) (by exact vta) (by first|assumption|omega) (by first|assumption|(unfold Rng;omega))) rfl ?_);intro _ _ _ _ _ _)|(refine JO.eff rfl rfl rfl (JEff.callRow rfl (p_Clone_int (by exact vta)) rfl ?_);intro _ _ _ _ _ _)|(refine JO.eff rfl rfl rfl (JEff.callV rfl (p17_asked (by exact vta) (by exact vta) (by exact vta)) rfl ?_);intro _ _)|(refine JO.eff rfl rfl rfl (JEff.callV rfl (p_Contains_int _ (by exact vta)) rfl ?_);intro _ _)|(refine WBox ?_;intros)|(refine WNew ?_;intros)|(refine WPut ?_;intros))
 refine JC.loopF0 (σ:=Nat) [(1,_),(2,_),(3,_),(4,_),(19,_),(20,_)] (fun z=>[(21,.int .i64 z)]) (fun Si z=>z≤l.length∧findGo s p l shun z (l.drop z)=findV s p l shun) (fun z=>l.length - z) (0) (by exact sba) (by exact sba) (⟨Nat.zero_le _,rfl⟩) ?_;rintro Si i hli hii;(try dsimp only at hii);dsimp only [List.cons_append,List.nil_append]
 obtain ⟨hi,hgo⟩:=hii
 try dsimp only at hi hgo
 repeat (refine s53_L17b ?_;intros)
 refine JC.cond rfl (fun hc=>?_) (fun hc=>?_)
 ·have hi':=dlt hc
  obtain ⟨x,hx,hd⟩:=drop_at hi'
  rw [hd] at hgo
  repeat (first|(refine Walk ?_;intros)|refine JC.block ?_|refine JC.drawN 4 rfl [0,1,2,3,4,5,6,7,8,9,10,11,12,13,14,15,16,17,18,19,20,21,22] [0,1,2,4,5,6,7,8,9,10,11,12,13,14,15,16,17,18,19,20,21,22] Tryz_mixed (by decide +kernel) ?_|(refine WNew ?_;intros)|(refine WPut ?_;intros)|(refine JO.eff rfl rfl rfl (JEff.callL rfl (p14_Rank _ (by exact vta) (by exact vta) (by first|assumption|omega) (by first|assumption|(unfold Rng;omega))) rfl ?_);intro _ _ _ _ _ _)|(refine JO.eff rfl rfl rfl (JEff.callRow rfl (p_Clone_int (by exact vta)) rfl ?_);intro _ _ _ _ _ _)|(refine JO.eff rfl rfl rfl (JEff.callV rfl (p17_asked (by exact vta) (by exact vta) (by exact vta)) rfl ?_);intro _ _)|(refine JO.eff rfl rfl rfl (JEff.callV rfl (p_Contains_int _ (by exact vta)) rfl ?_);intro _ _)|(refine WBox ?_;intros)|(refine WNew ?_;intros)|(refine WPut ?_;intros))
  by_cases he:askM s p x=0
  ·rw [decide_eq_true he]
   obtain ⟨hck,h0,h1,h2,h3⟩:=askM_ok he
   obtain ⟨hs,hlen,hp24,hn8,_,_,hqr⟩:=placed_hyps hck
   obtain ⟨y,hy,_⟩:=drop_at (l:=p) (show x.pod.toNat < p.length by omega)
   have hy0:=at0_some hy
   have hyr:=hqr y (List.mem_of_getElem? hy)
   have hxr:Rng x.pod:=by unfold Rng;omega
   repeat (refine s53_L17b ?_;intros)
   by_cases e1:y=-1
   ·rw [decide_eq_true e1]
    have hnf:=findN_bad (s:=s) (l:=l) (shun:=shun) (x:=x) (p:=p) (fun h=>h.2.1 (hy0.trans e1))
    rw [find_none hnf] at hgo
    repeat (refine s53_L17b ?_;intros)
    exact JX.roundF (i+1) (by exact lea) ⟨by omega,hgo⟩ (by (try dsimp only);omega) rfl (by exact sba) (by exact sba)
   rw [decide_eq_false e1]
   repeat (refine s53_L17b ?_;intros)
   by_cases e2:y=x.to
   ·rw [decide_eq_true e2]
    have hnf:=findN_bad (s:=s) (l:=l) (shun:=shun) (x:=x) (p:=p) (fun h=>h.2.2.1 (hy0.trans e2))
    rw [find_none hnf] at hgo
    repeat (refine s53_L17b ?_;intros)
    exact JX.roundF (i+1) (by exact lea) ⟨by omega,hgo⟩ (by (try dsimp only);omega) rfl (by exact sba) (by exact sba)
   rw [decide_eq_false e2]
   rcases hst:stepV s p (offS x.pod) with ⟨off,cc,ee⟩
   repeat (first|(refine Walk ?_;intros)|refine JC.block ?_|refine JC.drawN 4 rfl [0,1,2,3,4,5,6,7,8,9,10,11,12,13,14,15,16,17,18,19,20,21,22] [0,1,2,4,5,6,7,8,9,10,11,12,13,14,15,16,17,18,19,20,21,22] Tryz_mixed (by decide +kernel) ?_|(refine JO.eff rfl rfl rfl (JEff.callSt rfl (w10_Step hst (by exact vta) (by exact vta) (V_offF hxr)) rfl ?_);intro _ _ _ _ _ _ _)|(refine WNew ?_;intros)|(refine WPut ?_;intros)|(refine JO.eff rfl rfl rfl (JEff.callL rfl (p14_Rank _ (by exact vta) (by exact vta) (by first|assumption|omega) (by first|assumption|(unfold Rng;omega))) rfl ?_);intro _ _ _ _ _ _)|(refine JO.eff rfl rfl rfl (JEff.callRow rfl (p_Clone_int (by exact vta)) rfl ?_);intro _ _ _ _ _ _)|(refine JO.eff rfl rfl rfl (JEff.callV rfl (p17_asked (by exact vta) (by exact vta) (by exact vta)) rfl ?_);intro _ _)|(refine JO.eff rfl rfl rfl (JEff.callV rfl (p_Contains_int _ (by exact vta)) rfl ?_);intro _ _)|(refine WBox ?_;intros)|(refine WNew ?_;intros)|(refine WPut ?_;intros))
   by_cases e3:ee=0
   ·rw [decide_eq_true e3]
    have hfn:findN s p l shun x=(rankV s off x.pod).find? (hopOk s p off l shun x):=by
     unfold findN
     rw [hst]
     exact if_pos ⟨he,by rw [hy0];exact e1,by rw [hy0];exact e2,e3⟩
    have hof:p.set x.pod.toNat (-1)=off:=by
     have h:=(step_off (by rw [hst];exact e3)).1
     rw [hst] at h
     exact (congrArg (fun z=>z.1) h).symm
    have hrr:=fun n (hn:n∈rankV s off x.pod)=>ways_mem ((rank_perm s _ x.pod).mem_iff.1 hn)
    repeat (first|(refine Walk ?_;intros)|refine JC.block ?_|refine JC.drawN 4 rfl [0,1,2,3,4,5,6,7,8,9,10,11,12,13,14,15,16,17,18,19,20,21,22] [0,1,2,4,5,6,7,8,9,10,11,12,13,14,15,16,17,18,19,20,21,22] Tryz_mixed (by decide +kernel) ?_|(refine JO.eff rfl rfl rfl (JEff.callL rfl (p14_Rank x.pod (by exact vta) (by exact vta) (by omega) hxr) rfl ?_);intro _ _ _ _ _ _)|(refine JO.eff rfl rfl rfl (JEff.callL rfl (p14_Rank _ (by exact vta) (by exact vta) (by first|assumption|omega) (by first|assumption|(unfold Rng;omega))) rfl ?_);intro _ _ _ _ _ _)|(refine JO.eff rfl rfl rfl (JEff.callRow rfl (p_Clone_int (by exact vta)) rfl ?_);intro _ _ _ _ _ _)|(refine JO.eff rfl rfl rfl (JEff.callV rfl (p17_asked (by exact vta) (by exact vta) (by exact vta)) rfl ?_);intro _ _)|(refine JO.eff rfl rfl rfl (JEff.callV rfl (p_Contains_int _ (by exact vta)) rfl ?_);intro _ _)|(refine WBox ?_;intros)|(refine WNew ?_;intros)|(refine WPut ?_;intros))
    generalize rankV s off x.pod=r at *
    have hol:off.length=p.length:=by rw [← hof,List.length_set]
    refine JC.loopF0 (σ:=Nat) [(1,_),(2,_),(3,_),(4,_),(11,_),(12,_),(13,_),(19,_),(20,_),(21,_),(65,_),(66,_)] (fun z=>[(67,.int .i64 z)]) (fun Sj z=>z≤r.length∧(r.drop z).find? (hopOk s p off l shun x)=r.find? (hopOk s p off l shun x)) (fun z=>r.length - z) (0) (by exact sba) (by exact sba) (⟨Nat.zero_le _,rfl⟩) ?_;rintro Sj k hlj hij;(try dsimp only at hij);dsimp only [List.cons_append,List.nil_append]
    obtain ⟨hk,hfi⟩:=hij
    try dsimp only at hk hfi
    repeat (refine s53_L17b ?_;intros)
    refine JC.cond rfl (fun hc2=>?_) (fun hc2=>?_)
    ·have hk':=dlt hc2
     obtain ⟨n,hn,hd2⟩:=drop_at hk'
     obtain ⟨hn0,hn1,_⟩:=hrr n (List.mem_of_getElem? hn)
     have hnr:Rng n:=by unfold Rng;omega
     repeat (refine s53_L17b ?_;intros)
     by_cases f1:n=y
     ·rw [decide_eq_true f1]
      have hno:hopOk s p off l shun x n=false:=by unfold hopOk;rw [hy0,decide_eq_true f1];rfl
      repeat (refine s53_L17b ?_;intros)
      exact JX.roundF (k+1) (by exact lea) ⟨by omega,by rw [hd2,List.find?_cons,hno] at hfi;exact hfi⟩ (by (try dsimp only);omega) rfl (by exact sba) (by exact sba)
     rw [decide_eq_false f1]
     repeat (refine s53_L17b ?_;intros)
     by_cases f2:n=x.to
     ·rw [decide_eq_true f2]
      have hno:hopOk s p off l shun x n=false:=by unfold hopOk;rw [decide_eq_true f2];simp
      repeat (refine s53_L17b ?_;intros)
      exact JX.roundF (k+1) (by exact lea) ⟨by omega,by rw [hd2,List.find?_cons,hno] at hfi;exact hfi⟩ (by (try dsimp only);omega) rfl (by exact sba) (by exact sba)
     rw [decide_eq_false f2]
     repeat (refine s53_L17b ?_;intros)
     by_cases f3:n∈shun
     ·rw [decide_eq_true f3]
      have hno:hopOk s p off l shun x n=false:=by unfold hopOk;rw [decide_eq_true f3];simp
      repeat (refine s53_L17b ?_;intros)
      exact JX.roundF (k+1) (by exact lea) ⟨by omega,by rw [hd2,List.find?_cons,hno] at hfi;exact hfi⟩ (by (try dsimp only);omega) rfl (by exact sba) (by exact sba)
     rw [decide_eq_false f3]
     have hyes:hopOk s p off l shun x n=l.any (fun z=>!decide (z.pod=x.pod)&&canV s (off.set x.pod.toNat n) z):=by unfold hopOk;rw [hy0,decide_eq_false f1,decide_eq_false f2,decide_eq_false f3];rfl
     haveI:TyR Tryz.prog 27 rVal:=⟨(inferInstance:TyR Tryz.prog 27 (rSlice 8 rI64)).b⟩
     obtain ⟨_,_,_,_,hob8,hobb,_⟩:=V_slice.1 (by assumption:(rSlice 8 rI64).V _ _ off)
     have hor:∀ z∈off,Rng z:=by
      intro z hz
      rw [← hof] at hz
      rcases List.mem_or_eq_of_mem_set hz with h|h
      ·exact hqr z h
      ·rw [h];simp [Rng]
     have hpn:0 < off.length:=by omega
     have hset:(off.set x.pod.toNat n).length=off.length:=List.length_set
     have hsr:∀ z∈off.set x.pod.toNat n,Rng z:=fun z hz=>by
      rcases List.mem_or_eq_of_mem_set hz with h|h
      ·exact hor z h
      ·exact h▸hnr
     unfold big at hob8 hobb
     repeat (first|(refine Walk ?_;intros)|refine JC.block ?_|refine JC.drawN 4 rfl [0,1,2,3,4,5,6,7,8,9,10,11,12,13,14,15,16,17,18,19,20,21,22] [0,1,2,4,5,6,7,8,9,10,11,12,13,14,15,16,17,18,19,20,21,22] Tryz_mixed (by decide +kernel) ?_|(refine WNew ?_;intros)|(refine WPut ?_;intros)|(refine JO.eff rfl rfl rfl (JEff.callL rfl (p14_Rank _ (by exact vta) (by exact vta) (by first|assumption|omega) (by first|assumption|(unfold Rng;omega))) rfl ?_);intro _ _ _ _ _ _)|(refine JO.eff rfl rfl rfl (JEff.callRow rfl (p_Clone_int (by exact vta)) rfl ?_);intro _ _ _ _ _ _)|(refine JO.eff rfl rfl rfl (JEff.callV rfl (p17_asked (by exact vta) (by exact vta) (by exact vta)) rfl ?_);intro _ _)|(refine JO.eff rfl rfl rfl (JEff.callV rfl (p_Contains_int _ (by exact vta)) rfl ?_);intro _ _)|(refine WBox ?_;intros)|(refine WNew ?_;intros)|(refine WPut ?_;intros))
     have hus:=(by assumption:allV rI64 _ _ off)
     rw [flat_int hus]
     refine JO.rowBlk hpn (fun b tl hab hbb hnc=>?_)
     subst hab
     refine JO.pure rfl rfl rfl (JPure.indexRI rfl rfl rfl (by omega) (by omega) ?_)
     refine JO.eff rfl rfl rfl (JEff.storeIT (i:=x.pod.toNat) rfl rfl hnr (List.Perm.refl _) (by omega) (by intro l hl;cases hl) ?_)
     repeat (refine s53_L17b ?_;intros)
     refine JO.freeze hbb (by intro l hl;cases hl) (fun S9 hl9 hS9=>?_)
     have hVq:=blk_slice (n:=off.length) (SHeap.le.refl S9) hS9 hset.symm hnc (by unfold big;omega) hsr
     have hqb:=(by assumption:PtrTo _ _ rVal (.slice (some ⟨b,0,none⟩) off.length _))
     have hq3:=ptr_sl (by exact lea) hqb hVq
     have hq1:=(by assumption:PtrTo _ _ rMove x)
     have hq2:=(by assumption:PtrTo _ _ rSnap s)
     refine JO.eff rfl rfl rfl (JEff.callV rfl (p_ContainsFunc_Move (fun z=>!decide (z.pod=x.pod)&&canV s (off.set x.pod.toNat n) z) (by exact vta) inferInstance (fun S' h u z hz=>p17_Find1 (hq1.mono (by exact lea)) (hq2.mono (by exact lea)) (hq3.mono h) hz)) rfl ?_);intro S8 hl8
     cases hb:l.any (fun z=>!decide (z.pod=x.pod)&&canV s (off.set x.pod.toNat n) z)
     ·have hno:hopOk s p off l shun x n=false:=hyes.trans hb
      repeat (refine s53_L17b ?_;intros)
      exact JX.roundF (k+1) (by exact lea) ⟨by omega,by rw [hd2,List.find?_cons,hno] at hfi;exact hfi⟩ (by (try dsimp only);omega) rfl (by exact sba) (by exact sba)
     ·have hyy:=hyes.trans hb
      rw [hd2,List.find?_cons,hyy] at hfi
      have hf2:findN s p l shun x=some n:=by rw [hfn,← hfi]
      have hgo:(((i:Nat):Int),n,true)=findV s p l shun:=(findF_some hf2).symm.trans hgo
      rw [← hgo]
      repeat (refine s53_L17b ?_;intros)
      (refine JX.ret3 Tryz.results53 (ResV.tmp rfl) (ResV.tmp rfl) (ResV.tmp rfl) (List.nil_sublist _) ?_)
      exact ⟨rfl,rfl⟩
    ·have hk':=dnlt hc2
     rw [List.drop_eq_nil_of_le hk'] at hfi
     have hfn2:findN s p l shun x=none:=by rw [hfn,← hfi];rfl
     rw [find_none hfn2] at hgo
     repeat (refine s53_L17b ?_;intros)
     exact JX.roundF (i+1) (by exact lea) ⟨by omega,hgo⟩ (by (try dsimp only);omega) rfl (by exact sba) (by exact sba)
   ·rw [decide_eq_false e3]
    have hnf:=findN_bad (s:=s) (l:=l) (shun:=shun) (x:=x) (p:=p) (fun h=>e3 (by have h4:=h.2.2.2;rw [hst] at h4;exact h4))
    rw [find_none hnf] at hgo
    repeat (refine s53_L17b ?_;intros)
    exact JX.roundF (i+1) (by exact lea) ⟨by omega,hgo⟩ (by (try dsimp only);omega) rfl (by exact sba) (by exact sba)
  ·rw [decide_eq_false he]
   have hnf:=findN_bad (s:=s) (l:=l) (shun:=shun) (x:=x) (p:=p) (fun h=>he h.1)
   rw [find_none hnf] at hgo
   repeat (refine s53_L17b ?_;intros)
   exact JX.roundF (i+1) (by exact lea) ⟨by omega,hgo⟩ (by (try dsimp only);omega) rfl (by exact sba) (by exact sba)
 ·have hi':=dnlt hc
  rw [List.drop_eq_nil_of_le hi'] at hgo
  have hgo:((0:Int),(0:Int),false)=findV s p l shun:=hgo
  rw [← hgo]
  repeat (refine s53_L17b ?_;intros)
  (refine JX.ret3 Tryz.results53 (ResV.tmp rfl) (ResV.tmp rfl) (ResV.tmp rfl) (List.nil_sublist _) ?_)
  exact ⟨rfl,rfl⟩
theorem w17_Find {S:SHeap} {u v lv w:Value} {s:Snap} {p shun:List Int} {l:List Move} {a n:Int} {b:Bool} (h:findV s p l shun=(a,n,b)) (hu:rSnap.V S u s) (hv:(rSlice 8 rI64).V S v p) (hl:(rSlice 16 rMove).V S lv l) (hw:(rSlice 8 rI64).V S w shun):FnV Tryz.prog 53 #[u,v,lv,w] S (.tuple #[.int .i64 a,.int .i64 n,.bool b]):=by
 have hh:=p17_Find hu hv hl hw
 rw [h] at hh;exact hh
end Go.Dr
namespace Go.Dr
def rdMe (l:List Move) (r:RdS):Nat:=r.lf.length+(l.length - r.had.length)
def rdHop (s:Snap) (r:RdS) (q:List Int) (st:List Step) (pod:Int):RdS:=⟨q,(rdRow s r).st++st,(rdRow s r).lf,(rdRow s r).had++[pod]⟩
theorem rd_row {s:Snap} {p:List Int} {l:List Move} {shun:List Int} {r:RdS} {f:Nat} (h:RdI s p l r) (hf:rdMe l r < f) (hg:r.st.length < (rdRow s r).st.length) :
  RdI s p l (rdRow s r)∧rdMe l (rdRow s r) < f - 1∧rdMe l (rdRow s r) < rdMe l r∧rdGo s shun f r=rdGo s shun (f - 1) (rdRow s r):=by
 obtain ⟨f,rfl⟩:∃ g,f=g+1:=⟨f - 1,by omega⟩
 obtain ⟨_,_,_,_,_,g,_⟩:=row_ok r.lf r.q r.st [] h.core h.lf (by simp)
 simp only [List.length_nil,Nat.zero_add] at g
 have h1:(rdRow s r).lf.length < r.lf.length:=g hg
 have h2:(rdRow s r).had=r.had:=rfl
 unfold rdMe at hf ⊢
 rw [h2]
 refine ⟨h.row,by omega,by omega,?_⟩
 rw [rdGo,if_pos hg];rfl
theorem rd_hop {s:Snap} {p:List Int} {l:List Move} {shun:List Int} {r:RdS} {f:Nat} {q:List Int} {st:List Step} {pod:Int} (h:RdI s p l r) (hf:rdMe l r < f) (hg:¬ r.st.length < (rdRow s r).st.length) (hh:hopV s (rdRow s r).q (rdRow s r).lf shun (rdRow s r).had=some (q,st,pod)) :
  RdI s p l (rdHop s r q st pod)∧rdMe l (rdHop s r q st pod) < f - 1∧rdMe l (rdHop s r q st pod) < rdMe l r∧rdGo s shun f r=rdGo s shun (f - 1) (rdHop s r q st pod):=by
 obtain ⟨f,rfl⟩:∃ g,f=g+1:=⟨f - 1,by omega⟩
 obtain ⟨_,_,_,_,e,_,_⟩:=row_ok r.lf r.q r.st [] h.core h.lf (by simp)
 simp only [List.length_nil,Nat.zero_add] at e
 have h2:=h.row.hop hh
 have hl:=h2.hadLen
 have hh2:(rdRow s r).had=r.had:=rfl
 simp only [List.length_append,List.length_cons,List.length_nil,hh2] at hl
 have e2:(rdRow s r).lf.length≤r.lf.length:=e
 have h3:(rdHop s r q st pod).lf.length=(rdRow s r).lf.length:=rfl
 have h4:(rdHop s r q st pod).had.length=r.had.length+1:=by unfold rdHop;simp [hh2]
 unfold rdMe at hf ⊢
 rw [h3,h4]
 refine ⟨h2,by omega,by omega,?_⟩
 rw [rdGo,if_neg hg,hh];rfl
theorem rd_end {s:Snap} {p:List Int} {l:List Move} {shun:List Int} {r:RdS} {f:Nat} (hf:rdMe l r < f) (hg:¬ r.st.length < (rdRow s r).st.length) (hh:hopV s (rdRow s r).q (rdRow s r).lf shun (rdRow s r).had=none):rdGo s shun f r=rdRow s r:=by
 obtain ⟨f,rfl⟩:∃ g,f=g+1:=⟨f - 1,by omega⟩
 rw [rdGo,if_neg hg,hh]
theorem RdI.small {s:Snap} {p:List Int} {l:List Move} {r:RdS} (h:RdI s p l r) (hl:l.length≤48):r.st.length≤192∧r.had.length≤48∧r.lf.length≤96:=by
 have h1:=h.hadLen
 have h2:=h.most
 omega
end Go.Dr
namespace Go.Dr
open Go.RowKit
set_option linter.unusedSimpArgs false
set_option linter.unusedVariables false
theorem wp_region_seqD {P:Program} {ops:Array Oper} {id:Nat} {Q':Exit→Act→World→Prop} {a:Act} {w:World} (eff anch:Nat→Bool) (T:Nat→Prop)
  (hQ:∀ x a w,NoExit x a w→Q' x a w)
  (h:DF none P ops eff anch (fun _ a w=>Q' .normal a w) T (List.range ops.size) a w):(Code.region id ops false).wpIn (FR none) 0 P Q' a w:=by
 refine wpIn_region ?_
 have key:∀ (L:List Nat) (T:Nat→Prop) (a:Act) (w:World),DF none P ops eff anch (fun _ a w=>Q' .normal a w) T L a w→wpOpsIn (FR none) 0 P ops Q' L a w:=by
  intro L
  induction L with
  | nil=>intro T a w h;exact h
  | cons i L ih=>
   intro T a w h
   simp only [DF] at h
   obtain ⟨T1,hT1,o,ho,h⟩:=h
   simp only [wpOpsIn,ho]
   by_cases hw:Region.wanted o (yielded ops a.tmps)=true
   ·rw [if_pos hw] at h ⊢
    by_cases he:eff i=true
    ·rw [if_pos he] at h
     have h1:=Oper.wpIn_mono (K':=wpOpsIn (FR none) 0 P ops Q' L) (fun a w hh=>ih T1 a w hh.2) h
     unfold Oper.wpIn at h1 ⊢
     refine ⟨h1.1,?_⟩
     have h1:=h1.2
     generalize (o.semAt (FR none).round a.eval).run P w=q at h1 ⊢
     cases q with
     | ok x w'=>
      cases x<;>simp only [Oper.uponIn] at h1 ⊢ <;>
       first
        | exact h1
        | exact ⟨h1.1,CallsIn.mono h1.2 (fun e w'' he=>by cases e<;>first|exact he|exact hQ _ _ _ he|(obtain ⟨a0,w0,h0⟩:=he;exact h0.elim))⟩
        | exact ⟨h1.1,RoundIn.mono h1.2 (fun e w'' he=>by cases e<;>first|exact he|exact hQ _ _ _ he|(obtain ⟨a0,w0,h0⟩:=he;exact h0.elim))⟩
     | halt x w'=>cases x<;>simp only [Oper.uponIn] at h1 ⊢<;>first|exact h1|exact hQ _ _ _ h1
    ·rw [if_neg he] at h
     obtain ⟨v,hv,h⟩:=h
     have hrun:=hv w (SubX.refl _ _)
     unfold Oper.wpIn
     refine ⟨fun _ _=>trivial,?_⟩
     rw [show (FR none).round=none from rfl,Oper.semAt_none,hrun]
     exact ih _ _ _ h
   ·rw [if_neg hw] at h ⊢
    exact ⟨fun _ _=>trivial,ih _ _ _ h⟩
 exact key _ T a w h
def FnD (P:Program) (f:FuncId) (args:Array Value) (S:SHeap) (M:List MEnt) (Post:Value→SHeap→List MEnt→Prop):Prop:=
 ∀ w u,Agree S w→(∀ m∈M,m.ok w)→M.Pairwise MSep→(∀ m∈M,∀ b,m.own=some b→S b=none) →
  CallsDIn (FR none) 0 P f args u w fun e u' w'=>u'=u∧∃ v S' M',e=.returned v∧Wd w (M.filterMap MEnt.own) S S' M' w'∧Post v S' M'
theorem FnD.enter {P:Program} {f:FuncId} {fn:Func} {c:Code} {args:List Value} {S:SHeap} {M:List MEnt} {PP:Value→SHeap→List MEnt→Prop} {N:Nat}
  (hf:P.funcs[f]?=some fn) (hb:fn.body=some c) (hn:fn.ntmps=N) (hlen:Nat.ble args.length N=true)
  (h:∀ w0,JC ⟨P,none,N,[],w0,M.filterMap MEnt.own,S⟩ c (bodyPost P fn (EndPost w0 (M.filterMap MEnt.own) S PP)) S M (envOf 0 args)):FnD P f args.toArray S M PP:=by
 intro w u hg hok hsep hout
 refine callsDIn_of_wp hf hb trivial ?_ rfl
 refine (h w).run _ w ⟨⟨?_,fun t v ht=>?_⟩,rfl,Wd.start hg hok hsep hout⟩
 ·have:args.length≤N:=by simpa [Nat.ble_eq] using hlen
  simp [hn];omega
 ·obtain ⟨_,h2⟩:=envOf_get args 0 t v ht
  have hlt:=(List.getElem?_eq_some_iff.1 h2).1
  simp at hlt
  have h3:args[t]=v:=(List.getElem?_eq_some_iff.1 h2).2
  simp [Array.getElem?_append,hlt,h3]
section
variable {C:Cx} {R:Rg} {Q:Post} {S S':SHeap} {M M':List MEnt} {e:Env} {rest:List Nat}
variable {ty:TypeId} {pos:String} {aft:Array Edge} {g:Option (Nat × Bool)}
theorem JC.regionD {id:Nat} {ops:Array Oper} (hr:C.r=none)
  (h:JO C ⟨ops,List.range ops.size,none,.nil,[]⟩ (List.range ops.size) Q S M e):JC C (.region id ops false) Q S M e:=⟨fun a w hw=>by
 have h1:=h.run a w hw trivial
 unfold Cx.DF at h1
 rw [hr] at h1 ⊢
 exact wp_region_seqD _ _ _ (fun _ _ _ h=>h.elim) h1⟩
theorem JEff.defer {x:Operand} {f:FuncId} {fs cs:Array Value} {args:Array Operand} {ts:Array TypeId} {vs:List Value} (hr:C.r=none) (hx:ev e x=some (.func (.func f) fs cs)) (hargs:evs e args.toList=some vs)
  (k:JO { C with D:={ target:=.fn (.func f) cs,args:=fs++vs.toArray }::C.D } R rest Q S M e):JEff C R ⟨none,.defer { callee:=.value x,args,argTypes:=ts },ty,pos,aft,g⟩ rest Q S M e:=⟨fun a w hw _=>by
 have h1:args.map a.eval=vs.toArray:=by rw [← hw.env.evals hargs,← Array.toList_map,Array.toArray_toList]
 unfold Oper.wpIn
 refine ⟨fun _ _=>trivial,?_⟩
 rw [show (FR C.r).round=none from hr,Oper.semAt_none]
 have hs:(execOp a.eval ⟨none,.defer { callee:=.value x,args,argTypes:=ts },ty,pos,aft,g⟩).run C.P w=.ok (.defer { target:=.fn (.func f) cs,args:=fs++vs.toArray }) w:=by
  simp [execOp,resolve,hw.env.eval hx,Deferred.ofValue,h1]
 rw [hs]
 refine ⟨fun _ _ _ h=>h,?_⟩
 exact k.run _ w ⟨⟨hw.env.1,hw.env.2⟩,by show _::a.defers=_;rw [hw.defers],hw.wd⟩ trivial⟩
variable {fn:Func} {w0:World} {B0:List Nat} {S0:SHeap} {PP:Value→SHeap→List MEnt→Prop}
theorem JX.retD {P:Program} {N:Nat} {f:FuncId} {cs us:Array Value} {Mc Mr:List MEnt} {PD:Value→SHeap→List MEnt→Prop} (hE:Ent P f) (hM:(Mc++Mr).Perm M) (hf:FnD P f (us++cs) S Mc PD)
  (k:∀ v S' M',S.le S'→PD v S' M'→∃ rv r M2,fn.results=#[rv]∧ResV ⟨P,none,N,[],w0,B0,S0⟩ S' (M'++Mr) e rv r∧M2.Sublist (M'++Mr)∧PP r S' M2) :
  JX ⟨P,none,N,[{ target:=.fn (.func f) cs,args:=us }],w0,B0,S0⟩ .ret (bodyPostM (FR none) 0 P fn (EndPost w0 B0 S0 PP)) S M e:=⟨fun a w hw=>by
 have hd:a.defers=[{ target:=.fn (.func f) cs,args:=us }]:=hw.defers
 have hwd:=hw.wd.perm hM
 have hsep:=(List.pairwise_append.1 hwd.sep).1
 show LeavesInM _ _ _ _ _ _ a.defers _ _
 rw [hd]
 refine ⟨by simp,.inr ⟨fun h=>by simp [FR] at h,.func f,cs,f,us++cs,rfl,?_,fun _ _=>trivial,?_⟩⟩
 ·have:=run_enter hE (us++cs) w
  simpa [invoke,go_sem] using this
 ·refine CallsDIn.mono (hf w .returning hwd.agree (fun m hm=>hwd.ok m (by simp [hm])) hsep (fun m hm b hb=>(hwd.out m (by simp [hm]) b hb).1)) ?_
  rintro e' u' w' ⟨rfl,v,S',M',rfl,hw',hp⟩
  obtain ⟨rv,r,M2,hr,hv,hs,hpp⟩:=k v S' M' hw'.le hp
  have hwc:=hwd.call hw'
  refine ⟨r,run_results1 hr (hv { a with defers:=[] } _ ⟨⟨hw.env.1,hw.env.2⟩,rfl,hwc⟩),r,S',M2,rfl,hwc.sub hs,hpp⟩⟩
end
end Go.Dr
namespace Go.Dr
open Go.RowKit
set_option linter.unusedSimpArgs false
set_option linter.unusedVariables false
section
variable {C:Cx} {R:Rg} {Q:Post} {S S' S1:SHeap} {M M':List MEnt} {e e':Env} {rest:List Nat}
variable {d:Nat} {ty:TypeId} {pos:String} {aft:Array Edge} {g:Option (Nat × Bool)}
theorem JEff.appendSB {B:Nat} {α:Type} {T E:TypeId} {x y:Operand} {n bt bt':Nat} {v u:Value} {xs:List Value} {ys:List α} {rep:Rp α} {z:Value} {Mr:List MEnt} (hB:B≤C.w0.heap.size) (hx:ev e x=some v) (hy:ev e y=some u) (hu':(rSlice bt' rep).V S u ys)
  [hu:Und C.P T (.slice E)] [ht:TyR C.P E rep] [hz:Zero C.P E z] (hzs:z.cells.size=rep.sz) [hby:Byt C.P E bt] (hsz:Nat.ble 1 rep.sz=true)
  (hM:(MEnt.row B E rep.sz v n xs::Mr).Perm M) (hbig:(n+ys.length)*bt≤big) (hbig1:n+ys.length≤big)
  (hT:∀ l,R.T=some l→∀ b,v.ownBlock=some b→b∈l) (hdN:Nat.blt d C.N=true)
  (k:∀ a c vs,allV rep S vs ys→JO C R rest Q S (.row B E rep.sz (.slice a (n+ys.length) c) (n+ys.length) (xs++flatCells vs)::Mr) ((d,.slice a (n+ys.length) c)::e)) :
  JEff C R ⟨some d,.call { callee:=.builtin .append,args:=#[x,y],argTypes:=#[T,T] },ty,pos,aft,g⟩ rest Q S M e:=
 JEff.ofRun rfl rfl hdN fun a w hw=>by
  have hwd:=hw.wd.perm hM
  have hrow:w.ownsRow B E rep.sz v n xs:=hwd.ok (.row B E rep.sz v n xs) (by simp)
  obtain ⟨i,hi,hsi⟩:=ht.i
  obtain ⟨i',hi',hz'⟩:=Option.map_eq_some_iff.1 hz.h
  have e1:i=i':=by rw [hi] at hi';exact Option.some.inj hi'
  subst e1
  have hbt:i.bytes=bt:=by have hby:=hby.h;rw [hi] at hby;simpa using hby
  obtain ⟨ad,c1,rfl,hc1,hb1,hb2,hp⟩:=V_slice.1 hu'
  cases ad with
  | none=>
   have:ys=[]:=by
    cases ys with
    | nil=>rfl
    | cons y ys=>obtain ⟨ad,h,_⟩:=hp 0 y rfl;cases h
   subst this
   obtain ⟨a',c',rfl⟩:=ownsRow_form hrow
   have hk:=k a' c' [] trivial
   simp only [List.length_nil,Nat.add_zero,flatCells,List.append_nil] at hk
   refine ⟨_,w,?_,SubX.refl _ _,Nat.le_refl _,S,_,hwd,SHeap.le.refl _,hk⟩
   have hrun:=run_append_none (P:=C.P) (ty:=ty) (c:=c1) hu.h hi hrow
   simp only [execOp,resolve,invoke,builtin,Sem.run_bind,Sem.run_pure,Result.andThen_ok,List.map_toArray,List.map_cons,List.map_nil,hw.env.eval hx,hw.env.eval hy,List.length_nil,hrun]
  | some ad=>
   obtain ⟨vs,hvs,hcells⟩:=slice_flat (rep:=rep) (S:=S) ad ys 0 (fun i x hx=>by
    obtain ⟨ad',h,hpp⟩:=hp i x hx
    cases h
    simpa using hpp)
   have hfl:=flat_len (n:=rep.sz) (vs:=vs) (fun v hv'=>(hvs.size v hv').1)
   obtain ⟨v',w',hrun,hown,hg,_,ho,hdr⟩:=run_append_d (P:=C.P) w B T ty E i z rep.sz bt hu.h hi hz' hsi hbt hzs (Nat.le_of_ble_eq_true hsz) v n xs hrow ad ys.length c1 (flatCells vs) (by rw [hfl,hvs.length])
    (fun j u hj=>by have:=hcells j u hj;rw [Nat.zero_mul,Nat.zero_add] at this;exact hwd.agree.cell this) (flat_one fun v hv=>(hvs.size v hv).2) (by unfold big at hbig1;simp only [maxLen];omega) hbig (Nat.le_trans hB hwd.size)
   obtain ⟨a',c',rfl⟩:=ownsRow_form hown
   refine ⟨_,w',?_,subX_grown hg hT,hg.size,S,_,hwd.rowTurnB hg hdr hown ho,SHeap.le.refl _,k a' c' vs hvs⟩
   simp only [execOp,resolve,invoke,builtin,Sem.run_bind,Sem.run_pure,Result.andThen_ok,List.map_toArray,List.map_cons,List.map_nil,hw.env.eval hx,hw.env.eval hy,hrun]
theorem JPure.lenM {κ:Type} {kv:κ→Value} {i:Nat} {T K E:TypeId} {x:Operand} {b:Nat} {l:List (κ × Value)} (hx:ev e x=some (.map (some b))) [hu:Und C.P T (.map K E)]
  (hM:MEnt.blk b (mapK kv l)∈M) (hst:R.isAnch i=true∨∃ l,R.T=some l∧b∉l) (hdN:Nat.blt d C.N=true)
  (k:JO C R rest Q S M ((d,.int .i64 l.length)::e)):JPure C R (R.isAnch i) ⟨some d,.call { callee:=.builtin .len,args:=#[x],argTypes:=#[T] },ty,pos,aft,g⟩ rest Q S M e:=⟨fun a w hw htk=>by
 have hwb:w.heap[b]?=some (mapK kv l):=hw.wd.ok _ hM
 refine ⟨.int .i64 l.length,fun w' hs=>?_,k.run _ w ⟨hw.env.put hdN _,hw.defers,hw.wd⟩ htk⟩
 have hk:w'.heap[b]?=some (mapK kv l):=by
  refine hs b _ ?_ hwb
  split
  ·exact fun h=>h
  ·rename_i ha
   rcases hst with h|⟨l,hl,h⟩
   ·exact absurd h ha
   ·intro hT
    have h1:=hT.1
    unfold Rg.TP at h1
    rw [hl] at h1
    exact h h1
 have hlen:(esK kv 0 l).toArray.size=l.length:=by simp [esK_len]
 have hrun:(Builtin.len_ #[T] ty #[.map (some b)]).run C.P w'=.ok (goInt l.length) w':=by
  have h1:(underlying T).run C.P w'=.ok (.map K E) w':=run_underlying hu.h w'
  have h2:(getObj b).run C.P w'=.ok (.map (esK kv 0 l).toArray l.length) w':=run_getObj_map w' b _ _ hk
  unfold Builtin.len_
  simp [h1,h2,hlen]
 simp only [execOp,resolve,invoke,builtin,Sem.run_bind,Sem.run_pure,Result.andThen_ok,List.map_toArray,List.map_cons,List.map_nil,hw.env.eval hx,hrun,goInt]⟩
end
end Go.Dr
namespace Go.Dr
open Go.RowKit
set_option linter.unusedSimpArgs false
set_option linter.unusedVariables false
theorem Wd.rowBack {w0 w:World} {B0:List Nat} {S0 S:SHeap} {M:List MEnt} {base b n c sz:Nat} {cs:Array Value} {xs:List Value} {E:TypeId} (h:Wd w0 B0 S0 S (.blk b (.cells cs E (0,0))::M) w) (hx:xs.length=n*sz) (hb:base≤b) (hn:n≤c) (hc:c≤maxLen) (hs:cs.size=c*sz) (ht:cs.toList.take (n*sz)=xs) :
  Wd w0 B0 S0 S (.row base E sz (.slice (some ⟨b,0,none⟩) n c) n xs::M) w:=
 { h with
  ok:=fun m hm=>by
   rcases List.mem_cons.1 hm with rfl|hm
   ·have h1:w.heap[b]?=some (.cells cs E (0,0)):=h.ok (.blk b (.cells cs E (0,0))) (by simp)
    exact ⟨hx,.inr ⟨b,c,cs,rfl,hb,h1,hn,hc,hs,ht⟩⟩
   ·exact h.ok m (List.mem_cons_of_mem _ hm)
  sep:=List.pairwise_cons.2 ⟨fun m hm k hk=>(List.pairwise_cons.1 h.sep).1 m hm k hk,(List.pairwise_cons.1 h.sep).2⟩
  out:=fun m hm k hk=>by
   rcases List.mem_cons.1 hm with rfl|hm
   ·exact h.out (.blk b (.cells cs E (0,0))) (by simp) k hk
   ·exact h.out m (List.mem_cons_of_mem _ hm) k hk }
section
variable {C:Cx} {R:Rg} {Q:Post} {S S':SHeap} {M M':List MEnt} {e e':Env} {rest:List Nat}
variable {d:Nat} {ty:TypeId} {pos:String} {aft:Array Edge} {g:Option (Nat × Bool)}
theorem JEff.lendRow {α:Type} {f:FuncId} [Ent C.P f] {args:Array Operand} {ts:Array TypeId} {ws:List Value} {base E bt c:Nat} {rep:Rp α} {a:Option Addr} {xs:List α} {vs:List Value} {Mr:List MEnt} {r:Value} (hargs:evs e args.toList=some ws)
  (hM:(MEnt.row base E rep.sz (.slice a xs.length c) xs.length (flatCells vs)::Mr).Perm M) (hv:allV rep S vs xs) (hb:xs.length*bt≤big) (hb1:xs.length≤big)
  (hT:∀ l,R.T=some l→∀ b,(Value.slice a xs.length c).ownBlock=some b→b∈l)
  (hf:∀ S1:SHeap,S.le S1→(rSlice bt rep).V S1 (.slice a xs.length c) xs→FnV C.P f ws.toArray S1 r) (hdN:Nat.blt d C.N=true)
  (k:∀ S',S.le S'→JO C R rest Q S' (.row base E rep.sz (.slice a xs.length c) xs.length (flatCells vs)::Mr) ((d,r)::e)) :
  JEff C R ⟨some d,.call { callee:=.value (.func f),args,argTypes:=ts },ty,pos,aft,g⟩ rest Q S M e:=⟨fun act w hw htk=>by
 have hwd:=hw.wd.perm hM
 have hrow:w.ownsRow base E rep.sz (.slice a xs.length c) xs.length (flatCells vs):=hwd.ok (.row base E rep.sz (.slice a xs.length c) xs.length (flatCells vs)) (by simp)
 have hw1:C.W S (.row base E rep.sz (.slice a xs.length c) xs.length (flatCells vs)::Mr) e act w:=⟨hw.env,hw.defers,hwd⟩
 rcases hrow.2 with ⟨h0,h2⟩|⟨b,cap,cur,hvv,hg,hh,hc,hm,hs,ht⟩
 ·have hx0:xs=[]:=List.eq_nil_of_length_eq_zero h2
  refine (JEff.callV hargs (hf S (SHeap.le.refl S) ?_) hdN k).run act w hw1 htk
  subst hx0
  exact V_slice.2 ⟨_,_,rfl,Nat.zero_le _,by simp,by simp,by simp⟩
 ·cases hvv
  have hwb:Wd C.w0 C.B0 C.S0 S (.blk b (.cells cur E (0,0))::Mr) w:={ hwd with
   ok:=fun m hm=>by
    rcases List.mem_cons.1 hm with rfl|hm
    ·exact hh
    ·exact hwd.ok m (List.mem_cons_of_mem _ hm)
   sep:=List.pairwise_cons.2 ⟨fun m hm k hk=>(List.pairwise_cons.1 hwd.sep).1 m hm k hk,(List.pairwise_cons.1 hwd.sep).2⟩
   out:=fun m hm k hk=>by
    rcases List.mem_cons.1 hm with rfl|hm
    ·simp only [MEnt.own,Option.some.injEq] at hk
     subst hk
     exact hwd.out (.row base E rep.sz (.slice (some ⟨b,0,none⟩) xs.length c) xs.length (flatCells vs)) (by simp) b rfl
    ·exact hwd.out m (List.mem_cons_of_mem _ hm) k hk }
  refine (JEff.lendV (M:=.blk b (.cells cur E (0,0))::Mr) hargs (List.Perm.refl _) (fun l hl=>hT l hl b rfl) (fun m hm k hk=>(hwb.out m hm k hk).1) (fun S1 hl1 hS1=>hf S1 hl1 ?_) hdN (fun S' hl=>⟨fun a2 w2 hw2 ht2=>(k S' hl).run a2 w2 ⟨hw2.env,hw2.defers,hw2.wd.rowBack hrow.1 hg hc hm hs ht⟩ ht2⟩)).run act w ⟨hw.env,hw.defers,hwb⟩ htk
  exact slice_of_block hl1 hS1 hv rfl hc hb hb1 ht⟩
end
end Go.Dr
namespace Go.Dr
open Go.Proofs
set_option maxRecDepth 20000
set_option maxHeartbeats 2000000
set_option linter.unusedSimpArgs false
set_option linter.unusedVariables false
def rdE (T E:TypeId) (rb:Nat) (u1 u2 u3:Value) (qa:Option Addr) (qc:Nat) (sa:Option Addr) (sc:Nat) (la:Option Addr) (lc:Nat) (h:Value) (q:List Int) (st:List Step) (lf:List Move) (vs:List Value):List MEnt:=
 [.blk rb (.cells #[u1,u2,u3,.slice qa q.length qc,.slice sa st.length sc,.slice la lf.length lc,h] T (0,0)),.row 0 E 3 (.slice sa st.length sc) st.length (flatCells vs)]
def RowAns (T E:TypeId) (rb:Nat) (u1 u2 u3 h:Value) (q:List Int) (st st0:List Step) (lf:List Move) (v:Value) (S':SHeap) (M':List MEnt):Prop:=
 v=.bool (decide (st0.length < st.length))∧∃ qa qc sa sc la lc vs,M'=rdE T E rb u1 u2 u3 qa qc sa sc la lc h q st lf vs∧(rSlice 8 rI64).V S' (.slice qa q.length qc) q∧(rSlice 16 rMove).V S' (.slice la lf.length lc) lf∧allV rStep S' vs st
theorem p4a {α:Type} {a b c d:α}:[c,a,d,b].Perm [a,b,c,d]:=(List.Perm.swap a c [d,b]).trans ((List.perm_middle (a:=b) (l₁:=[c,d]) (l₂:=[])).cons a)
structure RwS where
 i:Nat
 qa:Option Addr
 qc:Nat
 q:List Int
 sa:Option Addr
 sc:Nat
 st:List Step
 vs:List Value
 la:Option Addr
 lc:Nat
 lf:List Move
 ls:List Value
theorem p17_row1 {S:SHeap} {rb sb n sc:Nat} {r w:Addr} {sa:Option Addr} {u1 u2 u3 qv lv h:Value} {b0:Bool} {was:Nat} (hr:PtrTo S r rVal (.pointer (some ⟨rb,0,none⟩))) (hw:PtrTo S w rI64 (was:Int)) :
  FnD Tryz.prog 174 #[.pointer (some r),.pointer (some w),.pointer (some ⟨sb,0,none⟩)] S [.blk sb (.cells (Value.bool b0).cells 4 (0,0)),.blk rb (.cells #[u1,u2,u3,qv,.slice sa n sc,lv,h] 167 (0,0))]
   (fun _ _ M'=>M'=[.blk sb (.cells (Value.bool (decide ((was:Int) < (n:Int)))).cells 4 (0,0)),.blk rb (.cells #[u1,u2,u3,qv,.slice sa n sc,lv,h] 167 (0,0))]):=by
 haveI:TyR Tryz.prog 79 rVal:=⟨(inferInstance:TyR Tryz.prog 79 (rSlice 24 rStep)).b⟩
 (refine FnD.enter (args:=[.pointer (some r),.pointer (some w),.pointer (some ⟨sb,0,none⟩)]) Tryz.func174 rfl Tryz.ntmps174 rfl ?_;intro w0)
 repeat (first|(refine Walk ?_;intros)|refine JC.block ?_|refine JC.drawN 0 rfl [0,1,2,3,4,5,6,7] [0,1,2,3,4,5,6] Tryz_mixed (by decide +kernel) ?_|refine JO.pure rfl rfl rfl (JPure.fieldP rfl rfl ?_)|refine JO.pure rfl rfl rfl (JPure.loadM (rep:=rVal) (x0:=.slice sa n sc) (mid:=[.slice sa n sc]) rfl (by (first|exact List.mem_cons_self|exact List.mem_cons_of_mem _ List.mem_cons_self|exact List.mem_cons_of_mem _ (List.mem_cons_of_mem _ List.mem_cons_self))) rfl ⟨rfl,rfl⟩ (.inl rfl) rfl ?_))
 refine JO.eff rfl rfl rfl (JEff.storeW rfl rfl (V_bool.2 rfl) nna (List.Perm.refl _) rfl (by intro l hl;cases hl) ?_)
 repeat (first|(refine Walk ?_;intros)|refine JC.block ?_|refine JC.drawN 0 rfl [0,1,2,3,4,5,6,7] [0,1,2,3,4,5,6] Tryz_mixed (by decide +kernel) ?_)
 refine JX.end0 Tryz.results174 (List.Sublist.refl _) ?_
 rfl
theorem s116_L17c {P K:Prop} (k:K) (h:Goal K→P:=by
 intro zk
 (first|refine Walk ?_|refine JC.block ?_|refine JC.drawN 11 rfl [0,1,2,3,4,5,6,7,8,9,10,11,12,13,14] [3,4,5,6,7,9,10,12,13] Tryz_mixed (by decide +kernel) ?_|(refine JO.eff rfl rfl rfl (JEff.callTry rfl (p17_Try (by exact vta) (by exact vta) (by exact vta)) rfl ?_);intro zqa zqb zqc zqd zqe zqf zqg)|(refine WBox ?_))
 (repeat (first|revert zqg|revert zqf|revert zqe|revert zqd|revert zqc|revert zqb|revert zqa))
 exact zk.k):P:=h ⟨k⟩
theorem p17_row {S:SHeap} {rb:Nat} {u1 u2 u3 h:Value} {qa sa la:Option Addr} {qc sc lc:Nat} {s:Snap} {q:List Int} {st:List Step} {lf:List Move} {vs:List Value} (hR:rSnap.R S [u1,u2,u3] s) (hq:(rSlice 8 rI64).V S (.slice qa q.length qc) q) (hl:(rSlice 16 rMove).V S (.slice la lf.length lc) lf) (hvs:allV rStep S vs st) (hlf:lf.length≤96) (hst:st.length≤192) :
  Fn Tryz.prog 116 #[.pointer (some ⟨rb,0,none⟩)] S (rdE 167 45 rb u1 u2 u3 qa qc sa sc la lc h q st lf vs)
   (RowAns 167 45 rb u1 u2 u3 h (rowGo s q st [] lf).1 (rowGo s q st [] lf).2.1 st (rowGo s q st [] lf).2.2):=by
 unfold rdE
 haveI:TyR Tryz.prog 84 rVal:=⟨(inferInstance:TyR Tryz.prog 84 (rSlice 16 rMove)).b⟩
 haveI:TyR Tryz.prog 79 rVal:=⟨(inferInstance:TyR Tryz.prog 79 (rSlice 24 rStep)).b⟩
 haveI:TyR Tryz.prog 27 rVal:=⟨(inferInstance:TyR Tryz.prog 27 (rSlice 8 rI64)).b⟩
 (refine Fn.enterM (args:=[.pointer (some ⟨rb,0,none⟩)]) Tryz.func116 rfl Tryz.ntmps116 rfl ?_;intro w0)
 repeat (first|(refine Walk ?_;intros)|refine JC.block ?_|refine JC.drawN 11 rfl [0,1,2,3,4,5,6,7,8,9,10,11,12,13,14] [3,4,5,6,7,9,10,12,13] Tryz_mixed (by decide +kernel) ?_|(refine JO.eff rfl rfl rfl (JEff.boxS rfl (V_val.2 ⟨rfl,rfl⟩) nna rfl ?_);intro _ _ _ _)|(refine JO.eff rfl rfl rfl (JEff.callTry rfl (p17_Try (by exact vta) (by exact vta) (by exact vta)) rfl ?_);intro _ _ _ _ _ _ _ _ _ _ _)|(refine WBox ?_;intros))
 (refine JO.eff rfl rfl rfl (JEff.alloc rfl ?_);intro sb hsb)
 repeat (first|(refine Walk ?_;intros)|refine JC.block ?_|refine JC.drawN 11 rfl [0,1,2,3,4,5,6,7,8,9,10,11,12,13,14] [3,4,5,6,7,9,10,12,13] Tryz_mixed (by decide +kernel) ?_|refine JO.pure rfl rfl rfl (JPure.fieldP rfl rfl ?_)|refine JO.pure rfl rfl rfl (JPure.loadM (rep:=rVal) (x0:=.slice sa st.length sc) (mid:=[.slice sa st.length sc]) rfl (by (first|exact List.mem_cons_self|exact List.mem_cons_of_mem _ List.mem_cons_self|exact List.mem_cons_of_mem _ (List.mem_cons_of_mem _ List.mem_cons_self))) rfl ⟨rfl,rfl⟩ (.inl rfl) rfl ?_)|(refine WNew ?_;intros)|(refine WPut ?_;intros)|(refine JO.eff rfl rfl rfl (JEff.callTry rfl (p17_Try (by exact vta) (by exact vta) (by exact vta)) rfl ?_);intro _ _ _ _ _ _ _ _ _ _ _)|(refine WBox ?_;intros))
 refine JC.regionD rfl ?_
 repeat (refine s116_L17c ?_;intros)
 refine JO.eff rfl rfl rfl (JEff.defer rfl rfl rfl ?_)
 repeat (first|(refine Walk ?_;intros)|refine JC.block ?_|refine JC.drawN 11 rfl [0,1,2,3,4,5,6,7,8,9,10,11,12,13,14] [3,4,5,6,7,9,10,12,13] Tryz_mixed (by decide +kernel) ?_|refine JO.pure rfl rfl rfl (JPure.fieldP rfl rfl ?_)|refine JO.pure rfl rfl rfl (JPure.loadM (rep:=rVal) (x0:=.slice la lf.length lc) (mid:=[.slice la lf.length lc]) rfl (by (first|exact List.mem_cons_self|exact List.mem_cons_of_mem _ List.mem_cons_self|exact List.mem_cons_of_mem _ (List.mem_cons_of_mem _ List.mem_cons_self))) rfl ⟨rfl,rfl⟩ (.inl rfl) rfl ?_)|(refine JO.eff rfl rfl rfl (JEff.callTry rfl (p17_Try (by exact vta) (by exact vta) (by exact vta)) rfl ?_);intro _ _ _ _ _ _ _ _ _ _ _)|(refine WBox ?_;intros))
 refine JO.eff rfl rfl rfl (JEff.storeTo (#[u1,u2,u3,.slice qa q.length qc,.slice sa st.length sc,.slice none 0 0,h]) (rep:=rVal) (x0:=.slice none 0 0) rfl rfl (V_val.2 ⟨rfl,rfl⟩) nna pma (Nat.le_of_ble_eq_true rfl) (by intro l hl;cases hl) rfl ?_)
 repeat (refine s116_L17c ?_;intros)
 (first|refine JC.newRow 78 2 ?_|refine JO.newRow 78 2 ?_|refine JX.newRow 78 2 ?_)
 refine JC.loopF (σ:=RwS) [(1,_),(2,_),(24,_),(25,_)] (fun z=>[(26,.int .i64 z.i)]) (fun z=>[.row w0.heap.size 78 2 (.slice z.la z.lf.length z.lc) z.lf.length (flatCells z.ls),.blk rb (.cells #[u1,u2,u3,.slice z.qa z.q.length z.qc,.slice z.sa z.st.length z.sc,.slice z.la z.lf.length z.lc,h] 167 (0,0)),.blk sb (.cells (Value.bool false).cells 4 (0,0)),.row 0 45 3 (.slice z.sa z.st.length z.sc) z.st.length (flatCells z.vs)]) (fun Si z=>z.i≤lf.length∧(rSlice 8 rI64).V Si (.slice z.qa z.q.length z.qc) z.q∧allV rStep Si z.vs z.st∧allV rMove Si z.ls z.lf∧z.lf.length≤z.i∧z.st.length≤st.length+2*z.i∧rowGo s z.q z.st z.lf (lf.drop z.i)=rowGo s q st [] lf) (fun z=>lf.length - z.i) (⟨0,qa,qc,q,sa,sc,st,vs,none,0,[],[]⟩) (by exact sba) (by exact sba) rfl (⟨Nat.zero_le _,hq.mono (by exact lea),hvs.mono (by exact lea),trivial,Nat.le_refl _,by simp,rfl⟩) ?_;rintro Si ⟨i,qa,qc,Q,sa,sc,sts,vs,la,lc,lfs,ls⟩ hli hii;(try dsimp only at hii);dsimp only [List.cons_append,List.nil_append]
 obtain ⟨hi,hQ,hVs,hLs,hll,hsl,hgo⟩:=hii
 try dsimp only at hi hQ hVs hLs hll hsl hgo
 repeat (refine s116_L17c ?_;intros)
 refine JC.cond rfl (fun hc=>?_) (fun hc=>?_)
 ·have hi':=dlt hc
  obtain ⟨x,hx,hd⟩:=drop_at hi'
  rw [hd,rowGo] at hgo
  repeat (first|(refine Walk ?_;intros)|refine JC.block ?_|refine JC.drawN 11 rfl [0,1,2,3,4,5,6,7,8,9,10,11,12,13,14] [3,4,5,6,7,9,10,12,13] Tryz_mixed (by decide +kernel) ?_|(refine WNew ?_;intros)|(refine WPut ?_;intros)|(refine JO.eff rfl rfl rfl (JEff.callTry rfl (p17_Try (by exact vta) (by exact vta) (by exact vta)) rfl ?_);intro _ _ _ _ _ _ _ _ _ _ _)|(refine WBox ?_;intros))
  have hxv0:=(by assumption:rMove.V _ _ x)
  rcases hty:tryV s Q x with ⟨q2,st2,cc,ee⟩
  rw [hty] at hgo
  dsimp only at hgo
  have hst2:st2.length≤2:=by
   by_cases h0:(tryV s Q x).2.2.2=0
   ·have h1:=congrArg (fun z=>z.2.1) (try_ok h0).2.2.1
    rw [hty] at h1
    dsimp only at h1
    rw [h1];exact (stepsOf_len Q x).1
   ·have h1:(tryV s Q x).2.1=[]:=by
     unfold tryV at h0 ⊢
     split
     ·rfl
     ·rename_i h2
      rw [if_neg h2] at h0
      split
      ·rename_i h3
       rw [if_pos h3] at h0
       exact absurd rfl h0
      ·rfl
    rw [hty] at h1
    dsimp only at h1
    rw [h1];simp
  refine JC.partF (σ:=Option Addr × Nat × Option Addr × Nat) [(1,_),(2,_),(6,_),(24,_),(25,_),(26,_)] (fun w=>[(7,.slice w.1 q2.length w.2.1),(8,.slice w.2.2.1 st2.length w.2.2.2),(10,.int .i64 ee)]) (fun w=>[.row w0.heap.size 78 2 (.slice la lfs.length lc) lfs.length (flatCells ls),.blk rb (.cells #[u1,u2,u3,.slice qa Q.length qc,.slice sa sts.length sc,.slice la lfs.length lc,h] 167 (0,0)),.blk sb (.cells (Value.bool false).cells 4 (0,0)),.row 0 45 3 (.slice sa sts.length sc) sts.length (flatCells vs)]) (fun SA w=>(rSlice 8 rI64).V SA (.slice w.1 q2.length w.2.1) q2∧(rSlice 24 rStep).V SA (.slice w.2.2.1 st2.length w.2.2.2) st2) ?_ (by exact sba) ?_;rotate_left;rintro SA ⟨ra2,rc2,rs2,rn2⟩ hlA hiA;(try dsimp only at hiA);dsimp only [List.cons_append,List.nil_append];rotate_left
  ·refine JC.drawTreeF 8 rfl [16,17,19] [3,7] [0,1,2,4,5,6,8] (.alt (ofL [3] (.alt (ofL [7] (.alt (ofL [9,10,11,12,13,14,15,16,17,18,19] .nil) (ofL [15,9,10,11,12,13,14,16,17,18,19] .nil))) (ofL [15,7,9,10,11,12,13,14,16,17,18,19] .nil))) (ofL [] (.alt (ofL [7] (.alt (ofL [3] (.alt (ofL [9,10,11,12,13,14,15,16,17,18,19] .nil) (ofL [15,9,10,11,12,13,14,16,17,18,19] .nil))) (ofL [15,3,9,10,11,12,13,14,16,17,18,19] .nil))) (ofL [15] (.alt (ofL [3,7,9,10,11,12,13,14,16,17,18,19] .nil) (ofL [7,3,9,10,11,12,13,14,16,17,18,19] .nil)))))) Tryz_mixed (by decide +kernel) ?_
   repeat' (first|(refine Walk ?_;intros)|refine JC.block ?_|refine JC.drawN 11 rfl [0,1,2,3,4,5,6,7,8,9,10,11,12,13,14] [3,4,5,6,7,9,10,12,13] Tryz_mixed (by decide +kernel) ?_|refine JO.pure rfl rfl rfl (JPure.fieldP rfl rfl ?_)|refine JO.eff rfl rfl rfl (JEff.loadE rSnap (x0:=s) (mid:=[u1,u2,u3]) rfl (by (first|exact List.mem_cons_self|exact List.mem_cons_of_mem _ List.mem_cons_self|exact List.mem_cons_of_mem _ (List.mem_cons_of_mem _ List.mem_cons_self))) rfl (rSnap.mono (by exact lea) hR) inferInstance rfl ?_)|refine JO.eff rfl rfl rfl (JEff.loadE rVal (x0:=.slice qa Q.length qc) rfl (by (first|exact List.mem_cons_self|exact List.mem_cons_of_mem _ List.mem_cons_self|exact List.mem_cons_of_mem _ (List.mem_cons_of_mem _ List.mem_cons_self))) rfl ⟨rfl,rfl⟩ inferInstance rfl ?_)|(refine JO.eff rfl rfl rfl (JEff.callTry rfl (w17_Try hty (Rp.val_V (rSnap.mono (by exact lea) hR)) (hQ.mono (by exact lea)) (by exact vta)) rfl ?_);intro _ _ _ _ _ _ _ _ _ _ _)|refine JO.alt ?_ ?_|(refine WNew ?_;intros)|(refine WPut ?_;intros)|(refine JO.eff rfl rfl rfl (JEff.callTry rfl (p17_Try (by exact vta) (by exact vta) (by exact vta)) rfl ?_);intro _ _ _ _ _ _ _ _ _ _ _)|(refine WBox ?_;intros)|(refine JO.guard rfl rfl rfl rfl ?_ ?_<;>intro _)|(refine JC.cond rfl ?_ ?_<;>intro _))
   all_goals exact JX.partF ((_,_,_,_)) (by exact lea) (⟨by exact vta,by exact vta⟩) rfl (by exact sba) (by exact sba)
  obtain ⟨hVA,hVB⟩:=hiA
  try dsimp only at hVA hVB
  repeat (refine s116_L17c ?_;intros)
  by_cases he2:ee=0
  ·rw [decide_eq_true he2]
   rw [if_neg (by simpa using he2)] at hgo
   repeat (first|(refine Walk ?_;intros)|refine JC.block ?_|refine JC.drawN 11 rfl [0,1,2,3,4,5,6,7,8,9,10,11,12,13,14] [3,4,5,6,7,9,10,12,13] Tryz_mixed (by decide +kernel) ?_|refine JO.pure rfl rfl rfl (JPure.fieldP rfl rfl ?_)|refine JO.pure rfl rfl rfl (JPure.loadM (rep:=rVal) (x0:=.slice sa sts.length sc) (mid:=[.slice sa sts.length sc]) rfl (by (first|exact List.mem_cons_self|exact List.mem_cons_of_mem _ List.mem_cons_self|exact List.mem_cons_of_mem _ (List.mem_cons_of_mem _ List.mem_cons_self))) rfl ⟨rfl,rfl⟩ (.inl rfl) rfl ?_)|(refine JO.eff rfl rfl rfl (JEff.callTry rfl (p17_Try (by exact vta) (by exact vta) (by exact vta)) rfl ?_);intro _ _ _ _ _ _ _ _ _ _ _)|(refine WBox ?_;intros))
   refine JO.eff rfl rfl rfl (JEff.appendSB (B:=0) (rep:=rStep) (Nat.zero_le _) rfl rfl hVB rfl rfl pma (by unfold big;omega) (by unfold big;omega) (by intro l hl;cases hl) rfl ?_);intro a5 c5 us5 hus5
   repeat (first|(refine Walk ?_;intros)|refine JC.block ?_|refine JC.drawN 11 rfl [0,1,2,3,4,5,6,7,8,9,10,11,12,13,14] [3,4,5,6,7,9,10,12,13] Tryz_mixed (by decide +kernel) ?_|refine JO.pure rfl rfl rfl (JPure.fieldP rfl rfl ?_)|(refine JO.eff rfl rfl rfl (JEff.callTry rfl (p17_Try (by exact vta) (by exact vta) (by exact vta)) rfl ?_);intro _ _ _ _ _ _ _ _ _ _ _)|(refine WBox ?_;intros))
   refine JO.eff rfl rfl rfl (JEff.storeTo (#[u1,u2,u3,.slice ra2 q2.length rc2,.slice sa sts.length sc,.slice la lfs.length lc,h]) (rep:=rVal) (x0:=.slice ra2 q2.length rc2) rfl rfl (V_val.2 ⟨rfl,rfl⟩) nna pma (Nat.le_of_ble_eq_true rfl) (by intro l hl;cases hl) rfl ?_)
   repeat (first|(refine Walk ?_;intros)|refine JC.block ?_|refine JC.drawN 11 rfl [0,1,2,3,4,5,6,7,8,9,10,11,12,13,14] [3,4,5,6,7,9,10,12,13] Tryz_mixed (by decide +kernel) ?_|refine JO.pure rfl rfl rfl (JPure.fieldP rfl rfl ?_)|(refine JO.eff rfl rfl rfl (JEff.callTry rfl (p17_Try (by exact vta) (by exact vta) (by exact vta)) rfl ?_);intro _ _ _ _ _ _ _ _ _ _ _)|(refine WBox ?_;intros))
   refine JO.eff rfl rfl rfl (JEff.storeTo (#[u1,u2,u3,.slice ra2 q2.length rc2,.slice a5 (sts.length+st2.length) c5,.slice la lfs.length lc,h]) (rep:=rVal) (x0:=.slice a5 (sts.length+st2.length) c5) rfl rfl (V_val.2 ⟨rfl,rfl⟩) nna pma (Nat.le_of_ble_eq_true rfl) (by intro l hl;cases hl) rfl ?_)
   repeat (refine s116_L17c ?_;intros)
   refine JX.perm (M':=[_,_,_,_]) p4a ?_
   exact JX.roundF (⟨i+1,ra2,rc2,q2,a5,c5,sts++st2,vs++us5,la,lc,lfs,ls⟩) (by exact lea) ⟨by (try dsimp only);omega,hVA.mono (by exact lea),allV.append (hus5.mono (by exact lea)) (hVs.mono (by exact lea)),hLs.mono (by exact lea),by (try dsimp only);omega,by simp;omega,hgo⟩ (by (try dsimp only);omega) (by simp [flat_append];rfl) (by exact sba) (by exact sba)
  ·rw [decide_eq_false he2]
   rw [if_pos he2] at hgo
   repeat (refine s116_L17c ?_;intros)
   refine JC.drawTreeF 10 rfl [8,9] [4] [0,1,2,3,5] (.alt (ofL [4,6,7,8,9,10] .nil) (ofL [6,4,7,8,9,10] .nil)) Tryz_mixed (by decide +kernel) ?_
   repeat (first|(refine Walk ?_;intros)|refine JC.block ?_|refine JC.drawN 11 rfl [0,1,2,3,4,5,6,7,8,9,10,11,12,13,14] [3,4,5,6,7,9,10,12,13] Tryz_mixed (by decide +kernel) ?_|refine JO.pure rfl rfl rfl (JPure.fieldP rfl rfl ?_)|(refine JO.eff rfl rfl rfl (JEff.callTry rfl (p17_Try (by exact vta) (by exact vta) (by exact vta)) rfl ?_);intro _ _ _ _ _ _ _ _ _ _ _)|(refine WBox ?_;intros))
   have hxv:=(by assumption:rMove.V _ _ x)
   refine JO.alt ?_ ?_
   ·refine JO.eff rfl rfl rfl (JEff.loadE rVal (x0:=.slice la lfs.length lc) rfl (by (first|exact List.mem_cons_self|exact List.mem_cons_of_mem _ List.mem_cons_self|exact List.mem_cons_of_mem _ (List.mem_cons_of_mem _ List.mem_cons_self))) rfl ⟨rfl,rfl⟩ inferInstance rfl ?_)
    repeat (refine s116_L17c ?_;intros)
    (refine JO.eff rfl rfl rfl (JEff.build (rep:=rMove) (ys:=[x]) rfl rfl ⟨⟨by exact vta,nna⟩,trivial⟩ rfl rfl rfl rfl ?_);intro bb hbb hvv)
    repeat (refine s116_L17c ?_;intros)
    (refine JO.eff rfl rfl rfl (JEff.appendL (rep:=rMove) rfl rfl rfl rfl (List.Perm.swap _ _ _) (by exact hvv.flat) (by intro c hc;exact flat_one (fun v hv=>(hvv.size v hv).2) c hc) (by unfold big;omega) (by unfold big;omega) (by intro l hl;cases hl) rfl ?_);intro a4 c4;clear hvv hbb)
    repeat (refine s116_L17c ?_;intros)
    refine JO.pure rfl rfl rfl (JPure.fieldP rfl rfl ?_)
    refine JO.eff rfl rfl rfl (JEff.storeTo (#[u1,u2,u3,.slice qa Q.length qc,.slice sa sts.length sc,.slice a4 (lfs.length+1) c4,h]) (rep:=rVal) (x0:=.slice a4 (lfs.length+1) c4) rfl rfl (V_val.2 ⟨rfl,rfl⟩) nna pma (Nat.le_of_ble_eq_true rfl) (by intro l hl;cases hl) rfl ?_)
    repeat (refine s116_L17c ?_;intros)
    refine JX.perm (M':=[_,_,_,_]) (List.Perm.swap _ _ _) ?_
    exact JX.roundF (⟨i+1,qa,qc,Q,sa,sc,sts,vs,a4,c4,lfs++[x],ls++[_]⟩) (by exact lea) ⟨by (try dsimp only);omega,hQ.mono (by exact lea),hVs.mono (by exact lea),allV_add (by exact lea) hLs hxv nna,by simp;omega,by (try dsimp only);omega,hgo⟩ (by (try dsimp only);omega) (by simp [flat_append];rfl) (by exact sba) (by exact sba)
   ·repeat (refine s116_L17c ?_;intros)
    (refine JO.eff rfl rfl rfl (JEff.build (rep:=rMove) (ys:=[x]) rfl rfl ⟨⟨by exact vta,nna⟩,trivial⟩ rfl rfl rfl rfl ?_);intro bb hbb hvv)
    repeat (refine s116_L17c ?_;intros)
    refine JO.eff rfl rfl rfl (JEff.loadE rVal (x0:=.slice la lfs.length lc) rfl (by (first|exact List.mem_cons_self|exact List.mem_cons_of_mem _ List.mem_cons_self|exact List.mem_cons_of_mem _ (List.mem_cons_of_mem _ List.mem_cons_self))) rfl ⟨rfl,rfl⟩ inferInstance rfl ?_)
    repeat (refine s116_L17c ?_;intros)
    (refine JO.eff rfl rfl rfl (JEff.appendL (rep:=rMove) rfl rfl rfl rfl (List.Perm.swap _ _ _) (by exact hvv.flat) (by intro c hc;exact flat_one (fun v hv=>(hvv.size v hv).2) c hc) (by unfold big;omega) (by unfold big;omega) (by intro l hl;cases hl) rfl ?_);intro a4 c4;clear hvv hbb)
    repeat (refine s116_L17c ?_;intros)
    refine JO.pure rfl rfl rfl (JPure.fieldP rfl rfl ?_)
    refine JO.eff rfl rfl rfl (JEff.storeTo (#[u1,u2,u3,.slice qa Q.length qc,.slice sa sts.length sc,.slice a4 (lfs.length+1) c4,h]) (rep:=rVal) (x0:=.slice a4 (lfs.length+1) c4) rfl rfl (V_val.2 ⟨rfl,rfl⟩) nna pma (Nat.le_of_ble_eq_true rfl) (by intro l hl;cases hl) rfl ?_)
    repeat (refine s116_L17c ?_;intros)
    refine JX.perm (M':=[_,_,_,_]) (List.Perm.swap _ _ _) ?_
    exact JX.roundF (⟨i+1,qa,qc,Q,sa,sc,sts,vs,a4,c4,lfs++[x],ls++[_]⟩) (by exact lea) ⟨by (try dsimp only);omega,hQ.mono (by exact lea),hVs.mono (by exact lea),allV_add (by exact lea) hLs hxv nna,by simp;omega,by (try dsimp only);omega,hgo⟩ (by (try dsimp only);omega) (by simp [flat_append];rfl) (by exact sba) (by exact sba)
 ·have hi':=dnlt hc
  rw [List.drop_eq_nil_of_le hi',rowGo] at hgo
  have hil:i=lf.length:=by omega
  rw [← hgo]
  refine JC.freezeRow (rep:=rMove) (bt:=16) (xs:=lfs) hLs rfl (by unfold big;omega) (by unfold big;omega) (fun S9 hl9 hV9=>?_)
  repeat (refine s116_L17c ?_;intros)
  refine JO.eff rfl rfl rfl (JEff.storeW rfl rfl (V_bool.2 rfl) nna pma rfl (by intro l hl;cases hl) ?_)
  repeat (refine s116_L17c ?_;intros)
  have hpr:=(by assumption:PtrTo _ _ rVal (.pointer (some ⟨rb,0,none⟩)))
  have hpw:=(by assumption:PtrTo _ _ rI64 (st.length:Int))
  refine JX.retD (us:=#[]) (Mc:=[.blk sb _,.blk rb _]) (Mr:=[_]) inferInstance (List.Perm.refl _) (p17_row1 (hpr.mono (by exact lea)) (hpw.mono (by exact lea))) (fun v S' M' hl hp=>?_)
  subst hp
  refine ⟨_,.bool (decide ((st.length:Int) < (sts.length:Int))),[_,_],Tryz.results116,ResV.cellM (rep:=rBool) (mid:=[.bool (decide ((st.length:Int) < (sts.length:Int)))]) rfl (by (first|exact List.mem_cons_self|exact List.mem_cons_of_mem _ List.mem_cons_self|exact List.mem_cons_of_mem _ (List.mem_cons_of_mem _ List.mem_cons_self))) rfl rfl,List.sublist_cons_self _ _,?_⟩
  refine ⟨by simp,qa,qc,sa,sc,la,lc,vs,rfl,hQ.mono (by exact lea),hV9.mono (by exact lea),hVs.mono (by exact lea)⟩
end Go.Dr
namespace Go.Dr
open Go.Proofs
set_option maxRecDepth 20000
set_option maxHeartbeats 2000000
set_option linter.unusedSimpArgs false
set_option linter.unusedVariables false
def hadL (had:List Int):List (Int × Value):=had.map (fun x=>(x,Value.int .i64 1))
theorem hadL_add (had:List Int) (x:Int):hadL had++[(x,Value.int .i64 1)]=hadL (had++[x]):=by unfold hadL;simp
theorem hadL_mem {had:List Int} {q:Int × Value} (h:q∈hadL had):q.1∈had∧q.2=.int .i64 1:=by
 unfold hadL at h
 obtain ⟨x,hx,rfl⟩:=List.mem_map.1 h
 exact ⟨hx,rfl⟩
theorem hadL_in {had:List Int} {x:Int} (h:x∈had):(x,Value.int .i64 1)∈hadL had:=List.mem_map.2 ⟨x,h,rfl⟩
theorem hadL_distinct {had:List Int} (h:had.Nodup):DistinctK (hadL had):=by
 intro i j p q hi hj e
 unfold hadL at hi hj
 rw [List.getElem?_map] at hi hj
 cases h1:had[i]? with
 | none=>rw [h1] at hi;cases hi
 | some x=>
  cases h2:had[j]? with
  | none=>rw [h2] at hj;cases hj
  | some y=>
   rw [h1] at hi;rw [h2] at hj
   cases hi;cases hj
   dsimp only at e
   subst e
   have hi:=(List.getElem?_eq_some_iff.1 h1).1
   refine (List.getElem?_inj hi h).1 (h1.trans h2.symm)
def hadO (mb:Nat) (had:List Int):MEnt:=.blk mb (mapK (Value.int .i64) (hadL had))
def HopAns (T E:TypeId) (rb mb:Nat) (u1 u2 u3:Value) (qa:Option Addr) (qc:Nat) (sa:Option Addr) (sc:Nat) (la:Option Addr) (lc:Nat) (s:Snap) (q:List Int) (st:List Step) (lf:List Move) (vs:List Value) (shun had:List Int) (v:Value) (S':SHeap) (M':List MEnt):Prop:=
 (hopV s q lf shun had=none∧v=.bool false∧M'=rdE T E rb u1 u2 u3 qa qc sa sc la lc (.map (some mb)) q st lf vs++[hadO mb had]) ∨
 (∃ q2 st2 pod qa2 qc2 sa2 sc2 vs2,hopV s q lf shun had=some (q2,st2,pod)∧v=.bool true∧(rSlice 8 rI64).V S' (.slice qa2 q2.length qc2) q2∧allV rStep S' vs2 (st++st2) ∧
  M'=rdE T E rb u1 u2 u3 qa2 qc2 sa2 sc2 la lc (.map (some mb)) q2 (st++st2) lf vs2++[hadO mb (had++[pod])])
theorem V_mvF {S:SHeap} {a b:Int} (h1:Rng a) (h2:Rng b):rMove.V S (.agg (flatCells [.int .i64 a,.int .i64 b]).toArray) ⟨a,b⟩:=V_move.2 ⟨by simp [flatCells,Value.cells],h1,h2⟩
theorem p4b {α:Type} {a b c:α}:[a,b,c].Perm [c,a,b]:=(List.perm_middle (a:=c) (l₁:=[a,b]) (l₂:=[]))
theorem s117_L17h {P K:Prop} (k:K) (h:Goal K→P:=by
 intro zk
 (first|refine Walk ?_|refine JC.block ?_|refine JC.drawN 1 rfl [0,1,2,3,4,5,6,7,8,9,10,11,12,13,14,15,16,17,18,19,20] [0,1,2,3,4,5,6,7,8,9,10,11,12,14,15,16,17,18,19,20] Tryz_mixed (by decide +kernel) ?_|refine JC.drawN 2 rfl [0,1,2,3,4,5,6,7,8,9,10,11,12,13,14,15,16,17] [0,1,2,3,4,5,6,7,8,9,10,11,12,13,14,15,16,17] Tryz_mixed (by decide +kernel) ?_|(refine JO.eff rfl rfl rfl (JEff.callTry rfl (p17_Try (by exact vta) (by exact vta) (by exact vta)) rfl ?_);intro zqa zqb zqc zqd zqe zqf zqg)|(refine JO.eff rfl rfl rfl (JEff.callV rfl (p17_Find (by exact vta) (by exact vta) (by exact vta) (by exact vta)) rfl ?_);intro zqa zqb)|(refine WNew ?_)|(refine WPut ?_))
 (repeat (first|revert zqg|revert zqf|revert zqe|revert zqd|revert zqc|revert zqb|revert zqa))
 exact zk.k):P:=h ⟨k⟩
theorem p17_hop {S:SHeap} {rb mb:Nat} {u1 u2 u3 w:Value} {qa sa la:Option Addr} {qc sc lc:Nat} {s:Snap} {q shun had:List Int} {st:List Step} {lf:List Move} {vs:List Value} (hR:rSnap.R S [u1,u2,u3] s) (hq:(rSlice 8 rI64).V S (.slice qa q.length qc) q) (hl:(rSlice 16 rMove).V S (.slice la lf.length lc) lf) (hvs:allV rStep S vs st) (hw:(rSlice 8 rI64).V S w shun) (hlf:lf.length≤96) (hst:st.length≤192) (hnd:had.Nodup) :
  Fn Tryz.prog 117 #[.pointer (some ⟨rb,0,none⟩),w] S (rdE 167 45 rb u1 u2 u3 qa qc sa sc la lc (.map (some mb)) q st lf vs++[hadO mb had])
   (HopAns 167 45 rb mb u1 u2 u3 qa qc sa sc la lc s q st lf vs shun had):=by
 haveI:TyR Tryz.prog 84 rVal:=⟨(inferInstance:TyR Tryz.prog 84 (rSlice 16 rMove)).b⟩
 haveI:TyR Tryz.prog 79 rVal:=⟨(inferInstance:TyR Tryz.prog 79 (rSlice 24 rStep)).b⟩
 haveI:TyR Tryz.prog 27 rVal:=⟨(inferInstance:TyR Tryz.prog 27 (rSlice 8 rI64)).b⟩
 rcases hf:findV s q lf shun with ⟨a,n,b⟩
 unfold rdE hadO
 (refine Fn.enter (args:=[.pointer (some ⟨rb,0,none⟩),w]) Tryz.func117 rfl Tryz.ntmps117 rfl ?_;intro w0)
 dsimp only [List.cons_append,List.nil_append]
 repeat (first|(refine Walk ?_;intros)|refine JC.block ?_|refine JC.drawN 1 rfl [0,1,2,3,4,5,6,7,8,9,10,11,12,13,14,15,16,17,18,19,20] [0,1,2,3,4,5,6,7,8,9,10,11,12,14,15,16,17,18,19,20] Tryz_mixed (by decide +kernel) ?_|refine JC.drawN 2 rfl [0,1,2,3,4,5,6,7,8,9,10,11,12,13,14,15,16,17] [0,1,2,3,4,5,6,7,8,9,10,11,12,13,14,15,16,17] Tryz_mixed (by decide +kernel) ?_|refine JO.pure rfl rfl rfl (JPure.fieldP rfl rfl ?_)|refine JO.pure rfl rfl rfl (JPure.loadM (rep:=rSnap) (x0:=s) (mid:=[u1,u2,u3]) rfl (by (first|exact List.mem_cons_self|exact List.mem_cons_of_mem _ List.mem_cons_self|exact List.mem_cons_of_mem _ (List.mem_cons_of_mem _ List.mem_cons_self))) rfl (rSnap.mono (by exact lea) hR) (.inl rfl) rfl ?_)|refine JO.pure rfl rfl rfl (JPure.loadM (rep:=rVal) (x0:=.slice qa q.length qc) (mid:=[.slice qa q.length qc]) rfl (by (first|exact List.mem_cons_self|exact List.mem_cons_of_mem _ List.mem_cons_self|exact List.mem_cons_of_mem _ (List.mem_cons_of_mem _ List.mem_cons_self))) rfl ⟨rfl,rfl⟩ (.inl rfl) rfl ?_)|refine JO.pure rfl rfl rfl (JPure.loadM (rep:=rVal) (x0:=.slice la lf.length lc) (mid:=[.slice la lf.length lc]) rfl (by (first|exact List.mem_cons_self|exact List.mem_cons_of_mem _ List.mem_cons_self|exact List.mem_cons_of_mem _ (List.mem_cons_of_mem _ List.mem_cons_self))) rfl ⟨rfl,rfl⟩ (.inl rfl) rfl ?_)|refine JO.pure rfl rfl rfl (JPure.loadM (rep:=rVal) (x0:=.slice sa st.length sc) (mid:=[.slice sa st.length sc]) rfl (by (first|exact List.mem_cons_self|exact List.mem_cons_of_mem _ List.mem_cons_self|exact List.mem_cons_of_mem _ (List.mem_cons_of_mem _ List.mem_cons_self))) rfl ⟨rfl,rfl⟩ (.inl rfl) rfl ?_)|refine JO.pure rfl rfl rfl (JPure.loadM (rep:=rVal) (x0:=.map (some mb)) (mid:=[.map (some mb)]) rfl (by (first|exact List.mem_cons_self|exact List.mem_cons_of_mem _ List.mem_cons_self|exact List.mem_cons_of_mem _ (List.mem_cons_of_mem _ List.mem_cons_self))) rfl ⟨rfl,rfl⟩ (.inl rfl) rfl ?_)|(refine JO.eff rfl rfl rfl (JEff.callV rfl (w17_Find hf (Rp.val_V (rSnap.mono (by exact lea) hR)) (hq.mono (by exact lea)) (hl.mono (by exact lea)) (by exact vta)) rfl ?_);intro _ _)|(refine JO.eff rfl rfl rfl (JEff.callTry rfl (p17_Try (by exact vta) (by exact vta) (by exact vta)) rfl ?_);intro _ _ _ _ _ _ _ _ _ _ _)|(refine JO.eff rfl rfl rfl (JEff.callV rfl (p17_Find (by exact vta) (by exact vta) (by exact vta) (by exact vta)) rfl ?_);intro _ _)|(refine WNew ?_;intros)|(refine WPut ?_;intros))
 cases b
 ·repeat (refine s117_L17h ?_;intros)
  refine JX.ret1 Tryz.results117 (ResV.tmp rfl) (List.Sublist.refl _) ?_
  exact .inl ⟨by rw [hopV_eq,hf,if_neg (by simp)],rfl,rfl⟩
 ·obtain ⟨k,x,hx,hak,hmv,hn⟩:=find_ok (by rw [hf]:(findV s q lf shun).2.2=true)
  rw [hf] at hak hmv hn
  dsimp only at hak hmv hn
  subst hak
  have ht:=hop_try hn
  obtain ⟨ha,_,_,_,_,hn0,hn1,_⟩:=findN_ok hn
  obtain ⟨hck,hx0,hx1,_⟩:=askM_ok ha
  obtain ⟨_,_,hp24,hn8,_,_,_⟩:=placed_hyps hck
  have hxr:Rng x.pod:=by unfold Rng;omega
  have hnr:Rng n:=by unfold Rng;omega
  have hxk:lf[((k:Int)).toNat]?=some x:=by rw [Int.toNat_natCast];exact hx
  have hkl:k < lf.length:=(List.getElem?_eq_some_iff.1 hx).1
  have hlV:=fun (S':SHeap) (h:S.le S')=>hl.mono h
  repeat (first|(refine Walk ?_;intros)|refine JC.block ?_|refine JC.drawN 1 rfl [0,1,2,3,4,5,6,7,8,9,10,11,12,13,14,15,16,17,18,19,20] [0,1,2,3,4,5,6,7,8,9,10,11,12,14,15,16,17,18,19,20] Tryz_mixed (by decide +kernel) ?_|refine JC.drawN 2 rfl [0,1,2,3,4,5,6,7,8,9,10,11,12,13,14,15,16,17] [0,1,2,3,4,5,6,7,8,9,10,11,12,13,14,15,16,17] Tryz_mixed (by decide +kernel) ?_|refine JO.pure rfl rfl rfl (JPure.fieldP rfl rfl ?_)|refine JO.pure rfl rfl rfl (JPure.loadM (rep:=rSnap) (x0:=s) (mid:=[u1,u2,u3]) rfl (by (first|exact List.mem_cons_self|exact List.mem_cons_of_mem _ List.mem_cons_self|exact List.mem_cons_of_mem _ (List.mem_cons_of_mem _ List.mem_cons_self))) rfl (rSnap.mono (by exact lea) hR) (.inl rfl) rfl ?_)|refine JO.pure rfl rfl rfl (JPure.loadM (rep:=rVal) (x0:=.slice qa q.length qc) (mid:=[.slice qa q.length qc]) rfl (by (first|exact List.mem_cons_self|exact List.mem_cons_of_mem _ List.mem_cons_self|exact List.mem_cons_of_mem _ (List.mem_cons_of_mem _ List.mem_cons_self))) rfl ⟨rfl,rfl⟩ (.inl rfl) rfl ?_)|refine JO.pure rfl rfl rfl (JPure.loadM (rep:=rVal) (x0:=.slice la lf.length lc) (mid:=[.slice la lf.length lc]) rfl (by (first|exact List.mem_cons_self|exact List.mem_cons_of_mem _ List.mem_cons_self|exact List.mem_cons_of_mem _ (List.mem_cons_of_mem _ List.mem_cons_self))) rfl ⟨rfl,rfl⟩ (.inl rfl) rfl ?_)|refine JO.pure rfl rfl rfl (JPure.loadM (rep:=rVal) (x0:=.slice sa st.length sc) (mid:=[.slice sa st.length sc]) rfl (by (first|exact List.mem_cons_self|exact List.mem_cons_of_mem _ List.mem_cons_self|exact List.mem_cons_of_mem _ (List.mem_cons_of_mem _ List.mem_cons_self))) rfl ⟨rfl,rfl⟩ (.inl rfl) rfl ?_)|refine JO.pure rfl rfl rfl (JPure.loadM (rep:=rVal) (x0:=.map (some mb)) (mid:=[.map (some mb)]) rfl (by (first|exact List.mem_cons_self|exact List.mem_cons_of_mem _ List.mem_cons_self|exact List.mem_cons_of_mem _ (List.mem_cons_of_mem _ List.mem_cons_self))) rfl ⟨rfl,rfl⟩ (.inl rfl) rfl ?_)|(refine JO.eff rfl rfl rfl (JEff.callTry rfl (p17_Try (by exact vta) (by exact vta) (by exact vta)) rfl ?_);intro _ _ _ _ _ _ _ _ _ _ _)|(refine JO.eff rfl rfl rfl (JEff.callV rfl (p17_Find (by exact vta) (by exact vta) (by exact vta) (by exact vta)) rfl ?_);intro _ _)|(refine WNew ?_;intros)|(refine WPut ?_;intros))
  refine JO.pure rfl rfl rfl (JPure.lookM (kv:=Value.int .i64) (s:=x.pod) rfl rfl (by (first|exact List.mem_cons_self|exact List.mem_cons_of_mem _ List.mem_cons_self|exact List.mem_cons_of_mem _ (List.mem_cons_of_mem _ List.mem_cons_self))) (hadL_distinct hnd) (.inl rfl) rfl (fun hno=>?_) (fun j p hj hp=>?_))
  ·have hnm:x.pod∉had:=fun h=>hno _ (hadL_in h) rfl
   generalize hq2:q.set x.pod.toNat n=q2 at ht
   generalize hs2:[offS x.pod,bindS ⟨x.pod,n⟩]=st2 at ht
   have hsl2:st2.length=2:=by rw [← hs2];rfl
   have hhop:hopV s q lf shun had=some (q2,st2,x.pod):=by
    rw [hopV_eq,hf]
    dsimp only
    rw [hmv,if_pos ⟨rfl,hnm⟩,hq2,hs2]
   repeat (first|(refine Walk ?_;intros)|refine JC.block ?_|refine JC.drawN 1 rfl [0,1,2,3,4,5,6,7,8,9,10,11,12,13,14,15,16,17,18,19,20] [0,1,2,3,4,5,6,7,8,9,10,11,12,14,15,16,17,18,19,20] Tryz_mixed (by decide +kernel) ?_|refine JC.drawN 2 rfl [0,1,2,3,4,5,6,7,8,9,10,11,12,13,14,15,16,17] [0,1,2,3,4,5,6,7,8,9,10,11,12,13,14,15,16,17] Tryz_mixed (by decide +kernel) ?_|refine JO.pure rfl rfl rfl (JPure.fieldP rfl rfl ?_)|refine JO.pure rfl rfl rfl (JPure.loadM (rep:=rSnap) (x0:=s) (mid:=[u1,u2,u3]) rfl (by (first|exact List.mem_cons_self|exact List.mem_cons_of_mem _ List.mem_cons_self|exact List.mem_cons_of_mem _ (List.mem_cons_of_mem _ List.mem_cons_self))) rfl (rSnap.mono (by exact lea) hR) (.inl rfl) rfl ?_)|refine JO.pure rfl rfl rfl (JPure.loadM (rep:=rVal) (x0:=.slice qa q.length qc) (mid:=[.slice qa q.length qc]) rfl (by (first|exact List.mem_cons_self|exact List.mem_cons_of_mem _ List.mem_cons_self|exact List.mem_cons_of_mem _ (List.mem_cons_of_mem _ List.mem_cons_self))) rfl ⟨rfl,rfl⟩ (.inl rfl) rfl ?_)|refine JO.pure rfl rfl rfl (JPure.loadM (rep:=rVal) (x0:=.slice la lf.length lc) (mid:=[.slice la lf.length lc]) rfl (by (first|exact List.mem_cons_self|exact List.mem_cons_of_mem _ List.mem_cons_self|exact List.mem_cons_of_mem _ (List.mem_cons_of_mem _ List.mem_cons_self))) rfl ⟨rfl,rfl⟩ (.inl rfl) rfl ?_)|refine JO.pure rfl rfl rfl (JPure.loadM (rep:=rVal) (x0:=.slice sa st.length sc) (mid:=[.slice sa st.length sc]) rfl (by (first|exact List.mem_cons_self|exact List.mem_cons_of_mem _ List.mem_cons_self|exact List.mem_cons_of_mem _ (List.mem_cons_of_mem _ List.mem_cons_self))) rfl ⟨rfl,rfl⟩ (.inl rfl) rfl ?_)|refine JO.pure rfl rfl rfl (JPure.loadM (rep:=rVal) (x0:=.map (some mb)) (mid:=[.map (some mb)]) rfl (by (first|exact List.mem_cons_self|exact List.mem_cons_of_mem _ List.mem_cons_self|exact List.mem_cons_of_mem _ (List.mem_cons_of_mem _ List.mem_cons_self))) rfl ⟨rfl,rfl⟩ (.inl rfl) rfl ?_)|(refine JO.eff rfl rfl rfl (JEff.callTry rfl (p17_Try (by exact vta) (by exact vta) (by exact vta)) rfl ?_);intro _ _ _ _ _ _ _ _ _ _ _)|(refine JO.eff rfl rfl rfl (JEff.callV rfl (p17_Find (by exact vta) (by exact vta) (by exact vta) (by exact vta)) rfl ?_);intro _ _)|(refine WNew ?_;intros)|(refine WPut ?_;intros))
   refine JC.partF (σ:=Option Addr × Nat × Option Addr × Nat) [(0,_),(8,_)] (fun w=>[(9,.slice w.1 q2.length w.2.1),(10,.slice w.2.2.1 st2.length w.2.2.2),(12,.int .i64 0)]) (fun w=>[.blk rb (.cells #[u1,u2,u3,.slice qa q.length qc,.slice sa st.length sc,.slice la lf.length lc,.map (some mb)] 167 (0,0)),.row 0 45 3 (.slice sa st.length sc) st.length (flatCells vs),.blk mb (mapK (Value.int .i64) (hadL had))]) (fun SA w=>(rSlice 8 rI64).V SA (.slice w.1 q2.length w.2.1) q2∧(rSlice 24 rStep).V SA (.slice w.2.2.1 st2.length w.2.2.2) st2) ?_ (by exact sba) ?_;rotate_left;rintro SA ⟨ra2,rc2,rs2,rn2⟩ hlA hiA;(try dsimp only at hiA);dsimp only [List.cons_append,List.nil_append];rotate_left
   ·refine JC.drawTreeF 5 rfl [18,19,21] [3,7] [0,1,2,4,5,6,8,9,10] (.alt (ofL [3] (.alt (ofL [7] (.alt (ofL [11,12,13,14,15,16,17,18,19,20,21] .nil) (ofL [17,11,12,13,14,15,16,18,19,20,21] .nil))) (ofL [17,7,11,12,13,14,15,16,18,19,20,21] .nil))) (ofL [] (.alt (ofL [7] (.alt (ofL [3] (.alt (ofL [11,12,13,14,15,16,17,18,19,20,21] .nil) (ofL [17,11,12,13,14,15,16,18,19,20,21] .nil))) (ofL [17,3,11,12,13,14,15,16,18,19,20,21] .nil))) (ofL [17] (.alt (ofL [3,7,11,12,13,14,15,16,18,19,20,21] .nil) (ofL [7,3,11,12,13,14,15,16,18,19,20,21] .nil)))))) Tryz_mixed (by decide +kernel) ?_
    repeat' (first|(refine Walk ?_;intros)|refine JC.block ?_|refine JC.drawN 1 rfl [0,1,2,3,4,5,6,7,8,9,10,11,12,13,14,15,16,17,18,19,20] [0,1,2,3,4,5,6,7,8,9,10,11,12,14,15,16,17,18,19,20] Tryz_mixed (by decide +kernel) ?_|refine JC.drawN 2 rfl [0,1,2,3,4,5,6,7,8,9,10,11,12,13,14,15,16,17] [0,1,2,3,4,5,6,7,8,9,10,11,12,13,14,15,16,17] Tryz_mixed (by decide +kernel) ?_|refine JO.pure rfl rfl rfl (JPure.fieldP rfl rfl ?_)|refine JO.eff rfl rfl rfl (JEff.loadE rSnap (x0:=s) (mid:=[u1,u2,u3]) rfl (by (first|exact List.mem_cons_self|exact List.mem_cons_of_mem _ List.mem_cons_self|exact List.mem_cons_of_mem _ (List.mem_cons_of_mem _ List.mem_cons_self))) rfl (rSnap.mono (by exact lea) hR) inferInstance rfl ?_)|refine JO.eff rfl rfl rfl (JEff.loadE rVal (x0:=.slice qa q.length qc) rfl (by (first|exact List.mem_cons_self|exact List.mem_cons_of_mem _ List.mem_cons_self|exact List.mem_cons_of_mem _ (List.mem_cons_of_mem _ List.mem_cons_self))) rfl ⟨rfl,rfl⟩ inferInstance rfl ?_)|(refine JO.eff rfl rfl rfl (JEff.callTry rfl (w17_Try ht (Rp.val_V (rSnap.mono (by exact lea) hR)) (hq.mono (by exact lea)) (V_mvF hxr hnr)) rfl ?_);intro _ _ _ _ _ _ _ _ _ _ _)|refine JO.alt ?_ ?_|(refine WNew ?_;intros)|(refine WPut ?_;intros)|(refine JO.eff rfl rfl rfl (JEff.callTry rfl (p17_Try (by exact vta) (by exact vta) (by exact vta)) rfl ?_);intro _ _ _ _ _ _ _ _ _ _ _)|(refine JO.eff rfl rfl rfl (JEff.callV rfl (p17_Find (by exact vta) (by exact vta) (by exact vta) (by exact vta)) rfl ?_);intro _ _)|(refine WNew ?_;intros)|(refine WPut ?_;intros)|(refine JO.guard rfl rfl rfl rfl ?_ ?_<;>intro _)|(refine JC.cond rfl ?_ ?_<;>intro _))
    all_goals exact JX.partF ((_,_,_,_)) (by exact lea) (⟨by exact vta,by exact vta⟩) rfl (by exact sba) (by exact sba)
   obtain ⟨hVA,hVB⟩:=hiA
   try dsimp only at hVA hVB
   repeat (first|(refine Walk ?_;intros)|refine JC.block ?_|refine JC.drawN 1 rfl [0,1,2,3,4,5,6,7,8,9,10,11,12,13,14,15,16,17,18,19,20] [0,1,2,3,4,5,6,7,8,9,10,11,12,14,15,16,17,18,19,20] Tryz_mixed (by decide +kernel) ?_|refine JC.drawN 2 rfl [0,1,2,3,4,5,6,7,8,9,10,11,12,13,14,15,16,17] [0,1,2,3,4,5,6,7,8,9,10,11,12,13,14,15,16,17] Tryz_mixed (by decide +kernel) ?_|refine JO.pure rfl rfl rfl (JPure.fieldP rfl rfl ?_)|refine JO.pure rfl rfl rfl (JPure.loadM (rep:=rSnap) (x0:=s) (mid:=[u1,u2,u3]) rfl (by (first|exact List.mem_cons_self|exact List.mem_cons_of_mem _ List.mem_cons_self|exact List.mem_cons_of_mem _ (List.mem_cons_of_mem _ List.mem_cons_self))) rfl (rSnap.mono (by exact lea) hR) (.inl rfl) rfl ?_)|refine JO.pure rfl rfl rfl (JPure.loadM (rep:=rVal) (x0:=.slice qa q.length qc) (mid:=[.slice qa q.length qc]) rfl (by (first|exact List.mem_cons_self|exact List.mem_cons_of_mem _ List.mem_cons_self|exact List.mem_cons_of_mem _ (List.mem_cons_of_mem _ List.mem_cons_self))) rfl ⟨rfl,rfl⟩ (.inl rfl) rfl ?_)|refine JO.pure rfl rfl rfl (JPure.loadM (rep:=rVal) (x0:=.slice la lf.length lc) (mid:=[.slice la lf.length lc]) rfl (by (first|exact List.mem_cons_self|exact List.mem_cons_of_mem _ List.mem_cons_self|exact List.mem_cons_of_mem _ (List.mem_cons_of_mem _ List.mem_cons_self))) rfl ⟨rfl,rfl⟩ (.inl rfl) rfl ?_)|refine JO.pure rfl rfl rfl (JPure.loadM (rep:=rVal) (x0:=.slice sa st.length sc) (mid:=[.slice sa st.length sc]) rfl (by (first|exact List.mem_cons_self|exact List.mem_cons_of_mem _ List.mem_cons_self|exact List.mem_cons_of_mem _ (List.mem_cons_of_mem _ List.mem_cons_self))) rfl ⟨rfl,rfl⟩ (.inl rfl) rfl ?_)|refine JO.pure rfl rfl rfl (JPure.loadM (rep:=rVal) (x0:=.map (some mb)) (mid:=[.map (some mb)]) rfl (by (first|exact List.mem_cons_self|exact List.mem_cons_of_mem _ List.mem_cons_self|exact List.mem_cons_of_mem _ (List.mem_cons_of_mem _ List.mem_cons_self))) rfl ⟨rfl,rfl⟩ (.inl rfl) rfl ?_)|(refine JO.eff rfl rfl rfl (JEff.callTry rfl (p17_Try (by exact vta) (by exact vta) (by exact vta)) rfl ?_);intro _ _ _ _ _ _ _ _ _ _ _)|(refine JO.eff rfl rfl rfl (JEff.callV rfl (p17_Find (by exact vta) (by exact vta) (by exact vta) (by exact vta)) rfl ?_);intro _ _)|(refine WNew ?_;intros)|(refine WPut ?_;intros))
   refine JO.eff rfl rfl rfl (JEff.appendSB (B:=0) (rep:=rStep) (Nat.zero_le _) rfl rfl hVB rfl rfl pma (by unfold big;omega) (by unfold big;omega) (by intro l hl;cases hl) rfl ?_);intro a5 c5 us5 hus5
   repeat (first|(refine Walk ?_;intros)|refine JC.block ?_|refine JC.drawN 1 rfl [0,1,2,3,4,5,6,7,8,9,10,11,12,13,14,15,16,17,18,19,20] [0,1,2,3,4,5,6,7,8,9,10,11,12,14,15,16,17,18,19,20] Tryz_mixed (by decide +kernel) ?_|refine JC.drawN 2 rfl [0,1,2,3,4,5,6,7,8,9,10,11,12,13,14,15,16,17] [0,1,2,3,4,5,6,7,8,9,10,11,12,13,14,15,16,17] Tryz_mixed (by decide +kernel) ?_|refine JO.pure rfl rfl rfl (JPure.fieldP rfl rfl ?_)|(refine JO.eff rfl rfl rfl (JEff.callTry rfl (p17_Try (by exact vta) (by exact vta) (by exact vta)) rfl ?_);intro _ _ _ _ _ _ _ _ _ _ _)|(refine JO.eff rfl rfl rfl (JEff.callV rfl (p17_Find (by exact vta) (by exact vta) (by exact vta) (by exact vta)) rfl ?_);intro _ _)|(refine WNew ?_;intros)|(refine WPut ?_;intros))
   refine JO.eff rfl rfl rfl (JEff.storeTo (#[u1,u2,u3,.slice ra2 q2.length rc2,.slice sa st.length sc,.slice la lf.length lc,.map (some mb)]) (rep:=rVal) (x0:=.slice ra2 q2.length rc2) rfl rfl (V_val.2 ⟨rfl,rfl⟩) nna pma (Nat.le_of_ble_eq_true rfl) (by intro l hl;cases hl) rfl ?_)
   repeat (first|(refine Walk ?_;intros)|refine JC.block ?_|refine JC.drawN 1 rfl [0,1,2,3,4,5,6,7,8,9,10,11,12,13,14,15,16,17,18,19,20] [0,1,2,3,4,5,6,7,8,9,10,11,12,14,15,16,17,18,19,20] Tryz_mixed (by decide +kernel) ?_|refine JC.drawN 2 rfl [0,1,2,3,4,5,6,7,8,9,10,11,12,13,14,15,16,17] [0,1,2,3,4,5,6,7,8,9,10,11,12,13,14,15,16,17] Tryz_mixed (by decide +kernel) ?_|refine JO.pure rfl rfl rfl (JPure.fieldP rfl rfl ?_)|(refine JO.eff rfl rfl rfl (JEff.callTry rfl (p17_Try (by exact vta) (by exact vta) (by exact vta)) rfl ?_);intro _ _ _ _ _ _ _ _ _ _ _)|(refine JO.eff rfl rfl rfl (JEff.callV rfl (p17_Find (by exact vta) (by exact vta) (by exact vta) (by exact vta)) rfl ?_);intro _ _)|(refine WNew ?_;intros)|(refine WPut ?_;intros))
   refine JO.eff rfl rfl rfl (JEff.storeTo (#[u1,u2,u3,.slice ra2 q2.length rc2,.slice a5 (st.length+st2.length) c5,.slice la lf.length lc,.map (some mb)]) (rep:=rVal) (x0:=.slice a5 (st.length+st2.length) c5) rfl rfl (V_val.2 ⟨rfl,rfl⟩) nna pma (Nat.le_of_ble_eq_true rfl) (by intro l hl;cases hl) rfl ?_)
   repeat (first|(refine Walk ?_;intros)|refine JC.block ?_|refine JC.drawN 1 rfl [0,1,2,3,4,5,6,7,8,9,10,11,12,13,14,15,16,17,18,19,20] [0,1,2,3,4,5,6,7,8,9,10,11,12,14,15,16,17,18,19,20] Tryz_mixed (by decide +kernel) ?_|refine JC.drawN 2 rfl [0,1,2,3,4,5,6,7,8,9,10,11,12,13,14,15,16,17] [0,1,2,3,4,5,6,7,8,9,10,11,12,13,14,15,16,17] Tryz_mixed (by decide +kernel) ?_|refine JO.pure rfl rfl rfl (JPure.fieldP rfl rfl ?_)|refine JO.pure rfl rfl rfl (JPure.loadM (rep:=rSnap) (x0:=s) (mid:=[u1,u2,u3]) rfl (by (first|exact List.mem_cons_self|exact List.mem_cons_of_mem _ List.mem_cons_self|exact List.mem_cons_of_mem _ (List.mem_cons_of_mem _ List.mem_cons_self))) rfl (rSnap.mono (by exact lea) hR) (.inl rfl) rfl ?_)|refine JO.pure rfl rfl rfl (JPure.loadM (rep:=rVal) (x0:=.slice qa q.length qc) (mid:=[.slice qa q.length qc]) rfl (by (first|exact List.mem_cons_self|exact List.mem_cons_of_mem _ List.mem_cons_self|exact List.mem_cons_of_mem _ (List.mem_cons_of_mem _ List.mem_cons_self))) rfl ⟨rfl,rfl⟩ (.inl rfl) rfl ?_)|refine JO.pure rfl rfl rfl (JPure.loadM (rep:=rVal) (x0:=.slice la lf.length lc) (mid:=[.slice la lf.length lc]) rfl (by (first|exact List.mem_cons_self|exact List.mem_cons_of_mem _ List.mem_cons_self|exact List.mem_cons_of_mem _ (List.mem_cons_of_mem _ List.mem_cons_self))) rfl ⟨rfl,rfl⟩ (.inl rfl) rfl ?_)|refine JO.pure rfl rfl rfl (JPure.loadM (rep:=rVal) (x0:=.slice sa st.length sc) (mid:=[.slice sa st.length sc]) rfl (by (first|exact List.mem_cons_self|exact List.mem_cons_of_mem _ List.mem_cons_self|exact List.mem_cons_of_mem _ (List.mem_cons_of_mem _ List.mem_cons_self))) rfl ⟨rfl,rfl⟩ (.inl rfl) rfl ?_)|refine JO.pure rfl rfl rfl (JPure.loadM (rep:=rVal) (x0:=.map (some mb)) (mid:=[.map (some mb)]) rfl (by (first|exact List.mem_cons_self|exact List.mem_cons_of_mem _ List.mem_cons_self|exact List.mem_cons_of_mem _ (List.mem_cons_of_mem _ List.mem_cons_self))) rfl ⟨rfl,rfl⟩ (.inl rfl) rfl ?_)|(refine JO.eff rfl rfl rfl (JEff.callTry rfl (p17_Try (by exact vta) (by exact vta) (by exact vta)) rfl ?_);intro _ _ _ _ _ _ _ _ _ _ _)|(refine JO.eff rfl rfl rfl (JEff.callV rfl (p17_Find (by exact vta) (by exact vta) (by exact vta) (by exact vta)) rfl ?_);intro _ _)|(refine WNew ?_;intros)|(refine WPut ?_;intros))
   refine JO.eff rfl rfl rfl (JEff.putK (kv:=Value.int .i64) (s:=x.pod) rfl rfl rfl pma (by intro l hl;cases hl) (fun _=>?_) (fun j q hj hq=>absurd hq (hno q (List.mem_of_getElem? hj))))
   repeat (refine s117_L17h ?_;intros)
   refine JX.perm (M':=[_,_,_]) p4b ?_
   refine JX.ret1 Tryz.results117 (ResV.tmp rfl) (List.Sublist.refl _) ?_
   refine .inr ⟨q2,st2,x.pod,ra2,rc2,a5,c5,vs++us5,hhop,rfl,hVA.mono (by exact lea),allV.append (hus5.mono (by exact lea)) (hvs.mono (by exact lea)),?_⟩
   unfold rdE hadO
   rw [← hadL_add,List.length_append,flat_append]
   rfl
  ·obtain ⟨pk,pv⟩:=p
   obtain ⟨h1,h2⟩:=hadL_mem (List.mem_of_getElem? hj)
   dsimp only at hp h1 h2
   subst h2
   subst hp
   repeat (refine s117_L17h ?_;intros)
   refine JX.ret1 Tryz.results117 (ResV.tmp rfl) (List.Sublist.refl _) ?_
   exact .inl ⟨by rw [hopV_eq,hf,if_neg (by dsimp only;rw [hmv];exact fun h=>h.2 h1)],rfl,rfl⟩
end Go.Dr
namespace Go.Dr
abbrev FnLL {α β:Type} (P:Program) (f:FuncId) (args:Array Value) (S:SHeap) (bt:Nat) (rep:Rp α) (xs:List α) (bt2:Nat) (rep2:Rp β) (ys:List β) (zs:List Value):Prop:=
 FnR P f args S fun w S'=>∃ u v,w=.tuple (u::v::zs).toArray∧(rSlice bt rep).V S' u xs∧(rSlice bt2 rep2).V S' v ys
section
variable {C:Cx} {R:Rg} {Q:Post} {S:SHeap} {M:List MEnt} {e:Env} {rest:List Nat}
variable {d:Nat} {ty:TypeId} {pos:String} {aft:Array Edge} {g:Option (Nat × Bool)}
theorem JEff.callLL {α β:Type} {f:FuncId} [Ent C.P f] {args:Array Operand} {ts:Array TypeId} {vs:List Value} {bt bt2:Nat} {rep:Rp α} {rep2:Rp β} {xs:List α} {ys:List β} {zs:List Value} (hargs:evs e args.toList=some vs) (hf:FnLL C.P f vs.toArray S bt rep xs bt2 rep2 ys zs) (hdN:Nat.blt d C.N=true)
  (k:∀ a c a2 c2 S',S.le S'→(rSlice bt rep).V S' (.slice a xs.length c) xs→xs.length≤140737488355328→(rSlice bt2 rep2).V S' (.slice a2 ys.length c2) ys→ys.length≤140737488355328→JO C R rest Q S' M ((d,.tuple (.slice a xs.length c::.slice a2 ys.length c2::zs).toArray)::e)):JEff C R ⟨some d,.call { callee:=.value (.func f),args,argTypes:=ts },ty,pos,aft,g⟩ rest Q S M e:=
 JEff.callR hargs hf hdN fun v S' hl hp=>by
  obtain ⟨u,v,rfl,hp,hq⟩:=hp
  obtain ⟨a,c,rfl,_,_,hb,_⟩:=V_slice.1 hp
  obtain ⟨a2,c2,rfl,_,_,hb2,_⟩:=V_slice.1 hq
  exact k a c a2 c2 S' hl hp hb hq hb2
end
end Go.Dr
namespace Go.Dr
open Go.Proofs
set_option maxRecDepth 20000
set_option maxHeartbeats 2000000
set_option linter.unusedSimpArgs false
set_option linter.unusedVariables false
theorem p17_rowR {S:SHeap} {rb:Nat} {u1 u2 u3 h:Value} {qa sa la:Option Addr} {qc sc lc:Nat} {s:Snap} {r:RdS} {vs:List Value} (hR:rSnap.R S [u1,u2,u3] s) (hq:(rSlice 8 rI64).V S (.slice qa r.q.length qc) r.q) (hl:(rSlice 16 rMove).V S (.slice la r.lf.length lc) r.lf) (hvs:allV rStep S vs r.st) (hlf:r.lf.length≤96) (hst:r.st.length≤192) :
  Fn Tryz.prog 116 #[.pointer (some ⟨rb,0,none⟩)] S (rdE 167 45 rb u1 u2 u3 qa qc sa sc la lc h r.q r.st r.lf vs)
   (RowAns 167 45 rb u1 u2 u3 h (rdRow s r).q (rdRow s r).st r.st (rdRow s r).lf):=p17_row hR hq hl hvs hlf hst
theorem cutM_len {α:Type} (l:List α) (n:Nat):(l.drop (0:Int).toNat).take (min (l.length:Int) (n:Int) - 0).toNat=l.take n:=by
 have e:(min (l.length:Int) (n:Int) - 0).toNat=min l.length n:=by omega
 rw [e,show (0:Int).toNat=0 from rfl,List.drop_zero]
 rcases Nat.le_total l.length n with h|h
 ·rw [Nat.min_eq_left h,List.take_length,List.take_of_length_le h]
 ·rw [Nat.min_eq_right h]
structure RoS where
 r:RdS
 qa:Option Addr
 qc:Nat
 sa:Option Addr
 sc:Nat
 la:Option Addr
 lc:Nat
 vs:List Value
theorem snap_formR {S:SHeap} {v:Value} {s:Snap} (h:rSnap.V S v s):∃ a1 n1 c1 a2 n2 c2 a3 n3 c3,v=.agg #[.slice a1 n1 c1,.slice a2 n2 c2,.slice a3 n3 c3]∧rSnap.R S [.slice a1 n1 c1,.slice a2 n2 c2,.slice a3 n3 c3] s:=by
 obtain ⟨cs,rfl,hR⟩:=V_agg rfl h
 have hR0:=hR
 obtain ⟨_,_,rfl,⟨a1,n1,c1,rfl,_⟩,_,_,rfl,⟨a2,n2,c2,rfl,_⟩,⟨a3,n3,c3,rfl,_⟩⟩:=hR
 exact ⟨a1,n1,c1,a2,n2,c2,a3,n3,c3,rfl,hR0⟩
def endR (s:Snap) (p:List Int) (l:List Move) (shun:List Int):RdS:=rdGo s shun (rdFuel l) (rdStart p l)
theorem round_end {s:Snap} {p:List Int} {l:List Move} {shun:List Int} {r:RdS} (hc:checkP s p=0) (h:r=endR s p l shun):roundV s p l shun=(r.q,r.st,(r.had.length:Int)):=by
 unfold roundV
 rw [if_neg (by simpa using hc),h];rfl
theorem s51_L17d {P K:Prop} (k:K) (h:Goal K→P:=by
 intro zk
 (first|refine Walk ?_|refine JC.block ?_|refine JC.drawN 6 rfl [0,1,2,3,4,5,6,7,8,9,10,11,12,13,14,15] [0,1,2,3,4,5,6,7,8,9,10,11,12,13,14,15] Tryz_mixed (by decide +kernel) ?_|(refine JO.eff rfl rfl rfl (JEff.callV rfl (p7_Check (by exact vta) (by exact vta)) rfl ?_);intro zqa zqb)|(refine JO.eff rfl rfl rfl (JEff.callRow rfl (p_Clone_int (by exact vta)) rfl ?_);intro zqa zqb zqc zqd zqe zqf)|(refine JO.eff rfl rfl rfl (JEff.callRow rfl (p_Clone_Move (by exact vta)) rfl ?_);intro zqa zqb zqc zqd zqe zqf)|(refine WBox ?_))
 (repeat (first|revert zqg|revert zqf|revert zqe|revert zqd|revert zqc|revert zqb|revert zqa))
 exact zk.k):P:=h ⟨k⟩
theorem p17_Round {S:SHeap} {u v lv w:Value} {s:Snap} {p shun:List Int} {l:List Move} (hu:rSnap.V S u s) (hv:(rSlice 8 rI64).V S v p) (hl:(rSlice 16 rMove).V S lv l) (hw:(rSlice 8 rI64).V S w shun):FnLL Tryz.prog 51 #[u,v,lv,w] S 8 rI64 (roundV s p l shun).1 24 rStep (roundV s p l shun).2.1 [.int .i64 (roundV s p l shun).2.2]:=by
 have hv0:=hv
 obtain ⟨pa,pc,rfl,_,hb8,hb,hpr⟩:=V_slice.1 hv0
 obtain ⟨la,lc,rfl,_,_,hlb,_⟩:=V_slice.1 hl
 have hp8:=hb8
 have hp9:=hb
 unfold big at hb hlb hb8
 haveI:TyR Tryz.prog 84 rVal:=⟨(inferInstance:TyR Tryz.prog 84 (rSlice 16 rMove)).b⟩
 haveI:TyR Tryz.prog 79 rVal:=⟨(inferInstance:TyR Tryz.prog 79 (rSlice 24 rStep)).b⟩
 haveI:TyR Tryz.prog 27 rVal:=⟨(inferInstance:TyR Tryz.prog 27 (rSlice 8 rI64)).b⟩
 (refine Fn.enter (args:=[u,.slice pa p.length pc,.slice la l.length lc,w]) Tryz.func51 rfl Tryz.ntmps51 rfl ?_;intro w0)
 repeat (refine s51_L17d ?_;intros)
 refine JC.scope (fun _ _ _ h=>h) ?_
 repeat (refine s51_L17d ?_;intros)
 by_cases hc:checkP s p=0
 ·rw [decide_eq_true hc]
  have ht48:(l.take 48).length≤48:=by simp;omega
  have hlt:(l.take 48).length*16≤big:=by unfold big;omega
  have hlt2:(l.take 48).length≤big:=by unfold big;omega
  repeat (refine s51_L17d ?_;intros)
  refine JC.partF (σ:=Nat × Nat × Value × Value × Value × Option Addr × Nat × Option Addr × Nat) [(3,_)] (fun z=>[(11,.pointer (some ⟨z.1,0,none⟩))]) (fun z=>[.blk z.1 (.cells #[z.2.2.1,z.2.2.2.1,z.2.2.2.2.1,.slice z.2.2.2.2.2.1 p.length z.2.2.2.2.2.2.1,.slice none 0 0,.slice z.2.2.2.2.2.2.2.1 (l.take 48).length z.2.2.2.2.2.2.2.2,.map (some z.2.1)] 167 (0,0)),.blk z.2.1 (mapK (Value.int .i64) (hadL []))]) (fun SA z=>rSnap.R SA [z.2.2.1,z.2.2.2.1,z.2.2.2.2.1] s∧(rSlice 8 rI64).V SA (.slice z.2.2.2.2.2.1 p.length z.2.2.2.2.2.2.1) p∧(rSlice 16 rMove).V SA (.slice z.2.2.2.2.2.2.2.1 (l.take 48).length z.2.2.2.2.2.2.2.2) (l.take 48)) ?_ (by exact sba) ?_;rotate_left;rintro SA ⟨rb,mb,u1,u2,u3,qa,qc,ta,tc⟩ hlA hiA;(try dsimp only at hiA);dsimp only [List.cons_append,List.nil_append];rotate_left
  ·refine JC.drawTree 3 rfl [10,12] [0,1,3,4,5,6,7] (.alt (ofL [2] (.alt (ofL [8,9,10,11,12] .nil) (ofL [9,8,10,11,12] .nil))) (ofL [9,2,8,10,11,12] .nil)) Tryz_mixed (by decide +kernel) ?_
   (first|(refine Walk ?_;intros)|refine JC.block ?_)
   obtain ⟨a1,n1,c1,a2,n2,c2,a3,n3,c3,rfl,hR⟩:=snap_formR (by assumption:rSnap.V _ _ s)
   repeat' (first|(refine Walk ?_;intros)|refine JC.block ?_|refine JC.drawN 6 rfl [0,1,2,3,4,5,6,7,8,9,10,11,12,13,14,15] [0,1,2,3,4,5,6,7,8,9,10,11,12,13,14,15] Tryz_mixed (by decide +kernel) ?_|(refine JO.pure rfl rfl rfl (JPure.sliceS (xs:=l) (rep:=rMove) (bt:=16) rfl (by exact vta) rfl rfl rfl (by omega) (by omega) (by omega) ?_);intro a1 c1 y1 hy1 hV1 hyl1 hyb1;obtain rfl:y1=l.take 48:=hy1.trans (cutM_len l 48))|(refine JO.eff rfl rfl rfl (JEff.callL rfl (FnRow.toL (p_Clone_int (by exact vta)) hp8 hp9) rfl ?_);intro _ _ _ _ _ _)|(refine JO.eff rfl rfl rfl (JEff.callL rfl (FnRow.toL (p_Clone_Move (by exact vta)) hlt hlt2) rfl ?_);intro _ _ _ _ _ _)|(refine JO.eff rfl rfl rfl (JEff.makeMapK (Value.int .i64) rfl ?_);intro _ _)|(refine JO.eff rfl rfl rfl (JEff.box rfl rfl ?_);intro _ _)|refine JO.alt ?_ ?_|(refine JO.eff rfl rfl rfl (JEff.callV rfl (p7_Check (by exact vta) (by exact vta)) rfl ?_);intro _ _)|(refine JO.eff rfl rfl rfl (JEff.callRow rfl (p_Clone_int (by exact vta)) rfl ?_);intro _ _ _ _ _ _)|(refine JO.eff rfl rfl rfl (JEff.callRow rfl (p_Clone_Move (by exact vta)) rfl ?_);intro _ _ _ _ _ _)|(refine WBox ?_;intros)|(refine JO.guard rfl rfl rfl rfl ?_ ?_<;>intro _)|(refine JC.cond rfl ?_ ?_<;>intro _))
   all_goals exact JX.partF ((_,_,_,_,_,_,_,_,_)) (by exact lea) (⟨rSnap.mono (by exact lea) hR,by exact vta,by exact vta⟩) rfl (by exact sba) (by exact sba)
  obtain ⟨hR,hVp,hVt⟩:=hiA
  try dsimp only at hR hVp hVt
  repeat (first|(refine Walk ?_;intros)|refine JC.block ?_|refine JC.drawN 6 rfl [0,1,2,3,4,5,6,7,8,9,10,11,12,13,14,15] [0,1,2,3,4,5,6,7,8,9,10,11,12,13,14,15] Tryz_mixed (by decide +kernel) ?_|refine JC.label ?_|(refine JO.eff rfl rfl rfl (JEff.callV rfl (p7_Check (by exact vta) (by exact vta)) rfl ?_);intro _ _)|(refine JO.eff rfl rfl rfl (JEff.callRow rfl (p_Clone_int (by exact vta)) rfl ?_);intro _ _ _ _ _ _)|(refine JO.eff rfl rfl rfl (JEff.callRow rfl (p_Clone_Move (by exact vta)) rfl ?_);intro _ _ _ _ _ _)|(refine WBox ?_;intros))
  refine JC.newRow0 45 3 ?_
  refine JC.perm (List.Perm.swap _ _ _) ?_
  refine JC.loopF (σ:=RoS) [(3,_),(11,_)] (fun z=>[]) (fun z=>[.blk rb (.cells #[u1,u2,u3,.slice z.qa z.r.q.length z.qc,.slice z.sa z.r.st.length z.sc,.slice z.la z.r.lf.length z.lc,.map (some mb)] 167 (0,0)),.row 0 45 3 (.slice z.sa z.r.st.length z.sc) z.r.st.length (flatCells z.vs),.blk mb (mapK (Value.int .i64) (hadL z.r.had))]) (fun Si z=>(∃ f,RdI s p (l.take 48) z.r∧rdMe (l.take 48) z.r < f∧rdGo s shun f z.r=endR s p l shun)∧(rSlice 8 rI64).V Si (.slice z.qa z.r.q.length z.qc) z.r.q∧(rSlice 16 rMove).V Si (.slice z.la z.r.lf.length z.lc) z.r.lf∧allV rStep Si z.vs z.r.st) (fun z=>rdMe (l.take 48) z.r) (⟨rdStart p l,qa,qc,none,0,ta,tc,[]⟩) (by exact sba) (by exact sba) rfl (⟨⟨rdFuel l,RdI.start hc l,by show (l.take 48).length+((l.take 48).length - 0) < _;unfold rdFuel;omega,rfl⟩,hVp,hVt,trivial⟩) ?_;rintro Si ⟨r,qa,qc,sa,sc,la,lc,vs⟩ hli hii;(try dsimp only at hii);dsimp only [List.cons_append,List.nil_append]
  obtain ⟨⟨f,hI,hf,hend⟩,hQ,hL,hVs⟩:=hii
  try dsimp only at hI hf hend hQ hL hVs
  obtain ⟨hs1,hs2,hs3⟩:=hI.small ht48
  repeat (refine s51_L17d ?_;intros)
  refine JO.eff rfl rfl rfl (JEff.callM (Mc:=[.blk rb _,.row 0 _ 3 _ _ _]) (Mr:=[.blk mb _]) rfl (List.Perm.refl _) (mayAll rfl) (p17_rowR (r:=r) (rSnap.mono (by exact lea) hR) (hQ.mono (by exact lea)) (hL.mono (by exact lea)) (hVs.mono (by exact lea)) hs3 hs1) rfl ?_)
  intro w2 S2 M2 hl2 hw2
  obtain ⟨rfl,qa2,qc2,sa2,sc2,la2,lc2,vs2,rfl,hQ2,hL2,hVs2⟩:=hw2
  unfold rdE
  dsimp only [List.cons_append,List.nil_append]
  by_cases hg:r.st.length < (rdRow s r).st.length
  ·rw [decide_eq_true hg]
   obtain ⟨g1,g2,g3,g4⟩:=rd_row (shun:=shun) hI hf hg
   repeat (refine s51_L17d ?_;intros)
   exact JX.roundF (⟨rdRow s r,qa2,qc2,sa2,sc2,la2,lc2,vs2⟩) (by exact lea) ⟨⟨f - 1,g1,g2,g4.symm.trans hend⟩,hQ2.mono (by exact lea),hL2.mono (by exact lea),hVs2.mono (by exact lea)⟩ g3 rfl (by exact sba) (by exact sba)
  ·rw [decide_eq_false hg]
   obtain ⟨hs4,hs5,hs6⟩:=hI.row.small ht48
   have hnd:=hI.row.nodup
   repeat (refine s51_L17d ?_;intros)
   refine JO.eff rfl rfl rfl (JEff.callM (Mc:=rdE 167 45 rb u1 u2 u3 qa2 qc2 sa2 sc2 la2 lc2 (.map (some mb)) (rdRow s r).q (rdRow s r).st (rdRow s r).lf vs2++[hadO mb (rdRow s r).had]) (Mr:=[]) rfl (List.Perm.refl _) (mayAll rfl) (p17_hop (rSnap.mono (by exact lea) hR) (hQ2.mono (by exact lea)) (hL2.mono (by exact lea)) (hVs2.mono (by exact lea)) (by exact vta) hs6 hs4 hnd) rfl ?_)
   intro w3 S3 M3 hl3 hw3
   rcases hw3 with ⟨hh,rfl,rfl⟩|⟨q3,st3,pod,qa3,qc3,sa3,sc3,vs3,hh,rfl,hQ3,hVs3,rfl⟩
   ·unfold rdE hadO
    dsimp only [List.cons_append,List.nil_append]
    have hre:=(rd_end (p:=p) hf hg hh).symm.trans hend
    rw [round_end hc hre]
    generalize rdRow s r=R at *
    by_cases h0:R.st=[]
    ·have hVst:∀ S,(rSlice 24 rStep).V S (.slice sa2 R.st.length sc2) R.st:=fun S=>by rw [h0];exact V_slice.2 ⟨_,_,rfl,by simp,by simp,by simp,by simp⟩
     repeat (first|(refine Walk ?_;intros)|refine JC.block ?_|refine JC.drawN 6 rfl [0,1,2,3,4,5,6,7,8,9,10,11,12,13,14,15] [0,1,2,3,4,5,6,7,8,9,10,11,12,13,14,15] Tryz_mixed (by decide +kernel) ?_|refine JO.pure rfl rfl rfl (JPure.fieldP rfl rfl ?_)|refine JO.pure rfl rfl rfl (JPure.loadM (rep:=rVal) (x0:=.slice qa2 R.q.length qc2) (mid:=[.slice qa2 R.q.length qc2]) rfl (by (first|exact List.mem_cons_self|exact List.mem_cons_of_mem _ List.mem_cons_self|exact List.mem_cons_of_mem _ (List.mem_cons_of_mem _ List.mem_cons_self))) rfl ⟨rfl,rfl⟩ (.inl rfl) rfl ?_)|refine JO.pure rfl rfl rfl (JPure.loadM (rep:=rVal) (x0:=.slice _ R.st.length sc2) (mid:=[.slice _ R.st.length sc2]) rfl (by (first|exact List.mem_cons_self|exact List.mem_cons_of_mem _ List.mem_cons_self|exact List.mem_cons_of_mem _ (List.mem_cons_of_mem _ List.mem_cons_self))) rfl ⟨rfl,rfl⟩ (.inl rfl) rfl ?_)|refine JO.pure rfl rfl rfl (JPure.loadM (rep:=rVal) (x0:=.map (some mb)) (mid:=[.map (some mb)]) rfl (by (first|exact List.mem_cons_self|exact List.mem_cons_of_mem _ List.mem_cons_self|exact List.mem_cons_of_mem _ (List.mem_cons_of_mem _ List.mem_cons_self))) rfl ⟨rfl,rfl⟩ (.inl rfl) rfl ?_)|refine JO.pure rfl rfl rfl (JPure.lenM rfl (by (first|exact List.mem_cons_self|exact List.mem_cons_of_mem _ List.mem_cons_self|exact List.mem_cons_of_mem _ (List.mem_cons_of_mem _ List.mem_cons_self))) (.inl rfl) rfl ?_)|(refine JO.eff rfl rfl rfl (JEff.callV rfl (p7_Check (by exact vta) (by exact vta)) rfl ?_);intro _ _)|(refine JO.eff rfl rfl rfl (JEff.callRow rfl (p_Clone_int (by exact vta)) rfl ?_);intro _ _ _ _ _ _)|(refine JO.eff rfl rfl rfl (JEff.callRow rfl (p_Clone_Move (by exact vta)) rfl ?_);intro _ _ _ _ _ _)|(refine WBox ?_;intros))
     (refine JX.ret3 Tryz.results51 (ResV.tmp rfl) (ResV.tmp rfl) (ResV.tmp rfl) (List.nil_sublist _) ?_)
     rw [show (hadL R.had).length=R.had.length by unfold hadL;simp]
     exact ⟨rfl,_,_,rfl,hQ2.mono (by exact lea),by first|exact hVst _|exact hVst _ (by exact lea)⟩
    ·have h1:0 < R.st.length:=List.length_pos_iff.2 h0
     refine JO.perm (List.Perm.swap _ _ _) ?_
     refine JO.rowBlkB h1 (fun b tl hab hcap hsz=>?_)
     subst hab
     refine JO.blkNew rfl (fun hb0 hbb=>?_)
     refine JO.freeze hbb (by intro l hl;cases hl) (fun S9 hl9 hS9=>?_)
     have hVst0:=blk_sliceR (S:=S9) (rep:=rStep) (bt:=24) hVs2 (show SHeap.le S2 S9 by exact lea) hS9 rfl hcap (by unfold big;omega) (by unfold big;omega)
     have hVst:∀ S,SHeap.le S9 S→(rSlice 24 rStep).V S (.slice (some ⟨b,0,none⟩) R.st.length sc2) R.st:=fun S h=>hVst0.mono h
     repeat (first|(refine Walk ?_;intros)|refine JC.block ?_|refine JC.drawN 6 rfl [0,1,2,3,4,5,6,7,8,9,10,11,12,13,14,15] [0,1,2,3,4,5,6,7,8,9,10,11,12,13,14,15] Tryz_mixed (by decide +kernel) ?_|refine JO.pure rfl rfl rfl (JPure.fieldP rfl rfl ?_)|refine JO.pure rfl rfl rfl (JPure.loadM (rep:=rVal) (x0:=.slice qa2 R.q.length qc2) (mid:=[.slice qa2 R.q.length qc2]) rfl (by (first|exact List.mem_cons_self|exact List.mem_cons_of_mem _ List.mem_cons_self|exact List.mem_cons_of_mem _ (List.mem_cons_of_mem _ List.mem_cons_self))) rfl ⟨rfl,rfl⟩ (.inl rfl) rfl ?_)|refine JO.pure rfl rfl rfl (JPure.loadM (rep:=rVal) (x0:=.slice _ R.st.length sc2) (mid:=[.slice _ R.st.length sc2]) rfl (by (first|exact List.mem_cons_self|exact List.mem_cons_of_mem _ List.mem_cons_self|exact List.mem_cons_of_mem _ (List.mem_cons_of_mem _ List.mem_cons_self))) rfl ⟨rfl,rfl⟩ (.inl rfl) rfl ?_)|refine JO.pure rfl rfl rfl (JPure.loadM (rep:=rVal) (x0:=.map (some mb)) (mid:=[.map (some mb)]) rfl (by (first|exact List.mem_cons_self|exact List.mem_cons_of_mem _ List.mem_cons_self|exact List.mem_cons_of_mem _ (List.mem_cons_of_mem _ List.mem_cons_self))) rfl ⟨rfl,rfl⟩ (.inl rfl) rfl ?_)|refine JO.pure rfl rfl rfl (JPure.lenM rfl (by (first|exact List.mem_cons_self|exact List.mem_cons_of_mem _ List.mem_cons_self|exact List.mem_cons_of_mem _ (List.mem_cons_of_mem _ List.mem_cons_self))) (.inl rfl) rfl ?_)|(refine JO.eff rfl rfl rfl (JEff.callV rfl (p7_Check (by exact vta) (by exact vta)) rfl ?_);intro _ _)|(refine JO.eff rfl rfl rfl (JEff.callRow rfl (p_Clone_int (by exact vta)) rfl ?_);intro _ _ _ _ _ _)|(refine JO.eff rfl rfl rfl (JEff.callRow rfl (p_Clone_Move (by exact vta)) rfl ?_);intro _ _ _ _ _ _)|(refine WBox ?_;intros))
     (refine JX.ret3 Tryz.results51 (ResV.tmp rfl) (ResV.tmp rfl) (ResV.tmp rfl) (List.nil_sublist _) ?_)
     rw [show (hadL R.had).length=R.had.length by unfold hadL;simp]
     exact ⟨rfl,_,_,rfl,hQ2.mono (by exact lea),by first|exact hVst _|exact hVst _ (by exact lea)⟩
   ·unfold rdE hadO
    dsimp only [List.cons_append,List.nil_append]
    obtain ⟨g1,g2,g3,g4⟩:=rd_hop hI hf hg hh
    repeat (refine s51_L17d ?_;intros)
    exact JX.roundF (⟨rdHop s r q3 st3 pod,qa3,qc3,sa3,sc3,la2,lc2,vs3⟩) (by exact lea) ⟨⟨f - 1,g1,g2,g4.symm.trans hend⟩,hQ3.mono (by exact lea),hL2.mono (by exact lea),hVs3.mono (by exact lea)⟩ g3 rfl (by exact sba) (by exact sba)
 ·rw [decide_eq_false hc]
  rw [round_bad hc]
  repeat (refine s51_L17d ?_;intros)
  (refine JX.ret3 Tryz.results51 (ResV.tmp rfl) (ResV.tmp rfl) (ResV.tmp rfl) (List.nil_sublist _) ?_)
  exact ⟨rfl,_,_,rfl,V_nil,V_nil⟩
theorem w17_Round {S:SHeap} {u v lv w:Value} {s:Snap} {p shun q:List Int} {l:List Move} {st:List Step} {n:Int} (h:roundV s p l shun=(q,st,n)) (hu:rSnap.V S u s) (hv:(rSlice 8 rI64).V S v p) (hl:(rSlice 16 rMove).V S lv l) (hw:(rSlice 8 rI64).V S w shun):FnLL Tryz.prog 51 #[u,v,lv,w] S 8 rI64 q 24 rStep st [.int .i64 n]:=by
 have hh:=p17_Round hu hv hl hw
 rw [h] at hh;exact hh
end Go.Dr
namespace Go.Dr
open Go.Proofs
set_option maxRecDepth 20000
set_option maxHeartbeats 2000000
set_option linter.unusedSimpArgs false
set_option linter.unusedVariables false
theorem V_mv {S:SHeap} {a b:Int} (h:Rng a∧Rng b:=by simp [Rng]):rMove.V S (.agg (flatCells [.int .i64 a,.int .i64 b]).toArray) ⟨a,b⟩:=V_move.2 ⟨by simp [flatCells,Value.cells],h⟩
theorem V_mv2 {S:SHeap} {a b:Int} (h:Rng a∧Rng b:=by simp [Rng]):rMove.V S (.agg #[.int .i64 a,.int .i64 b]) ⟨a,b⟩:=V_move.2 ⟨rfl,h⟩
theorem V_stF {S:SHeap} {a b c:Int} (h:Rng a∧Rng b∧Rng c:=by simp [Rng]):rStep.V S (.agg (flatCells [.int .i64 a,.int .i64 b,.int .i64 c]).toArray) ⟨a,b,c⟩:=V_step.2 ⟨by simp [flatCells,Value.cells],h⟩
theorem s49_L17l {P K:Prop} (k:K) (h:Goal K→P:=by
 intro zk
 (first|refine Walk ?_|refine JC.block ?_|(refine JO.eff rfl rfl rfl (JEff.callV rfl (r0_EqInts (by exact vta) (by exact vta)) rfl ?_);intro zqa zqb)|(refine JO.eff rfl rfl rfl (JEff.callTry rfl (p17_Try (by exact vta) (by exact vta) (by exact vta)) rfl ?_);intro zqa zqb zqc zqd zqe zqf zqg)|(refine JO.eff rfl rfl rfl (JEff.callLL rfl (p17_Round (by exact vta) (by exact vta) (by exact vta) (by exact vta)) rfl ?_);intro zqa zqb zqc zqd zqe zqf zqg)|(refine JO.eff rfl rfl rfl (JEff.callR rfl (q17_chapter) rfl ?_);intro zqa zqb zqc zqd)|(refine JO.eff rfl rfl rfl (JEff.callV rfl (p17_Find (by exact vta) (by exact vta) (by exact vta) (by exact vta)) rfl ?_);intro zqa zqb)|(refine WNew ?_)|(refine WPut ?_))
 (repeat (first|revert zqg|revert zqf|revert zqe|revert zqd|revert zqc|revert zqb|revert zqa))
 exact zk.k):P:=h ⟨k⟩
theorem q17_works {S:SHeap}:FnV Tryz.prog 49 #[] S (.bool true):=by
 have e0:two17[(0:Int).toNat]?=some (⟨0,1⟩:Move):=rfl
 have e1:([⟨2,2,2⟩]:List Step)[(0:Int).toNat]?=some (⟨2,2,2⟩:Step):=rfl
 (refine Fn.enter (args:=[]) Tryz.func49 rfl Tryz.ntmps49 rfl ?_;intro w0)
 repeat (refine s49_L17l ?_;intros)
 (refine JO.eff rfl rfl rfl (JEff.buildS (bt:=8) (rep:=rI64) (ys:=[(0:Int),1,-1]) rfl rfl (⟨⟨V_num,nna⟩,⟨V_num,nna⟩,⟨V_num,nna⟩,trivial⟩) rfl rfl rfl (by decide) rfl ?_);intro S2 a2 hl2 hV2)
 repeat (refine s49_L17l ?_;intros)
 (refine JO.eff rfl rfl rfl (JEff.buildS (bt:=16) (rep:=rMove) (ys:=[(⟨0,1⟩:Move),⟨1,0⟩]) rfl rfl (⟨⟨V_mv,nna⟩,⟨V_mv,nna⟩,trivial⟩) rfl rfl rfl (by decide) rfl ?_);intro S3 a3 hl3 hV3)
 repeat (refine s49_L17l ?_;intros)
 refine JC.partF0 (σ:=Addr) [(1,_),(2,_),(3,_)] (fun z=>[(6,.pointer (some z)),(7,.int .i64 100)]) (fun SA z=>PtrTo SA z rClause ⟨1,1,0,10⟩) ?_ (by exact sba) ?_;rotate_left;rintro SA cp hlA hiA;(try dsimp only at hiA);dsimp only [List.cons_append,List.nil_append];rotate_left
 ·refine JC.drawTree 4 rfl [12,13,15] [0,1,2,3,4] (.alt (ofL [5,6,7,8,9,10,11,12,13,14,15] .nil) (ofL [11,5,6,7,8,9,10,12,13,14,15] .nil)) Tryz_mixed (by decide +kernel) ?_
  repeat' (first|(refine Walk ?_;intros)|refine JC.block ?_|(refine JO.eff rfl rfl rfl (JEff.callTry rfl (w17_Try f17_1 (by exact vta) (by exact vta) (by exact vta)) rfl ?_);intro _ _ _ _ _ _ _ _ _ _ _)|refine JO.alt ?_ ?_|(refine JO.eff rfl rfl rfl (JEff.callV rfl (r0_EqInts (by exact vta) (by exact vta)) rfl ?_);intro _ _)|(refine JO.eff rfl rfl rfl (JEff.callTry rfl (p17_Try (by exact vta) (by exact vta) (by exact vta)) rfl ?_);intro _ _ _ _ _ _ _ _ _ _ _)|(refine JO.eff rfl rfl rfl (JEff.callLL rfl (p17_Round (by exact vta) (by exact vta) (by exact vta) (by exact vta)) rfl ?_);intro _ _ _ _ _ _ _ _ _ _)|(refine JO.eff rfl rfl rfl (JEff.callR rfl (q17_chapter) rfl ?_);intro _ _ _ _)|(refine JO.eff rfl rfl rfl (JEff.callV rfl (p17_Find (by exact vta) (by exact vta) (by exact vta) (by exact vta)) rfl ?_);intro _ _)|(refine WNew ?_;intros)|(refine WPut ?_;intros)|(refine JO.guard rfl rfl rfl rfl ?_ ?_<;>intro _)|(refine JC.cond rfl ?_ ?_<;>intro _))
  all_goals exact JX.partF ((_)) (by exact lea) (by exact pta) rfl (by exact sba) (by exact sba)
 repeat (first|(refine Walk ?_;intros)|refine JC.block ?_|(refine JO.eff rfl rfl rfl (JEff.callTry rfl (w17_Try f17_2 (by exact vta) (by exact vta) V_mv) rfl ?_);intro _ _ _ _ _ _ _ _ _ _ _)|(refine JO.eff rfl rfl rfl (JEff.callV rfl (w17_Find f17_3 (by exact vta) (by exact vta) (by exact vta) V_nil) rfl ?_);intro _ _)|(refine JO.eff rfl rfl rfl (JEff.callV rfl (r0_EqInts (by exact vta) (by exact vta)) rfl ?_);intro _ _)|(refine JO.eff rfl rfl rfl (JEff.callTry rfl (p17_Try (by exact vta) (by exact vta) (by exact vta)) rfl ?_);intro _ _ _ _ _ _ _ _ _ _ _)|(refine JO.eff rfl rfl rfl (JEff.callLL rfl (p17_Round (by exact vta) (by exact vta) (by exact vta) (by exact vta)) rfl ?_);intro _ _ _ _ _ _ _ _ _ _)|(refine JO.eff rfl rfl rfl (JEff.callR rfl (q17_chapter) rfl ?_);intro _ _ _ _)|(refine JO.eff rfl rfl rfl (JEff.callV rfl (p17_Find (by exact vta) (by exact vta) (by exact vta) (by exact vta)) rfl ?_);intro _ _)|(refine WNew ?_;intros)|(refine WPut ?_;intros))
 (refine JO.eff rfl rfl rfl (JEff.buildS (bt:=8) (rep:=rI64) (ys:=[(2:Int)]) rfl rfl (⟨⟨V_num,nna⟩,trivial⟩) rfl rfl rfl (by decide) rfl ?_);intro S5 a5 hl5 hV5)
 repeat (first|(refine Walk ?_;intros)|refine JC.block ?_|(refine JO.eff rfl rfl rfl (JEff.callV rfl (w17_Find f17_4 (by exact vta) (by exact vta) (by exact vta) hV5) rfl ?_);intro _ _)|(refine JO.eff rfl rfl rfl (JEff.callLL rfl (w17_Round f17_5 (by exact vta) (by exact vta) (by exact vta) V_nil) rfl ?_);intro _ _ _ _ _ _ _ _ _ _)|refine JO.pure rfl rfl rfl (JPure.eqR rfl vta rfl V_cl rfl rfl ?_)|refine JO.pure rfl rfl rfl (JPure.eqR rfl vta rfl V_stF rfl rfl ?_)|(refine JO.eff rfl rfl rfl (JEff.callV rfl (r0_EqInts (by exact vta) (by exact vta)) rfl ?_);intro _ _)|(refine JO.eff rfl rfl rfl (JEff.callTry rfl (p17_Try (by exact vta) (by exact vta) (by exact vta)) rfl ?_);intro _ _ _ _ _ _ _ _ _ _ _)|(refine JO.eff rfl rfl rfl (JEff.callLL rfl (p17_Round (by exact vta) (by exact vta) (by exact vta) (by exact vta)) rfl ?_);intro _ _ _ _ _ _ _ _ _ _)|(refine JO.eff rfl rfl rfl (JEff.callR rfl (q17_chapter) rfl ?_);intro _ _ _ _)|(refine JO.eff rfl rfl rfl (JEff.callV rfl (p17_Find (by exact vta) (by exact vta) (by exact vta) (by exact vta)) rfl ?_);intro _ _)|(refine WNew ?_;intros)|(refine WPut ?_;intros))
 (refine JO.eff rfl rfl rfl (JEff.buildS (bt:=8) (rep:=rI64) (ys:=[(1:Int),0,-1]) rfl rfl (⟨⟨V_num,nna⟩,⟨V_num,nna⟩,⟨V_num,nna⟩,trivial⟩) rfl rfl rfl (by decide) rfl ?_);intro S6 a6 hl6 hV6)
 repeat (first|(refine Walk ?_;intros)|refine JC.block ?_|(refine JO.eff rfl rfl rfl (JEff.callV rfl (w_EqInts (by exact vta) (by exact vta)) rfl ?_);intro _ _)|(refine JO.eff rfl rfl rfl (JEff.callV rfl (r0_EqInts (by exact vta) (by exact vta)) rfl ?_);intro _ _)|(refine JO.eff rfl rfl rfl (JEff.callTry rfl (p17_Try (by exact vta) (by exact vta) (by exact vta)) rfl ?_);intro _ _ _ _ _ _ _ _ _ _ _)|(refine JO.eff rfl rfl rfl (JEff.callLL rfl (p17_Round (by exact vta) (by exact vta) (by exact vta) (by exact vta)) rfl ?_);intro _ _ _ _ _ _ _ _ _ _)|(refine JO.eff rfl rfl rfl (JEff.callR rfl (q17_chapter) rfl ?_);intro _ _ _ _)|(refine JO.eff rfl rfl rfl (JEff.callV rfl (p17_Find (by exact vta) (by exact vta) (by exact vta) (by exact vta)) rfl ?_);intro _ _)|(refine WNew ?_;intros)|(refine WPut ?_;intros))
 (refine JX.ret1 Tryz.results49 (ResV.tmp rfl) (List.nil_sublist _) ?_)
 exact ⟨rfl,rfl⟩
end Go.Dr
namespace Go.Dr
open Go.Proofs
set_option maxRecDepth 20000
set_option maxHeartbeats 2000000
set_option linter.unusedSimpArgs false
set_option linter.unusedVariables false
theorem s8_L17t {P K:Prop} (k:K) (h:Goal K→P:=by
 intro zk
 (first|refine Walk ?_|refine JC.block ?_|refine JC.drawN 5 rfl [0,1,2,3,4,5,6,7,8,9,10,11,12,13,14,15,16,17,18,19,20,21,23,24,25,22,26,27,28,29,30,31,32,33,34,35,36,37] [0,1,3,4,5,7,8,9,10,11,12,13,14,15,16,17,18,19,20,21,27,28,29,30,31,33,34,36,37] Tryz_mixed (by decide +kernel) ?_|(refine JO.eff rfl rfl rfl (JEff.callV rfl (r0_EqInts (by exact vta) (by exact vta)) rfl ?_);intro zqa zqb)|(refine JO.eff rfl rfl rfl (JEff.callL rfl (r0_CopyInts (by exact vta)) rfl ?_);intro zqa zqb zqc zqd zqe zqf)|(refine JO.eff rfl rfl rfl (JEff.callR rfl (q17_cut (by exact vta)) rfl ?_);intro zqa zqb zqc zqd)|(refine JO.eff rfl rfl rfl (JEff.callTry rfl (p17_Try (by exact vta) (by exact vta) (by exact vta)) rfl ?_);intro zqa zqb zqc zqd zqe zqf zqg)|(refine JO.eff rfl rfl rfl (JEff.callTry rfl (r17_Try (by exact vta) (by exact vta) (by exact vta)) rfl ?_);intro zqa zqb zqc zqd zqe zqf zqg)|(refine JO.eff rfl rfl rfl (JEff.callV rfl (r17_SameSteps (by exact vta) (by exact vta)) rfl ?_);intro zqa zqb)|(refine JO.eff rfl rfl rfl (JEff.callV rfl (p17_Can (by exact vta) (by exact vta) (by exact vta)) rfl ?_);intro zqa zqb)|(refine JO.eff rfl rfl rfl (JEff.callV rfl (r17_Can (by exact vta) (by exact vta) (by exact vta)) rfl ?_);intro zqa zqb)|(refine JO.eff rfl rfl rfl (JEff.callV rfl (q17_works) rfl ?_);intro zqa zqb)|(refine WNew ?_)|(refine WPut ?_))
 (repeat (first|revert zqg|revert zqf|revert zqe|revert zqd|revert zqc|revert zqb|revert zqa))
 exact zk.k):P:=h ⟨k⟩
theorem a17_HopTries {S:SHeap} {u v xv:Value} {s:Snap} {p:List Int} {x:Move} (hu:rSnap.V S u s) (hv:(rSlice 8 rI64).V S v p) (hx:rMove.V S xv x):FnV Tryz.prog 8 #[u,v,xv] S (.bool true):=by
 obtain ⟨cs,rfl,hcs⟩:=V_agg rfl hu
 (refine Fn.enter (args:=[.agg cs.toArray,v,xv]) Tryz.func8 rfl Tryz.ntmps8 rfl ?_;intro w0)
 repeat (refine s8_L17t ?_;intros)
 refine JO.eff rfl rfl rfl (JEff.box rfl rfl ?_);intro bb hbb
 refine WBox ?_;intros
 repeat (refine s8_L17t ?_;intros)
 refine JO.pure rfl rfl rfl (JPure.loadM (rep:=rSnap) (x0:=s) (mid:=cs) rfl (by (first|exact List.mem_cons_self|exact List.mem_cons_of_mem _ List.mem_cons_self|exact List.mem_cons_of_mem _ (List.mem_cons_of_mem _ List.mem_cons_self))) (by show cs.take 3=cs;exact List.take_of_length_le (by rw [rSnap.len hcs];exact Nat.le_refl _)) (rSnap.mono (by exact lea) hcs) (.inl rfl) rfl ?_)
 refine JO.eff rfl rfl rfl (JEff.callR rfl (q17_cut (Rp.val_V (rSnap.mono (by exact lea) hcs))) rfl ?_);intro cw S1 hl1 hcw
 repeat (refine s8_L17t ?_;intros)
 refine JO.eff rfl rfl rfl (JEff.storeW rfl rfl hcw nna (List.Perm.refl _) (by show 3=cs.length;exact (rSnap.len hcs).symm) (by intro l hl;cases hl) ?_)
 refine JO.freezeV hcw nna hbb (by intro l hl;cases hl) ?_;intro S2 hl2 hpb
 generalize cutS s=s' at *
 repeat (first|(refine Walk ?_;intros)|refine JC.block ?_|refine JC.drawN 5 rfl [0,1,2,3,4,5,6,7,8,9,10,11,12,13,14,15,16,17,18,19,20,21,23,24,25,22,26,27,28,29,30,31,32,33,34,35,36,37] [0,1,3,4,5,7,8,9,10,11,12,13,14,15,16,17,18,19,20,21,27,28,29,30,31,33,34,36,37] Tryz_mixed (by decide +kernel) ?_|(refine JO.eff rfl rfl rfl (JEff.callV rfl (w_EqInts (by exact vta) (by exact vta)) rfl ?_);intro _ _)|(refine JO.eff rfl rfl rfl (JEff.callV rfl (r0_EqInts (by exact vta) (by exact vta)) rfl ?_);intro _ _)|(refine JO.eff rfl rfl rfl (JEff.callL rfl (r0_CopyInts (by exact vta)) rfl ?_);intro _ _ _ _ _ _)|(refine JO.eff rfl rfl rfl (JEff.callR rfl (q17_cut (by exact vta)) rfl ?_);intro _ _ _ _)|(refine JO.eff rfl rfl rfl (JEff.callTry rfl (p17_Try (by exact vta) (by exact vta) (by exact vta)) rfl ?_);intro _ _ _ _ _ _ _ _ _ _ _)|(refine JO.eff rfl rfl rfl (JEff.callTry rfl (r17_Try (by exact vta) (by exact vta) (by exact vta)) rfl ?_);intro _ _ _ _ _ _ _ _ _ _ _)|(refine JO.eff rfl rfl rfl (JEff.callV rfl (r17_SameSteps (by exact vta) (by exact vta)) rfl ?_);intro _ _)|(refine JO.eff rfl rfl rfl (JEff.callV rfl (p17_Can (by exact vta) (by exact vta) (by exact vta)) rfl ?_);intro _ _)|(refine JO.eff rfl rfl rfl (JEff.callV rfl (r17_Can (by exact vta) (by exact vta) (by exact vta)) rfl ?_);intro _ _)|(refine JO.eff rfl rfl rfl (JEff.callV rfl (q17_works) rfl ?_);intro _ _)|(refine WNew ?_;intros)|(refine WPut ?_;intros))
 rw [decide_eq_true (rfl:(tryV s' p x).2.2.1=(tryV s' p x).2.2.1)]
 repeat (refine s8_L17t ?_;intros)
 rw [decide_eq_true (rfl:(tryV s' p x).2.2.2=(tryV s' p x).2.2.2)]
 repeat (refine s8_L17t ?_;intros)
 rw [beq_self_eq_true (canV s' p x)]
 repeat (first|(refine Walk ?_;intros)|refine JC.block ?_|refine JC.drawN 5 rfl [0,1,2,3,4,5,6,7,8,9,10,11,12,13,14,15,16,17,18,19,20,21,23,24,25,22,26,27,28,29,30,31,32,33,34,35,36,37] [0,1,3,4,5,7,8,9,10,11,12,13,14,15,16,17,18,19,20,21,27,28,29,30,31,33,34,36,37] Tryz_mixed (by decide +kernel) ?_|(refine JO.eff rfl rfl rfl (JEff.callV rfl (w_EqInts (by exact vta) (by exact vta)) rfl ?_);intro _ _)|(refine JO.eff rfl rfl rfl (JEff.callV rfl (r0_EqInts (by exact vta) (by exact vta)) rfl ?_);intro _ _)|(refine JO.eff rfl rfl rfl (JEff.callL rfl (r0_CopyInts (by exact vta)) rfl ?_);intro _ _ _ _ _ _)|(refine JO.eff rfl rfl rfl (JEff.callR rfl (q17_cut (by exact vta)) rfl ?_);intro _ _ _ _)|(refine JO.eff rfl rfl rfl (JEff.callTry rfl (p17_Try (by exact vta) (by exact vta) (by exact vta)) rfl ?_);intro _ _ _ _ _ _ _ _ _ _ _)|(refine JO.eff rfl rfl rfl (JEff.callTry rfl (r17_Try (by exact vta) (by exact vta) (by exact vta)) rfl ?_);intro _ _ _ _ _ _ _ _ _ _ _)|(refine JO.eff rfl rfl rfl (JEff.callV rfl (r17_SameSteps (by exact vta) (by exact vta)) rfl ?_);intro _ _)|(refine JO.eff rfl rfl rfl (JEff.callV rfl (p17_Can (by exact vta) (by exact vta) (by exact vta)) rfl ?_);intro _ _)|(refine JO.eff rfl rfl rfl (JEff.callV rfl (r17_Can (by exact vta) (by exact vta) (by exact vta)) rfl ?_);intro _ _)|(refine JO.eff rfl rfl rfl (JEff.callV rfl (q17_works) rfl ?_);intro _ _)|(refine WNew ?_;intros)|(refine WPut ?_;intros))
 (refine JX.ret1 Tryz.results8 (ResV.tmp rfl) (List.nil_sublist _) ?_)
 exact ⟨rfl,rfl⟩
end Go.Dr
namespace Go.Dr
open Go.RowKit
def heapS (w:World):SHeap:=fun b=>w.heap[b]?
theorem agree_heapS (w:World):Agree (heapS w) w:=fun _ _ h=>h
theorem heapS_cell {w:World} {a:Addr} {v:Value} (h:w.cell? a=some v):(heapS w).cell? a=some v:=by
 unfold World.cell? at h
 unfold SHeap.cell? heapS
 exact h
class RdR {α:Type} (P:Program) (T:TypeId) (rep:Rp α):Prop where
 rd:∀ {H:Type} {enc:TypeId × Value→H} {w:World} {base:Nat} {spare:Nat→Bool} {held:Bool} {fuel:Nat} {cs:List Value} {d:DataW H} {ps:List MemPlace},
  DataW.trod enc P w base spare held fuel T cs=some (d,ps)→(∀ n∈d.weights P T,n≤reachBytes)→∃ x,rep.R (heapS w) cs x
theorem cells_sz {α:Type} {P:Program} {T:TypeId} {rep:Rp α} (h:TyR P T rep):P.cellsOf T=rep.sz:=by
 obtain ⟨i,hi,hs⟩:=h.i
 unfold Program.cellsOf
 rw [hi]
 exact hs
theorem bytes_of {P:Program} {E:TypeId} {bt:Nat} (h:Byt P E bt):P.bytesOf E=bt:=by
 have:=h.h
 unfold Program.bytesOf
 rw [this];rfl
instance {P:Program} {T:TypeId} [h:Und P T (.int .i64)]:RdR P T rI64 where
 rd ht _:=by
  obtain ⟨n,rfl,_,hw⟩:=DataW.trod_int h.h ht
  refine ⟨n,rfl,?_⟩
  simp only [Lit.wf,Bool.and_eq_true,decide_eq_true_eq] at hw
  exact hw
instance {P:Program} {T:TypeId} [h:Und P T .bool]:RdR P T rBool where
 rd ht _:=by
  obtain ⟨b,rfl,_⟩:=DataW.trod_bool h.h ht
  exact ⟨b,rfl⟩
theorem reach_big:reachBytes≤big:=by decide
instance {P:Program} {T:TypeId} [h:Und P T .string]:RdR P T rStr where
 rd ht hw:=by
  obtain ⟨s,rfl,hd,hs⟩:=DataW.trod_string h.h ht
  cases hd
  refine ⟨s,rfl,?_⟩
  have:=hw s.data.toList.length (by simp [DataW.weights])
  have e:s.data.toList.length=s.size:=Array.length_toList
  have:=reach_big
  omega
theorem list_of {α:Type}:∀ {n:Nat} {q:Nat→α→Prop},(∀ i,i < n→∃ x,q i x)→∃ l:List α,l.length=n∧∀ i x,l[i]?=some x→q i x
 | 0,_,_=>⟨[],rfl,fun i x h=>by simp at h⟩
 | n+1,q,h=>by
  obtain ⟨x,hx⟩:=h 0 (by omega)
  obtain ⟨l,hl,hq⟩:=list_of (n:=n) (q:=fun i=>q (i+1)) (fun i hi=>h (i+1) (by omega))
  refine ⟨x::l,by simp [hl],fun i y hy=>?_⟩
  cases i with
  | zero=>cases hy;exact hx
  | succ i=>exact hq i y hy
theorem weights_all {H:Type} {P:Program} {e:TypeId}:∀ {l:List (DataW H)} {d:DataW H} {n:Nat},d∈l→n∈d.weights P e→n∈DataW.weightsAll P e l
 | a::l,d,n,hd,hn=>by
  simp only [DataW.weightsAll,List.mem_append]
  rcases List.mem_cons.1 hd with rfl|hd
  ·exact .inl hn
  ·exact .inr (weights_all hd hn)
instance {α:Type} {P:Program} {T E:TypeId} {bt:Nat} {rep:Rp α} [hu:Und P T (.slice E)] [hr:RdR P E rep] [ht:TyR P E rep] [hb:Byt P E bt] [hz:NeZero bt]:RdR P T (rSlice bt rep) where
 rd h hw:=by
  rcases Deep.open_slice hu.h h with ⟨rfl,_⟩|⟨a,len,cap,m,n,D,Pl,rfl,_,hlc,hcm,hm,hx,hel⟩
  ·exact ⟨[],none,0,0,rfl,rfl,Nat.le_refl _,by simp,Nat.zero_le _,fun i x h=>by simp at h⟩
  ·cases hx
   have hmb:len≤m:=by rw [hm];split<;>omega
   have hrb:=reach_big
   have hbt1:1≤bt:=Nat.one_le_iff_ne_zero.2 hz.out
   have hlen1:len*1≤len*bt:=Nat.mul_le_mul_left _ hbt1
   have hwt:=hw ((((List.range len).map D).length+((List.range (m - len)).map fun j=>D (len+j)).length)*P.bytesOf E) (by simp [DataW.weights,hu.h])
   rw [bytes_of hb] at hwt
   simp only [List.length_map,List.length_range] at hwt
   have hlen:len*bt≤(len+(m - len))*bt:=Nat.mul_le_mul_right _ (by omega)
   obtain ⟨xs,hxl,hxs⟩:=list_of (n:=len) (q:=fun i x=>PtrTo (heapS _) (a.add (i*rep.sz)) rep x) (fun i hi=>by
    obtain ⟨cs',h1,h2⟩:=hel i (by omega)
    obtain ⟨_,hcl,hcs⟩:=World.cells?_some h1
    obtain ⟨x,hx⟩:=hr.rd h2 (fun k hk=>hw k (by
     simp only [DataW.weights,hu.h,List.mem_cons,List.mem_append]
     exact .inr (.inl (weights_all (List.mem_map.2 ⟨i,by simpa using hi,rfl⟩) hk))))
    rw [cells_sz ht] at hcs hcl
    refine ⟨x,cs',hx,fun j v hv=>heapS_cell ?_⟩
    have hj:=(List.getElem?_eq_some_iff.1 hv).1
    rw [hcs j (by omega)];exact hv)
   refine ⟨xs,some a,len,cap,rfl,hxl,hlc,by omega,by omega,fun i x h=>⟨a,rfl,hxs i x h⟩⟩
instance {P:Program} {T E:TypeId} {n:Nat} [hu:Und P T (.array n E)] [he:Und P E (.int .i64)] [ht:TyR P E rI64] [htt:TyR P T (rArr n)]:RdR P T (rArr n) where
 rd h _:=by
  rename_i cs d ps _
  obtain ⟨xs,m,rfl,_,hcl,hxl,hx⟩:=DataW.trod_array hu.h h
  have hsz:P.cellsOf E=1:=cells_sz ht
  rw [cells_sz htt] at hcl
  have hcl:cs.length=n:=hcl
  obtain ⟨l,hll,hl⟩:=list_of (n:=n) (q:=fun i (z:Int)=>cs[i]?=some (.int .i64 z)∧Rng z) (fun i hi=>by
   have h1:=hx i hi
   rw [hsz,Nat.mul_one,List.getElem?_eq_getElem (by omega)] at h1
   obtain ⟨z,hz,_,hw⟩:=DataW.trod_int he.h h1
   refine ⟨z,?_,?_⟩
   ·have:((cs.drop i).take 1)[0]?=some (.int .i64 z):=by rw [hz];rfl
    rw [List.getElem?_take,if_pos (by omega),List.getElem?_drop] at this
    simpa using this
   ·simp only [Lit.wf,Bool.and_eq_true,decide_eq_true_eq] at hw
    exact hw)
  refine ⟨l,hll,?_,fun x hx=>?_⟩
  ·apply List.ext_getElem?
   intro i
   rw [List.getElem?_map]
   by_cases hi:i < n
   ·have hg:l[i]?=some l[i]:=List.getElem?_eq_getElem (by omega)
    rw [hg,(hl i _ hg).1];rfl
   ·rw [List.getElem?_eq_none (by omega),List.getElem?_eq_none (by omega)];rfl
  ·obtain ⟨i,hi⟩:=List.getElem?_of_mem hx
   exact (hl i x hi).2
structure RdF {α:Type} (P:Program) (off:Nat) (fs:List Field) (rep:Rp α):Prop where
 run:∀ {H:Type} {enc:TypeId × Value→H} {w:World} {base:Nat} {spare:Nat→Bool} {held:Bool} {m:Nat} {cs:List Value} {xs:List (DataW H × List MemPlace)},cs.length=off+rep.sz→xs.length=fs.length →
  (∀ (i:Nat) (f:Field),fs[i]?=some f→DataW.trod enc P w base spare held m f.type ((cs.drop f.offset).take (P.cellsOf f.type))=xs[i]?) →
  (∀ n∈DataW.weightsEach P (fs.map (·.type)) (xs.map (·.1)),n≤reachBytes)→∃ x,rep.R (heapS w) (cs.drop off) x
theorem RdF.last {α:Type} {P:Program} {off:Nat} {f:Field} {rep:Rp α} (ho:f.offset=off) (hr:RdR P f.type rep) (hs:P.cellsOf f.type=rep.sz):RdF P off [f] rep:=⟨by
 intro H enc w base spare held m cs xs hc hl hx hw
 match xs,hl with
 | [y],_=>
  have h1:=hx 0 f rfl
  rw [ho,hs,List.take_of_length_le (by rw [List.length_drop];omega)] at h1
  refine hr.rd (d:=y.1) (ps:=y.2) h1 (fun n hn=>hw n ?_)
  simp only [List.map_cons,DataW.weightsEach,List.mem_append]
  exact .inl hn⟩
theorem RdF.cons {α β:Type} {P:Program} {off:Nat} {f:Field} {fs:List Field} {a:Rp α} {b:Rp β} (ho:f.offset=off) (hr:RdR P f.type a) (hs:P.cellsOf f.type=a.sz) (h:RdF P (off+a.sz) fs b):RdF P off (f::fs) (rSeq a b):=⟨by
 intro H enc w base spare held m cs xs hc hl hx hw
 match xs,hl with
 | y::ys,hl=>
  have hc:cs.length=off+(a.sz+b.sz):=hc
  have h1:=hx 0 f rfl
  rw [ho,hs] at h1
  obtain ⟨x1,hx1⟩:=hr.rd (d:=y.1) (ps:=y.2) h1 (fun n hn=>hw n (by
   simp only [List.map_cons,DataW.weightsEach,List.mem_append]
   exact .inl hn))
  obtain ⟨x2,hx2⟩:=h.run (cs:=cs) (xs:=ys) (by omega) (by simpa using hl) (fun i g hg=>hx (i+1) g hg) (fun n hn=>hw n (by
   simp only [List.map_cons,DataW.weightsEach,List.mem_append]
   exact .inr hn))
  refine ⟨(x1,x2),(cs.drop off).take a.sz,cs.drop (off+a.sz),?_,hx1,hx2⟩
  rw [← List.drop_drop,List.take_append_drop]⟩
theorem RdR.struct {α:Type} {P:Program} {T:TypeId} {fs:Array Field} {rep:Rp α} (hu:P.underlying T=some (.struct fs)) (hs:P.cellsOf T=rep.sz) (h:RdF P 0 fs.toList rep):RdR P T rep where
 rd ht hw:=by
  obtain ⟨xs,n,rfl,hx,hcl,hxl,hel⟩:=DataW.trod_struct hu ht
  cases hx
  obtain ⟨x,hx⟩:=h.run (xs:=xs) (by rw [hcl,hs];omega) (by simpa using hxl) (fun i f hf=>hel i f (by simpa using hf)) (fun k hk=>hw k (by simpa [DataW.weights,hu] using hk))
  exact ⟨x,by simpa using hx⟩
theorem RdR.map {α γ:Type} {P:Program} {T:TypeId} {a:Rp α} {f:γ→α} (g:α→γ) (hg:∀ y,f (g y)=y) (h:RdR P T a):RdR P T (rMap f a) where
 rd ht hw:=by
  obtain ⟨x,hx⟩:=h.rd ht hw
  exact ⟨g x,by show a.R _ _ (f (g x));rw [hg];exact hx⟩
theorem notAgg_ok {P:Program} {W:World} {base:Nat} {T:TypeId} {v:Value} {d:TypeDesc} (hu:P.underlying T=some d) (ha:isAggD d=false) (h:Value.okWide P W .any base T v):∀ cs,v≠.agg cs:=by
 rintro cs rfl
 unfold Value.okWide at h
 rw [hu] at h
 cases d<;>first|(cases ha;done)|(simp only [Cell.okWide,Cell.ok,hu] at h;done)|(simp [Cell.okWide,Cell.ok,hu] at h)
theorem agg_ok {P:Program} {W:World} {base:Nat} {T:TypeId} {v:Value} {d:TypeDesc} (hu:P.underlying T=some d) (ha:isAggD d=true) (h:Value.okWide P W .any base T v):∃ cs,v=.agg cs:=by
 unfold Value.okWide at h
 rw [hu] at h
 cases d<;>first|(cases ha;done)|(obtain ⟨cs,h,_⟩:=h;exact ⟨cs,h⟩)
theorem rd_arg {α:Type} {H:Type} {enc:TypeId × Value→H} {P:Program} {W:World} {base:Nat} {T:TypeId} {v:Value} {d:DataW H} {ps:List MemPlace} (rep:Rp α) [ht:TyR P T rep] [hr:RdR P T rep] (hok:Value.okWide P W .any base T v)
  (h:DataW.Trod enc P W 0 (fun _=>true) true T v d ps) (hw:∀ n∈d.weights P T,n≤reachBytes):∃ x,rep.V (heapS W) v x:=by
 obtain ⟨fuel,hf⟩:=h
 obtain ⟨x,hx⟩:=hr.rd hf hw
 obtain ⟨dd,hd,ha⟩:=ht.u
 cases hag:rep.agg with
 | true=>
  obtain ⟨cs,rfl⟩:=agg_ok hd (ha.trans hag) hok
  exact ⟨x,cs.toList,by simpa [Value.cells] using hx,by simp [hag]⟩
 | false=>
  have hn:=notAgg_ok hd (ha.trans hag) hok
  have hc:v.cells=#[v]:=by cases v<;>first|rfl|exact absurd rfl (hn _)
  rw [hc] at hx
  exact ⟨x,[v],hx,by simp [hag]⟩
theorem sized_arg {H:Type} {P:Program} {ts:List TypeId} {ds:List (DataW H)} (h:(DataW.weightsEach P ts ds).all (·≤reachBytes)=true) {j:Nat} {t:TypeId} {d:DataW H} (ht:ts[j]?=some t) (hd:ds[j]?=some d):∀ n∈d.weights P t,n≤reachBytes:=fun n hn=>by
 have:=List.all_eq_true.1 h _ (DataW.weights_mem_each ht hd n hn)
 simpa using this
theorem FnV.calls {P:Program} {f:FuncId} {args:Array Value} {r:Value} {W:World} (h:FnV P f args (heapS W) r):Calls P f args W fun e W'=>e=.returned r∧Below W.heap.size W W':=by
 refine (h W (agree_heapS W) (by simp) .nil (by simp)).mono ?_
 rintro e w' ⟨v,S',M',rfl,hw,rfl,rfl⟩
 exact ⟨rfl,hw.below⟩
end Go.Dr
namespace Go.Dr
open Go.Proofs
set_option maxRecDepth 20000
instance:RdR Tryz.prog 213 rLabel:=RdR.map (fun y=>⟨y.1,y.2⟩) (fun _=>rfl) (RdR.struct Tryz.underlying213 (by kernel_rfl) (RdF.cons rfl (show RdR Tryz.prog 9 rStr from inferInstance) (by kernel_rfl) (RdF.last rfl (show RdR Tryz.prog 9 rStr from inferInstance) (by kernel_rfl))))
instance:RdR Tryz.prog 215 rTerm:=RdR.map (fun y=>⟨y.1,y.2.1,y.2.2⟩) (fun _=>rfl) (RdR.struct Tryz.underlying215 (by kernel_rfl) (RdF.cons rfl (show RdR Tryz.prog 3 rI64 from inferInstance) (by kernel_rfl) (RdF.cons rfl (show RdR Tryz.prog 9 rStr from inferInstance) (by kernel_rfl) (RdF.last rfl (show RdR Tryz.prog 9 rStr from inferInstance) (by kernel_rfl)))))
instance:RdR Tryz.prog 125 rNear:=RdR.map (fun y=>⟨y.1,y.2⟩) (fun _=>rfl) (RdR.struct Tryz.underlying125 (by kernel_rfl) (RdF.cons rfl (show RdR Tryz.prog 9 rStr from inferInstance) (by kernel_rfl) (RdF.last rfl (show RdR Tryz.prog 123 (rSlice 40 rTerm) from inferInstance) (by kernel_rfl))))
instance:RdR Tryz.prog 94 rNode:=RdR.map (fun y=>⟨y.1,y.2.1,y.2.2.1,y.2.2.2.1,y.2.2.2.2.1,y.2.2.2.2.2⟩) (fun _=>rfl) (RdR.struct Tryz.underlying94 (by kernel_rfl) (RdF.cons rfl (show RdR Tryz.prog 9 rStr from inferInstance) (by kernel_rfl) (RdF.cons rfl (show RdR Tryz.prog 91 (rArr 5) from inferInstance) (by kernel_rfl) (RdF.cons rfl (show RdR Tryz.prog 92 (rSlice 32 rLabel) from inferInstance) (by kernel_rfl) (RdF.cons rfl (show RdR Tryz.prog 92 (rSlice 32 rLabel) from inferInstance) (by kernel_rfl) (RdF.cons rfl (show RdR Tryz.prog 4 rBool from inferInstance) (by kernel_rfl) (RdF.last rfl (show RdR Tryz.prog 4 rBool from inferInstance) (by kernel_rfl))))))))
instance:RdR Tryz.prog 127 rPod:=RdR.map (fun y=>⟨y.1,y.2.1,y.2.2.1,y.2.2.2.1,y.2.2.2.2.1,y.2.2.2.2.2.1,y.2.2.2.2.2.2.1,y.2.2.2.2.2.2.2.1,y.2.2.2.2.2.2.2.2⟩) (fun _=>rfl) (RdR.struct Tryz.underlying127 (by kernel_rfl) (RdF.cons rfl (show RdR Tryz.prog 9 rStr from inferInstance) (by kernel_rfl) (RdF.cons rfl (show RdR Tryz.prog 9 rStr from inferInstance) (by kernel_rfl) (RdF.cons rfl (show RdR Tryz.prog 91 (rArr 5) from inferInstance) (by kernel_rfl) (RdF.cons rfl (show RdR Tryz.prog 92 (rSlice 32 rLabel) from inferInstance) (by kernel_rfl) (RdF.cons rfl (show RdR Tryz.prog 123 (rSlice 40 rTerm) from inferInstance) (by kernel_rfl) (RdF.cons rfl (show RdR Tryz.prog 92 (rSlice 32 rLabel) from inferInstance) (by kernel_rfl) (RdF.cons rfl (show RdR Tryz.prog 125 rNear from inferInstance) (by kernel_rfl) (RdF.cons rfl (show RdR Tryz.prog 125 rNear from inferInstance) (by kernel_rfl) (RdF.last rfl (show RdR Tryz.prog 9 rStr from inferInstance) (by kernel_rfl)))))))))))
instance:RdR Tryz.prog 147 rOwner:=RdR.map (fun y=>⟨y.1,y.2.1,y.2.2.1,y.2.2.2.1,y.2.2.2.2⟩) (fun _=>rfl) (RdR.struct Tryz.underlying147 (by kernel_rfl) (RdF.cons rfl (show RdR Tryz.prog 9 rStr from inferInstance) (by kernel_rfl) (RdF.cons rfl (show RdR Tryz.prog 3 rI64 from inferInstance) (by kernel_rfl) (RdF.cons rfl (show RdR Tryz.prog 9 rStr from inferInstance) (by kernel_rfl) (RdF.cons rfl (show RdR Tryz.prog 3 rI64 from inferInstance) (by kernel_rfl) (RdF.last rfl (show RdR Tryz.prog 4 rBool from inferInstance) (by kernel_rfl)))))))
instance:RdR Tryz.prog 26 rSnap:=RdR.map (fun y=>⟨y.1,y.2.1,y.2.2⟩) (fun _=>rfl) (RdR.struct Tryz.underlying26 (by kernel_rfl) (RdF.cons rfl (show RdR Tryz.prog 22 (rSlice 112 rNode) from inferInstance) (by kernel_rfl) (RdF.cons rfl (show RdR Tryz.prog 23 (rSlice 240 rPod) from inferInstance) (by kernel_rfl) (RdF.last rfl (show RdR Tryz.prog 24 (rSlice 56 rOwner) from inferInstance) (by kernel_rfl)))))
instance:RdR Tryz.prog 45 rStep:=RdR.map (fun y=>⟨y.1,y.2.1,y.2.2⟩) (fun _=>rfl) (RdR.struct Tryz.underlying45 (by kernel_rfl) (RdF.cons rfl (show RdR Tryz.prog 3 rI64 from inferInstance) (by kernel_rfl) (RdF.cons rfl (show RdR Tryz.prog 3 rI64 from inferInstance) (by kernel_rfl) (RdF.last rfl (show RdR Tryz.prog 3 rI64 from inferInstance) (by kernel_rfl)))))
instance:RdR Tryz.prog 41 rClause:=RdR.map (fun y=>⟨y.1,y.2.1,y.2.2.1,y.2.2.2⟩) (fun _=>rfl) (RdR.struct Tryz.underlying41 (by kernel_rfl) (RdF.cons rfl (show RdR Tryz.prog 3 rI64 from inferInstance) (by kernel_rfl) (RdF.cons rfl (show RdR Tryz.prog 3 rI64 from inferInstance) (by kernel_rfl) (RdF.cons rfl (show RdR Tryz.prog 3 rI64 from inferInstance) (by kernel_rfl) (RdF.last rfl (show RdR Tryz.prog 3 rI64 from inferInstance) (by kernel_rfl))))))
instance:RdR Tryz.prog 78 rMove:=RdR.map (fun y=>⟨y.1,y.2⟩) (fun _=>rfl) (RdR.struct Tryz.underlying78 (by kernel_rfl) (RdF.cons rfl (show RdR Tryz.prog 3 rI64 from inferInstance) (by kernel_rfl) (RdF.last rfl (show RdR Tryz.prog 3 rI64 from inferInstance) (by kernel_rfl))))
instance:RdR Tryz.prog 60 rWrong:=RdR.map (fun y=>⟨y.1,y.2.1,y.2.2⟩) (fun _=>rfl) (RdR.struct Tryz.underlying60 (by kernel_rfl) (RdF.cons rfl (show RdR Tryz.prog 3 rI64 from inferInstance) (by kernel_rfl) (RdF.cons rfl (show RdR Tryz.prog 3 rI64 from inferInstance) (by kernel_rfl) (RdF.last rfl (show RdR Tryz.prog 3 rI64 from inferInstance) (by kernel_rfl)))))
end Go.Dr
