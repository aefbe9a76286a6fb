/- Part 6 of the rules and of the walks that the proofs of this seat rest on; no condition. -/
import Derived.Test.YtlckpojpnfidoaaGreatA04
import Derived.Lib.Strings
set_option linter.unusedVariables false
set_option linter.unusedSimpArgs false
namespace Go.Dr
open Go.Proofs
set_option maxRecDepth 20000
set_option maxHeartbeats 1000000
set_option linter.unusedSimpArgs false
set_option linter.unusedVariables false
theorem owned_at {s:Snap} {p:List Int} (hodd:∀ n∈p,oddP s n=false) {k:Nat} {n:Int} (hn:p[k]?=some n):n < s.nodes.length:=by
 have h1:=hodd n (List.mem_of_getElem? hn)
 simp only [oddP,Bool.or_eq_false_iff,decide_eq_false_iff_not] at h1
 omega
theorem r8_about {S:SHeap} {u v xv:Value} {s:Snap} {p:List Int} {x:Near} (i:Nat) (others:Bool) {m:Int} (hm:p[i]?=some m) (hm0:0≤m) (hlen:p.length=s.pods.length) (hodd:∀ n∈p,oddP s n=false) (hu:rSnap.V S u s) (hv:(rSlice 8 rI64).V S v p) (hx:rNear.V S xv x) :
  FnV Tryz.prog 327 #[u,v,.int .i64 i,xv,.bool others] S (.int .i64 (about8 s p i x others)):=by
 obtain ⟨a,c,rfl,_,_,hb,_⟩:=V_slice.1 hv
 unfold big at hb
 have hmlt:=owned_at hodd hm
 obtain ⟨mn,rfl⟩:=Int.eq_ofNat_of_zero_le hm0
 have hmn:mn < s.nodes.length:=by omega
 (refine Fn.enter (args:=[u,.slice a p.length c,.int .i64 i,xv,.bool others]) Tryz.func327 rfl Tryz.ntmps327 rfl ?_;intro w0)
 repeat (first|(refine Walk ?_;intros)|refine JC.block ?_)
 (refine JO.eff rfl rfl rfl (JEff.boxS rfl (by exact vta) nna rfl ?_);intro S0 pa l0 hp)
 (refine JO.eff rfl rfl rfl (JEff.boxS rfl (by exact vta) nna rfl ?_);intro S2 pb l2 hpb)
 repeat (first|(refine Walk ?_;intros)|refine JC.block ?_)
 refine JC.loop (σ:=SHeap × Nat) (fun q=>q.1) (fun _=>[]) (fun q=>[(1,.slice a p.length c),(2,.int .i64 i),(4,.bool others),(5,.pointer (some pa)),(8,.pointer (some pb)),(11,.int .i64 (cntI q.2 (aboutF s p i x others))),(12,.int .i64 q.2)]) (fun q=>S2.le q.1∧q.2≤p.length∧(True)) (fun q=>p.length - q.2) (S2,0) ⟨SHeap.le.refl _,Nat.zero_le _,trivial⟩ rfl rfl (by exact sba) ?_;rintro ⟨S1,k⟩ ⟨hl1,hk,hi⟩;dsimp only at hl1 hk hi ⊢
 repeat (first|(refine Walk ?_;intros)|refine JC.block ?_)
 refine JC.cond rfl (fun hc=>?_) (fun hc=>?_)
 ·have hk':=dlt hc
  obtain ⟨n,hn,hd⟩:=drop_at hk'
  obtain ⟨y,hy⟩:∃ y,s.pods[k]?=some y:=⟨_,List.getElem?_eq_getElem (by omega)⟩
  have hst:=cntI_step k (aboutF s p i x others)
  have hrg:=cntI_rng k (aboutF s p i x others)
  have hf:aboutF s p i x others k=(decide (0≤n)&&!(others&&decide (k=i))&&near8 s n.toNat mn x.topo&&holdsB x.terms y.labels):=by simp [aboutF,hn,hy,hm]
  have hki:decide ((k:Int)=(i:Int))=decide (k=i):=by rw [Bool.eq_iff_iff];simp;omega
  rw [hf] at hst
  clear hd hf
  by_cases hneg:n < 0
  ·have e1:decide (n < 0)=true:=by simp [hneg]
   have e2:decide (0≤n)=false:=by simp;omega
   rw [e2] at hst
   simp only [Bool.false_and,Bool.false_eq_true,if_false,Int.add_zero] at hst
   repeat (first|(refine Walk ?_;intros)|refine JC.block ?_)
   refine JC.drawT [0,1,2,3,4,5,6,7,8,9,10,11,12,13,14,15,16,17,18,19,20,21,22,23,24,25,26,27] [0,1,2,3,4,5,6,7,8,9,10,11,12,13,14,15,16,17,18,19,20,21,22,23,24,26,27] [] Tryz_mixed (by decide +kernel) (by simp [MEnt.own]) ?_
   repeat (first|(refine Walk ?_;intros)|refine JC.block ?_)
   refine JO.guard rfl rfl rfl rfl (fun g1=>?_) (fun g1=>?_)
   ·repeat (first|(refine Walk ?_;intros)|refine JC.block ?_)
    (refine JX.round (_,k+1) ⟨by exact lea,hk',trivial⟩ (by simp;omega) rfl rfl ?_;dsimp only;rw [hst];exact sba;done)
   ·rw [e1] at g1;cases g1
  ·have h0:0≤n:=by omega
   have e1:decide (n < 0)=false:=by simp;omega
   have e2:decide (0≤n)=true:=by simp;omega
   have hnlt:=owned_at hodd hn
   obtain ⟨nn,rfl⟩:=Int.eq_ofNat_of_zero_le h0
   have hnn:nn < s.nodes.length:=by omega
   have ecast:((nn:Int)).toNat=nn:=by omega
   rw [e2,Bool.true_and] at hst
   repeat (first|(refine Walk ?_;intros)|refine JC.block ?_)
   refine JC.drawT [0,1,2,3,4,5,6,7,8,9,10,11,12,13,14,15,16,17,18,19,20,21,22,23,24,25,26,27] [0,1,2,3,4,5,6,7,8,9,10,11,12,13,14,15,16,17,18,19,20,21,22,23,24,26,27] [] Tryz_mixed (by decide +kernel) (by simp [MEnt.own]) ?_
   cases hoth:(others&&decide (k=i)) with
   | true=>
    rw [hoth] at hst
    simp only [Bool.not_true,Bool.false_and,Bool.false_eq_true,if_false,Int.add_zero] at hst
    have ho1:others=true:=by simp at hoth;exact hoth.1
    have ho2:decide ((k:Int)=(i:Int))=true:=by rw [hki];simp at hoth;simp [hoth.2]
    subst ho1
    repeat (first|(refine Walk ?_;intros)|refine JC.block ?_)
    refine JO.guard rfl rfl rfl rfl (fun g2=>?_) (fun g2=>?_)
    ·repeat (first|(refine Walk ?_;intros)|refine JC.block ?_)
     (refine JX.round (_,k+1) ⟨by exact lea,hk',trivial⟩ (by simp;omega) rfl rfl ?_;dsimp only;rw [hst];exact sba;done)
    ·rw [ho2] at g2;cases g2
   | false=>
    rw [hoth,Bool.not_false,Bool.true_and,show ((nn:Int)).toNat=nn from ecast] at hst
    have hrun:others=false∨(others=true∧decide ((k:Int)=(i:Int))=false):=by
     cases others with
     | false=>exact .inl rfl
     | true=>right;refine ⟨rfl,?_⟩;rw [hki];simpa using hoth
    clear hoth
    cases hnr:near8 s nn mn x.topo with
    | false=>
     rw [hnr] at hst
     simp only [Bool.false_and,Bool.false_eq_true,if_false,Int.add_zero] at hst
     rcases hrun with rfl|⟨rfl,hkf⟩
     all_goals repeat' (first|(refine Walk ?_;intros)|refine JC.block ?_|(refine JO.eff rfl rfl rfl (JEff.callV rfl (r8_near nn mn x.topo hnn hmn (by exact vta)) rfl ?_);intro _ _)|(refine JO.guard rfl rfl rfl rfl ?_ ?_<;>intro _)|(refine JC.cond rfl ?_ ?_<;>intro _))
     all_goals first
      | (refine JX.round (_,k+1) ⟨by exact lea,hk',trivial⟩ (by simp;omega) rfl rfl ?_;dsimp only;rw [hst];exact sba;done)
      | (exfalso;simp_all;done)
    | true=>
     rw [hnr,Bool.true_and] at hst
     rcases hrun with rfl|⟨rfl,hkf⟩
     all_goals repeat' (first|(refine Walk ?_;intros)|refine JC.block ?_|(refine JO.eff rfl rfl rfl (JEff.callV rfl (r8_near nn mn x.topo hnn hmn (by exact vta)) rfl ?_);intro _ _)|(refine JO.guard rfl rfl rfl rfl ?_ ?_<;>intro _)|(refine JC.cond rfl ?_ ?_<;>intro _))
     all_goals first
      | (exfalso;simp_all;done)
      | skip
     all_goals
      refine JC.drawT [0,1,2,3,4,5,6,7,8] [0,1,2,3,4,5,6,7] [] Tryz_mixed (by decide +kernel) (by simp [MEnt.own]) ?_
      repeat (first|(refine Walk ?_;intros)|refine JC.block ?_)
      (refine JO.eff rfl rfl rfl (JEff.callV rfl (r3_Holds (by exact vta) (by exact vta)) rfl ?_);intro _ _)
      repeat (first|(refine Walk ?_;intros)|refine JC.block ?_)
      refine JC.cond rfl (fun h1=>?_) (fun h1=>?_)
      ·rw [h1,if_pos rfl] at hst
       repeat (first|(refine Walk ?_;intros)|refine JC.block ?_)
       (refine JX.round (_,k+1) ⟨by exact lea,hk',trivial⟩ (by simp;omega) rfl rfl ?_;dsimp only;rw [hst];exact sba;done)
      ·rw [h1,if_neg (by simp),Int.add_zero] at hst
       repeat (first|(refine Walk ?_;intros)|refine JC.block ?_)
       (refine JX.round (_,k+1) ⟨by exact lea,hk',trivial⟩ (by simp;omega) rfl rfl ?_;dsimp only;rw [hst];exact sba;done)
 ·have hk':=dnlt hc
  obtain rfl:k=p.length:=by omega
  repeat (first|(refine Walk ?_;intros)|refine JC.block ?_)
  refine JX.ret1 Tryz.results327 (ResV.tmp rfl) (List.nil_sublist _) ?_
  exact ⟨rfl,rfl⟩
end Go.Dr
namespace Go.Dr
def minL:List Int→Int
 | []=>0
 | x::l=>l.foldl min x
def maxL:List Int→Int
 | []=>0
 | x::l=>l.foldl max x
theorem fold_min_lt (c:Int):∀ (l:List Int) (z:Int),decide (l.foldl min z < c)=(decide (z < c)||l.any (fun x=>decide (x < c)))
 | [],z=>by rw [List.any_nil,Bool.or_false];rfl
 | x::l,z=>by
  rw [List.foldl_cons,fold_min_lt c l,List.any_cons]
  by_cases h1:z < c<;>by_cases h2:x < c<;>simp [h1,h2]<;>omega
theorem fold_max_gt (c:Int):∀ (l:List Int) (z:Int),decide (c < l.foldl max z)=(decide (c < z)||l.any (fun x=>decide (c < x)))
 | [],z=>by rw [List.any_nil,Bool.or_false];rfl
 | x::l,z=>by
  rw [List.foldl_cons,fold_max_gt c l,List.any_cons]
  by_cases h1:c < z<;>by_cases h2:c < x<;>simp [h1,h2]<;>omega
theorem minL_neg {l:List Int} (h:l≠[]):decide (minL l < 0)=l.any negB:=by
 cases l with
 | nil=>exact absurd rfl h
 | cons x l=>rw [minL,fold_min_lt,List.any_cons];rfl
theorem maxL_over {l:List Int} (h:l≠[]):decide (Qty < maxL l)=l.any overB:=by
 cases l with
 | nil=>exact absurd rfl h
 | cons x l=>rw [maxL,fold_max_gt,List.any_cons];rfl
theorem fold_rng {f:Int→Int→Int} (hf:∀ a b,f a b=a∨f a b=b) {lo hi:Int}:∀ {l:List Int} {z:Int},lo≤z→z≤hi→(∀ x∈l,lo≤x∧x≤hi)→lo≤l.foldl f z∧l.foldl f z≤hi
 | [],z,h1,h2,_=>⟨h1,h2⟩
 | x::l,z,h1,h2,h=>by
  have hx:=h x (by simp)
  rw [List.foldl_cons]
  rcases hf z x with e|e<;>rw [e]
  ·exact fold_rng hf h1 h2 (fun y hy=>h y (by simp [hy]))
  ·exact fold_rng hf hx.1 hx.2 (fun y hy=>h y (by simp [hy]))
theorem min_or (a b:Int):min a b=a∨min a b=b:=by omega
theorem max_or (a b:Int):max a b=a∨max a b=b:=by omega
def eachV (g:Nat→Int × Int):List Int × Int:=
 match (List.range 5).find? (fun i=>!decide ((g i).2=0)) with
 | some i=>([0,0,0,0,0],(g i).2)
 | none=>((List.range 5).map (fun i=>(g i).1),0)
theorem plusV_each (l:List (List Int)):plusV l=eachV (colQ l):=rfl
def eachTo (g:Nat→Int × Int) (k:Nat):List Int:=(List.range k).map (fun i=>(g i).1)++List.replicate (5 - k) 0
theorem eachTo_len (g:Nat→Int × Int) {k:Nat} (h:k≤5):(eachTo g k).length=5:=by simp [eachTo];omega
theorem eachTo_rng {g:Nat→Int × Int} (hg:∀ i,Rng (g i).1) (k:Nat):∀ x∈eachTo g k,Rng x:=by
 intro x hx
 rcases List.mem_append.1 hx with hx|hx
 ·obtain ⟨i,_,rfl⟩:=List.mem_map.1 hx
  exact hg i
 ·rw [List.mem_replicate] at hx
  rw [hx.2];unfold Rng;omega
theorem eachTo_set (g:Nat→Int × Int) {k:Nat} (h:k < 5):(eachTo g k).set k (g k).1=eachTo g (k+1):=by
 unfold eachTo
 rw [List.set_append_right _ _ (by simp),List.range_succ,List.map_append]
 obtain ⟨j,hj⟩:∃ j,5 - k=j+1:=⟨5 - k - 1,by omega⟩
 rw [hj,show 5 - (k+1)=j by omega,List.replicate_succ]
 simp
def okE (g:Nat→Int × Int) (k:Nat):Prop:=∀ i,i < k→(g i).2=0
theorem okE_step {g:Nat→Int × Int} {k:Nat} (h:okE g k) (h1:(g k).2=0):okE g (k+1):=by
 intro i hi
 rcases Nat.lt_or_ge i k with h2|h2
 ·exact h i h2
 ·rw [show i=k by omega];exact h1
theorem each_bad {g:Nat→Int × Int} {k:Nat} (h:okE g k) (hk:k < 5) (h1:¬ (g k).2=0):eachV g=([0,0,0,0,0],(g k).2):=by
 have:(List.range 5).find? (fun i=>!decide ((g i).2=0))=some k:=by
  rw [List.find?_range_eq_some]
  exact ⟨by simpa using h1,by simpa using hk,fun j hj=>by simpa using h j hj⟩
 rw [eachV,this]
theorem each_good {g:Nat→Int × Int} (h:okE g 5):eachV g=(eachTo g 5,0):=by
 have:(List.range 5).find? (fun i=>!decide ((g i).2=0))=none:=by
  rw [List.find?_range_eq_none]
  exact fun j hj=>by simpa using h j hj
 rw [eachV,this]
 simp [eachTo]
end Go.Dr
namespace Go.Dr
def skewOf (s:Snap) (o:Nat):Int:=match s.owners[o]? with|some x=>x.skew|none=>0
def minOf (s:Snap) (o:Nat):Int:=match s.owners[o]? with|some x=>x.min|none=>0
def capOf (s:Snap) (n:Nat):List Int:=match s.nodes[n]? with|some x=>x.cap|none=>[]
def skewV (s:Snap) (p:List Int) (o:Nat):Int:=if (spreadL s p o).length=0 then 0 else max 0 (maxL (spreadL s p o) - minL (spreadL s p o) - skewOf s o)
def capN (s:Snap) (p:List Int) (n k:Nat):Clause:=⟨1,n,k,max 0 (at0 (usedV s p n) k - at0 (capOf s n) k)⟩
def capTo (s:Snap) (p:List Int) (n k:Nat):List Clause:=(List.range n).flatMap (fun i=>(List.range 5).map (capN s p i))++(List.range k).map (capN s p n)
def capsC (s:Snap) (p:List Int):List Clause:=capTo s p s.nodes.length 0
def of8 (s:Snap) (p:List Int) (kind:Int) (i:Nat):Int × Bool:=
 match p[i]?,s.pods[i]? with
 | some m,some x=>
  if m < 0 then (0,false) else
  match s.nodes[m.toNat]? with
  | some n=>
   if kind=2 then (termsN x.wher n.labels,true)
   else if kind=3 then (taintsN n.taints x.bears,true)
   else if kind=4 then (if x.with_.topo=noS then (0,false) else (max 0 (1 - about8 s p i x.with_ false),true))
   else if kind=5 then (if x.apart.topo=noS then (0,false) else (about8 s p i x.apart true,true))
   else if x.owner=noS then (0,false) else if !single8 s x.owner then (0,false) else (double8 s p i,true)
  | none=>(0,false)
 | _,_=>(0,false)
def podC1 (s:Snap) (p:List Int) (kind:Int) (i:Nat):List Clause:=if (of8 s p kind i).2=true then [⟨kind,i,0,(of8 s p kind i).1⟩] else []
def podsTo (s:Snap) (p:List Int) (kind:Int) (i:Nat):List Clause:=(List.range i).flatMap (podC1 s p kind)
def kindsTo (s:Snap) (p:List Int) (j:Nat):List Clause:=(List.range j).flatMap (fun (t:Nat)=>podsTo s p ((t:Int)+2) p.length)
def spreadC1 (s:Snap) (p:List Int) (o:Nat):List Clause:=if topoOf s o=noS then [] else [⟨7,o,0,skewV s p o⟩]
def spreadTo (s:Snap) (p:List Int) (o:Nat):List Clause:=(List.range o).flatMap (spreadC1 s p)
def minC1 (s:Snap) (p:List Int) (o:Nat):Clause:=⟨8,o,0,max 0 (minOf s o - placedN s p o)⟩
def minTo (s:Snap) (p:List Int) (o:Nat):List Clause:=(List.range o).map (minC1 s p)
def allC (s:Snap) (p:List Int):List Clause:=capsC s p++kindsTo s p 5++spreadTo s p s.owners.length++minTo s p s.owners.length
def allL (s:Snap) (p:List Int):List Clause:=if checkP s p=0 then allC s p else []
def isC (kind a b:Int) (c:Clause):Bool:=decide (c.kind=kind)&&decide (c.a=a)&&decide (c.b=b)
theorem capTo_step (s:Snap) (p:List Int) (n k:Nat):capTo s p n (k+1)=capTo s p n k++[capN s p n k]:=by
 unfold capTo
 rw [List.range_succ (n:=k)];simp
theorem capTo_full (s:Snap) (p:List Int) (n:Nat):capTo s p n 5=capTo s p (n+1) 0:=by
 unfold capTo
 rw [List.range_succ (n:=n)];simp
theorem capTo_len (s:Snap) (p:List Int) (n k:Nat):(capTo s p n k).length=5*n+k:=by
 unfold capTo
 simp [List.length_flatMap,List.map_const',List.sum_replicate_nat];omega
theorem podsTo_step (s:Snap) (p:List Int) (kind:Int) (i:Nat):podsTo s p kind (i+1)=podsTo s p kind i++podC1 s p kind i:=by
 unfold podsTo;rw [List.range_succ];simp
theorem podC1_len (s:Snap) (p:List Int) (kind:Int) (i:Nat):(podC1 s p kind i).length≤1:=by unfold podC1;split<;>simp
theorem podsTo_len (s:Snap) (p:List Int) (kind:Int):∀ i,(podsTo s p kind i).length≤i
 | 0=>by simp [podsTo]
 | i+1=>by rw [podsTo_step,List.length_append];have:=podsTo_len s p kind i;have:=podC1_len s p kind i;omega
theorem kindsTo_step (s:Snap) (p:List Int) (j:Nat):kindsTo s p (j+1)=kindsTo s p j++podsTo s p ((j:Int)+2) p.length:=by
 unfold kindsTo;rw [List.range_succ];simp
theorem kindsTo_len (s:Snap) (p:List Int):∀ j,(kindsTo s p j).length≤j*p.length
 | 0=>by simp [kindsTo]
 | j+1=>by rw [kindsTo_step,List.length_append,Nat.add_mul];have:=kindsTo_len s p j;have:=podsTo_len s p ((j:Int)+2) p.length;omega
theorem spreadTo_step (s:Snap) (p:List Int) (o:Nat):spreadTo s p (o+1)=spreadTo s p o++spreadC1 s p o:=by
 unfold spreadTo;rw [List.range_succ];simp
theorem spreadTo_len (s:Snap) (p:List Int):∀ o,(spreadTo s p o).length≤o
 | 0=>by simp [spreadTo]
 | o+1=>by
  rw [spreadTo_step,List.length_append]
  have:=spreadTo_len s p o
  have:(spreadC1 s p o).length≤1:=by unfold spreadC1;split<;>simp
  omega
theorem minTo_step (s:Snap) (p:List Int) (o:Nat):minTo s p (o+1)=minTo s p o++[minC1 s p o]:=by
 unfold minTo;rw [List.range_succ];simp
theorem minTo_len (s:Snap) (p:List Int) (o:Nat):(minTo s p o).length=o:=by simp [minTo]
theorem filter_step {α:Type} {l:List α} {f:α→Bool} {k:Nat} {x:α} (h:l[k]?=some x):(l.take (k+1)).filter f=(l.take k).filter f++(if f x=true then [x] else []):=by
 rw [List.take_add_one,h]
 cases hf:f x<;>simp [List.filter_append,List.filter_cons,hf]
theorem filter_len {α:Type} (l:List α) (f:α→Bool) (k:Nat):((l.take k).filter f).length≤k:=Nat.le_trans (List.length_filter_le _ _) (by simp;omega)
theorem fold_take {l:List Int} {f:Int→Int→Int} {z:Int} {k:Nat} {x:Int} (h:l[k]?=some x):(l.take (k+1)).foldl f z=f ((l.take k).foldl f z) x:=by
 rw [List.take_add_one,h];simp
end Go.Dr
namespace Go.Dr
open Go.Proofs
set_option maxRecDepth 20000
set_option maxHeartbeats 1000000
set_option linter.unusedSimpArgs false
set_option linter.unusedVariables false
theorem spread_rng {s:Snap} {p:List Int} {o:Nat} (h:p.length≤1000) (hlen:p.length=s.pods.length) (hn:s.nodes.length≤1000):∀ x∈spreadL s p o,0≤x∧x≤1000000:=by
 intro x hx
 obtain ⟨v,_,rfl⟩:=List.mem_map.1 hx
 have:=domSum_rng (s:=s) (key:=topoOf s o) (v:=v) (counts_rng (o:=o) h hlen) s.nodes.length
 unfold domCount
 unfold domSum at this
 omega
theorem shaped_owner {s:Snap} (h:shapedB s=true):∀ o∈s.owners,0≤o.min∧o.min≤24∧0≤o.skew∧o.skew≤24:=by
 intro o ho
 unfold shapedB at h
 simp only [Bool.and_eq_true,List.all_eq_true] at h
 have h1:=h.2.2 o ho
 unfold ownerB at h1
 simp only [Bool.and_eq_true,decide_eq_true_eq] at h1
 obtain ⟨⟨h1,h2⟩,h3⟩:=h1
 split at h1
 ·have:=of_decide_eq_true h1;omega
 ·simp only [Bool.and_eq_true,decide_eq_true_eq] at h1;omega
theorem s296_L8u {P K:Prop} (k:K) (h:Goal K→P:=by
 intro zk
 (first|refine Walk ?_|refine JC.block ?_|refine JC.drawN 4 rfl [0,1,2,3,4,5,6,7] [0,1,2,3,4,5,6,7] Tryz_mixed (by decide +kernel) ?_|(refine JO.eff rfl rfl rfl (JEff.callL rfl (r7_SpreadOf _ (by assumption) (by assumption) (by exact vta) (by exact vta)) rfl ?_);intro zqa zqb zqc zqd zqe zqf)|(refine WBox ?_))
 (repeat (first|revert zqg|revert zqf|revert zqe|revert zqd|revert zqc|revert zqb|revert zqa))
 exact zk.k):P:=h ⟨k⟩
theorem r8_skew {S:SHeap} {u v:Value} {s:Snap} {p:List Int} (o:Nat) (ho:o < s.owners.length) (hok:checkP s p=0) (hu:rSnap.V S u s) (hv:(rSlice 8 rI64).V S v p):FnV Tryz.prog 296 #[u,v,.int .i64 o] S (.int .i64 (skewV s p o)):=by
 obtain ⟨hs,hlen,hodd⟩:=checkP_ok hok
 obtain ⟨hn8,hp24,ho8⟩:=shaped_small (checkS_ok hs).1
 obtain ⟨ow,how⟩:∃ ow,s.owners[o]?=some ow:=⟨_,List.getElem?_eq_getElem ho⟩
 have hsk:skewOf s o=ow.skew:=by simp [skewOf,how]
 have hsr:=shaped_owner (checkS_ok hs).1 ow (List.mem_of_getElem? how)
 have hspr:=spread_rng (o:=o) (by omega) hlen (by omega)
 (refine Fn.enter (args:=[u,v,.int .i64 o]) Tryz.func296 rfl Tryz.ntmps296 rfl ?_;intro w0)
 repeat (refine s296_L8u ?_;intros)
 unfold skewV
 rw [hsk]
 generalize spreadL s p o=L at *
 refine JC.cond rfl (fun h0=>?_) (fun h0=>?_)
 ·have h0:L.length=0:=by have:=of_decide_eq_true h0;omega
  repeat (refine s296_L8u ?_;intros)
  (refine JX.ret1 Tryz.results296 (ResV.tmp rfl) (List.nil_sublist _) ?_)
  rw [if_pos h0]
  exact ⟨rfl,rfl⟩
 ·have h0:¬ L.length=0:=by have:=of_decide_eq_false h0;omega
  rw [if_neg h0]
  obtain ⟨x,L',rfl⟩:∃ x L',L=x::L':=by cases L with|nil=>simp at h0|cons x L'=>exact ⟨x,L',rfl⟩
  have hx0:(x::L')[0]?=some x:=rfl
  repeat (refine s296_L8u ?_;intros)
  refine JC.loopF0 [(2,_),(3,_),(7,_)] (fun (k:Nat)=>[(8,.int .i64 (((x::L').take k).foldl min x)),(9,.int .i64 (((x::L').take k).foldl max x)),(10,.int .i64 k)]) (fun Sk k=>k≤(x::L').length∧(True)) (fun k=>(x::L').length - k) 0 (by exact sba) (by exact sba) ⟨Nat.zero_le _,trivial⟩ ?_;intro Sk k hlk hik;obtain ⟨hk,hik⟩:=hik;(try dsimp only at hk hik);dsimp only [List.cons_append,List.nil_append]
  repeat (refine s296_L8u ?_;intros)
  refine JC.cond rfl (fun hc=>?_) (fun hc=>?_)
  ·have hk':=dlt hc
   obtain ⟨y,hy,hd⟩:=drop_at hk'
   have e1:=fold_take (f:=min) (z:=x) hy
   have e2:=fold_take (f:=max) (z:=x) hy
   repeat (refine s296_L8u ?_;intros)
   (refine JX.roundF (k+1) (by exact lea) ⟨by omega,(trivial)⟩ (by (try dsimp only);omega) rfl ?_ (by exact sba);(try dsimp only);rw [e1,e2];exact sba;done)
  ·have hk':=dnlt hc
   rw [List.take_of_length_le hk'] at *
   have m1:(x::L').foldl min x=minL (x::L'):=by simp [minL]
   have m2:(x::L').foldl max x=maxL (x::L'):=by simp [maxL]
   have r1:=fold_rng min_or (lo:=0) (hi:=1000000) (l:=x::L') (z:=x) (hspr x (by simp)).1 (hspr x (by simp)).2 hspr
   have r2:=fold_rng max_or (lo:=0) (hi:=1000000) (l:=x::L') (z:=x) (hspr x (by simp)).1 (hspr x (by simp)).2 hspr
   rw [m1] at *
   rw [m2] at *
   repeat (refine s296_L8u ?_;intros)
   (refine JX.ret1 Tryz.results296 (ResV.tmp rfl) (List.nil_sublist _) ?_)
   exact ⟨rfl,rfl⟩
theorem alike_step {α:Type} {xs ys:List α} {k:Nat} {x y:α} (hx:xs[k]?=some x) (hy:ys[k]?=some y) (h:xs.take k=ys.take k) (hxy:x=y):xs.take (k+1)=ys.take (k+1):=by
 rw [List.take_add_one,List.take_add_one,hx,hy,h,hxy]
theorem alike_not {α:Type} {xs ys:List α} {k:Nat} {x y:α} (hx:xs[k]?=some x) (hy:ys[k]?=some y) (hxy:¬ x=y):¬ xs=ys:=by
 rintro rfl;rw [hx] at hy;exact hxy (Option.some.inj hy)
theorem s23_L8u {P K:Prop} (k:K) (h:Goal K→P:=by
 intro zk
 (first|refine Walk ?_|refine JC.block ?_|refine JC.drawN 6 rfl [0,1,2,3,4,5,6,7,8] [0,1,2,3,4,5,6,7,8] Tryz_mixed (by decide +kernel) ?_)
 (repeat (first|revert zqg|revert zqf|revert zqe|revert zqd|revert zqc|revert zqb|revert zqa))
 exact zk.k):P:=h ⟨k⟩
theorem r0_EqInts {S:SHeap} {u v:Value} {xs ys:List Int} (hu:(rSlice 8 rI64).V S u xs) (hv:(rSlice 8 rI64).V S v ys):FnV Tryz.prog 23 #[u,v] S (.bool (decide (xs=ys))):=by
 obtain ⟨a,c,rfl,_,_,hb,_⟩:=V_slice.1 hu
 obtain ⟨a2,c2,rfl,_,_,hb2,_⟩:=V_slice.1 hv
 unfold big at hb hb2
 (refine Fn.enter (args:=[.slice a xs.length c,.slice a2 ys.length c2]) Tryz.func23 rfl Tryz.ntmps23 rfl ?_;intro w0)
 repeat (refine s23_L8u ?_;intros)
 refine JC.cond rfl (fun h0=>?_) (fun h0=>?_)
 ·have h0:¬ xs.length=ys.length:=by simp at h0;omega
  repeat (refine s23_L8u ?_;intros)
  (refine JX.ret1 Tryz.results23 (ResV.tmp rfl) (List.nil_sublist _) ?_)
  refine ⟨rfl,?_⟩
  congr 1
  exact (decide_eq_false (fun h=>h0 (by rw [h]))).symm
 ·have h0:xs.length=ys.length:=by simp at h0;omega
  repeat (refine s23_L8u ?_;intros)
  refine JC.loopF0 [(0,_),(1,_)] (fun (k:Nat)=>[(5,.int .i64 k)]) (fun Sk k=>k≤xs.length∧(xs.take k=ys.take k)) (fun k=>xs.length - k) 0 (by exact sba) (by exact sba) ⟨Nat.zero_le _,by simp⟩ ?_;intro Sk k hlk hik;obtain ⟨hk,hik⟩:=hik;(try dsimp only at hk hik);dsimp only [List.cons_append,List.nil_append]
  repeat (refine s23_L8u ?_;intros)
  refine JC.cond rfl (fun hc=>?_) (fun hc=>?_)
  ·have hk':=dlt hc
   obtain ⟨x,hx,_⟩:=drop_at hk'
   obtain ⟨y,hy,_⟩:=drop_at (l:=ys) (show k < ys.length by omega)
   repeat (refine s23_L8u ?_;intros)
   refine JC.cond rfl (fun hxy=>?_) (fun hxy=>?_)
   ·have hxy:¬ x=y:=by simpa using hxy
    repeat (refine s23_L8u ?_;intros)
    (refine JX.ret1 Tryz.results23 (ResV.tmp rfl) (List.nil_sublist _) ?_)
    refine ⟨rfl,?_⟩
    congr 1
    exact (decide_eq_false (alike_not hx hy hxy)).symm
   ·have hxy:x=y:=by simpa using hxy
    repeat (refine s23_L8u ?_;intros)
    exact JX.roundF (k+1) (by exact lea) ⟨by omega,(alike_step hx hy hik hxy)⟩ (by (try dsimp only);omega) rfl (by exact sba) (by exact sba)
  ·have hk':=dnlt hc
   rw [List.take_of_length_le hk',List.take_of_length_le (by omega)] at hik
   repeat (refine s23_L8u ?_;intros)
   (refine JX.ret1 Tryz.results23 (ResV.tmp rfl) (List.nil_sublist _) ?_)
   refine ⟨rfl,?_⟩
   congr 1
   exact (decide_eq_true hik).symm
theorem r0_CopyInts {S:SHeap} {u:Value} {xs:List Int} (hu:(rSlice 8 rI64).V S u xs):FnL Tryz.prog 26 #[u] S 8 rI64 xs:=by
 obtain ⟨a,c,rfl,_,hb8,hb,_⟩:=V_slice.1 hu
 unfold big at hb8 hb
 (refine Fn.enter (args:=[.slice a xs.length c]) Tryz.func26 rfl Tryz.ntmps26 rfl ?_;intro w0)
 (first|refine JC.newRow 3 1 ?_|refine JO.newRow 3 1 ?_|refine JX.newRow 3 1 ?_)
 repeat (first|(refine Walk ?_;intros)|refine JC.block ?_)
 (refine JO.eff rfl rfl rfl (JEff.appendS (rep:=rI64) rfl rfl hu rfl rfl (List.Perm.refl _) (by unfold big;omega) (by unfold big;omega) (by intro l hl;cases hl) rfl ?_);intro a2 c2 us1 hus1)
 repeat (first|(refine Walk ?_;intros)|refine JC.block ?_)
 rw [List.nil_append]
 refine JX.freezeRow (rep:=rI64) (bt:=8) (xs:=xs) hus1 (by omega) (by unfold big;omega) (by unfold big;omega) (fun S9 hl9 hV9=>?_)
 rw [Nat.zero_add] at hV9
 (refine JX.ret1 Tryz.results26 (ResV.tmp rfl) (List.nil_sublist _) ?_)
 rw [Nat.zero_add]
 exact ⟨rfl,hV9⟩
end Go.Dr
namespace Go.Dr
open Go.Proofs
set_option maxRecDepth 20000
set_option maxHeartbeats 1000000
set_option linter.unusedSimpArgs false
set_option linter.unusedVariables false
theorem used_fine {s:Snap} (h:checkS s=0) {p:List Int} (hlen:p.length=s.pods.length) (n:Int):(usedV s p n).length=5∧(∀ x∈usedV s p n,0≤x∧x≤Qty):=by
 refine ⟨by simp [usedV],fun z hz=>?_⟩
 obtain ⟨j,hj,rfl⟩:=List.mem_map.1 hz
 have:=used_bound h p n p.length j (by simpa using hj)
 rwa [onK_all hlen] at this
theorem check_vec {v:List Int} (h:z0 (checkV v)=true):∀ x∈v,0≤x∧x≤Qty:=by
 intro x hx
 unfold z0 checkV at h
 split at h
 ·cases h
 ·rename_i h1
  split at h
  ·cases h
  ·rename_i h2
   have h1:=(List.any_eq_false.1 (by simpa using h1)) x hx
   have h2:=(List.any_eq_false.1 (by simpa using h2)) x hx
   simp only [negB,overB,decide_eq_true_eq] at h1 h2
   omega
theorem shaped_cap {s:Snap} (h:shapedB s=true):∀ n∈s.nodes,∀ x∈n.cap,0≤x∧x≤Qty:=by
 intro n hn
 unfold shapedB at h
 simp only [Bool.and_eq_true,List.all_eq_true] at h
 have h1:=h.2.1.1 n hn
 unfold nodeB at h1
 simp only [Bool.and_eq_true] at h1
 exact check_vec h1.1.1
theorem s294_L8v {P K:Prop} (k:K) (h:Goal K→P:=by
 intro zk
 (first|refine Walk ?_|refine JC.block ?_|refine JC.drawN 9 rfl [0,1,2,3,4,5,6,7,8,9,10,11,12,13,14,15,16,17,18,19] [1,2,3,4,5,6,7,8,9,10,11,12,13,14,15,16,19] Tryz_mixed (by decide +kernel) ?_|(refine JO.eff rfl rfl rfl (JEff.callV rfl (r7_UsedOf _ (by assumption) (by assumption) (by exact vta) (by exact vta)) rfl ?_);intro zqa zqb)|(refine WBox ?_)|(refine WNew ?_)|(refine WPut ?_))
 (repeat (first|revert zqg|revert zqf|revert zqe|revert zqd|revert zqc|revert zqb|revert zqa))
 exact zk.k):P:=h ⟨k⟩
theorem r8_caps {S:SHeap} {u v:Value} {s:Snap} {p:List Int} (hu:rSnap.V S u s) (hv:(rSlice 8 rI64).V S v p) (hok:checkP s p=0):FnRow Tryz.prog 294 #[u,v] S 41 rClause (capsC s p):=by
 obtain ⟨hs,hlen,hodd⟩:=checkP_ok hok
 obtain ⟨hn8,hp24,ho8⟩:=shaped_small (checkS_ok hs).1
 (refine FnRow.enter (args:=[u,v]) Tryz.func294 rfl Tryz.ntmps294 rfl ?_;intro w0)
 repeat (refine s294_L8v ?_;intros)
 have hcl:=snap_caps (by assumption:PtrTo _ _ rSnap s)
 (first|refine JC.newRow 41 (Rp.sz rClause) ?_|refine JO.newRow 41 (Rp.sz rClause) ?_|refine JX.newRow 41 (Rp.sz rClause) ?_)
 refine JC.loopF (σ:=Nat × Option Addr × Nat × List Value) [(1,_),(2,_)] (fun q=>[(5,.slice q.2.1 ((fun n=>capTo s p n 0) q.1).length q.2.2.1),(6,((fun n=>.int .i64 n) q.1))]) (fun q=>[.row w0.heap.size 41 (Rp.sz rClause) (.slice q.2.1 ((fun n=>capTo s p n 0) q.1).length q.2.2.1) ((fun n=>capTo s p n 0) q.1).length (flatCells q.2.2.2)]) (fun Sn q=>q.1≤s.nodes.length∧allV rClause Sn q.2.2.2 ((fun n=>capTo s p n 0) q.1)∧((fun n=>True) q.1)) (fun q=>s.nodes.length - q.1) (0,none,0,[]) (by exact sba) (by exact sba) (by first|rfl|simp) (⟨Nat.zero_le _,trivial,trivial⟩) ?_;rintro Sn ⟨n,ran,rcn,vsn⟩ hln ⟨hn,hvn,hin⟩;(try dsimp only at hn hvn hin);dsimp only [List.cons_append,List.nil_append]
 repeat (refine s294_L8v ?_;intros)
 refine JC.cond rfl (fun hc=>?_) (fun hc=>?_)
 ·have hn':=dlt hc
  obtain ⟨x,hx,_⟩:=drop_at hn'
  have hxm:=List.mem_of_getElem? hx
  have hxl:=(hcl x hxm).1
  have hxr:=shaped_cap (checkS_ok hs).1 x hxm
  obtain ⟨hul,hur⟩:=used_fine hs hlen n
  have hU:(rArr 5).V Sn (.agg (ints (usedV s p n))) (usedV s p n):=V_arr.2 ⟨rfl,hul,fun z hz=>by have:=hur z hz;unfold Qty at this;unfold Rng;omega⟩
  have hcap:capOf s n=x.cap:=by simp [capOf,hx]
  repeat (refine s294_L8v ?_;intros)
  refine JC.loopF (σ:=Nat × Option Addr × Nat × List Value) [(1,_),(2,_),(6,_),(7,_)] (fun q=>[(5,.slice q.2.1 ((fun k=>capTo s p n k) q.1).length q.2.2.1),(8,((fun k=>.int .i64 k) q.1))]) (fun q=>[.row w0.heap.size 41 (Rp.sz rClause) (.slice q.2.1 ((fun k=>capTo s p n k) q.1).length q.2.2.1) ((fun k=>capTo s p n k) q.1).length (flatCells q.2.2.2)]) (fun Sk q=>q.1≤5∧allV rClause Sk q.2.2.2 ((fun k=>capTo s p n k) q.1)∧((fun k=>True) q.1)) (fun q=>5 - q.1) (0,ran,rcn,vsn) (by exact sba) (by exact sba) (by first|rfl|simp) (⟨Nat.zero_le _,hvn.mono (by exact lea),trivial⟩) ?_;rintro Sk ⟨k,rak,rck,vsk⟩ hlk ⟨hk,hvk,hik⟩;(try dsimp only at hk hvk hik);dsimp only [List.cons_append,List.nil_append]
  repeat (refine s294_L8v ?_;intros)
  refine JC.cond rfl (fun hc2=>?_) (fun hc2=>?_)
  ·have hk':=dlt5 hc2
   obtain ⟨z,hz⟩:∃ z,(usedV s p n)[k]?=some z:=⟨_,List.getElem?_eq_getElem (by omega)⟩
   obtain ⟨y,hy⟩:∃ y,x.cap[k]?=some y:=⟨_,List.getElem?_eq_getElem (by omega)⟩
   have hzr:=hur z (List.mem_of_getElem? hz)
   have hyr:=hxr y (List.mem_of_getElem? hy)
   have hz0:=at0_some hz
   have hy0:=at0_some hy
   have hst:=capTo_step s p n k
   have hcl:=capTo_len s p n k
   unfold Qty at hzr hyr
   have hV:rClause.V Sk (.agg (flatCells [.int .i64 1,.int .i64 n,.int .i64 k,.int .i64 (max 0 (z - y))]).toArray) (capN s p n k):=V_clause.2 ⟨by simp [flatCells,Value.cells,capN,hcap,hz0,hy0],by unfold Rng capN;dsimp only;omega,by unfold Rng capN;dsimp only;omega,by unfold Rng capN;dsimp only;omega,by unfold Rng capN;dsimp only;rw [hcap,hz0,hy0];omega⟩
   repeat (refine s294_L8v ?_;intros)
   (refine JO.eff rfl rfl rfl (JEff.build (rep:=rClause) (ys:=[capN s p n k]) rfl rfl ⟨⟨(hV),nna⟩,trivial⟩ rfl rfl rfl rfl ?_);intro bb hbb hvv);(repeat (first|(refine Walk ?_;intros)|refine JC.block ?_));(refine JO.eff rfl rfl rfl (JEff.appendL (rep:=rClause) rfl rfl rfl rfl (List.Perm.swap _ _ _) (by exact hvv.flat) (by intro c hc;exact flat_one (fun v hv=>(hvv.size v hv).2) c hc) (by first|omega|(unfold big;omega)) (by unfold big;omega) (by first|exact rowT_ok|(intro l hl;cases hl)) rfl ?_);intro a2 c2;clear hvv hbb)
   repeat (refine s294_L8v ?_;intros)
   exact JX.roundF (k+1,a2,c2,vsk++[((.agg (flatCells [.int .i64 1,.int .i64 n,.int .i64 k,.int .i64 (max 0 (z - y))]).toArray))]) (by exact lea) ⟨by omega,by (try dsimp only);rw [hst];exact allV_add (by exact lea) hvk (hV.mono (by exact lea)) nna,(trivial)⟩ (by (try dsimp only);omega) (by (try dsimp only);rw [hst];(simp [flat_append]<;>omega)) (by (try dsimp only);rw [hst];simp only [List.length_append,List.length_cons,List.length_nil];exact sba) (by exact sba)
  ·have hk':=dnlt5 hc2
   obtain rfl:k=5:=by omega
   rw [capTo_full] at hvk ⊢
   repeat (refine s294_L8v ?_;intros)
   exact JX.roundF (n+1,rak,rck,vsk) (by exact lea) ⟨by omega,hvk.mono (by exact lea),trivial⟩ (by (try dsimp only);omega) rfl (by exact sba) (by exact sba)
 ·have hn':=dnlt hc
  obtain rfl:n=s.nodes.length:=by omega
  repeat (refine s294_L8v ?_;intros)
  exact JX.retRow Tryz.results294 (ResV.tmp rfl) rfl hvn
end Go.Dr
namespace Go.Dr
open Go.Proofs
set_option maxRecDepth 20000
set_option maxHeartbeats 1000000
set_option linter.unusedSimpArgs false
set_option linter.unusedVariables false
theorem s295_L8w {P K:Prop} (k:K) (h:Goal K→P:=by
 intro zk
 (first|refine Walk ?_|refine JC.blockX [0] rfl ?_|(refine JO.eff rfl rfl rfl (JEff.callV rfl (r8_terms (by exact vta) (by exact vta)) rfl ?_);intro zqa zqb)|(refine JO.eff rfl rfl rfl (JEff.callV rfl (r8_taints (by exact vta) (by exact vta)) rfl ?_);intro zqa zqb)|(refine JO.eff rfl rfl rfl (JEff.callV rfl (r8_about _ _ (by assumption) (by assumption) (by assumption) (by assumption) (by exact vta) (by exact vta) (by exact vta)) rfl ?_);intro zqa zqb)|(refine JO.eff rfl rfl rfl (JEff.callV rfl (r8_single _ (by exact vta)) rfl ?_);intro zqa zqb)|(refine JO.eff rfl rfl rfl (JEff.callV rfl (r8_doubles _ (by assumption) (by assumption) (by exact vta) (by exact vta)) rfl ?_);intro zqa zqb)|(refine WBox ?_)|(refine WNew ?_)|(refine WPut ?_))
 (repeat (first|revert zqg|revert zqf|revert zqe|revert zqd|revert zqc|revert zqb|revert zqa))
 exact zk.k):P:=h ⟨k⟩
theorem r8_of {S:SHeap} {u v:Value} {s:Snap} {p:List Int} (kind:Int) (i:Nat) (hu:rSnap.V S u s) (hv:(rSlice 8 rI64).V S v p) (hok:checkP s p=0) (hi:i < p.length) :
  FnV Tryz.prog 295 #[u,v,.int .i64 kind,.int .i64 i] S (.tuple #[.int .i64 (of8 s p kind i).1,.bool (of8 s p kind i).2]):=by
 obtain ⟨hs,hlen,hodd⟩:=checkP_ok hok
 obtain ⟨hn8,hp24,ho8⟩:=shaped_small (checkS_ok hs).1
 obtain ⟨m,hm,_⟩:=drop_at hi
 obtain ⟨x,hx,_⟩:=drop_at (l:=s.pods) (show i < s.pods.length by omega)
 have hmlt:=owned_at hodd hm
 have ecast:((i:Int)).toNat=i:=by omega
 have hm':p[((i:Int)).toNat]?=some m:=by rw [ecast];exact hm
 have hx':s.pods[((i:Int)).toNat]?=some x:=by rw [ecast];exact hx
 (refine Fn.enter (args:=[u,v,.int .i64 kind,.int .i64 i]) Tryz.func295 rfl Tryz.ntmps295 rfl ?_;intro w0)
 repeat (refine s295_L8w ?_;intros)
 refine JC.cond rfl (fun hneg=>?_) (fun hneg=>?_)
 ·have hof:of8 s p kind i=(0,false):=by
   have:=of_decide_eq_true hneg
   simp only [of8,hm,hx];rw [if_pos this]
  repeat (refine s295_L8w ?_;intros)
  (refine JX.ret2 Tryz.results295 (ResV.tmp rfl) (ResV.tmp rfl) (List.nil_sublist _) ?_)
  rw [hof];exact ⟨rfl,rfl⟩
 ·have hneg:=of_decide_eq_false hneg
  have hm0:0≤m:=by omega
  obtain ⟨nd,hnd⟩:∃ nd,s.nodes[m.toNat]?=some nd:=⟨_,List.getElem?_eq_getElem (by omega)⟩
  have hab:=about8 s p i x.with_ false
  have hof:of8 s p kind i=(if kind=2 then (termsN x.wher nd.labels,true)
   else if kind=3 then (taintsN nd.taints x.bears,true)
   else if kind=4 then (if x.with_.topo=noS then (0,false) else (max 0 (1 - about8 s p i x.with_ false),true))
   else if kind=5 then (if x.apart.topo=noS then (0,false) else (about8 s p i x.apart true,true))
   else if x.owner=noS then (0,false) else if !single8 s x.owner then (0,false) else (double8 s p i,true)):=by
   simp only [of8,hm,hx,hnd];rw [if_neg hneg]
  rw [hof]
  have hr1:0≤about8 s p i x.with_ false∧about8 s p i x.with_ false≤p.length:=cntI_rng _ _
  repeat (refine s295_L8w ?_;intros)
  refine JC.partF0 (σ:=Addr × Addr) [(1,_),(2,_),(3,_),(4,_)] (fun q=>[(10,.pointer (some q.1)),(11,.pointer (some q.2))]) (fun SA q=>PtrTo SA q.1 rPod x∧PtrTo SA q.2 rNode nd) ?_ (by exact sba) ?_;rotate_left;rintro SA ⟨qa,qb⟩ hlA hiA;(try dsimp only at hiA);dsimp only [List.cons_append,List.nil_append];rotate_left
  ·refine JC.drawTree 3 rfl [] [0,1,2,3,4,5,6,7,8,9,10,11,12] (.alt (ofL [13,14,15,16] .nil) (ofL [14,13,15,16] .nil)) Tryz_mixed (by decide +kernel) ?_
   repeat (refine s295_L8w ?_;intros)
   refine JO.alt ?_ ?_
   ·repeat (refine s295_L8w ?_;intros)
    exact JX.partF ((_,_)) (by exact lea) (⟨by exact pta,by exact pta⟩) rfl (by exact sba) (by exact sba)
   ·repeat (refine s295_L8w ?_;intros)
    exact JX.partF ((_,_)) (by exact lea) (⟨by exact pta,by exact pta⟩) rfl (by exact sba) (by exact sba)
  obtain ⟨hpa,hpb⟩:=hiA
  repeat (refine s295_L8w ?_;intros)
  refine JC.partF0 (σ:=Unit) [(1,_),(3,_),(4,_),(10,_)] (fun q=>[]) (fun SB q=>¬ kind=2∧¬ kind=3∧¬ kind=4∧¬ kind=5) ?_ (by exact sba) ?_;rotate_left;rintro SB _ hlB hiB;(try dsimp only at hiB);dsimp only [List.cons_append,List.nil_append];rotate_left;refine JC.block ?_
  ·repeat (refine s295_L8w ?_;intros)
   refine JC.cond rfl (fun k2=>?_) (fun k2=>?_)
   ·have k2:=of_decide_eq_true k2
    rw [if_pos k2]
    repeat (refine s295_L8w ?_;intros)
    (refine JX.ret2 Tryz.results295 (ResV.tmp rfl) (ResV.tmp rfl) (List.nil_sublist _) ?_)
    exact ⟨rfl,rfl⟩
   have k2:=of_decide_eq_false k2
   repeat (refine s295_L8w ?_;intros)
   refine JC.cond rfl (fun k3=>?_) (fun k3=>?_)
   ·have k3:=of_decide_eq_true k3
    rw [if_neg k2,if_pos k3]
    repeat (refine s295_L8w ?_;intros)
    (refine JX.ret2 Tryz.results295 (ResV.tmp rfl) (ResV.tmp rfl) (List.nil_sublist _) ?_)
    exact ⟨rfl,rfl⟩
   have k3:=of_decide_eq_false k3
   repeat (refine s295_L8w ?_;intros)
   refine JC.cond rfl (fun k4=>?_) (fun k4=>?_)
   ·have k4:=of_decide_eq_true k4
    rw [if_neg k2,if_neg k3,if_pos k4]
    repeat (refine s295_L8w ?_;intros)
    refine JC.cond rfl (fun k6=>?_) (fun k6=>?_)
    ·have k6:x.with_.topo=noS:=of_decide_eq_true k6
     rw [if_pos k6]
     repeat (refine s295_L8w ?_;intros)
     (refine JX.ret2 Tryz.results295 (ResV.tmp rfl) (ResV.tmp rfl) (List.nil_sublist _) ?_)
     exact ⟨rfl,rfl⟩
    ·have k6:¬ x.with_.topo=noS:=of_decide_eq_false k6
     rw [if_neg k6]
     repeat (refine s295_L8w ?_;intros)
     (refine JX.ret2 Tryz.results295 (ResV.tmp rfl) (ResV.tmp rfl) (List.nil_sublist _) ?_)
     exact ⟨rfl,rfl⟩
   have k4:=of_decide_eq_false k4
   repeat (refine s295_L8w ?_;intros)
   refine JC.cond rfl (fun k5=>?_) (fun k5=>?_)
   ·have k5:=of_decide_eq_true k5
    rw [if_neg k2,if_neg k3,if_neg k4,if_pos k5]
    repeat (refine s295_L8w ?_;intros)
    refine JC.cond rfl (fun k6=>?_) (fun k6=>?_)
    ·have k6:x.apart.topo=noS:=of_decide_eq_true k6
     rw [if_pos k6]
     repeat (refine s295_L8w ?_;intros)
     (refine JX.ret2 Tryz.results295 (ResV.tmp rfl) (ResV.tmp rfl) (List.nil_sublist _) ?_)
     exact ⟨rfl,rfl⟩
    ·have k6:¬ x.apart.topo=noS:=of_decide_eq_false k6
     rw [if_neg k6]
     repeat (refine s295_L8w ?_;intros)
     (refine JX.ret2 Tryz.results295 (ResV.tmp rfl) (ResV.tmp rfl) (List.nil_sublist _) ?_)
     exact ⟨rfl,rfl⟩
   have k5:=of_decide_eq_false k5
   repeat (refine s295_L8w ?_;intros)
   exact JX.partF (()) (by exact lea) (⟨k2,k3,k4,k5⟩) rfl (by exact sba) (by exact sba)
  obtain ⟨k2,k3,k4,k5⟩:=hiB
  rw [if_neg k2,if_neg k3,if_neg k4,if_neg k5]
  repeat' (first|(refine s295_L8w ?_;intros)|(refine JO.guard rfl rfl rfl rfl ?_ ?_<;>intro _)|(refine JC.cond rfl ?_ ?_<;>intro _))
  all_goals first
   | ((refine JX.ret2 Tryz.results295 (ResV.tmp rfl) (ResV.tmp rfl) (List.nil_sublist _) ?_);refine ⟨rfl,?_⟩;simp_all [noS];done)
   | (exfalso;simp_all;done)
end Go.Dr
namespace Go.Dr
open Go.Proofs
set_option maxRecDepth 20000
set_option maxHeartbeats 2000000
set_option linter.unusedSimpArgs false
set_option linter.unusedVariables false
theorem of8_rng {s:Snap} {p:List Int} (hp:p.length≤1000) (hw:∀ x∈s.pods,x.wher.length≤1000) (ht:∀ x∈s.nodes,x.taints.length≤1000) (kind:Int) (i:Nat):0≤(of8 s p kind i).1∧(of8 s p kind i).1≤1000:=by
 unfold of8
 cases hm:p[i]? with
 | none=>simp
 | some m=>
  cases hx:s.pods[i]? with
  | none=>simp
  | some x=>
   dsimp only
   split
   ·simp
   ·cases hn:s.nodes[m.toNat]? with
    | none=>simp
    | some n=>
     dsimp only
     have h1:=hw x (List.mem_of_getElem? hx)
     have h2:=ht n (List.mem_of_getElem? hn)
     have h3:=List.length_filter_le (fun t=>!holdsB [t] n.labels) x.wher
     have h4:=List.length_filter_le (fun t=>!bearsB x.bears [t]) n.taints
     have h5:=cntI_rng p.length (aboutF s p i x.with_ false)
     have h6:=cntI_rng p.length (aboutF s p i x.apart true)
     have h7:=cntI_rng p.length (doubleF s p i)
     unfold termsN taintsN about8 double8
     repeat' split
     all_goals dsimp only
     all_goals omega
theorem shaped_lists {s:Snap} (h:shapedB s=true):(∀ x∈s.pods,x.wher.length≤1000)∧(∀ x∈s.nodes,x.taints.length≤1000):=by
 unfold shapedB at h
 simp only [Bool.and_eq_true,List.all_eq_true] at h
 refine ⟨fun x hx=>?_,fun x hx=>?_⟩
 ·have h1:=h.2.1.2 x hx
  unfold podB at h1
  simp only [Bool.and_eq_true] at h1
  have h2:=h1.1.1.2.1.2
  unfold z0 checkT at h2
  split at h2
  ·rename_i h3
   simp only [Bool.and_eq_true,decide_eq_true_eq] at h3
   omega
  ·simp at h2
 ·have h1:=h.2.1.1 x hx
  unfold nodeB at h1
  simp only [Bool.and_eq_true] at h1
  have h2:=h1.2
  unfold z0 checkL at h2
  split at h2
  ·rename_i h3
   simp only [Bool.and_eq_true,decide_eq_true_eq] at h3
   omega
  ·simp at h2
theorem skewV_rng {s:Snap} {p:List Int} {o:Nat} (h:p.length≤1000) (hlen:p.length=s.pods.length) (hn:s.nodes.length≤1000) (hs:0≤skewOf s o):0≤skewV s p o∧skewV s p o≤1000000:=by
 unfold skewV
 have hr:=spread_rng (o:=o) h hlen hn
 generalize spreadL s p o=L at *
 cases L with
 | nil=>simp
 | cons x L=>
  have r1:=fold_rng min_or (lo:=0) (hi:=1000000) (l:=L) (z:=x) (hr x (by simp)).1 (hr x (by simp)).2 (fun y hy=>hr y (by simp [hy]))
  have r2:=fold_rng max_or (lo:=0) (hi:=1000000) (l:=L) (z:=x) (hr x (by simp)).1 (hr x (by simp)).2 (fun y hy=>hr y (by simp [hy]))
  simp only [minL,maxL]
  split<;>omega
theorem placed_rng {s:Snap} {p:List Int} {o:Nat} (hlen:p.length=s.pods.length):0≤placedN s p o∧placedN s p o≤p.length:=by
 have:(ownedL s p o).length≤p.length:=by rw [← ownedK_all hlen];exact ownedK_len _ _ _ _
 unfold placedN;omega
theorem s238_L8x {P K:Prop} (k:K) (h:Goal K→P:=by
 intro zk
 (first|refine Walk ?_|refine JC.block ?_|refine JC.drawN 22 rfl [0,1,2,3,4,5,6,7,8,9,10,11,12,13,14,15,16,17] [8,9,10,12,13,14,17] Tryz_mixed (by decide +kernel) ?_|(refine JO.eff rfl rfl rfl (JEff.callV rfl (r7_Check (by exact vta) (by exact vta)) rfl ?_);intro zqa zqb)|(refine JO.eff rfl rfl rfl (JEff.callRow rfl (r8_caps (by exact vta) (by exact vta) (by assumption)) rfl ?_);intro zqa zqb zqc zqd zqe zqf)|(refine JO.eff rfl rfl rfl (JEff.callV rfl (r8_of _ _ (by exact vta) (by exact vta) (by assumption) (by omega)) rfl ?_);intro zqa zqb)|(refine JO.eff rfl rfl rfl (JEff.callV rfl (r8_skew _ (by assumption) (by assumption) (by exact vta) (by exact vta)) rfl ?_);intro zqa zqb)|(refine JO.eff rfl rfl rfl (JEff.callV rfl (r7_PlacedOf _ (by assumption) (by assumption) (by exact vta) (by exact vta)) rfl ?_);intro zqa zqb)|(refine WBox ?_))
 (repeat (first|revert zqg|revert zqf|revert zqe|revert zqd|revert zqc|revert zqb|revert zqa))
 exact zk.k):P:=h ⟨k⟩
theorem r8_All {S:SHeap} {u v:Value} {s:Snap} {p:List Int} (hu:rSnap.V S u s) (hv:(rSlice 8 rI64).V S v p):FnLE Tryz.prog 238 #[u,v] S 32 rClause (allL s p) (.int .i64 (checkP s p)):=by
 obtain ⟨a,c,rfl,_,_,hb,_⟩:=V_slice.1 hv
 unfold big at hb
 (refine Fn.enter (args:=[u,.slice a p.length c]) Tryz.func238 rfl Tryz.ntmps238 rfl ?_;intro w0)
 repeat (refine s238_L8x ?_;intros)
 refine JC.cond rfl (fun he=>?_) (fun he=>?_)
 ·have he:¬ checkP s p=0:=by simpa using he
  repeat (refine s238_L8x ?_;intros)
  (refine JX.ret2 Tryz.results238 (ResV.tmp rfl) (ResV.tmp rfl) (List.nil_sublist _) ?_)
  exact ⟨rfl,_,rfl,by unfold allL;rw [if_neg he];exact V_nil⟩
 have hok:checkP s p=0:=by simpa using he
 obtain ⟨hs,hlen,hodd⟩:=checkP_ok hok
 have hsh:=(checkS_ok hs).1
 obtain ⟨hn8,hp24,ho8⟩:=shaped_small hsh
 obtain ⟨hwl,htl⟩:=shaped_lists hsh
 have hof:=of8_rng (s:=s) (p:=p) (by omega) hwl htl
 have hcl:(capsC s p).length≤40:=by unfold capsC;rw [capTo_len];omega
 repeat (refine s238_L8x ?_;intros)
 rename_i ra0 rc0 S0 vs0 hl0 hv0
 have h0:capsC s p=capsC s p++kindsTo s p 0:=by simp [kindsTo]
 rw [h0] at hv0
 rw [h0]
 refine JC.loopF (σ:=Nat × Option Addr × Nat × List Value) [(1,_),(2,_)] (fun q=>[(7,.slice q.2.1 ((fun j=>capsC s p++kindsTo s p j) q.1).length q.2.2.1),(8,((fun j=>.int .i64 ((j:Int)+2)) q.1))]) (fun q=>[.row w0.heap.size 41 (Rp.sz rClause) (.slice q.2.1 ((fun j=>capsC s p++kindsTo s p j) q.1).length q.2.2.1) ((fun j=>capsC s p++kindsTo s p j) q.1).length (flatCells q.2.2.2)]) (fun Sj q=>q.1≤5∧allV rClause Sj q.2.2.2 ((fun j=>capsC s p++kindsTo s p j) q.1)∧((fun j=>True) q.1)) (fun q=>5 - q.1) (0,ra0,rc0,vs0) (by exact sba) (by exact sba) (by first|rfl|simp) (⟨Nat.zero_le _,hv0,trivial⟩) ?_;rintro Sj ⟨j,raj,rcj,vsj⟩ hlj ⟨hj,hvj,hij⟩;(try dsimp only at hj hvj hij);dsimp only [List.cons_append,List.nil_append]
 have hkl:=kindsTo_len s p j
 have hkl2:j*p.length≤5*24:=Nat.mul_le_mul (by omega) (by omega)
 have hXl:(capsC s p++kindsTo s p j).length≤200:=by rw [List.length_append];omega
 repeat (refine s238_L8x ?_;intros)
 refine JC.cond rfl (fun hc=>?_) (fun hc=>?_)
 ·have hj':j < 5:=by have:=of_decide_eq_true hc;omega
  repeat (refine s238_L8x ?_;intros)
  have h1:capsC s p++kindsTo s p j=capsC s p++kindsTo s p j++podsTo s p ((j:Int)+2) 0:=by simp [podsTo]
  rw [h1] at hvj
  rw [h1]
  refine JC.loopF (σ:=Nat × Option Addr × Nat × List Value) [(1,_),(2,_),(8,_)] (fun q=>[(7,.slice q.2.1 ((fun i=>capsC s p++kindsTo s p j++podsTo s p ((j:Int)+2) i) q.1).length q.2.2.1),(9,((fun i=>.int .i64 i) q.1))]) (fun q=>[.row w0.heap.size 41 (Rp.sz rClause) (.slice q.2.1 ((fun i=>capsC s p++kindsTo s p j++podsTo s p ((j:Int)+2) i) q.1).length q.2.2.1) ((fun i=>capsC s p++kindsTo s p j++podsTo s p ((j:Int)+2) i) q.1).length (flatCells q.2.2.2)]) (fun Si q=>q.1≤p.length∧allV rClause Si q.2.2.2 ((fun i=>capsC s p++kindsTo s p j++podsTo s p ((j:Int)+2) i) q.1)∧((fun i=>True) q.1)) (fun q=>p.length - q.1) (0,raj,rcj,vsj) (by exact sba) (by exact sba) (by first|rfl|simp) (⟨Nat.zero_le _,hvj.mono (by exact lea),trivial⟩) ?_;rintro Si ⟨i,rai,rci,vsi⟩ hli ⟨hi,hvi,hii⟩;(try dsimp only at hi hvi hii);dsimp only [List.cons_append,List.nil_append]
  have hpl:=podsTo_len s p ((j:Int)+2) i
  have hYl:(capsC s p++kindsTo s p j++podsTo s p ((j:Int)+2) i).length≤300:=by rw [List.length_append];omega
  repeat (refine s238_L8x ?_;intros)
  refine JC.cond rfl (fun hc2=>?_) (fun hc2=>?_)
  ·have hi':=dlt hc2
   have hst:=podsTo_step s p ((j:Int)+2) i
   have hofr:=hof ((j:Int)+2) i
   repeat (refine s238_L8x ?_;intros)
   refine JC.cond rfl (fun hq=>?_) (fun hq=>?_)
   ·have hst2:capsC s p++kindsTo s p j++podsTo s p ((j:Int)+2) (i+1)=capsC s p++kindsTo s p j++podsTo s p ((j:Int)+2) i++[⟨(j:Int)+2,i,0,(of8 s p ((j:Int)+2) i).1⟩]:=by
     rw [hst,podC1,if_pos hq,List.append_assoc (capsC s p++kindsTo s p j)]
    have hV:rClause.V Si (.agg (flatCells [.int .i64 ((j:Int)+2),.int .i64 i,.int .i64 0,.int .i64 (of8 s p ((j:Int)+2) i).1]).toArray) ⟨(j:Int)+2,i,0,(of8 s p ((j:Int)+2) i).1⟩:=V_clause.2 ⟨by simp [flatCells,Value.cells],by unfold Rng;dsimp only;omega,by unfold Rng;dsimp only;omega,by unfold Rng;dsimp only;omega,by unfold Rng;dsimp only;omega⟩
    repeat (refine s238_L8x ?_;intros)
    (refine JO.eff rfl rfl rfl (JEff.build (rep:=rClause) (ys:=[(⟨(j:Int)+2,i,0,(of8 s p ((j:Int)+2) i).1⟩:Clause)]) rfl rfl ⟨⟨(hV.mono (by exact lea)),nna⟩,trivial⟩ rfl rfl rfl rfl ?_);intro bb hbb hvv);(repeat (first|(refine Walk ?_;intros)|refine JC.block ?_));(refine JO.eff rfl rfl rfl (JEff.appendL (rep:=rClause) rfl rfl rfl rfl (List.Perm.swap _ _ _) (by exact hvv.flat) (by intro c hc;exact flat_one (fun v hv=>(hvv.size v hv).2) c hc) (by first|omega|(unfold big;omega)) (by unfold big;omega) (by first|exact rowT_ok|(intro l hl;cases hl)) rfl ?_);intro a2 c2;clear hvv hbb)
    repeat (refine s238_L8x ?_;intros)
    exact JX.roundF (i+1,a2,c2,vsi++[((.agg (flatCells [.int .i64 ((j:Int)+2),.int .i64 i,.int .i64 0,.int .i64 (of8 s p ((j:Int)+2) i).1]).toArray))]) (by exact lea) ⟨by omega,by (try dsimp only);rw [hst2];exact allV_add (by exact lea) hvi (hV.mono (by exact lea)) nna,(trivial)⟩ (by (try dsimp only);omega) (by (try dsimp only);rw [hst2];(simp [flat_append]<;>omega)) (by (try dsimp only);rw [hst2];simp only [List.length_append,List.length_cons,List.length_nil];exact sba) (by exact sba)
   ·have hst2:capsC s p++kindsTo s p j++podsTo s p ((j:Int)+2) (i+1)=capsC s p++kindsTo s p j++podsTo s p ((j:Int)+2) i:=by
     rw [hst,podC1,if_neg (by rw [hq];simp),List.append_nil]
    repeat (refine s238_L8x ?_;intros)
    exact JX.roundF (i+1,rai,rci,vsi) (by exact lea) ⟨by omega,by (try dsimp only);rw [hst2];exact hvi.mono (by exact lea),(trivial)⟩ (by (try dsimp only);omega) (by (try dsimp only);rw [hst2]) (by (try dsimp only);rw [hst2];exact sba) (by exact sba)
  ·have hi':=dnlt hc2
   obtain rfl:i=p.length:=by omega
   have h2:capsC s p++kindsTo s p j++podsTo s p ((j:Int)+2) p.length=capsC s p++kindsTo s p (j+1):=by rw [kindsTo_step,List.append_assoc]
   rw [h2] at hvi
   rw [h2]
   repeat (refine s238_L8x ?_;intros)
   exact JX.roundF (j+1,rai,rci,vsi) (by exact lea) ⟨by omega,hvi.mono (by exact lea),trivial⟩ (by (try dsimp only);omega) rfl (by exact sba) (by exact sba)
 ·obtain rfl:j=5:=by have:=of_decide_eq_false hc;omega
  repeat (refine s238_L8x ?_;intros)
  have h3:capsC s p++kindsTo s p 5=capsC s p++kindsTo s p 5++spreadTo s p 0:=by simp [spreadTo]
  rw [h3] at hvj
  rw [h3]
  refine JC.loopF (σ:=Nat × Option Addr × Nat × List Value) [(1,_),(2,_)] (fun q=>[(7,.slice q.2.1 ((fun o=>capsC s p++kindsTo s p 5++spreadTo s p o) q.1).length q.2.2.1),(12,((fun o=>.int .i64 o) q.1))]) (fun q=>[.row w0.heap.size 41 (Rp.sz rClause) (.slice q.2.1 ((fun o=>capsC s p++kindsTo s p 5++spreadTo s p o) q.1).length q.2.2.1) ((fun o=>capsC s p++kindsTo s p 5++spreadTo s p o) q.1).length (flatCells q.2.2.2)]) (fun So q=>q.1≤s.owners.length∧allV rClause So q.2.2.2 ((fun o=>capsC s p++kindsTo s p 5++spreadTo s p o) q.1)∧((fun o=>True) q.1)) (fun q=>s.owners.length - q.1) (0,raj,rcj,vsj) (by exact sba) (by exact sba) (by first|rfl|simp) (⟨Nat.zero_le _,hvj.mono (by exact lea),trivial⟩) ?_;rintro So ⟨o,rao,rco,vso⟩ hlo ⟨ho,hvo,hio⟩;(try dsimp only at ho hvo hio);dsimp only [List.cons_append,List.nil_append]
  have hsl:=spreadTo_len s p o
  have hYl:(capsC s p++kindsTo s p 5++spreadTo s p o).length≤300:=by rw [List.length_append];omega
  repeat (refine s238_L8x ?_;intros)
  refine JC.cond rfl (fun hc2=>?_) (fun hc2=>?_)
  ·have ho':=dlt hc2
   obtain ⟨ow,how,_⟩:=drop_at ho'
   have hst:=spreadTo_step s p o
   have htp:topoOf s o=ow.topo:=by simp [topoOf,how]
   have hsr:=shaped_owner hsh ow (List.mem_of_getElem? how)
   have hskr:=skewV_rng (o:=o) (p:=p) (s:=s) (by omega) hlen (by omega) (by simp [skewOf,how];omega)
   repeat (refine s238_L8x ?_;intros)
   refine JC.cond rfl (fun hq=>?_) (fun hq=>?_)
   ·have hq:¬ topoOf s o=noS:=by rw [htp];simpa [noS] using hq
    have hst2:capsC s p++kindsTo s p 5++spreadTo s p (o+1)=capsC s p++kindsTo s p 5++spreadTo s p o++[⟨7,o,0,skewV s p o⟩]:=by
     rw [hst,spreadC1,if_neg hq,List.append_assoc (capsC s p++kindsTo s p 5)]
    have hV:rClause.V So (.agg (flatCells [.int .i64 7,.int .i64 o,.int .i64 0,.int .i64 (skewV s p o)]).toArray) ⟨7,o,0,skewV s p o⟩:=V_clause.2 ⟨by simp [flatCells,Value.cells],by unfold Rng;dsimp only;omega,by unfold Rng;dsimp only;omega,by unfold Rng;dsimp only;omega,by unfold Rng;dsimp only;omega⟩
    repeat (refine s238_L8x ?_;intros)
    (refine JO.eff rfl rfl rfl (JEff.build (rep:=rClause) (ys:=[(⟨7,o,0,skewV s p o⟩:Clause)]) rfl rfl ⟨⟨(hV.mono (by exact lea)),nna⟩,trivial⟩ rfl rfl rfl rfl ?_);intro bb hbb hvv);(repeat (first|(refine Walk ?_;intros)|refine JC.block ?_));(refine JO.eff rfl rfl rfl (JEff.appendL (rep:=rClause) rfl rfl rfl rfl (List.Perm.swap _ _ _) (by exact hvv.flat) (by intro c hc;exact flat_one (fun v hv=>(hvv.size v hv).2) c hc) (by first|omega|(unfold big;omega)) (by unfold big;omega) (by first|exact rowT_ok|(intro l hl;cases hl)) rfl ?_);intro a2 c2;clear hvv hbb)
    repeat (refine s238_L8x ?_;intros)
    exact JX.roundF (o+1,a2,c2,vso++[((.agg (flatCells [.int .i64 7,.int .i64 o,.int .i64 0,.int .i64 (skewV s p o)]).toArray))]) (by exact lea) ⟨by omega,by (try dsimp only);rw [hst2];exact allV_add (by exact lea) hvo (hV.mono (by exact lea)) nna,(trivial)⟩ (by (try dsimp only);omega) (by (try dsimp only);rw [hst2];(simp [flat_append]<;>omega)) (by (try dsimp only);rw [hst2];simp only [List.length_append,List.length_cons,List.length_nil];exact sba) (by exact sba)
   ·have hq:topoOf s o=noS:=by rw [htp];simpa [noS] using hq
    have hst2:capsC s p++kindsTo s p 5++spreadTo s p (o+1)=capsC s p++kindsTo s p 5++spreadTo s p o:=by
     rw [hst,spreadC1,if_pos hq,List.append_nil]
    repeat (refine s238_L8x ?_;intros)
    exact JX.roundF (o+1,rao,rco,vso) (by exact lea) ⟨by omega,by (try dsimp only);rw [hst2];exact hvo.mono (by exact lea),(trivial)⟩ (by (try dsimp only);omega) (by (try dsimp only);rw [hst2]) (by (try dsimp only);rw [hst2];exact sba) (by exact sba)
  ·have ho':=dnlt hc2
   obtain rfl:o=s.owners.length:=by omega
   repeat (refine s238_L8x ?_;intros)
   have h4:capsC s p++kindsTo s p 5++spreadTo s p s.owners.length=capsC s p++kindsTo s p 5++spreadTo s p s.owners.length++minTo s p 0:=by simp [minTo]
   rw [h4] at hvo
   rw [h4]
   refine JC.loopF (σ:=Nat × Option Addr × Nat × List Value) [(1,_),(2,_)] (fun q=>[(7,.slice q.2.1 ((fun m=>capsC s p++kindsTo s p 5++spreadTo s p s.owners.length++minTo s p m) q.1).length q.2.2.1),(13,((fun m=>.int .i64 m) q.1))]) (fun q=>[.row w0.heap.size 41 (Rp.sz rClause) (.slice q.2.1 ((fun m=>capsC s p++kindsTo s p 5++spreadTo s p s.owners.length++minTo s p m) q.1).length q.2.2.1) ((fun m=>capsC s p++kindsTo s p 5++spreadTo s p s.owners.length++minTo s p m) q.1).length (flatCells q.2.2.2)]) (fun Sm q=>q.1≤s.owners.length∧allV rClause Sm q.2.2.2 ((fun m=>capsC s p++kindsTo s p 5++spreadTo s p s.owners.length++minTo s p m) q.1)∧((fun m=>True) q.1)) (fun q=>s.owners.length - q.1) (0,rao,rco,vso) (by exact sba) (by exact sba) (by first|rfl|simp) (⟨Nat.zero_le _,hvo.mono (by exact lea),trivial⟩) ?_;rintro Sm ⟨m,ram,rcm,vsm⟩ hlm ⟨hm,hvm,him⟩;(try dsimp only at hm hvm him);dsimp only [List.cons_append,List.nil_append]
   have hml:=minTo_len s p m
   have hZl:(capsC s p++kindsTo s p 5++spreadTo s p s.owners.length++minTo s p m).length≤400:=by rw [List.length_append];omega
   repeat (refine s238_L8x ?_;intros)
   refine JC.cond rfl (fun hc3=>?_) (fun hc3=>?_)
   ·have hm':=dlt hc3
    obtain ⟨ow,how,_⟩:=drop_at hm'
    have hst:=minTo_step s p m
    have hmo:minOf s m=ow.min:=by simp [minOf,how]
    have hsr:=shaped_owner hsh ow (List.mem_of_getElem? how)
    have hplr:=placed_rng (s:=s) (p:=p) (o:=m) hlen
    have hst2:capsC s p++kindsTo s p 5++spreadTo s p s.owners.length++minTo s p (m+1)=capsC s p++kindsTo s p 5++spreadTo s p s.owners.length++minTo s p m++[minC1 s p m]:=by
     rw [hst,List.append_assoc (capsC s p++kindsTo s p 5++spreadTo s p s.owners.length)]
    have hV:rClause.V Sm (.agg (flatCells [.int .i64 8,.int .i64 m,.int .i64 0,.int .i64 (max 0 (ow.min - placedN s p m))]).toArray) (minC1 s p m):=V_clause.2 ⟨by simp [flatCells,Value.cells,minC1,hmo],by unfold Rng minC1;dsimp only;omega,by unfold Rng minC1;dsimp only;omega,by unfold Rng minC1;dsimp only;omega,by unfold Rng minC1;dsimp only;omega⟩
    repeat (refine s238_L8x ?_;intros)
    (refine JO.eff rfl rfl rfl (JEff.build (rep:=rClause) (ys:=[minC1 s p m]) rfl rfl ⟨⟨(hV.mono (by exact lea)),nna⟩,trivial⟩ rfl rfl rfl rfl ?_);intro bb hbb hvv);(repeat (first|(refine Walk ?_;intros)|refine JC.block ?_));(refine JO.eff rfl rfl rfl (JEff.appendL (rep:=rClause) rfl rfl rfl rfl (List.Perm.swap _ _ _) (by exact hvv.flat) (by intro c hc;exact flat_one (fun v hv=>(hvv.size v hv).2) c hc) (by first|omega|(unfold big;omega)) (by unfold big;omega) (by first|exact rowT_ok|(intro l hl;cases hl)) rfl ?_);intro a2 c2;clear hvv hbb)
    repeat (refine s238_L8x ?_;intros)
    exact JX.roundF (m+1,a2,c2,vsm++[((.agg (flatCells [.int .i64 8,.int .i64 m,.int .i64 0,.int .i64 (max 0 (ow.min - placedN s p m))]).toArray))]) (by exact lea) ⟨by omega,by (try dsimp only);rw [hst2];exact allV_add (by exact lea) hvm (hV.mono (by exact lea)) nna,(trivial)⟩ (by (try dsimp only);omega) (by (try dsimp only);rw [hst2];(simp [flat_append]<;>omega)) (by (try dsimp only);rw [hst2];simp only [List.length_append,List.length_cons,List.length_nil];exact sba) (by exact sba)
   ·have hm':=dnlt hc3
    obtain rfl:m=s.owners.length:=by omega
    have hfin:capsC s p++kindsTo s p 5++spreadTo s p s.owners.length++minTo s p s.owners.length=allL s p:=by unfold allL;rw [if_pos hok];rfl
    rw [hfin] at hvm hZl
    rw [hfin]
    repeat (refine s238_L8x ?_;intros)
    refine JX.freezeRow (rep:=rClause) (bt:=32) hvm rfl (by unfold big;omega) (by unfold big;omega) (fun S9 hl9 hV9=>?_)
    (refine JX.ret2 Tryz.results238 (ResV.tmp rfl) (ResV.tmp rfl) (List.nil_sublist _) ?_)
    exact ⟨rfl,_,by rw [hok],hV9⟩
end Go.Dr
namespace Go.Dr
open Go.Proofs
set_option maxRecDepth 20000
set_option maxHeartbeats 2000000
set_option linter.unusedSimpArgs false
set_option linter.unusedVariables false
theorem slice_bytes {α:Type} {bt:Nat} {rep:Rp α} {S:SHeap} {v:Value} {xs:List α} (h:(rSlice bt rep).V S v xs):xs.length*bt≤big:=by
 obtain ⟨_,_,_,_,h,_⟩:=V_slice.1 h;exact h
theorem slice_at {α:Type} {bt:Nat} {rep:Rp α} {S:SHeap} {v:Value} {xs:List α} (h:(rSlice bt rep).V S v xs):∀ x∈xs,∃ q,PtrTo S q rep x:=by
 obtain ⟨a,c,rfl,_,_,_,hh⟩:=V_slice.1 h
 intro x hx
 obtain ⟨i,hi⟩:=List.getElem?_of_mem hx
 obtain ⟨ad,_,hp⟩:=hh i x hi
 exact ⟨_,hp⟩
end Go.Dr
namespace Go.Dr
def findC (l:List Clause) (c:Clause):Int:=match l.find? (isC c.kind c.a c.b) with|some d=>d.by_|none=>0
def worseF (l:List Clause) (c:Clause):Bool:=decide (findC l c < c.by_)
def worseV (s:Snap) (p q:List Int):List Clause × Int:=
 if ¬ checkP s p=0 then ([],checkP s p) else if ¬ checkP s q=0 then ([],checkP s q) else ((allL s q).filter (worseF (allL s p)),0)
end Go.Dr
namespace Go.Dr
open Go.Proofs
set_option maxRecDepth 20000
set_option maxHeartbeats 2000000
set_option linter.unusedSimpArgs false
set_option linter.unusedVariables false
theorem allC_rng {s:Snap} {p:List Int} (hok:checkP s p=0):(allC s p).length≤400∧∀ c∈allC s p,0≤c.by_∧c.by_≤Qty:=by
 obtain ⟨hs,hlen,hodd⟩:=checkP_ok hok
 have hsh:=(checkS_ok hs).1
 obtain ⟨hn8,hp24,ho8⟩:=shaped_small hsh
 obtain ⟨hwl,htl⟩:=shaped_lists hsh
 have hof:=of8_rng (s:=s) (p:=p) (by omega) hwl htl
 constructor
 ·unfold allC
  have h1:(capsC s p).length≤40:=by unfold capsC;rw [capTo_len];omega
  have h2:=kindsTo_len s p 5
  have h3:=spreadTo_len s p s.owners.length
  have h4:=minTo_len s p s.owners.length
  simp only [List.length_append]
  omega
 ·intro c hc
  unfold allC at hc
  simp only [List.mem_append] at hc
  rcases hc with ((hc|hc)|hc)|hc
  ·unfold capsC capTo at hc
   simp only [List.range_zero,List.map_nil,List.append_nil,List.mem_flatMap,List.mem_range,List.mem_map] at hc
   obtain ⟨n,hn,k,hk,rfl⟩:=hc
   obtain ⟨hul,hur⟩:=used_fine hs hlen (n:Int)
   have hu:0≤at0 (usedV s p n) k∧at0 (usedV s p n) k≤Qty:=by
    have:(usedV s p n)[k]?=some ((usedV s p n)[k]'(by omega)):=List.getElem?_eq_getElem (by omega)
    rw [at0_some this]
    exact hur _ (List.getElem_mem _)
   have hcp:0≤at0 (capOf s n) k:=by
    unfold at0
    rw [List.getD_eq_getElem?_getD]
    cases h:(capOf s n)[k]? with
    | none=>simp
    | some y=>
     unfold capOf at h
     obtain ⟨x,hx⟩:∃ x,s.nodes[n]?=some x:=⟨_,List.getElem?_eq_getElem hn⟩
     rw [hx] at h
     exact (shaped_cap hsh x (List.mem_of_getElem? hx) y (List.mem_of_getElem? h)).1
   simp only [capN]
   unfold Qty at *
   omega
  ·unfold kindsTo podsTo at hc
   simp only [List.mem_flatMap,List.mem_range] at hc
   obtain ⟨t,_,i,_,hc⟩:=hc
   unfold podC1 at hc
   split at hc
   ·simp only [List.mem_singleton] at hc
    subst hc
    have:=hof ((t:Int)+2) i
    simp only [Qty];omega
   ·cases hc
  ·unfold spreadTo at hc
   simp only [List.mem_flatMap,List.mem_range] at hc
   obtain ⟨o,ho,hc⟩:=hc
   unfold spreadC1 at hc
   split at hc
   ·cases hc
   ·simp only [List.mem_singleton] at hc
    subst hc
    obtain ⟨ow,how⟩:∃ ow,s.owners[o]?=some ow:=⟨_,List.getElem?_eq_getElem ho⟩
    have hsr:=shaped_owner hsh ow (List.mem_of_getElem? how)
    have:=skewV_rng (o:=o) (p:=p) (s:=s) (by omega) hlen (by omega) (by simp [skewOf,how];omega)
    simp only [Qty];omega
  ·unfold minTo at hc
   simp only [List.mem_map,List.mem_range] at hc
   obtain ⟨o,ho,rfl⟩:=hc
   obtain ⟨ow,how⟩:∃ ow,s.owners[o]?=some ow:=⟨_,List.getElem?_eq_getElem ho⟩
   have hsr:=shaped_owner hsh ow (List.mem_of_getElem? how)
   have hplr:=placed_rng (s:=s) (p:=p) (o:=o) hlen
   have hmo:minOf s o=ow.min:=by simp [minOf,how]
   simp only [minC1,hmo,Qty];omega
theorem allL_rng (s:Snap) (p:List Int):(allL s p).length≤400∧∀ c∈allL s p,0≤c.by_∧c.by_≤Qty:=by
 unfold allL
 split
 ·rename_i h;exact allC_rng h
 ·simp
theorem s256_L9r {P K:Prop} (k:K) (h:Goal K→P:=by
 intro zk
 (first|refine Walk ?_|refine JC.block ?_|refine JC.drawN 4 rfl [0,1,2,3,4,5,6,7,8,9,10,11,12,13,14,15,16,17,18,19,20,21,22,23,24,25,26,27] [0,1,2,3,4,5,6,7,8,9,10,11,12,13,14,15,16,17,18,19,20,21,22,23,24,25,26,27] Tryz_mixed (by decide +kernel) ?_|(refine WBox ?_))
 (repeat (first|revert zqg|revert zqf|revert zqe|revert zqd|revert zqc|revert zqb|revert zqa))
 exact zk.k):P:=h ⟨k⟩
theorem r9_find {S:SHeap} {u v:Value} {L:List Clause} {c:Clause} (hu:(rSlice 32 rClause).V S u L) (hv:rClause.V S v c):FnV Tryz.prog 256 #[u,v] S (.int .i64 (findC L c)):=by
 obtain ⟨a0,c0,rfl,_,_,hb,_⟩:=V_slice.1 hu
 unfold big at hb
 (refine Fn.enter (args:=[.slice a0 L.length c0,v]) Tryz.func256 rfl Tryz.ntmps256 rfl ?_;intro w0)
 repeat (refine s256_L9r ?_;intros)
 unfold findC
 refine JC.loopF0 [(0,_),(3,_)] (fun (k:Nat)=>[(5,.int .i64 k)]) (fun Sk k=>k≤L.length∧((L.drop k).find? (isC c.kind c.a c.b)=L.find? (isC c.kind c.a c.b))) (fun k=>L.length - k) 0 (by exact sba) (by exact sba) ⟨Nat.zero_le _,rfl⟩ ?_;intro Sk k hlk hik;obtain ⟨hk,hik⟩:=hik;(try dsimp only at hk hik);dsimp only [List.cons_append,List.nil_append]
 repeat (refine s256_L9r ?_;intros)
 refine JC.cond rfl (fun hc=>?_) (fun hc=>?_)
 ·have hk':=dlt hc
  obtain ⟨x,hx,hd⟩:=drop_at hk'
  rw [hd,List.find?_cons] at hik
  repeat' (first|(refine s256_L9r ?_;intros)|(refine JO.guard rfl rfl rfl rfl ?_ ?_<;>intro _)|(refine JC.cond rfl ?_ ?_<;>intro _))
  all_goals first
   | ((refine JX.ret1 Tryz.results256 (ResV.tmp rfl) (List.nil_sublist _) ?_);have hx:isC c.kind c.a c.b x=true:=(by simp [isC, *]);rw [hx] at hik;exact ⟨rfl,by rw [← hik]⟩)
   | (exfalso;simp_all;done)
   | (have hx:isC c.kind c.a c.b x=false:=(by simp_all [isC]);rw [hx] at hik;exact JX.roundF (k+1) (by exact lea) ⟨by omega,hik⟩ (by (try dsimp only);omega) rfl (by exact sba) (by exact sba))
 ·have hk':=dnlt hc
  rw [List.drop_eq_nil_of_le hk'] at hik
  repeat (refine s256_L9r ?_;intros)
  (refine JX.ret1 Tryz.results256 (ResV.tmp rfl) (List.nil_sublist _) ?_)
  exact ⟨rfl,by rw [← hik];rfl⟩
theorem s173_L9r {P K:Prop} (k:K) (h:Goal K→P:=by
 intro zk
 (first|refine Walk ?_|refine JC.block ?_|refine JC.drawN 11 rfl [0,1,2,3,4,5,6,7,8,9,10,11] [5,6,7,8,9,11] Tryz_mixed (by decide +kernel) ?_|(refine JO.eff rfl rfl rfl (JEff.callLE rfl (r8_All (by exact vta) (by exact vta)) rfl ?_);intro zqa zqb zqc zqd zqe zqf)|(refine JO.eff rfl rfl rfl (JEff.callV rfl (r9_find (by exact vta) (by exact vta)) rfl ?_);intro zqa zqb)|(refine WBox ?_))
 (repeat (first|revert zqg|revert zqf|revert zqe|revert zqd|revert zqc|revert zqb|revert zqa))
 exact zk.k):P:=h ⟨k⟩
theorem r9_Worse {S:SHeap} {u v v2:Value} {s:Snap} {p q:List Int} (hu:rSnap.V S u s) (hv:(rSlice 8 rI64).V S v p) (hv2:(rSlice 8 rI64).V S v2 q):FnLE Tryz.prog 173 #[u,v,v2] S 32 rClause (worseV s p q).1 (.int .i64 (worseV s p q).2):=by
 (refine Fn.enter (args:=[u,v,v2]) Tryz.func173 rfl Tryz.ntmps173 rfl ?_;intro w0)
 repeat (refine s173_L9r ?_;intros)
 refine JC.cond rfl (fun h1=>?_) (fun h1=>?_)
 ·have h1:¬ checkP s p=0:=by simpa using h1
  repeat (refine s173_L9r ?_;intros)
  (refine JX.ret2 Tryz.results173 (ResV.tmp rfl) (ResV.tmp rfl) (List.nil_sublist _) ?_)
  unfold worseV
  rw [if_pos h1]
  exact ⟨rfl,_,rfl,V_nil⟩
 have h1:¬ ¬ checkP s p=0:=by simpa using h1
 repeat (refine s173_L9r ?_;intros)
 refine JC.cond rfl (fun h2=>?_) (fun h2=>?_)
 ·have h2:¬ checkP s q=0:=by simpa using h2
  repeat (refine s173_L9r ?_;intros)
  (refine JX.ret2 Tryz.results173 (ResV.tmp rfl) (ResV.tmp rfl) (List.nil_sublist _) ?_)
  unfold worseV
  rw [if_neg h1,if_pos h2]
  exact ⟨rfl,_,rfl,V_nil⟩
 have h2:¬ ¬ checkP s q=0:=by simpa using h2
 unfold worseV
 rw [if_neg h1,if_neg h2]
 generalize allL s p=LA at *
 generalize hL:allL s q=L at *
 have hb32:=slice_bytes (by assumption:(rSlice 32 rClause).V _ _ L)
 unfold big at hb32
 repeat (refine s173_L9r ?_;intros)
 (first|refine JC.newRow 41 (Rp.sz rClause) ?_|refine JO.newRow 41 (Rp.sz rClause) ?_|refine JX.newRow 41 (Rp.sz rClause) ?_)
 refine JC.loopF (σ:=Nat × Option Addr × Nat × List Value) [(8,_),(10,_)] (fun q=>[(12,.slice q.2.1 ((fun k=>(L.take k).filter (worseF LA)) q.1).length q.2.2.1),(13,((fun k=>.int .i64 k) q.1))]) (fun q=>[.row w0.heap.size 41 (Rp.sz rClause) (.slice q.2.1 ((fun k=>(L.take k).filter (worseF LA)) q.1).length q.2.2.1) ((fun k=>(L.take k).filter (worseF LA)) q.1).length (flatCells q.2.2.2)]) (fun Sk q=>q.1≤L.length∧allV rClause Sk q.2.2.2 ((fun k=>(L.take k).filter (worseF LA)) q.1)∧((fun k=>True) q.1)) (fun q=>L.length - q.1) (0,none,0,[]) (by exact sba) (by exact sba) (by first|rfl|simp) (⟨Nat.zero_le _,trivial,trivial⟩) ?_;rintro Sk ⟨k,rak,rck,vsk⟩ hlk ⟨hk,hvk,hik⟩;(try dsimp only at hk hvk hik);dsimp only [List.cons_append,List.nil_append]
 have hfl:=filter_len L (worseF LA) k
 repeat (refine s173_L9r ?_;intros)
 refine JC.cond rfl (fun hc=>?_) (fun hc=>?_)
 ·have hk':=dlt hc
  obtain ⟨x,hx,_⟩:=drop_at hk'
  have hst:=filter_step (f:=worseF LA) hx
  repeat (refine s173_L9r ?_;intros)
  refine JC.cond rfl (fun hf=>?_) (fun hf=>?_)
  ·rw [show worseF LA x=true from hf,if_pos rfl] at hst
   repeat (refine s173_L9r ?_;intros)
   (refine JO.eff rfl rfl rfl (JEff.build (rep:=rClause) (ys:=[x]) rfl rfl ⟨⟨((by exact vta)),nna⟩,trivial⟩ rfl rfl rfl rfl ?_);intro bb hbb hvv);(repeat (first|(refine Walk ?_;intros)|refine JC.block ?_));(refine JO.eff rfl rfl rfl (JEff.appendL (rep:=rClause) rfl rfl rfl rfl (List.Perm.swap _ _ _) (by exact hvv.flat) (by intro c hc;exact flat_one (fun v hv=>(hvv.size v hv).2) c hc) (by first|omega|(unfold big;omega)) (by unfold big;omega) (by first|exact rowT_ok|(intro l hl;cases hl)) rfl ?_);intro a2 c2;clear hvv hbb)
   repeat (refine s173_L9r ?_;intros)
   exact JX.roundF (k+1,a2,c2,vsk++[_]) (by exact lea) ⟨by omega,by (try dsimp only);rw [hst];exact allV_add (by exact lea) hvk (by assumption) nna,trivial⟩ (by (try dsimp only);omega) (by (try dsimp only);rw [hst];(simp [flat_append]<;>omega)) (by (try dsimp only);rw [hst];simp only [List.length_append,List.length_cons,List.length_nil];exact sba) (by exact sba)
  ·rw [show worseF LA x=false from hf,if_neg (by simp),List.append_nil] at hst
   repeat (refine s173_L9r ?_;intros)
   exact JX.roundF (k+1,rak,rck,vsk) (by exact lea) ⟨by omega,by (try dsimp only);rw [hst];exact hvk.mono (by exact lea),(trivial)⟩ (by (try dsimp only);omega) (by (try dsimp only);rw [hst]) (by (try dsimp only);rw [hst];exact sba) (by exact sba)
 ·have hk':=dnlt hc
  rw [List.take_of_length_le hk'] at hvk hfl ⊢
  repeat (refine s173_L9r ?_;intros)
  refine JX.freezeRow (rep:=rClause) (bt:=32) hvk rfl (by unfold big;omega) (by unfold big;omega) (fun S9 hl9 hV9=>?_)
  (refine JX.ret2 Tryz.results173 (ResV.tmp rfl) (ResV.tmp rfl) (List.nil_sublist _) ?_)
  exact ⟨rfl,_,rfl,hV9⟩
end Go.Dr
namespace Go.Dr
open Go.Proofs
set_option maxRecDepth 20000
set_option maxHeartbeats 2000000
set_option linter.unusedSimpArgs false
set_option linter.unusedVariables false
theorem step_rng {S:SHeap} {v:Value} {x:Step} (h:rStep.V S v x):Rng x.kind∧Rng x.pod∧Rng x.node:=(V_step.1 h).2
theorem s172_L7x {P K:Prop} (k:K) (h:Goal K→P:=by
 intro zk
 (first|refine Walk ?_|refine JC.block ?_|refine JC.drawN 8 rfl [0,1,2,3,4,5,6,7,8,9,10,11,12,13,14,15,16,17,18,19,20,21,22,23] [0,1,2,3,4,5,6,7,8,9,10,11,12,13,14,15,16,17,18,19,20,21,22,23] Tryz_mixed (by decide +kernel) ?_|(refine JO.eff rfl rfl rfl (JEff.callV rfl (r7_Check (by exact vta) (by exact vta)) rfl ?_);intro zqa zqb)|(refine WBox ?_))
 (repeat (first|revert zqg|revert zqf|revert zqe|revert zqd|revert zqc|revert zqb|revert zqa))
 exact zk.k):P:=h ⟨k⟩
theorem r7_Apply {S:SHeap} {u v xv:Value} {s:Snap} {p:List Int} {x:Step} (hu:rSnap.V S u s) (hv:(rSlice 8 rI64).V S v p) (hx:rStep.V S xv x):FnLE Tryz.prog 172 #[u,v,xv] S 8 rI64 (applyP s p x).1 (.int .i64 (applyP s p x).2):=by
 have hv0:=hv
 obtain ⟨a,c,rfl,_,hb8,hb,hpr⟩:=V_slice.1 hv
 unfold big at hb8 hb
 have hprn:∀ z∈p,Rng z:=fun z hz=>by
  obtain ⟨q,cs,h,_⟩:=slice_at hv z hz
  exact h.2
 obtain ⟨hxr1,hxr2,hxr3⟩:=step_rng hx
 (refine Fn.enter (args:=[u,.slice a p.length c,xv]) Tryz.func172 rfl Tryz.ntmps172 rfl ?_;intro w0)
 repeat (refine s172_L7x ?_;intros)
 refine JC.cond rfl (fun he=>?_) (fun he=>?_)
 ·have he:z0 (checkP s p)=false:=by simpa [z0] using he
  repeat (refine s172_L7x ?_;intros)
  (refine JX.ret2 Tryz.results172 (ResV.tmp rfl) (ResV.tmp rfl) (List.nil_sublist _) ?_)
  exact ⟨rfl,_,by rw [applyP,he];rfl,by rw [applyP,he];exact V_nil⟩
 have he:z0 (checkP s p)=true:=by simpa [z0] using he
 have hok:checkP s p=0:=by simpa [z0] using he
 obtain ⟨hs,hlen,hodd⟩:=checkP_ok hok
 obtain ⟨hn8,hp24,ho8⟩:=shaped_small (checkS_ok hs).1
 obtain ⟨kd,pd,nd⟩:=x
 dsimp only at hxr1 hxr2 hxr3
 unfold Rng at hxr2 hxr3
 have hap0:applyP s p ⟨kd,pd,nd⟩=(if !decide (kd=1)&&!decide (kd=2) then ([],2)
  else if decide (pd < 0)||decide ((p.length:Int)≤pd)||decide (nd < 0)||(decide (kd=2)&&decide ((s.nodes.length:Int)≤nd))||(decide (kd=1)&&!decide (nd=0)) then ([],9)
  else if (decide (at0 p pd.toNat=-1)==decide (kd=1))||(decide (kd=2)&&lostAt s nd) then ([],110)
  else (p.set pd.toNat (if kd=2 then nd else -1),0)):=by rw [applyP,he];rfl
 by_cases hk1:kd=1
 ·subst hk1
  by_cases hbad:pd < 0∨(p.length:Int)≤pd∨nd < 0∨¬ nd=0
  ·have hap:applyP s p ⟨1,pd,nd⟩=([],9):=by rw [hap0];simp;intro h1 h2 h3 h4;omega
   rw [hap]
   repeat' (first|(refine s172_L7x ?_;intros)|(refine JO.guard rfl rfl rfl rfl ?_ ?_<;>intro _)|(refine JC.cond rfl ?_ ?_<;>intro _))
   all_goals first
    | ((refine JX.ret2 Tryz.results172 (ResV.tmp rfl) (ResV.tmp rfl) (List.nil_sublist _) ?_);exact ⟨rfl,_,rfl,V_nil⟩)
    | (clear hap hap0;(exfalso;first|(simp only [decide_eq_true_eq,decide_eq_false_iff_not,Bool.not_eq_true',Bool.not_eq_false',Bool.and_eq_true,Bool.or_eq_true,Bool.and_eq_false_iff,Bool.or_eq_false_iff] at *;omega)|(simp_all;done)|(simp_all;omega)))
  ·obtain ⟨i,rfl⟩:∃ i:Nat,pd=i:=⟨pd.toNat,by omega⟩
   obtain rfl:nd=0:=by omega
   have hi:i < p.length:=by omega
   obtain ⟨z,hz,_⟩:=drop_at hi
   have ecast:((i:Int)).toNat=i:=by omega
   have hz0:=at0_some hz
   have hz':p[((i:Int)).toNat]?=some z:=by rw [ecast];exact hz
   have e1:decide ((i:Int) < 0)=false:=by simp
   have e2:decide ((p.length:Int)≤(i:Int))=false:=by simp;omega
   have hap:applyP s p ⟨1,i,0⟩=(if z=-1 then ([],110) else (p.set i (-1),0)):=by rw [hap0];simp only [e1,e2,ecast,hz0];by_cases h:z=-1<;>simp [h]
   have hzr:=hprn z (List.mem_of_getElem? hz)
   by_cases hz1:z=-1
   ·rw [hap,if_pos hz1]
    repeat' (first|(refine s172_L7x ?_;intros)|(refine JO.guard rfl rfl rfl rfl ?_ ?_<;>intro _)|(refine JC.cond rfl ?_ ?_<;>intro _))
    all_goals first
     | ((refine JX.ret2 Tryz.results172 (ResV.tmp rfl) (ResV.tmp rfl) (List.nil_sublist _) ?_);exact ⟨rfl,_,rfl,V_nil⟩)
     | (clear hap hap0;(exfalso;first|(simp only [decide_eq_true_eq,decide_eq_false_iff_not,Bool.not_eq_true',Bool.not_eq_false',Bool.and_eq_true,Bool.or_eq_true,Bool.and_eq_false_iff,Bool.or_eq_false_iff] at *;omega)|(simp_all;done)|(simp_all;omega)))
   rw [hap,if_neg hz1]
   repeat' (first|(refine s172_L7x ?_;intros)|(refine JO.guard rfl rfl rfl rfl ?_ ?_<;>intro _)|(refine JC.cond rfl ?_ ?_<;>intro _))
   all_goals first
    | (clear hap hap0;(exfalso;first|(simp only [decide_eq_true_eq,decide_eq_false_iff_not,Bool.not_eq_true',Bool.not_eq_false',Bool.and_eq_true,Bool.or_eq_true,Bool.and_eq_false_iff,Bool.or_eq_false_iff] at *;omega)|(simp_all;done)|(simp_all;omega)))
    | skip
   repeat (refine s172_L7x ?_;intros)
   refine JO.eff rfl rfl rfl (JEff.build0 rI64 rfl ?_);intro b0
   repeat (refine s172_L7x ?_;intros)
   (refine JO.eff rfl rfl rfl (JEff.appendS (rep:=rI64) rfl rfl (hv0.mono (by exact lea)) rfl rfl (List.Perm.refl _) (by unfold big;omega) (by unfold big;omega) (by intro l hl;cases hl) rfl ?_);intro a2 c2 us1 hus1)
   rw [List.nil_append,flat_int hus1,Nat.zero_add]
   refine JO.rowBlk (by omega) (fun b tl hab hbb hnc=>?_)
   subst hab
   repeat (refine s172_L7x ?_;intros)
   refine JO.pure rfl rfl rfl (JPure.indexRI rfl rfl rfl (by dsimp only;omega) (by dsimp only;omega) ?_)
   refine JO.eff rfl rfl rfl (JEff.storeIT (i:=i) rfl rfl (by unfold Rng;omega) (List.Perm.refl _) (by omega) (by intro l hl;cases hl) ?_)
   repeat (refine s172_L7x ?_;intros)
   refine JX.freezeIT (by simp) hnc (by unfold big;omega) (fun y hy=>by rcases List.mem_or_eq_of_mem_set hy with hy|rfl;exact hprn y hy;unfold Rng;omega) hbb (fun S9 hl9 hV9=>?_)
   (refine JX.ret2 Tryz.results172 (ResV.tmp rfl) (ResV.tmp rfl) (List.nil_sublist _) ?_)
   exact ⟨rfl,_,rfl,hV9⟩
 ·by_cases hk2:kd=2
  ·subst hk2
   by_cases hbad:pd < 0∨(p.length:Int)≤pd∨nd < 0∨(s.nodes.length:Int)≤nd
   ·have hap:applyP s p ⟨2,pd,nd⟩=([],9):=by rw [hap0];simp;intro h1 h2 h3 h4;omega
    rw [hap]
    repeat' (first|(refine s172_L7x ?_;intros)|(refine JO.guard rfl rfl rfl rfl ?_ ?_<;>intro _)|(refine JC.cond rfl ?_ ?_<;>intro _))
    all_goals first
     | ((refine JX.ret2 Tryz.results172 (ResV.tmp rfl) (ResV.tmp rfl) (List.nil_sublist _) ?_);exact ⟨rfl,_,rfl,V_nil⟩)
     | (clear hap hap0;(exfalso;first|(simp only [decide_eq_true_eq,decide_eq_false_iff_not,Bool.not_eq_true',Bool.not_eq_false',Bool.and_eq_true,Bool.or_eq_true,Bool.and_eq_false_iff,Bool.or_eq_false_iff] at *;omega)|(simp_all;done)|(simp_all;omega)))
   ·obtain ⟨i,rfl⟩:∃ i:Nat,pd=i:=⟨pd.toNat,by omega⟩
    obtain ⟨m,rfl⟩:∃ m:Nat,nd=m:=⟨nd.toNat,by omega⟩
    have hi:i < p.length:=by omega
    obtain ⟨z,hz,_⟩:=drop_at hi
    obtain ⟨nn,hnn,_⟩:=drop_at (l:=s.nodes) (show m < s.nodes.length by omega)
    have ecast:((i:Int)).toNat=i:=by omega
    have ecast2:((m:Int)).toNat=m:=by omega
    have hz0:=at0_some hz
    have hz':p[((i:Int)).toNat]?=some z:=by rw [ecast];exact hz
    have hnn':s.nodes[((m:Int)).toNat]?=some nn:=by rw [ecast2];exact hnn
    have hlo:lostAt s m=nn.lost:=by simp [lostAt,hnn]
    have e1:decide ((i:Int) < 0)=false:=by simp
    have e2:decide ((p.length:Int)≤(i:Int))=false:=by simp;omega
    have e3:decide ((m:Int) < 0)=false:=by simp
    have e4:decide ((s.nodes.length:Int)≤(m:Int))=false:=by simp;omega
    have hap:applyP s p ⟨2,i,m⟩=(if ¬ z=-1∨nn.lost=true then ([],110) else (p.set i m,0)):=by rw [hap0];simp only [e1,e2,e3,e4,ecast,hz0,hlo];by_cases h:z=-1<;>simp [h]
    have hzr:=hprn z (List.mem_of_getElem? hz)
    by_cases hst:¬ z=-1∨nn.lost=true
    ·rw [hap,if_pos hst]
     repeat' (first|(refine s172_L7x ?_;intros)|(refine JO.guard rfl rfl rfl rfl ?_ ?_<;>intro _)|(refine JC.cond rfl ?_ ?_<;>intro _))
     all_goals first
      | ((refine JX.ret2 Tryz.results172 (ResV.tmp rfl) (ResV.tmp rfl) (List.nil_sublist _) ?_);exact ⟨rfl,_,rfl,V_nil⟩)
      | (clear hap hap0;(exfalso;first|(simp only [decide_eq_true_eq,decide_eq_false_iff_not,Bool.not_eq_true',Bool.not_eq_false',Bool.and_eq_true,Bool.or_eq_true,Bool.and_eq_false_iff,Bool.or_eq_false_iff] at *;omega)|(simp_all;done)|(simp_all;omega)))
    rw [hap,if_neg hst]
    repeat' (first|(refine s172_L7x ?_;intros)|(refine JO.guard rfl rfl rfl rfl ?_ ?_<;>intro _)|(refine JC.cond rfl ?_ ?_<;>intro _))
    all_goals first
     | (clear hap hap0;(exfalso;first|(simp only [decide_eq_true_eq,decide_eq_false_iff_not,Bool.not_eq_true',Bool.not_eq_false',Bool.and_eq_true,Bool.or_eq_true,Bool.and_eq_false_iff,Bool.or_eq_false_iff] at *;omega)|(simp_all;done)|(simp_all;omega)))
     | skip
    repeat (refine s172_L7x ?_;intros)
    refine JO.eff rfl rfl rfl (JEff.build0 rI64 rfl ?_);intro b0
    repeat (refine s172_L7x ?_;intros)
    (refine JO.eff rfl rfl rfl (JEff.appendS (rep:=rI64) rfl rfl (hv0.mono (by exact lea)) rfl rfl (List.Perm.refl _) (by unfold big;omega) (by unfold big;omega) (by intro l hl;cases hl) rfl ?_);intro a2 c2 us1 hus1)
    rw [List.nil_append,flat_int hus1,Nat.zero_add]
    refine JO.rowBlk (by omega) (fun b tl hab hbb hnc=>?_)
    subst hab
    repeat (refine s172_L7x ?_;intros)
    refine JO.pure rfl rfl rfl (JPure.indexRI rfl rfl rfl (by dsimp only;omega) (by dsimp only;omega) ?_)
    refine JO.eff rfl rfl rfl (JEff.storeIT (i:=i) rfl rfl (by unfold Rng;omega) (List.Perm.refl _) (by omega) (by intro l hl;cases hl) ?_)
    repeat (refine s172_L7x ?_;intros)
    refine JO.pure rfl rfl rfl (JPure.indexRI rfl rfl rfl (by dsimp only;omega) (by dsimp only;omega) ?_)
    refine JO.eff rfl rfl rfl (JEff.storeIT (i:=i) rfl rfl (by unfold Rng;omega) (List.Perm.refl _) (by rw [List.length_set];omega) (by intro l hl;cases hl) ?_)
    repeat (refine s172_L7x ?_;intros)
    rw [List.set_set]
    refine JX.freezeIT (by simp) hnc (by unfold big;omega) (fun y hy=>by rcases List.mem_or_eq_of_mem_set hy with hy|rfl;exact hprn y hy;unfold Rng;omega) hbb (fun S9 hl9 hV9=>?_)
    (refine JX.ret2 Tryz.results172 (ResV.tmp rfl) (ResV.tmp rfl) (List.nil_sublist _) ?_)
    exact ⟨rfl,_,rfl,hV9⟩
  ·have hap:applyP s p ⟨kd,pd,nd⟩=([],2):=by rw [hap0];simp [hk1,hk2]
   rw [hap]
   repeat' (first|(refine s172_L7x ?_;intros)|(refine JO.guard rfl rfl rfl rfl ?_ ?_<;>intro _)|(refine JC.cond rfl ?_ ?_<;>intro _))
   all_goals first
    | ((refine JX.ret2 Tryz.results172 (ResV.tmp rfl) (ResV.tmp rfl) (List.nil_sublist _) ?_);exact ⟨rfl,_,rfl,V_nil⟩)
    | (clear hap hap0;(exfalso;first|(simp only [decide_eq_true_eq,decide_eq_false_iff_not,Bool.not_eq_true',Bool.not_eq_false',Bool.and_eq_true,Bool.or_eq_true,Bool.and_eq_false_iff,Bool.or_eq_false_iff] at *;omega)|(simp_all;done)|(simp_all;omega)))
end Go.Dr
namespace Go.Dr
def noC:Clause:=⟨0,0,0,0⟩
def cordonAt (s:Snap) (n:Int):Bool:=match s.nodes[n.toNat]? with|some x=>x.cordon|none=>false
def stepV (s:Snap) (p:List Int) (x:Step):List Int × Clause × Int:=
 if ¬ (applyP s p x).2=0 then ([],noC,(applyP s p x).2)
 else if x.kind=2∧cordonAt s x.node=true then ([],noC,100)
 else match (worseV s p (applyP s p x).1).1 with
  | c::_=>([],c,100)
  | []=>((applyP s p x).1,noC,0)
def mayV (s:Snap) (p:List Int) (x:Step):Bool:=decide ((stepV s p x).2.2=0)
def waysV (s:Snap) (p:List Int) (pod:Int):List Int:=((List.range s.nodes.length).filter (fun (n:Nat)=>mayV s p ⟨2,pod,(n:Int)⟩)).map (fun (n:Nat)=>(n:Int))
def runGo (s:Snap):List Int→Int→List Step→List Int × Int × Int
 | q,i,[]=>(q,i,0)
 | q,i,x::l=>if ¬ (stepV s q x).2.2=0 then ([],i,(stepV s q x).2.2) else runGo s (stepV s q x).1 (i+1) l
def runV (s:Snap) (p:List Int) (l:List Step):List Int × Int × Int:=if ¬ checkP s p=0 then ([],0,checkP s p) else runGo s p 0 l
end Go.Dr
namespace Go.Dr
open Go.Proofs
set_option maxRecDepth 20000
set_option maxHeartbeats 2000000
set_option linter.unusedSimpArgs false
set_option linter.unusedVariables false
theorem noC_rng:Rng noC.kind∧Rng noC.a∧Rng noC.b∧Rng noC.by_:=by simp [noC,Rng]
theorem V_noC {S:SHeap}:rClause.V S (.agg (flatCells [.int .i64 0,.int .i64 0,.int .i64 0,.int .i64 0]).toArray) noC:=V_clause.2 ⟨by simp [flatCells,Value.cells,noC],noC_rng⟩
theorem apply_ok {s:Snap} {p:List Int} {x:Step} (h:(applyP s p x).2=0):checkP s p=0∧(x.kind=2→0≤x.node∧x.node < s.nodes.length):=by
 unfold applyP at h
 split at h
 ·rename_i h1;simp [z0] at h1;exact absurd h h1
 ·rename_i h1
  have h1:checkP s p=0:=by simpa [z0] using h1
  refine ⟨h1,fun hk=>?_⟩
  split at h
  ·cases h
  ·split at h
   ·cases h
   ·rename_i h3
    simp [hk] at h3
    omega
theorem s114_L10r {P K:Prop} (k:K) (h:Goal K→P:=by
 intro zk
 (first|refine Walk ?_|refine JC.block ?_|refine JC.drawN 8 rfl [0,1,2,3,4,5] [0,1,2,3,5] Tryz_mixed (by decide +kernel) ?_|(refine JO.eff rfl rfl rfl (JEff.callLE rfl (r7_Apply (by exact vta) (by exact vta) (by exact vta)) rfl ?_);intro zqa zqb zqc zqd zqe zqf)|(refine JO.eff rfl rfl rfl (JEff.callLE rfl (r9_Worse (by exact vta) (by exact vta) (by exact vta)) rfl ?_);intro zqa zqb zqc zqd zqe zqf)|(refine WBox ?_))
 (repeat (first|revert zqg|revert zqf|revert zqe|revert zqd|revert zqc|revert zqb|revert zqa))
 exact zk.k):P:=h ⟨k⟩
theorem r10_Step {S:SHeap} {u v xv:Value} {s:Snap} {p:List Int} {x:Step} (hu:rSnap.V S u s) (hv:(rSlice 8 rI64).V S v p) (hx:rStep.V S xv x) :
  FnSt Tryz.prog 114 #[u,v,xv] S (stepV s p x).1 (stepV s p x).2.1 (.int .i64 (stepV s p x).2.2):=by
 (refine Fn.enter (args:=[u,v,xv]) Tryz.func114 rfl Tryz.ntmps114 rfl ?_;intro w0)
 repeat (refine s114_L10r ?_;intros)
 (refine JO.eff rfl rfl rfl (JEff.alloc rfl ?_);intro b7 hb7)
 repeat (refine s114_L10r ?_;intros)
 refine JC.cond rfl (fun he=>?_) (fun he=>?_)
 ·have he:¬ (applyP s p x).2=0:=by simpa using he
  have hN:=V_noC (S:=S)
  repeat (refine s114_L10r ?_;intros)
  (refine JO.eff rfl rfl rfl (JEff.storeW rfl rfl (by exact vta) nna pma rfl (by intro l hl;cases hl) ?_))
  repeat (refine s114_L10r ?_;intros)
  refine JX.ret3 Tryz.results114 (ResV.tmp rfl) (ResV.clause (S1:=S) rfl (by (first|exact List.mem_cons_self|exact List.mem_cons_of_mem _ List.mem_cons_self|exact List.mem_cons_of_mem _ (List.mem_cons_of_mem _ List.mem_cons_self))) V_noC) (ResV.tmp rfl) (List.nil_sublist _) ?_
  unfold stepV
  rw [if_pos he]
  exact ⟨rfl,_,rfl,V_nil,V_clV noC_rng⟩
 have he:(applyP s p x).2=0:=by simpa using he
 have he':¬ ¬ (applyP s p x).2=0:=by simpa using he
 obtain ⟨hok,hnode⟩:=apply_ok he
 by_cases hk:x.kind=2
 ·obtain ⟨h0,h1⟩:=hnode hk
  obtain ⟨nd,hnd,_⟩:=drop_at (l:=s.nodes) (show x.node.toNat < s.nodes.length by omega)
  have hco:cordonAt s x.node=nd.cordon:=by simp [cordonAt,hnd]
  repeat (refine s114_L10r ?_;intros)
  refine JO.guard rfl rfl rfl rfl (fun g1=>?_) (fun g1=>?_)
  ·repeat (refine s114_L10r ?_;intros)
   refine JC.cond rfl (fun g2=>?_) (fun g2=>?_)
   ·have hN:=V_noC (S:=S)
    repeat (refine s114_L10r ?_;intros)
    (refine JO.eff rfl rfl rfl (JEff.storeW rfl rfl (by exact vta) nna pma rfl (by intro l hl;cases hl) ?_))
    repeat (refine s114_L10r ?_;intros)
    refine JX.ret3 Tryz.results114 (ResV.tmp rfl) (ResV.clause (S1:=S) rfl (by (first|exact List.mem_cons_self|exact List.mem_cons_of_mem _ List.mem_cons_self|exact List.mem_cons_of_mem _ (List.mem_cons_of_mem _ List.mem_cons_self))) V_noC) (ResV.tmp rfl) (List.nil_sublist _) ?_
    unfold stepV
    rw [if_neg he',if_pos ⟨hk,by rw [hco];exact g2⟩]
    exact ⟨rfl,_,rfl,V_nil,V_clV noC_rng⟩
   ·have hnc:¬ (x.kind=2∧cordonAt s x.node=true):=by rw [hco,g2];simp
    repeat (refine s114_L10r ?_;intros)
    refine JC.cond rfl (fun g3=>?_) (fun g3=>?_)
    ·obtain ⟨y,L',hL⟩:∃ y L',(worseV s p (applyP s p x).1).1=y::L':=by
      cases hh:(worseV s p (applyP s p x).1).1 with
      | nil=>rw [hh] at g3;simp at g3
      | cons y L'=>exact ⟨y,L',rfl⟩
     have hy0:(worseV s p (applyP s p x).1).1[(0:Int).toNat]?=some y:=by rw [hL];rfl
     repeat (refine s114_L10r ?_;intros)
     have hvy:=(by assumption:rClause.V _ _ y)
     (refine JO.eff rfl rfl rfl (JEff.storeW rfl rfl (by exact vta) nna pma rfl (by intro l hl;cases hl) ?_))
     repeat (refine s114_L10r ?_;intros)
     refine JX.ret3 Tryz.results114 (ResV.tmp rfl) (ResV.clause rfl (by (first|exact List.mem_cons_self|exact List.mem_cons_of_mem _ List.mem_cons_self|exact List.mem_cons_of_mem _ (List.mem_cons_of_mem _ List.mem_cons_self))) hvy) (ResV.tmp rfl) (List.nil_sublist _) ?_
     unfold stepV
     rw [if_neg he',if_neg hnc,hL]
     exact ⟨rfl,_,rfl,V_nil,V_clV (V_clause.1 hvy).2⟩
    ·have hL:(worseV s p (applyP s p x).1).1=[]:=by
      cases hh:(worseV s p (applyP s p x).1).1 with
      | nil=>rfl
      | cons y L'=>rw [hh] at g3;simp at g3
     have hN:=V_noC (S:=S)
     repeat (refine s114_L10r ?_;intros)
     (refine JO.eff rfl rfl rfl (JEff.storeW rfl rfl (by exact vta) nna pma rfl (by intro l hl;cases hl) ?_))
     repeat (refine s114_L10r ?_;intros)
     refine JX.ret3 Tryz.results114 (ResV.tmp rfl) (ResV.clause (S1:=S) rfl (by (first|exact List.mem_cons_self|exact List.mem_cons_of_mem _ List.mem_cons_self|exact List.mem_cons_of_mem _ (List.mem_cons_of_mem _ List.mem_cons_self))) V_noC) (ResV.tmp rfl) (List.nil_sublist _) ?_
     unfold stepV
     rw [if_neg he',if_neg hnc,hL]
     exact ⟨rfl,_,rfl,by exact vta,V_clV noC_rng⟩
  ·(exfalso;first|(simp only [decide_eq_true_eq,decide_eq_false_iff_not,Bool.not_eq_true',Bool.not_eq_false',Bool.and_eq_true,Bool.or_eq_true,Bool.and_eq_false_iff,Bool.or_eq_false_iff] at *;omega)|(simp_all;done)|(simp_all;omega))
 ·have hnc:¬ (x.kind=2∧cordonAt s x.node=true):=fun h=>hk h.1
  repeat (refine s114_L10r ?_;intros)
  refine JO.guard rfl rfl rfl rfl (fun g1=>?_) (fun g1=>?_)
  ·(exfalso;first|(simp only [decide_eq_true_eq,decide_eq_false_iff_not,Bool.not_eq_true',Bool.not_eq_false',Bool.and_eq_true,Bool.or_eq_true,Bool.and_eq_false_iff,Bool.or_eq_false_iff] at *;omega)|(simp_all;done)|(simp_all;omega))
  ·repeat (refine s114_L10r ?_;intros)
   refine JC.cond rfl (fun g3=>?_) (fun g3=>?_)
   ·obtain ⟨y,L',hL⟩:∃ y L',(worseV s p (applyP s p x).1).1=y::L':=by
     cases hh:(worseV s p (applyP s p x).1).1 with
     | nil=>rw [hh] at g3;simp at g3
     | cons y L'=>exact ⟨y,L',rfl⟩
    have hy0:(worseV s p (applyP s p x).1).1[(0:Int).toNat]?=some y:=by rw [hL];rfl
    repeat (refine s114_L10r ?_;intros)
    have hvy:=(by assumption:rClause.V _ _ y)
    (refine JO.eff rfl rfl rfl (JEff.storeW rfl rfl (by exact vta) nna pma rfl (by intro l hl;cases hl) ?_))
    repeat (refine s114_L10r ?_;intros)
    refine JX.ret3 Tryz.results114 (ResV.tmp rfl) (ResV.clause rfl (by (first|exact List.mem_cons_self|exact List.mem_cons_of_mem _ List.mem_cons_self|exact List.mem_cons_of_mem _ (List.mem_cons_of_mem _ List.mem_cons_self))) hvy) (ResV.tmp rfl) (List.nil_sublist _) ?_
    unfold stepV
    rw [if_neg he',if_neg hnc,hL]
    exact ⟨rfl,_,rfl,V_nil,V_clV (V_clause.1 hvy).2⟩
   ·have hL:(worseV s p (applyP s p x).1).1=[]:=by
     cases hh:(worseV s p (applyP s p x).1).1 with
     | nil=>rfl
     | cons y L'=>rw [hh] at g3;simp at g3
    have hN:=V_noC (S:=S)
    repeat (refine s114_L10r ?_;intros)
    (refine JO.eff rfl rfl rfl (JEff.storeW rfl rfl (by exact vta) nna pma rfl (by intro l hl;cases hl) ?_))
    repeat (refine s114_L10r ?_;intros)
    refine JX.ret3 Tryz.results114 (ResV.tmp rfl) (ResV.clause (S1:=S) rfl (by (first|exact List.mem_cons_self|exact List.mem_cons_of_mem _ List.mem_cons_self|exact List.mem_cons_of_mem _ (List.mem_cons_of_mem _ List.mem_cons_self))) V_noC) (ResV.tmp rfl) (List.nil_sublist _) ?_
    unfold stepV
    rw [if_neg he',if_neg hnc,hL]
    exact ⟨rfl,_,rfl,by exact vta,V_clV noC_rng⟩
def waysK (s:Snap) (p:List Int) (pod:Int) (k:Nat):List Int:=((List.range k).filter (fun (n:Nat)=>mayV s p ⟨2,pod,(n:Int)⟩)).map (fun (n:Nat)=>(n:Int))
theorem waysK_step (s:Snap) (p:List Int) (pod:Int) (k:Nat):waysK s p pod (k+1)=waysK s p pod k++(if mayV s p ⟨2,pod,k⟩=true then [(k:Int)] else []):=by
 unfold waysK
 rw [List.range_succ,List.filter_append,List.map_append]
 congr 1
 cases h:mayV s p ⟨2,pod,k⟩<;>simp [List.filter_cons,h]
theorem waysK_len (s:Snap) (p:List Int) (pod:Int) (k:Nat):(waysK s p pod k).length≤k:=by
 unfold waysK
 rw [List.length_map]
 exact Nat.le_trans (List.length_filter_le _ _) (by simp)
end Go.Dr
namespace Go.Dr
open Go.Proofs
set_option maxRecDepth 20000
set_option maxHeartbeats 2000000
set_option linter.unusedSimpArgs false
set_option linter.unusedVariables false
end Go.Dr
namespace Go.Dr
open Go.Proofs
set_option linter.unusedVariables false
structure LookD where
 s:Snap
 p:List Int
 used:List (List Int)
 dm:Value
def rLook:Rp LookD:=rMap (fun x:LookD=>(x.s,x.p,x.used,x.dm)) (rSeq rSnap (rSeq (rSlice 8 rI64) (rSeq (rSlice 40 (rArr 5)) rVal)))
instance:Fld rLook 0 rSnap LookD.s:=⟨(Part.map Part.first)⟩
instance:Fld rLook 3 (rSlice 8 rI64) LookD.p:=⟨(Part.map (Part.next Part.first rfl))⟩
instance:Fld rLook 4 (rSlice 40 (rArr 5)) LookD.used:=⟨(Part.map (Part.next (Part.next Part.first rfl) rfl))⟩
instance:Fld rLook 5 rVal LookD.dm:=⟨(Part.map (Part.next (Part.next (Part.last rfl) rfl) rfl))⟩
def rDom:Rp (ByteArray × Bool):=rSeq rStr rBool
instance:Fld rDom 0 rStr Prod.fst:=⟨Part.first⟩
instance:Fld rDom 1 rBool Prod.snd:=⟨Part.last rfl⟩
instance:TyR Tryz.prog 276 rLook:=⟨by kernel_rfl⟩
instance:TyR Tryz.prog 359 rDom:=⟨by kernel_rfl⟩
instance:TyR Tryz.prog 356 (rSlice 24 rDom):=⟨by kernel_rfl⟩
def doms (s:Snap) (key:ByteArray):List (ByteArray × Bool):=s.nodes.map (fun n=>valB n key)
def Cache (s:Snap) (S:SHeap) (l:List (ByteArray × Value)):Prop:=DistinctK l∧∀ q∈l,(rSlice 24 rDom).V S q.2 (doms s q.1)
theorem Cache.mono {s:Snap} {S S':SHeap} {l:List (ByteArray × Value)} (h:Cache s S l) (hl:S.le S'):Cache s S' l:=⟨h.1,fun q hq=>(h.2 q hq).mono hl⟩
theorem Cache.nil {s:Snap} {S:SHeap}:Cache s S []:=⟨DistinctK.nil,by simp⟩
theorem cntI_congr {n:Nat} {f g:Nat→Bool} (h:∀ i,i < n→f i=g i):cntI n f=cntI n g:=by
 unfold cntI
 congr 2
 exact List.filter_congr (fun i hi=>h i (by simpa using hi))
end Go.Dr
namespace Go.Dr
open Go.Proofs
set_option maxRecDepth 20000
set_option maxHeartbeats 1000000
set_option linter.unusedSimpArgs false
set_option linter.unusedVariables false
theorem fold_take0 {l:List Int} {f:Int→Int→Int} {z:Int} {k:Nat} {x:Int} (h:l[k]?=some x):(l.take (k+1)).foldl f z=f ((l.take k).foldl f z) x:=by
 rw [List.take_add_one,h];simp
theorem p_Max {S:SHeap} {u:Value} {xs:List Int} (hu:(rSlice 8 rI64).V S u xs) (hne:xs≠[]):FnV Tryz.prog 265 #[u] S (.int .i64 (maxL xs)):=by
 obtain ⟨a,c,rfl,_,_,hb,_⟩:=V_slice.1 hu
 unfold big at hb
 obtain ⟨x,L,rfl⟩:∃ x L,xs=x::L:=by cases xs with|nil=>exact absurd rfl hne|cons x L=>exact ⟨x,L,rfl⟩
 have h0:(x::L)[(0:Int).toNat]?=some x:=rfl
 have hl0:(x::L).length=L.length+1:=rfl
 (refine Fn.enter (args:=[.slice a (x::L).length c]) Tryz.func265 rfl Tryz.ntmps265 rfl ?_;intro w0)
 repeat (first|(refine Walk ?_;intros)|refine JC.block ?_)
 refine JC.loopF0 [(0,_)] (fun (j:Nat)=>[(3,.int .i64 ((L.take j).foldl max x)),(4,.int .i64 ((j:Int)+1))]) (fun Sj j=>j≤L.length∧(True)) (fun j=>L.length - j) 0 (by exact sba) (by exact sba) ⟨Nat.zero_le _,trivial⟩ ?_;intro Sj j hlj hij;obtain ⟨hj,hij⟩:=hij;(try dsimp only at hj hij);dsimp only [List.cons_append,List.nil_append]
 repeat (first|(refine Walk ?_;intros)|refine JC.block ?_)
 refine JC.cond rfl (fun hc=>?_) (fun hc=>?_)
 ·have hj':j < L.length:=by have:=of_decide_eq_true hc;omega
  obtain ⟨y,hy,_⟩:=drop_at hj'
  have hst:=fold_take0 (f:=max) (z:=x) hy
  have hy':(x::L)[((j:Int)+1).toNat]?=some y:=by rw [show ((j:Int)+1).toNat=j+1 by omega];exact hy
  repeat (first|(refine Walk ?_;intros)|refine JC.block ?_)
  (refine JX.roundF (j+1) (by exact lea) ⟨by omega,(trivial)⟩ (by (try dsimp only);omega) rfl ?_ (by exact sba);(try dsimp only);rw [hst];exact sba;done)
 ·have hj':L.length≤j:=by have:=of_decide_eq_false hc;omega
  rw [List.take_of_length_le hj']
  repeat (first|(refine Walk ?_;intros)|refine JC.block ?_)
  (refine JX.ret1 Tryz.results265 (ResV.tmp rfl) (List.nil_sublist _) ?_)
  exact ⟨rfl,rfl⟩
theorem p_Min {S:SHeap} {u:Value} {xs:List Int} (hu:(rSlice 8 rI64).V S u xs) (hne:xs≠[]):FnV Tryz.prog 266 #[u] S (.int .i64 (minL xs)):=by
 obtain ⟨a,c,rfl,_,_,hb,_⟩:=V_slice.1 hu
 unfold big at hb
 obtain ⟨x,L,rfl⟩:∃ x L,xs=x::L:=by cases xs with|nil=>exact absurd rfl hne|cons x L=>exact ⟨x,L,rfl⟩
 have h0:(x::L)[(0:Int).toNat]?=some x:=rfl
 have hl0:(x::L).length=L.length+1:=rfl
 (refine Fn.enter (args:=[.slice a (x::L).length c]) Tryz.func266 rfl Tryz.ntmps266 rfl ?_;intro w0)
 repeat (first|(refine Walk ?_;intros)|refine JC.block ?_)
 refine JC.loopF0 [(0,_)] (fun (j:Nat)=>[(3,.int .i64 ((L.take j).foldl min x)),(4,.int .i64 ((j:Int)+1))]) (fun Sj j=>j≤L.length∧(True)) (fun j=>L.length - j) 0 (by exact sba) (by exact sba) ⟨Nat.zero_le _,trivial⟩ ?_;intro Sj j hlj hij;obtain ⟨hj,hij⟩:=hij;(try dsimp only at hj hij);dsimp only [List.cons_append,List.nil_append]
 repeat (first|(refine Walk ?_;intros)|refine JC.block ?_)
 refine JC.cond rfl (fun hc=>?_) (fun hc=>?_)
 ·have hj':j < L.length:=by have:=of_decide_eq_true hc;omega
  obtain ⟨y,hy,_⟩:=drop_at hj'
  have hst:=fold_take0 (f:=min) (z:=x) hy
  have hy':(x::L)[((j:Int)+1).toNat]?=some y:=by rw [show ((j:Int)+1).toNat=j+1 by omega];exact hy
  repeat (first|(refine Walk ?_;intros)|refine JC.block ?_)
  (refine JX.roundF (j+1) (by exact lea) ⟨by omega,(trivial)⟩ (by (try dsimp only);omega) rfl ?_ (by exact sba);(try dsimp only);rw [hst];exact sba;done)
 ·have hj':L.length≤j:=by have:=of_decide_eq_false hc;omega
  rw [List.take_of_length_le hj']
  repeat (first|(refine Walk ?_;intros)|refine JC.block ?_)
  (refine JX.ret1 Tryz.results266 (ResV.tmp rfl) (List.nil_sublist _) ?_)
  exact ⟨rfl,rfl⟩
theorem s202_L2p {P K:Prop} (k:K) (h:Goal K→P:=by
 intro zk
 (first|refine Walk ?_|refine JC.block ?_|refine JC.drawN 1 rfl [0,2,1,3,4,5] [0,4,5] Tryz_mixed (by decide +kernel) ?_|(refine JO.eff rfl rfl rfl (JEff.callV rfl (p_Max (by exact vta) (by first|assumption|simp)) rfl ?_);intro zqa zqb)|(refine JO.eff rfl rfl rfl (JEff.callV rfl (p_Min (by exact vta) (by first|assumption|simp)) rfl ?_);intro zqa zqb)|(refine WBox ?_))
 (repeat (first|revert zqg|revert zqf|revert zqe|revert zqd|revert zqc|revert zqb|revert zqa))
 exact zk.k):P:=h ⟨k⟩
theorem p2_Check {S:SHeap} {u:Value} {v:List Int} (hu:(rArr 5).V S u v):FnV Tryz.prog 202 #[u] S (.int .i64 (checkV v)):=by
 obtain ⟨_,hl,hr⟩:=V_arr.1 hu
 have hne:v≠[]:=by intro h;rw [h] at hl;cases hl
 have e1:=minL_neg hne
 have e2:=maxL_over hne
 (refine Fn.enter (args:=[u]) Tryz.func202 rfl Tryz.ntmps202 rfl ?_;intro w0)
 repeat (refine s202_L2p ?_;intros)
 refine JC.cond rfl (fun h1=>?_) (fun h1=>?_)
 ·rw [e1] at h1
  repeat (refine s202_L2p ?_;intros)
  (refine JX.ret1 Tryz.results202 (ResV.tmp rfl) (List.nil_sublist _) ?_)
  exact ⟨rfl,by rw [checkV,h1];rfl⟩
 rw [e1] at h1
 repeat (refine s202_L2p ?_;intros)
 refine JC.cond rfl (fun h2=>?_) (fun h2=>?_)
 ·have h2:v.any overB=true:=by rw [← e2];exact h2
  repeat (refine s202_L2p ?_;intros)
  (refine JX.ret1 Tryz.results202 (ResV.tmp rfl) (List.nil_sublist _) ?_)
  exact ⟨rfl,by rw [checkV,h1,h2];rfl⟩
 ·have h2:v.any overB=false:=by rw [← e2];exact h2
  repeat (refine s202_L2p ?_;intros)
  (refine JX.ret1 Tryz.results202 (ResV.tmp rfl) (List.nil_sublist _) ?_)
  exact ⟨rfl,by rw [checkV,h1,h2];rfl⟩
theorem p1_above {S:SHeap} (n:Int):FnV Tryz.prog 274 #[.int .i64 n] S (.bool (overB n)):=by
 (refine Fn.enter (args:=[.int .i64 n]) Tryz.func274 rfl Tryz.ntmps274 rfl ?_;intro w0)
 repeat (first|(refine Walk ?_;intros)|refine JC.block ?_)
 (refine JX.ret1 Tryz.results274 (ResV.tmp rfl) (List.nil_sublist _) ?_)
 exact ⟨rfl,rfl⟩
theorem p1_below {S:SHeap} (n:Int):FnV Tryz.prog 314 #[.int .i64 n] S (.bool (negB n)):=by
 (refine Fn.enter (args:=[.int .i64 n]) Tryz.func314 rfl Tryz.ntmps314 rfl ?_;intro w0)
 repeat (first|(refine Walk ?_;intros)|refine JC.block ?_)
 (refine JX.ret1 Tryz.results314 (ResV.tmp rfl) (List.nil_sublist _) ?_)
 exact ⟨rfl,rfl⟩
theorem p1_checked {S:SHeap} {u:Value} {l:List Int} (hu:(rSlice 8 rI64).V S u l):FnV Tryz.prog 273 #[u] S (.int .i64 (checkV l)):=by
 (refine Fn.enter (args:=[u]) Tryz.func273 rfl Tryz.ntmps273 rfl ?_;intro w0)
 repeat (first|(refine Walk ?_;intros)|refine JC.block ?_)
 (refine JO.eff rfl rfl rfl (JEff.callV rfl ((p_ContainsFunc_int negB (by exact vta) inferInstance (fun S' h u x hx=>by obtain ⟨rfl,_⟩:=V_i64.1 hx;exact p1_below x))) rfl ?_);intro _ _)
 repeat (first|(refine Walk ?_;intros)|refine JC.block ?_)
 refine JC.cond rfl (fun h1=>?_) (fun h1=>?_)
 ·repeat (first|(refine Walk ?_;intros)|refine JC.block ?_)
  (refine JX.ret1 Tryz.results273 (ResV.tmp rfl) (List.nil_sublist _) ?_)
  exact ⟨rfl,by rw [checkV,h1];rfl⟩
 repeat (first|(refine Walk ?_;intros)|refine JC.block ?_)
 (refine JO.eff rfl rfl rfl (JEff.callV rfl ((p_ContainsFunc_int overB (by exact vta) inferInstance (fun S' h u x hx=>by obtain ⟨rfl,_⟩:=V_i64.1 hx;exact p1_above x))) rfl ?_);intro _ _)
 repeat (first|(refine Walk ?_;intros)|refine JC.block ?_)
 refine JC.cond rfl (fun h2=>?_) (fun h2=>?_)
 ·repeat (first|(refine Walk ?_;intros)|refine JC.block ?_)
  (refine JX.ret1 Tryz.results273 (ResV.tmp rfl) (List.nil_sublist _) ?_)
  exact ⟨rfl,by rw [checkV,h1,h2];rfl⟩
 ·repeat (first|(refine Walk ?_;intros)|refine JC.block ?_)
  (refine JX.ret1 Tryz.results273 (ResV.tmp rfl) (List.nil_sublist _) ?_)
  exact ⟨rfl,by rw [checkV,h1,h2];rfl⟩
theorem mem_le_sum {l:List Int} (h:l.any negB=false):∀ x∈l,x≤l.sum:=by
 intro x hx
 obtain ⟨i,hi⟩:=List.getElem?_of_mem hx
 have h1:=take_at hi
 have h2:=sum_take_nn h i
 have h3:=sum_take h (i+1)
 omega
theorem s212_L2p {P K:Prop} (k:K) (h:Goal K→P:=by
 intro zk
 (first|refine Walk ?_|refine JC.block ?_|(refine JO.eff rfl rfl rfl (JEff.callV rfl (p1_checked (by exact vta)) rfl ?_);intro zqa zqb)|(refine JO.eff rfl rfl rfl (JEff.callV rfl (p1_above _) rfl ?_);intro zqa zqb))
 (repeat (first|revert zqg|revert zqf|revert zqe|revert zqd|revert zqc|revert zqb|revert zqa))
 exact zk.k):P:=h ⟨k⟩
theorem p1_Add {S:SHeap} {u:Value} {l:List Int} (hu:(rSlice 8 rI64).V S u l):FnV Tryz.prog 212 #[u] S (.tuple #[.int .i64 (addQ l).1,.int .i64 (addQ l).2]):=by
 obtain ⟨a,c,rfl,_,_,hb,_⟩:=V_slice.1 hu
 unfold big at hb
 (refine Fn.enter (args:=[.slice a l.length c]) Tryz.func212 rfl Tryz.ntmps212 rfl ?_;intro w0)
 repeat (refine s212_L2p ?_;intros)
 cases hn:l.any negB with
 | true=>
  have hcv:checkV l=2:=by rw [checkV,hn];rfl
  rw [hcv]
  repeat' (first|(refine s212_L2p ?_;intros)|(refine JO.guard rfl rfl rfl rfl ?_ ?_<;>intro _)|(refine JC.cond rfl ?_ ?_<;>intro _))
  all_goals first
   | ((refine JX.ret2 Tryz.results212 (ResV.tmp rfl) (ResV.tmp rfl) (List.nil_sublist _) ?_);exact ⟨rfl,by rw [addQ,hn];rfl⟩)
   | (exfalso;first|(simp only [decide_eq_true_eq,decide_eq_false_iff_not,Bool.not_eq_true',Bool.not_eq_false',Bool.and_eq_true,Bool.or_eq_true,Bool.and_eq_false_iff,Bool.or_eq_false_iff] at *;omega)|(simp_all;done)|(simp_all;omega))
 | false=>
  cases ho:l.any overB with
  | true=>
   have hcv:checkV l=10:=by rw [checkV,hn,ho];rfl
   have hsum:Qty < l.sum:=by
    obtain ⟨x,hx,h⟩:=List.any_eq_true.1 ho
    have h1:=mem_le_sum hn x hx
    have h2:Qty < x:=by simpa [overB] using h
    omega
   rw [hcv]
   repeat' (first|(refine s212_L2p ?_;intros)|(refine JO.guard rfl rfl rfl rfl ?_ ?_<;>intro _)|(refine JC.cond rfl ?_ ?_<;>intro _))
   all_goals first
    | ((refine JX.ret2 Tryz.results212 (ResV.tmp rfl) (ResV.tmp rfl) (List.nil_sublist _) ?_);exact ⟨rfl,by rw [addQ,hn,if_neg (by simp),if_pos hsum]⟩)
    | (exfalso;first|(simp only [decide_eq_true_eq,decide_eq_false_iff_not,Bool.not_eq_true',Bool.not_eq_false',Bool.and_eq_true,Bool.or_eq_true,Bool.and_eq_false_iff,Bool.or_eq_false_iff] at *;omega)|(simp_all;done)|(simp_all;omega))
  | false=>
   have hcv:checkV l=0:=by rw [checkV,hn,ho];rfl
   have hsm:∀ x∈l,0≤x∧x≤Qty:=by
    intro x hx
    have h1:=(List.any_eq_false.1 hn) x hx
    have h2:=(List.any_eq_false.1 ho) x hx
    simp only [negB,overB,decide_eq_true_eq] at h1 h2
    omega
   rw [hcv]
   repeat (refine s212_L2p ?_;intros)
   refine JC.loopF0 [(12,_),(13,_)] (fun (k:Nat)=>[(2,.int .i64 (l.take k).sum),(14,.int .i64 k)]) (fun Sk k=>k≤l.length∧((l.take k).sum≤Qty)) (fun k=>l.length - k) 0 (by exact sba) (by exact sba) ⟨Nat.zero_le _,by simp [Qty]⟩ ?_;intro Sk k hlk hik;obtain ⟨hk,hik⟩:=hik;(try dsimp only at hk hik);dsimp only [List.cons_append,List.nil_append]
   repeat (refine s212_L2p ?_;intros)
   refine JC.cond rfl (fun hc=>?_) (fun hc=>?_)
   ·have hk':=dlt hc
    obtain ⟨x,hx,_⟩:=drop_at hk'
    have h1:=sum_take_nn hn k
    have h2:=take_at hx
    have h3:=sum_take hn (k+1)
    have hxr:=hsm x (List.mem_of_getElem? hx)
    unfold Qty at hik hxr
    repeat (refine s212_L2p ?_;intros)
    refine JC.cond rfl (fun h9=>?_) (fun h9=>?_)
    ·have h9:Qty < (l.take (k+1)).sum:=by rw [h2];simpa [overB] using h9
     have hsum:Qty < l.sum:=by omega
     repeat (refine s212_L2p ?_;intros)
     (refine JX.ret2 Tryz.results212 (ResV.tmp rfl) (ResV.tmp rfl) (List.nil_sublist _) ?_)
     exact ⟨rfl,by rw [addQ,hn,if_neg (by simp),if_pos hsum]⟩
    ·have h9:¬ Qty < (l.take (k+1)).sum:=by rw [h2];simpa [overB] using h9
     repeat (refine s212_L2p ?_;intros)
     (refine JX.roundF (k+1) (by exact lea) ⟨by omega,(by omega)⟩ (by (try dsimp only);omega) rfl ?_ (by exact sba);(try dsimp only);rw [h2];exact sba;done)
   ·have hk':=dnlt hc
    rw [List.take_of_length_le hk'] at hik ⊢
    repeat (refine s212_L2p ?_;intros)
    (refine JX.ret2 Tryz.results212 (ResV.tmp rfl) (ResV.tmp rfl) (List.nil_sublist _) ?_)
    exact ⟨rfl,by rw [addQ,hn,if_neg (by simp),if_neg (by omega)]⟩
theorem p2_each {S:SHeap} {f:FuncId} {fs cs:Array Value} (g:Nat→Int × Int) (hg:∀ i,Rng (g i).1) (hE:Ent Tryz.prog f) (hf:∀ S',S.le S'→∀ i:Nat,i < 5→FnV Tryz.prog f (fs.toList++[Value.int .i64 i]++cs.toList).toArray S' (.tuple #[.int .i64 (g i).1,.int .i64 (g i).2])) :
  FnV Tryz.prog 210 #[.func (.func f) fs cs] S (.tuple #[.agg (ints (eachV g).1),.int .i64 (eachV g).2]):=by
 (refine Fn.enter (args:=[.func (.func f) fs cs]) Tryz.func210 rfl Tryz.ntmps210 rfl ?_;intro w0)
 repeat (first|(refine Walk ?_;intros)|refine JC.block ?_)
 (refine JO.eff rfl rfl rfl (JEff.alloc rfl ?_);intro b2 hb2)
 repeat (first|(refine Walk ?_;intros)|refine JC.block ?_)
 refine JC.loopF [(0,_),(2,_)] (fun (k:Nat)=>[(5,.int .i64 k)]) (fun k=>[.blk b2 (.cells (ints (eachTo g k)) 91 (0,0))]) (fun Sk k=>k≤5∧(okE g k)) (fun k=>5 - k) 0 (by exact sba) (by exact sba) rfl ⟨Nat.zero_le _,by intro i hi;omega⟩ ?_;intro Sk k hlk hik;obtain ⟨hk,hik⟩:=hik;(try dsimp only at hk hik);dsimp only [List.cons_append,List.nil_append]
 have hrk:=eachTo_rng hg
 repeat (first|(refine Walk ?_;intros)|refine JC.block ?_)
 refine JC.cond rfl (fun hc=>?_) (fun hc=>?_)
 ·have hk':=dlt5 hc
  repeat (first|(refine Walk ?_;intros)|refine JC.block ?_)
  (refine JO.eff rfl rfl rfl (JEff.dynV rfl (by assumption) rfl ((hf _ (by exact lea) k hk')) rfl ?_);intro _ _)
  repeat (first|(refine Walk ?_;intros)|refine JC.block ?_)
  refine JO.pure rfl rfl rfl (JPure.indexBI rfl rfl rfl (by omega) (by omega) ?_)
  refine JO.eff rfl rfl rfl (JEff.storeI (i:=k) rfl rfl (hg k) (List.Perm.refl _) (by rw [eachTo_len g (by omega)];exact hk') (by intro l hl;cases hl) ?_)
  rw [eachTo_set g hk']
  repeat (first|(refine Walk ?_;intros)|refine JC.block ?_)
  refine JC.cond rfl (fun he=>?_) (fun he=>?_)
  ·have he:¬ (g k).2=0:=by simpa using he
   repeat (first|(refine Walk ?_;intros)|refine JC.block ?_)
   refine JO.eff rfl rfl rfl (JEff.storeA (n:=5) (ys:=[0,0,0,0,0]) rfl rfl rfl (by intro z hz;simp at hz;subst hz;unfold Rng;omega) (List.Perm.refl _) (eachTo_len g (by omega)) (by intro l hl;cases hl) ?_)
   repeat (first|(refine Walk ?_;intros)|refine JC.block ?_)
   refine JX.ret2 Tryz.results210 (ResV.cellA (n:=5) rfl (by (first|exact List.mem_cons_self|exact List.mem_cons_of_mem _ List.mem_cons_self|exact List.mem_cons_of_mem _ (List.mem_cons_of_mem _ List.mem_cons_self))) rfl) (ResV.tmp rfl) (List.nil_sublist _) ?_
   rw [each_bad hik hk' he]
   exact ⟨rfl,rfl⟩
  ·have he:(g k).2=0:=by simpa using he
   repeat (first|(refine Walk ?_;intros)|refine JC.block ?_)
   exact JX.roundF (k+1) (by exact lea) ⟨by omega,(okE_step hik he)⟩ (by (try dsimp only);omega) rfl (by exact sba) (by exact sba)
 ·have hk':=dnlt5 hc
  obtain rfl:k=5:=by omega
  repeat (first|(refine Walk ?_;intros)|refine JC.block ?_)
  refine JO.pure rfl rfl rfl (JPure.loadMA (n:=5) rfl (by (first|exact List.mem_cons_self|exact List.mem_cons_of_mem _ List.mem_cons_self|exact List.mem_cons_of_mem _ (List.mem_cons_of_mem _ List.mem_cons_self))) (eachTo_len g (by omega)) (hrk 5) (.inl rfl) rfl ?_)
  refine JO.eff rfl rfl rfl (JEff.storeA (n:=5) (ys:=eachTo g 5) rfl rfl (eachTo_len g (by omega)) (hrk 5) (List.Perm.refl _) (eachTo_len g (by omega)) (by intro l hl;cases hl) ?_)
  repeat (first|(refine Walk ?_;intros)|refine JC.block ?_)
  refine JX.ret2 Tryz.results210 (ResV.cellA (n:=5) rfl (by (first|exact List.mem_cons_self|exact List.mem_cons_of_mem _ List.mem_cons_self|exact List.mem_cons_of_mem _ (List.mem_cons_of_mem _ List.mem_cons_self))) (eachTo_len g (by omega))) (ResV.tmp rfl) (List.nil_sublist _) ?_
  rw [each_good hik]
  exact ⟨rfl,rfl⟩
end Go.Dr
namespace Go.Dr
open Go.Proofs
set_option maxRecDepth 20000
set_option maxHeartbeats 1000000
set_option linter.unusedSimpArgs false
set_option linter.unusedVariables false
theorem ptr_arr5 {S:SHeap} {p:Addr} {n:Nat} {xs:List Int} (h:PtrTo S p (rArr n) xs):xs.length=n∧∀ x∈xs,Rng x:=by
 obtain ⟨cs,h,_⟩:=h;exact ⟨h.1,h.2.2⟩
theorem s211_L2q {P K:Prop} (k:K) (h:Goal K→P:=by
 intro zk
 (first|refine Walk ?_|refine JC.block ?_|(refine JO.eff rfl rfl rfl (JEff.callV rfl (p1_Add (by exact vta)) rfl ?_);intro zqa zqb)|(refine WNew ?_)|(refine WPut ?_))
 (repeat (first|revert zqg|revert zqf|revert zqe|revert zqd|revert zqc|revert zqb|revert zqa))
 exact zk.k):P:=h ⟨k⟩
theorem p2_Plus1 {S:SHeap} {q:Addr} {l:List (List Int)} (i:Nat) (hi:i < 5) (hq:PtrTo S q (rSlice 40 (rArr 5)) l):FnV Tryz.prog 211 #[.int .i64 i,.pointer (some q)] S (.tuple #[.int .i64 (colQ l i).1,.int .i64 (colQ l i).2]):=by
 obtain ⟨cs,⟨a,n,c,hcs,hlen,hnc,hbt,hb1,hp⟩,hcell⟩:=hq
 have hq:PtrTo S q (rSlice 40 (rArr 5)) l:=⟨cs,⟨a,n,c,hcs,hlen,hnc,hbt,hb1,hp⟩,hcell⟩
 subst hlen
 unfold big at hbt hb1
 have hvl:∀ v∈l,v.length=5∧∀ y∈v,Rng y:=by
  intro v hv
  obtain ⟨j,hj⟩:=List.getElem?_of_mem hv
  obtain ⟨ad,_,hpp⟩:=hp j v hj
  exact ptr_arr5 hpp
 (refine Fn.enter (args:=[.int .i64 i,.pointer (some q)]) Tryz.func211 rfl Tryz.ntmps211 rfl ?_;intro w0)
 repeat (refine s211_L2q ?_;intros)
 refine JO.eff rfl rfl rfl (JEff.makeRow (rep:=rI64) rfl rfl (by unfold big;omega) (by unfold big;omega) rfl ?_);intro a0
 repeat (refine s211_L2q ?_;intros)
 refine JC.loopF (σ:=Nat × Option Addr × Nat × List Value) [(0,_),(11,_),(12,_)] (fun q=>[(5,.slice q.2.1 ((fun k=>(l.take k).map (fun v=>at0 v i)) q.1).length q.2.2.1),(13,((fun k=>.int .i64 k) q.1))]) (fun q=>[.row w0.heap.size 3 (Rp.sz rI64) (.slice q.2.1 ((fun k=>(l.take k).map (fun v=>at0 v i)) q.1).length q.2.2.1) ((fun k=>(l.take k).map (fun v=>at0 v i)) q.1).length (flatCells q.2.2.2)]) (fun Sk q=>q.1≤l.length∧allV rI64 Sk q.2.2.2 ((fun k=>(l.take k).map (fun v=>at0 v i)) q.1)∧((fun k=>True) q.1)) (fun q=>l.length - q.1) (0,a0,l.length,[]) (by exact sba) (by exact sba) (by first|rfl|simp) (⟨Nat.zero_le _,trivial,trivial⟩) ?_;rintro Sk ⟨k,rak,rck,vsk⟩ hlk ⟨hk,hvk,hik⟩;(try dsimp only at hk hvk hik);dsimp only [List.cons_append,List.nil_append]
 have hkl:((l.take k).map (fun v=>at0 v i)).length≤k:=by rw [List.length_map,List.length_take];omega
 repeat (refine s211_L2q ?_;intros)
 refine JC.cond rfl (fun hc=>?_) (fun hc=>?_)
 ·have hk':=dlt hc
  obtain ⟨v,hv,_⟩:=drop_at hk'
  obtain ⟨hvl5,hvr⟩:=hvl v (List.mem_of_getElem? hv)
  obtain ⟨z,hz⟩:∃ z,v[i]?=some z:=⟨_,List.getElem?_eq_getElem (by omega)⟩
  have hz0:=at0_some hz
  have hst:(l.take (k+1)).map (fun v=>at0 v i)=(l.take k).map (fun v=>at0 v i)++[z]:=by rw [List.take_add_one,hv];simp [hz0]
  repeat (refine s211_L2q ?_;intros)
  (refine JO.eff rfl rfl rfl (JEff.build (rep:=rI64) (ys:=[z]) rfl rfl ⟨⟨(V_i64.2 ⟨rfl,hvr z (List.mem_of_getElem? hz)⟩),nna⟩,trivial⟩ rfl rfl rfl rfl ?_);intro bb hbb hvv);(repeat (first|(refine Walk ?_;intros)|refine JC.block ?_));(refine JO.eff rfl rfl rfl (JEff.appendL (rep:=rI64) rfl rfl rfl rfl (List.Perm.swap _ _ _) (by exact hvv.flat) (by intro c hc;exact flat_one (fun v hv=>(hvv.size v hv).2) c hc) (by first|omega|(unfold big;omega)) (by unfold big;omega) (by first|exact rowT_ok|(intro l hl;cases hl)) rfl ?_);intro a2 c2;clear hvv hbb)
  repeat (refine s211_L2q ?_;intros)
  exact JX.roundF (k+1,a2,c2,vsk++[(.int .i64 z)]) (by exact lea) ⟨by omega,by (try dsimp only);rw [hst];exact allV_add (by exact lea) hvk (V_i64.2 ⟨rfl,hvr z (List.mem_of_getElem? hz)⟩) nna,(trivial)⟩ (by (try dsimp only);omega) (by (try dsimp only);rw [hst];(simp [flat_append]<;>omega)) (by (try dsimp only);rw [hst];simp only [List.length_append,List.length_cons,List.length_nil];exact sba) (by exact sba)
 ·have hk':=dnlt hc
  rw [List.take_of_length_le hk'] at hvk hkl ⊢
  repeat (refine s211_L2q ?_;intros)
  refine JO.freezeRow (rep:=rI64) (bt:=8) hvk rfl (by unfold big;rw [List.length_map];omega) (by unfold big;rw [List.length_map];omega) (by intro l hl;cases hl) (fun S9 hl9 hV9=>?_)
  repeat (refine s211_L2q ?_;intros)
  (refine JX.ret2 Tryz.results211 (ResV.tmp rfl) (ResV.tmp rfl) (List.nil_sublist _) ?_)
  exact ⟨rfl,rfl⟩
theorem p2_Plus {S:SHeap} {u:Value} {l:List (List Int)} (hu:(rSlice 40 (rArr 5)).V S u l):FnV Tryz.prog 139 #[u] S (.tuple #[.agg (ints (plusV l).1),.int .i64 (plusV l).2]):=by
 obtain ⟨hpl,hpr⟩:=plusV_fine l
 have hV:(rArr 5).V S (.agg (ints (plusV l).1)) (plusV l).1:=V_arr.2 ⟨rfl,hpl,hpr⟩
 obtain ⟨a,c,rfl,_⟩:=V_slice.1 hu
 (refine Fn.enter (args:=[.slice a l.length c]) Tryz.func139 rfl Tryz.ntmps139 rfl ?_;intro w0)
 repeat (first|(refine Walk ?_;intros)|refine JC.block ?_|(refine WBox ?_;intros))
 (refine JO.eff rfl rfl rfl (JEff.alloc rfl ?_);intro b2 hb2)
 repeat (first|(refine Walk ?_;intros)|refine JC.block ?_|(refine WBox ?_;intros))
 (refine JO.eff rfl rfl rfl (JEff.callV rfl ((p2_each (colQ l) (fun i=>(addQ_rng _).1) inferInstance (fun S' hl i hi=>p2_Plus1 i hi (by exact pta)))) rfl ?_);intro _ _)
 rw [← plusV_each]
 repeat (first|(refine Walk ?_;intros)|refine JC.block ?_|(refine WBox ?_;intros))
 refine JO.eff rfl rfl rfl (JEff.storeA (n:=5) (xs:=[0,0,0,0,0]) rfl rfl hpl hpr (List.Perm.refl _) rfl (by intro l hl;cases hl) ?_)
 repeat (first|(refine Walk ?_;intros)|refine JC.block ?_|(refine WBox ?_;intros))
 refine JX.ret2 Tryz.results139 (ResV.cellA (n:=5) rfl (by (first|exact List.mem_cons_self|exact List.mem_cons_of_mem _ List.mem_cons_self|exact List.mem_cons_of_mem _ (List.mem_cons_of_mem _ List.mem_cons_self))) hpl) (ResV.tmp rfl) (List.nil_sublist _) ?_
 exact ⟨rfl,rfl⟩
end Go.Dr
namespace Go.Dr
open Go.Proofs
set_option maxRecDepth 20000
set_option linter.unusedSimpArgs false
set_option linter.unusedVariables false
theorem p3_small {S:SHeap} (c:Int):FnV Tryz.prog 170 #[.int .i32 c] S (.bool (isLetter c)):=by
 (refine Fn.enter (args:=[.int .i32 c]) Tryz.func170 rfl Tryz.ntmps170 rfl ?_;intro w0)
 repeat' (first|(refine Walk ?_;intros)|refine JC.block ?_|(refine JO.guard rfl rfl rfl rfl ?_ ?_<;>intro _)|(refine JC.cond rfl ?_ ?_<;>intro _))
 all_goals (refine JX.ret1 Tryz.results170 (ResV.tmp rfl) (List.nil_sublist _) ?_;exact ⟨rfl,by (first|((simp only [isLetter, *,Bool.and_true,Bool.true_and,Bool.false_and,Bool.and_false,Bool.or_true,Bool.true_or,Bool.false_or,Bool.or_false,Bool.not_true,Bool.not_false])<;>rfl)|(simp only [isLetter, *,Bool.and_true,Bool.true_and,Bool.false_and,Bool.and_false,Bool.or_true,Bool.true_or,Bool.false_or,Bool.or_false,Bool.not_true,Bool.not_false];done)|(simp [isLetter, *];done)|(simp_all [isLetter];done)|(simp_all [isLetter];intros;omega)|(simp_all [isLetter];omega))⟩)
theorem p3_inside {S:SHeap} (c:Int):FnV Tryz.prog 252 #[.int .i32 c] S (.bool (isInside c)):=by
 (refine Fn.enter (args:=[.int .i32 c]) Tryz.func252 rfl Tryz.ntmps252 rfl ?_;intro w0)
 repeat' (first|(refine Walk ?_;intros)|refine JC.block ?_|(refine JO.eff rfl rfl rfl (JEff.callV rfl (p3_small c) rfl ?_);intro _ _)|(refine JO.guard rfl rfl rfl rfl ?_ ?_<;>intro _)|(refine JC.cond rfl ?_ ?_<;>intro _))
 all_goals (refine JX.ret1 Tryz.results252 (ResV.tmp rfl) (List.nil_sublist _) ?_;exact ⟨rfl,by (first|((simp only [isInside, *,Bool.and_true,Bool.true_and,Bool.false_and,Bool.and_false,Bool.or_true,Bool.true_or,Bool.false_or,Bool.or_false,Bool.not_true,Bool.not_false])<;>rfl)|(simp only [isInside, *,Bool.and_true,Bool.true_and,Bool.false_and,Bool.and_false,Bool.or_true,Bool.true_or,Bool.false_or,Bool.or_false,Bool.not_true,Bool.not_false];done)|(simp [isInside, *];done)|(simp_all [isInside];done)|(simp_all [isInside];intros;omega)|(simp_all [isInside];omega))⟩)
theorem p3_Value1 {S:SHeap} (c:Int):FnV Tryz.prog 251 #[.int .i32 c] S (.bool (!isInside c)):=by
 (refine Fn.enter (args:=[.int .i32 c]) Tryz.func251 rfl Tryz.ntmps251 rfl ?_;intro w0)
 repeat' (first|(refine Walk ?_;intros)|refine JC.block ?_|(refine JO.eff rfl rfl rfl (JEff.callV rfl (p3_inside c) rfl ?_);intro _ _)|(refine JO.guard rfl rfl rfl rfl ?_ ?_<;>intro _)|(refine JC.cond rfl ?_ ?_<;>intro _))
 all_goals (refine JX.ret1 Tryz.results251 (ResV.tmp rfl) (List.nil_sublist _) ?_;exact ⟨rfl,rfl⟩)
theorem p3_valued {S:SHeap} (c:Int):FnV Tryz.prog 269 #[.int .i64 c] S (.bool (valuedB c)):=by
 (refine Fn.enter (args:=[.int .i64 c]) Tryz.func269 rfl Tryz.ntmps269 rfl ?_;intro w0)
 repeat' (first|(refine Walk ?_;intros)|refine JC.block ?_|(refine JO.guard rfl rfl rfl rfl ?_ ?_<;>intro _)|(refine JC.cond rfl ?_ ?_<;>intro _))
 all_goals (refine JX.ret1 Tryz.results269 (ResV.tmp rfl) (List.nil_sublist _) ?_;exact ⟨rfl,by (first|((simp only [valuedB, *,Bool.and_true,Bool.true_and,Bool.false_and,Bool.and_false,Bool.or_true,Bool.true_or,Bool.false_or,Bool.or_false,Bool.not_true,Bool.not_false])<;>rfl)|(simp only [valuedB, *,Bool.and_true,Bool.true_and,Bool.false_and,Bool.and_false,Bool.or_true,Bool.true_or,Bool.false_or,Bool.or_false,Bool.not_true,Bool.not_false];done)|(simp [valuedB, *];done)|(simp_all [valuedB];done)|(simp_all [valuedB];intros;omega)|(simp_all [valuedB];omega))⟩)
theorem p3_arg {S:SHeap} (b:Bool):FnV Tryz.prog 270 #[.bool b] S (.int .i64 (if b then 0 else 2)):=by
 (refine Fn.enter (args:=[.bool b]) Tryz.func270 rfl Tryz.ntmps270 rfl ?_;intro w0)
 repeat' (first|(refine Walk ?_;intros)|refine JC.block ?_|(refine JO.guard rfl rfl rfl rfl ?_ ?_<;>intro _)|(refine JC.cond rfl ?_ ?_<;>intro _))
 all_goals (refine JX.ret1 Tryz.results270 (ResV.tmp rfl) (List.nil_sublist _) ?_;exact ⟨rfl,by simp_all⟩)
theorem p3_byKey {S:SHeap} {u v:Value} {a b:Label} (hu:rLabel.V S u a) (hv:rLabel.V S v b):FnV Tryz.prog 268 #[u,v] S (.bool (riseL a b false)):=by
 (refine Fn.enter (args:=[u,v]) Tryz.func268 rfl Tryz.ntmps268 rfl ?_;intro w0)
 repeat (first|(refine Walk ?_;intros)|refine JC.block ?_)
 (refine JO.eff rfl rfl rfl (JEff.boxS rfl (by exact vta) nna rfl ?_);intro S1 p l1 hp)
 (refine JO.eff rfl rfl rfl (JEff.boxS rfl (by exact vta) nna rfl ?_);intro S2 q l2 hq)
 repeat (first|(refine Walk ?_;intros)|refine JC.block ?_)
 refine JX.ret1 Tryz.results268 (ResV.tmp rfl) (List.nil_sublist _) ?_
 exact ⟨rfl,by simp [riseL,ltS]⟩
theorem p_CompareString {S:SHeap} (a b:ByteArray):FnV Tryz.prog 370 #[.string a,.string b] S (.int .i64 (cmpS a b)):=by
 (refine Fn.enter (args:=[.string a,.string b]) Tryz.func370 rfl Tryz.ntmps370 rfl ?_;intro w0)
 repeat (first|(refine Walk ?_;intros)|refine JC.block ?_)
 (refine JO.eff rfl rfl rfl (JEff.ext (r:=.int .i64 (cmpS a b)) rfl ((fun w=>by rw [run_callFunc_extern Tryz.func376 (by kernel_rfl) (by kernel_rfl) (by kernel_rfl) (e:=Extern.BytealgCompare.compare) (by kernel_rfl),Lib.run_compareString];rfl)) rfl ?_))
 repeat (first|(refine Walk ?_;intros)|refine JC.block ?_)
 refine JX.ret1 Tryz.results370 (ResV.tmp rfl) (List.nil_sublist _) ?_
 exact ⟨rfl,rfl⟩
theorem p_Compare {S:SHeap} (a b:ByteArray):FnV Tryz.prog 351 #[.string a,.string b] S (.int .i64 (cmpS a b)):=by
 (refine Fn.enter (args:=[.string a,.string b]) Tryz.func351 rfl Tryz.ntmps351 rfl ?_;intro w0)
 repeat' (first|(refine Walk ?_;intros)|refine JC.block ?_|(refine JO.eff rfl rfl rfl (JEff.callV rfl (p_CompareString _ _) rfl ?_);intro _ _)|(refine JO.guard rfl rfl rfl rfl ?_ ?_<;>intro _)|(refine JC.cond rfl ?_ ?_<;>intro _))
 refine JX.ret1 Tryz.results351 (ResV.tmp rfl) (List.nil_sublist _) ?_
 exact ⟨rfl,rfl⟩
theorem p_Or2 {S:SHeap} {v:Value} {xs:List Int} (hv:(rSlice 8 rI64).V S v xs):FnV Tryz.prog 148 #[v] S (.int .i64 ((xs.find? (fun x=>!decide (x=0))).getD 0)):=by
 obtain ⟨a,c,rfl,_,_,hb,_⟩:=V_slice.1 hv
 unfold big at hb
 (refine Fn.enter (args:=[.slice a xs.length c]) Tryz.func148 rfl Tryz.ntmps148 rfl ?_;intro w0)
 repeat (first|(refine Walk ?_;intros)|refine JC.block ?_)
 refine JC.loop (σ:=Nat) (fun _=>S) (fun _=>[]) (fun k=>[(3,.int .i64 0),(6,.slice a xs.length c),(7,.int .i64 xs.length),(8,.int .i64 k)]) (fun k=>k≤xs.length∧(xs.drop k).find? (fun x=>!decide (x=0))=xs.find? (fun x=>!decide (x=0))) (fun k=>xs.length - k) 0 ⟨Nat.zero_le _,rfl⟩ rfl rfl (by exact sba) ?_
 rintro k ⟨hk,hi⟩
 repeat (first|(refine Walk ?_;intros)|refine JC.block ?_)
 refine JC.cond rfl (fun hc=>?_) (fun hc=>?_)
 ·have hk':=dlt hc
  obtain ⟨x,hx,hd⟩:=drop_at hk'
  rw [hd,List.find?_cons] at hi
  repeat (first|(refine Walk ?_;intros)|refine JC.block ?_)
  refine JC.cond rfl (fun h1=>?_) (fun h1=>?_)
  ·rw [h1] at hi
   repeat (first|(refine Walk ?_;intros)|refine JC.block ?_)
   refine JX.ret1 Tryz.results148 (ResV.tmp rfl) (List.nil_sublist _) ?_
   exact ⟨rfl,by simp [← hi]⟩
  ·rw [h1] at hi
   repeat (first|(refine Walk ?_;intros)|refine JC.block ?_)
   exact JX.round (k+1) ⟨hk',hi⟩ (by omega) rfl rfl (by exact sba)
 ·have hk':=dnlt hc
  rw [List.drop_eq_nil_of_le hk'] at hi
  repeat (first|(refine Walk ?_;intros)|refine JC.block ?_)
  refine JX.ret1 Tryz.results148 (ResV.tmp rfl) (List.nil_sublist _) ?_
  exact ⟨rfl,by simp [← hi]⟩
end Go.Dr
namespace Go.Dr
open Go.Proofs
set_option maxRecDepth 20000
set_option linter.unusedSimpArgs false
set_option linter.unusedVariables false
theorem p_indexFunc {S:SHeap} {s:ByteArray} {f:FuncId} {fs cs:Array Value} (g:Int→Bool) (hs:s.size≤big) (hE:Ent Tryz.prog f)
  (hf:∀ S',S.le S'→∀ c:Int,FnV Tryz.prog f (fs.toList++[Value.int .i32 c]++cs.toList).toArray S' (.bool (g c))):FnV Tryz.prog 304 #[.string s,.func (.func f) fs cs,.bool true] S (.int .i64 (scanR g s s.size 0)):=by
 unfold big at hs
 (refine Fn.enter (args:=[.string s,.func (.func f) fs cs,.bool true]) Tryz.func304 rfl Tryz.ntmps304 rfl ?_;intro w0)
 repeat (first|(refine Walk ?_;intros)|refine JC.block ?_)
 (refine JO.eff rfl rfl rfl (JEff.rangeT rfl rfl ?_);intro b hb)
 repeat (first|(refine Walk ?_;intros)|refine JC.block ?_)
 refine JC.loop (σ:=SHeap × Nat × Nat) (fun q=>q.1) (fun q=>[.blk b (.stringIter s q.2.1)]) (fun q=>[(1,.func (.func f) fs cs),(2,.bool true),(10,.pointer (some ⟨b,0,none⟩))]) (fun q=>S.le q.1∧s.size - q.2.1≤q.2.2∧scanR g s s.size 0=scanR g s q.2.2 q.2.1) (fun q=>s.size - q.2.1) (S,0,s.size) ⟨SHeap.le.refl _,by simp,rfl⟩ rfl rfl (by exact sba) ?_
 rintro ⟨S1,p,k⟩ ⟨hl1,hk,hi⟩
 dsimp only at hl1 hk hi ⊢
 repeat (first|(refine Walk ?_;intros)|refine JC.block ?_)
 refine JO.eff rfl rfl rfl (JEff.nextT rfl pma (by intro l hl;cases hl) rfl (fun hp=>?_) (fun hp=>?_))
 ·obtain ⟨k,rfl⟩:∃ j,k=j+1:=⟨k - 1,by omega⟩
  have hw:=decode_pos s p
  rw [scanR,if_pos hp] at hi
  repeat (first|(refine Walk ?_;intros)|refine JC.block ?_)
  (refine JO.eff rfl rfl rfl (JEff.dynV rfl (by assumption) rfl ((hf _ (by exact lea) _)) rfl ?_);intro _ _)
  repeat (first|(refine Walk ?_;intros)|refine JC.block ?_)
  refine JC.cond rfl (fun h1=>?_) (fun h1=>?_)
  ·have h1:g (Utf8.decode s p).1=true:=by simpa using h1
   rw [if_pos h1] at hi
   repeat (first|(refine Walk ?_;intros)|refine JC.block ?_)
   refine JX.ret1 Tryz.results304 (ResV.tmp rfl) (List.nil_sublist _) ?_
   exact ⟨rfl,by rw [hi]⟩
  ·have h1:g (Utf8.decode s p).1=false:=by simpa using h1
   rw [if_neg (by rw [h1];simp)] at hi
   repeat (first|(refine Walk ?_;intros)|refine JC.block ?_)
   exact JX.round (_,p+(Utf8.decode s p).2,k) ⟨by exact lea,by dsimp only;omega,hi⟩ (by dsimp only;omega) rfl rfl (by exact sba)
 ·have hi':scanR g s s.size 0=-1:=by
   rw [hi]
   cases k with
   | zero=>rfl
   | succ k=>rw [scanR,if_neg (by omega)]
  repeat (first|(refine Walk ?_;intros)|refine JC.block ?_)
  refine JX.ret1 Tryz.results304 (ResV.tmp rfl) (List.nil_sublist _) ?_
  exact ⟨rfl,by rw [hi']⟩
theorem p_sIndexFunc {S:SHeap} {s:ByteArray} {f:FuncId} {fs cs:Array Value} (g:Int→Bool) (hs:s.size≤big) (hE:Ent Tryz.prog f)
  (hf:∀ S',S.le S'→∀ c:Int,FnV Tryz.prog f (fs.toList++[Value.int .i32 c]++cs.toList).toArray S' (.bool (g c))):FnV Tryz.prog 253 #[.string s,.func (.func f) fs cs] S (.int .i64 (scanR g s s.size 0)):=by
 (refine Fn.enter (args:=[.string s,.func (.func f) fs cs]) Tryz.func253 rfl Tryz.ntmps253 rfl ?_;intro w0)
 repeat' (first|(refine Walk ?_;intros)|refine JC.block ?_|(refine JO.eff rfl rfl rfl (JEff.callV rfl (p_indexFunc g hs hE hf) rfl ?_);intro _ _)|(refine JO.guard rfl rfl rfl rfl ?_ ?_<;>intro _)|(refine JC.cond rfl ?_ ?_<;>intro _))
 refine JX.ret1 Tryz.results253 (ResV.tmp rfl) (List.nil_sublist _) ?_
 exact ⟨rfl,rfl⟩
theorem inside_high:∀ c:Int,128≤c→isInside c=false:=by
 intro c hc
 simp [isInside,isLetter];omega
theorem valueB_scan (s:ByteArray):valueB s=(decide (¬ s=noS)&&decide (s.size≤15)&&decide (scanR (fun c=>!isInside c) s s.size 0 < 0)):=by
 rw [scanR_all isInside inside_high s s.size 0 (Nat.zero_le _) (by omega),List.drop_zero]
 have h1:decide (1≤s.size)=decide (¬ s=noS):=by
  by_cases h:s=noS
  ·subst h;rfl
  ·have:s.size≠0:=fun h0=>h (by
    obtain ⟨d⟩:=s
    have:d=#[]:=by simpa [ByteArray.size] using h0
    rw [this];rfl)
   simp [h];omega
 rw [valueB,h1,Bool.and_comm,← Bool.and_assoc,Bool.and_comm (decide (s.size≤15))]
 cases decide (¬ s=noS)<;>cases decide (s.size≤15)<;>simp
theorem p3_Value {S:SHeap} (s:ByteArray) (hs:s.size≤big):FnV Tryz.prog 169 #[.string s] S (.bool (valueB s)):=by
 (refine Fn.enter (args:=[.string s]) Tryz.func169 rfl Tryz.ntmps169 rfl ?_;intro w0)
 have hf:∀ S1 S':SHeap,S1.le S'→∀ c:Int,FnV Tryz.prog 251 ((#[]:Array Value).toList++[Value.int .i32 c]++(#[]:Array Value).toList).toArray S' (.bool (!isInside c)):=fun _ _ _ c=>p3_Value1 c
 have hE:Ent Tryz.prog 251:=inferInstance
 repeat' (first|(refine Walk ?_;intros)|refine JC.block ?_|(refine JO.eff rfl rfl rfl (JEff.callV rfl (p_sIndexFunc (fs:=#[]) (cs:=#[]) (fun c=>!isInside c) hs hE (hf _)) rfl ?_);intro _ _)|(refine JO.guard rfl rfl rfl rfl ?_ ?_<;>intro _)|(refine JC.cond rfl ?_ ?_<;>intro _))
 all_goals (refine JX.ret1 Tryz.results169 (ResV.tmp rfl) (List.nil_sublist _) ?_;refine ⟨rfl,?_⟩;rw [valueB_scan];(first|((simp only [noS, *,Bool.and_true,Bool.true_and,Bool.false_and,Bool.and_false,Bool.or_true,Bool.true_or,Bool.false_or,Bool.or_false,Bool.not_true,Bool.not_false])<;>rfl)|(simp only [noS, *,Bool.and_true,Bool.true_and,Bool.false_and,Bool.and_false,Bool.or_true,Bool.true_or,Bool.false_or,Bool.or_false,Bool.not_true,Bool.not_false];done)|(simp [noS, *];done)|(simp_all [noS];done)|(simp_all [noS];intros;omega)|(simp_all [noS];omega)))
theorem p3_Name {S:SHeap} (s:ByteArray) (hs:s.size≤big):FnV Tryz.prog 107 #[.string s] S (.bool (nameB s)):=by
 (refine Fn.enter (args:=[.string s]) Tryz.func107 rfl Tryz.ntmps107 rfl ?_;intro w0)
 repeat (first|(refine Walk ?_;intros)|refine JC.block ?_)
 (refine JO.eff rfl rfl rfl (JEff.callV rfl (p3_Value s hs) rfl ?_);intro _ _)
 repeat (first|(refine Walk ?_;intros)|refine JC.block ?_)
 refine JO.guard rfl rfl rfl rfl (fun h1=>?_) (fun h1=>?_)
 ·obtain ⟨x,hx⟩:∃ x,s.data.toList[(0:Int).toNat]?=some x:=by
   simp [valueB] at h1
   exact ⟨s.data.toList[0]'(by simp;omega),List.getElem?_eq_getElem (by simp;omega)⟩
  repeat (first|(refine Walk ?_;intros)|refine JC.block ?_)
  (refine JO.eff rfl rfl rfl (JEff.callV rfl (p3_small _) rfl ?_);intro _ _)
  repeat (first|(refine Walk ?_;intros)|refine JC.block ?_)
  refine JX.ret1 Tryz.results107 (ResV.tmp rfl) (List.nil_sublist _) ?_
  refine ⟨rfl,?_⟩
  have hx':s.data.toList[0]?=some x:=hx
  unfold nameB
  rw [h1]
  cases hl:s.data.toList with
  | nil=>rw [hl] at hx';cases hx'
  | cons y ys=>rw [hl] at hx';cases hx';simp
 ·repeat (first|(refine Walk ?_;intros)|refine JC.block ?_)
  refine JX.ret1 Tryz.results107 (ResV.tmp rfl) (List.nil_sublist _) ?_
  exact ⟨rfl,by simp [nameB,h1]⟩
theorem p3_star {S:SHeap} (s:ByteArray) (hs:s.size≤big):FnV Tryz.prog 271 #[.string s] S (.bool (valueB s||decide (s=starS))):=by
 (refine Fn.enter (args:=[.string s]) Tryz.func271 rfl Tryz.ntmps271 rfl ?_;intro w0)
 repeat' (first|(refine Walk ?_;intros)|refine JC.block ?_|(refine JO.eff rfl rfl rfl (JEff.callV rfl (p3_Value s hs) rfl ?_);intro _ _)|(refine JO.guard rfl rfl rfl rfl ?_ ?_<;>intro _)|(refine JC.cond rfl ?_ ?_<;>intro _))
 all_goals (refine JX.ret1 Tryz.results271 (ResV.tmp rfl) (List.nil_sublist _) ?_;exact ⟨rfl,by (first|((simp only [starS,Bool.or_comm, *,Bool.and_true,Bool.true_and,Bool.false_and,Bool.and_false,Bool.or_true,Bool.true_or,Bool.false_or,Bool.or_false,Bool.not_true,Bool.not_false])<;>rfl)|(simp only [starS,Bool.or_comm, *,Bool.and_true,Bool.true_and,Bool.false_and,Bool.and_false,Bool.or_true,Bool.true_or,Bool.false_or,Bool.or_false,Bool.not_true,Bool.not_false];done)|(simp [starS,Bool.or_comm, *];done)|(simp_all [starS,Bool.or_comm];done)|(simp_all [starS,Bool.or_comm];intros;omega)|(simp_all [starS,Bool.or_comm];omega))⟩)
theorem cmpS_or (a b:Label):decide (((([cmpS a.key b.key,cmpS a.value b.value]:List Int).find? (fun x=>!decide (x=0))).getD 0) < 0)=riseL a b true:=by
 have h1:∀ x y:List UInt8,(Lib.compareBytes x y=0↔x=y)∧(decide (Lib.compareBytes x y < 0)=Op.bytesLess x y):=by
  intro x
  induction x with
  | nil=>intro y;cases y<;>simp [Lib.compareBytes,Op.bytesLess]
  | cons c x ih=>
   intro y
   cases y with
   | nil=>simp [Lib.compareBytes,Op.bytesLess]
   | cons d y=>
    unfold Lib.compareBytes Op.bytesLess
    by_cases h1:c < d
    ·have:¬ c=d:=by rintro rfl;exact absurd h1 (by simp)
     simp [h1,this]
    ·by_cases h2:d < c
     ·have:¬ c=d:=by rintro rfl;exact absurd h2 (by simp)
      simp [h1,h2,this]
     ·have:c=d:=by
       apply UInt8.toNat_inj.1
       have a1:¬ c.toNat < d.toNat:=fun h=>h1 (UInt8.lt_iff_toNat_lt.2 h)
       have a2:¬ d.toNat < c.toNat:=fun h=>h2 (UInt8.lt_iff_toNat_lt.2 h)
       omega
      subst this
      simp [h1,ih y]
 have h2:∀ x y:ByteArray,(cmpS x y=0↔x=y)∧decide (cmpS x y < 0)=ltS x y:=by
  intro x y
  refine ⟨?_,(h1 _ _).2⟩
  rw [cmpS,(h1 _ _).1]
  constructor
  ·intro h
   cases x;cases y;simp at h;simp [h]
  ·rintro rfl;rfl
 obtain ⟨k1,k2⟩:=h2 a.key b.key
 obtain ⟨v1,v2⟩:=h2 a.value b.value
 unfold riseL
 by_cases hk:a.key=b.key
 ·have:cmpS a.key b.key=0:=k1.2 hk
  have hl:ltS a.key b.key=false:=by rw [← k2,this];rfl
  rw [hl]
  rw [this]
  by_cases hv:cmpS a.value b.value=0
  ·simp [hv,hk,← v2]
  ·simp [hv,hk,← v2]
 ·have h0:¬ cmpS a.key b.key=0:=fun h=>hk (k1.1 h)
  simp [h0,hk,← k2]
end Go.Dr
