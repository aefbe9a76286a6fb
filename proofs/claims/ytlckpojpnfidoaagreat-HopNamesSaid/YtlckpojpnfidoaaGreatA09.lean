/- Part 10 of the rules and of the walks that the proofs of this seat rest on; no condition. -/
import Derived.Test.YtlckpojpnfidoaaGreatA08
import Derived.Shelf.SlicesE.DeleteFunc
import Derived.Shelf.SlicesE.Compact
import Derived.Shelf.SlGeneric
import Derived.Shelf.SlSortCmp.NoneTotal
import Derived.Shelf.Sort.Plain
import Derived.Shelf.Slices.In.SortNone
import Derived.Ground.SlsfProg
import Derived.ControlIn
import Derived.Scope
set_option linter.unusedVariables false
set_option linter.unusedSimpArgs false
namespace Go.Dr
def rankV (s:Snap) (p:List Int) (pod:Int):List Int:=sortBy (leftAt s p pod) (waysV s p pod)
theorem ways_mem {s:Snap} {p:List Int} {pod n:Int} (h:n∈waysV s p pod):0≤n∧n < s.nodes.length∧0≤pod∧pod < p.length∧stepV s p ⟨2,pod,n⟩=(p.set pod.toNat n,noC,0):=by
 unfold waysV at h
 obtain ⟨m,hm1,rfl⟩:=List.mem_map.1 h
 obtain ⟨hm2,hm3⟩:=List.mem_filter.1 hm1
 have hm3:(stepV s p ⟨2,pod,m⟩).2.2=0:=of_decide_eq_true hm3
 obtain ⟨q,c,e,hs⟩:∃ q c e,stepV s p ⟨2,pod,m⟩=(q,c,e):=⟨_,_,_,rfl⟩
 rw [hs] at hm3
 obtain rfl:e=0:=hm3
 obtain ⟨h1,h2,_,rfl,_⟩:=step_ok hs
 obtain ⟨v,e1,hi,hi0,_,_,hst⟩:=apply_set h1
 have:=List.mem_range.1 hm2
 dsimp only at e1 hi hi0 hst
 rcases hst with ⟨hk,_⟩|⟨_,hv,_⟩
 ·simp at hk
 ·refine ⟨by omega,by omega,hi0,by omega,?_⟩
  rw [hs,h2,e1,hv]
theorem rank_perm (s:Snap) (p:List Int) (pod:Int):(rankV s p pod).Perm (waysV s p pod):=List.mergeSort_perm _ _
theorem rank_len (s:Snap) (p:List Int) (pod:Int):(rankV s p pod).length=(waysV s p pod).length:=(rank_perm s p pod).length_eq
theorem ways_len (s:Snap) (p:List Int) (pod:Int):(waysV s p pod).length≤s.nodes.length:=by
 unfold waysV
 rw [List.length_map]
 have:=List.length_filter_le (fun (n:Nat)=>mayV s p ⟨2,pod,(n:Int)⟩) (List.range s.nodes.length)
 simpa using this
end Go.Dr
namespace Go.Dr
open Go.Sort Go.RowKit Go.Shelf Go.Proofs Go.Lib
set_option linter.unusedSimpArgs false
set_option linter.unusedVariables false
end Go.Dr
namespace Go.Dr
open Go.Lib
end Go.Dr
namespace Go.Dr
end Go.Dr
namespace Go.Dr
def nd14 (n:UInt8) (c:Int):Node:=⟨⟨#[n]⟩,[c,0,0,0,0],[],[],false,false⟩
def pd14 (x:UInt8) (r:Int):Pod:=⟨⟨#[x]⟩,⟨#[]⟩,[r,0,0,0,0],[],[],[],noNear,noNear,⟨#[]⟩⟩
def insBy (key:Int→Int) (x:Int):List Int→List Int
 | []=>[x]
 | y::l=>if ltBy key y x=true then y::insBy key x l else x::y::l
def iSort (key:Int→Int):List Int→List Int
 | []=>[]
 | x::l=>insBy key x (iSort key l)
theorem insBy_perm (key:Int→Int) (x:Int):∀ l,(insBy key x l).Perm (x::l)
 | []=>List.Perm.refl _
 | y::l=>by
  rw [insBy]
  split
  ·exact ((insBy_perm key x l).cons y).trans (List.Perm.swap _ _ _)
  ·exact List.Perm.refl _
theorem iSort_perm (key:Int→Int):∀ l,(iSort key l).Perm l
 | []=>List.Perm.refl _
 | x::l=>(insBy_perm key x _).trans ((iSort_perm key l).cons x)
theorem insBy_sorted (key:Int→Int) (x:Int):∀ l:List Int,l.Pairwise (fun a b=>ltBy key b a=false)→(insBy key x l).Pairwise (fun a b=>ltBy key b a=false)
 | [],_=>by simp [insBy]
 | y::l,h=>by
  obtain ⟨h1,h2⟩:=List.pairwise_cons.1 h
  rw [insBy]
  split
  ·rename_i hc
   refine List.pairwise_cons.2 ⟨fun z hz=>?_,insBy_sorted key x l h2⟩
   rcases List.mem_cons.1 ((insBy_perm key x l).mem_iff.1 hz) with rfl|hz
   ·simp only [ltBy,Bool.or_eq_true,Bool.and_eq_true,decide_eq_true_eq,Bool.or_eq_false_iff,Bool.and_eq_false_iff,decide_eq_false_iff_not] at *;omega
   ·exact h1 z hz
  ·rename_i hc
   have hc:ltBy key y x=false:=by simpa using hc
   refine List.pairwise_cons.2 ⟨fun z hz=>?_,h⟩
   rcases List.mem_cons.1 hz with rfl|hz
   ·exact hc
   ·exact ltBy_ntrans (h1 z hz) hc
theorem iSort_sorted (key:Int→Int):∀ l,(iSort key l).Pairwise (fun a b=>ltBy key b a=false)
 | []=>List.Pairwise.nil
 | x::l=>insBy_sorted key x _ (iSort_sorted key l)
theorem sortBy_i (key:Int→Int) (l:List Int):sortBy key l=iSort key l:=(sortBy_eq (iSort_perm key l) (iSort_sorted key l)).symm
theorem rank_i (s:Snap) (p:List Int) (pod:Int):rankV s p pod=iSort (leftAt s p pod) (waysV s p pod):=sortBy_i _ _
end Go.Dr
namespace Go.Dr
section
variable {C:Cx} {R:Rg} {Q:Post} {S:SHeap} {M:List MEnt} {e:Env} {rest:List Nat}
variable {d:Nat} {ty:TypeId} {pos:String} {aft:Array Edge} {g:Option (Nat × Bool)} {an:Bool}
theorem JPure.quo {t t':TypeId} {x y:Operand} {a b:Int} (hx:ev e x=some (.int .i64 a)) (hy:ev e y=some (.int .i64 b)) (hb:b≠0) (hr:Rng (a.tdiv b)) (hdN:Nat.blt d C.N=true) (k:JO C R rest Q S M ((d,.int .i64 (a.tdiv b))::e)) :
  JPure C R an ⟨some d,.binOp .quo t x y t',ty,pos,aft,g⟩ rest Q S M e:=
 JPure.of rfl hdN (fun a' w' h=>by
  have hwr:IntKind.i64.wrap (a.tdiv b)=a.tdiv b:=by rw [IntKind.wrap_i64];unfold Rng at hr;omega
  simp [execOp,h.eval hx,h.eval hy,eqGuard,binOp,Op.intDiv,hb,Sem.run_bind,Sem.run_pure,Result.andThen,hwr]) k
end
end Go.Dr
namespace Go.Dr
open Go.Proofs
set_option maxRecDepth 20000
set_option maxHeartbeats 2000000
set_option linter.unusedSimpArgs false
set_option linter.unusedVariables false
theorem used_nn {s:Snap} (h:checkS s=0) {p:List Int} (hlen:p.length=s.pods.length) (n:Int) (k:Nat):0≤at0 (usedV s p n) k:=by
 obtain ⟨_,h2⟩:=used_fine h hlen n
 unfold at0
 rw [List.getD_eq_getElem?_getD]
 cases hz:(usedV s p n)[k]? with
 | none=>simp
 | some z=>exact (h2 z (List.mem_of_getElem? hz)).1
theorem left_no {s:Snap} {p:List Int} {node:Int} (h:¬ (checkP s p=0∧0≤node∧node < s.nodes.length)):leftV s p node=0:=by unfold leftV;rw [if_neg h]
theorem p7_Used_eq {S:SHeap} {u v:Value} {s:Snap} {p l:List Int} {node:Int} (h:usedP s p node=l) (hu:rSnap.V S u s) (hv:(rSlice 8 rI64).V S v p):FnV Tryz.prog 121 #[u,v,.int .i64 node] S (.agg (ints l)):=by
 have hh:=p7_Used node hu hv
 rw [h] at hh;exact hh
theorem s57_L14a {P K:Prop} (k:K) (h:Goal K→P:=by
 intro zk
 (first|refine Walk ?_|refine JC.block ?_|(refine JO.eff rfl rfl rfl (JEff.callV rfl (p7_Check (by exact vta) (by exact vta)) rfl ?_);intro zqa zqb)|(refine WBox ?_)|(refine WNew ?_)|(refine WPut ?_))
 (repeat (first|revert zqg|revert zqf|revert zqe|revert zqd|revert zqc|revert zqb|revert zqa))
 exact zk.k):P:=h ⟨k⟩
theorem p14_Left {S:SHeap} {u v:Value} {s:Snap} {p:List Int} (node:Int) (hu:rSnap.V S u s) (hv:(rSlice 8 rI64).V S v p):FnV Tryz.prog 57 #[u,v,.int .i64 node] S (.int .i64 (leftV s p node)):=by
 (refine Fn.enter (args:=[u,v,.int .i64 node]) Tryz.func57 rfl Tryz.ntmps57 rfl ?_;intro w0)
 repeat (refine s57_L14a ?_;intros)
 by_cases hc:checkP s p=0
 ·rw [decide_eq_true hc]
  repeat (refine s57_L14a ?_;intros)
  by_cases h0:node < 0
  ·rw [decide_eq_true h0,left_no (by omega)]
   repeat (refine s57_L14a ?_;intros)
   (refine JX.ret1 Tryz.results57 (ResV.tmp rfl) (List.nil_sublist _) ?_)
   exact ⟨rfl,rfl⟩
  rw [decide_eq_false h0]
  repeat (refine s57_L14a ?_;intros)
  by_cases h1:(s.nodes.length:Int)≤node
  ·rw [decide_eq_true h1,left_no (by omega)]
   repeat (refine s57_L14a ?_;intros)
   (refine JX.ret1 Tryz.results57 (ResV.tmp rfl) (List.nil_sublist _) ?_)
   exact ⟨rfl,rfl⟩
  rw [decide_eq_false h1]
  obtain ⟨hs,hlen,_⟩:=checkP_ok hc
  obtain ⟨x,hx⟩:∃ x,s.nodes[node.toNat]?=some x:=⟨_,List.getElem?_eq_getElem (by omega)⟩
  have hxm:=List.mem_of_getElem? hx
  have hxr:=shaped_cap (checkS_ok hs).1 x hxm
  obtain ⟨hul,hur⟩:=used_fine hs hlen node
  have hU:(rArr 5).V S (.agg (ints (usedV s p node))) (usedV s p node):=V_arr.2 ⟨rfl,hul,fun z hz=>by have:=hur z hz;unfold Qty at this;unfold Rng;omega⟩
  have hcap:capOf s node.toNat=x.cap:=by simp [capOf,hx]
  have hlv:leftV s p node=leftTo x.cap (usedV s p node) 5:=by unfold leftV;rw [if_pos ⟨hc,by omega,by omega⟩,hcap]
  have hlr:=leftTo_rng (cap:=x.cap) (used_nn hs hlen node)
  have hcl:=(snap_caps (by assumption:PtrTo _ _ rSnap s) x hxm).1
  have hus:usedP s p node=usedV s p node:=by unfold usedP;rw [if_pos (by simp [z0,hc];omega)]
  rw [hlv]
  repeat (first|(refine Walk ?_;intros)|refine JC.block ?_|(refine JO.eff rfl rfl rfl (JEff.callV rfl (p7_Used_eq hus (by exact vta) (by exact vta)) rfl ?_);intro _ _)|(refine JO.eff rfl rfl rfl (JEff.callV rfl (p7_Check (by exact vta) (by exact vta)) rfl ?_);intro _ _)|(refine WBox ?_;intros)|(refine WNew ?_;intros)|(refine WPut ?_;intros))
  obtain ⟨rfl,_,_⟩:=V_arr.1 (by assumption:(rArr 5).V _ _ x.cap)
  refine JC.loopF0 (σ:=Nat) [(7,_),(34,_)] (fun q=>[(6,.int .i64 (leftTo x.cap (usedV s p node) q)),(35,.int .i64 q)]) (fun Si q=>q≤5) (fun q=>5 - q) (0) (by exact sba) (by exact sba) (by omega) ?_;rintro Si k hli hii;(try dsimp only at hii);dsimp only [List.cons_append,List.nil_append]
  repeat (refine s57_L14a ?_;intros)
  refine JC.cond rfl (fun hc2=>?_) (fun hc2=>?_)
  ·have hk':=dlt5 hc2
   obtain ⟨z,hz⟩:∃ z,(usedV s p node)[k]?=some z:=⟨_,List.getElem?_eq_getElem (by omega)⟩
   obtain ⟨y,hy⟩:∃ y,x.cap[k]?=some y:=⟨_,List.getElem?_eq_getElem (by omega)⟩
   have hzr:=hur z (List.mem_of_getElem? hz)
   have hyr:=hxr y (List.mem_of_getElem? hy)
   have hz0:=at0_some hz
   have hy0:=at0_some hy
   have h5:=hlr k
   have hst:leftTo x.cap (usedV s p node) (k+1)=leftTo x.cap (usedV s p node) k+left1 y z:=by simp only [leftTo,hz0,hy0]
   have hl2:=left1_rng (c:=y) (u:=z) (by omega)
   unfold Qty at hzr hyr
   repeat (refine s57_L14a ?_;intros)
   refine JO.pure rfl rfl rfl (JPure.indexV rfl rfl rfl (by omega) (by omega) (by simpa using hy) ?_)
   repeat (refine s57_L14a ?_;intros)
   by_cases hy1:0 < y
   ·rw [decide_eq_true hy1]
    have hl1:left1 y z=(1000*max 0 (y - z)).tdiv y:=if_pos hy1
    repeat (refine s57_L14a ?_;intros)
    refine JO.pure rfl rfl rfl (JPure.quo rfl rfl (by omega) (by rw [← hl1];unfold Rng;omega) rfl ?_)
    rw [← hl1]
    repeat (refine s57_L14a ?_;intros)
    exact JX.roundF (k+1) (by exact lea) (by omega) (by (try dsimp only);omega) rfl (by (try dsimp only);rw [hst];exact sba) (by exact sba)
   ·rw [decide_eq_false hy1]
    have hl1:left1 y z=0:=if_neg hy1
    rw [hl1,Int.add_zero] at hst
    repeat (refine s57_L14a ?_;intros)
    exact JX.roundF (k+1) (by exact lea) (by omega) (by (try dsimp only);omega) rfl (by (try dsimp only);rw [hst];exact sba) (by exact sba)
  ·have hk':=dnlt5 hc2
   obtain rfl:k=5:=by omega
   repeat (refine s57_L14a ?_;intros)
   (refine JX.ret1 Tryz.results57 (ResV.tmp rfl) (List.nil_sublist _) ?_)
   exact ⟨rfl,rfl⟩
 ·rw [decide_eq_false hc,left_no (fun h=>hc h.1)]
  repeat (refine s57_L14a ?_;intros)
  (refine JX.ret1 Tryz.results57 (ResV.tmp rfl) (List.nil_sublist _) ?_)
  exact ⟨rfl,rfl⟩
end Go.Dr
namespace Go.Dr
end Go.Dr
namespace Go.Dr
theorem at0_set_ne {q:List Int} {i j:Nat} {n:Int} (h:i≠j):at0 (q.set i n) j=at0 q j:=by
 unfold at0;simp [List.getD_eq_getElem?_getD,List.getElem?_set_ne h]
theorem at0_set_eq {q:List Int} {i:Nat} {n:Int} (h:i < q.length):at0 (q.set i n) i=n:=by
 unfold at0;simp [List.getD_eq_getElem?_getD,List.getElem?_set_self h]
end Go.Dr
namespace Go.Dr
end Go.Dr
namespace Go.Dr
def bindS (x:Move):Step:=⟨2,x.pod,x.to⟩
def offS (pod:Int):Step:=⟨1,pod,0⟩
def stepsOf (p:List Int) (x:Move):List Step:=if at0 p x.pod.toNat=x.to then [] else if at0 p x.pod.toNat=-1 then [bindS x] else [offS x.pod,bindS x]
def askM (s:Snap) (p:List Int) (x:Move):Int:=if ¬ checkP s p=0 then checkP s p else if x.pod < 0∨(p.length:Int)≤x.pod∨x.to < 0∨(s.nodes.length:Int)≤x.to then 9 else 0
def goS (s:Snap):List Int→List Step→List Int × Clause × Int
 | q,[]=>(q,noC,0)
 | q,y::l=>if ¬ (stepV s q y).2.2=0 then ([],(stepV s q y).2.1,100) else goS s (stepV s q y).1 l
def tryV (s:Snap) (p:List Int) (x:Move):List Int × List Step × Clause × Int:=
 if ¬ askM s p x=0 then ([],[],noC,askM s p x)
 else if (goS s p (stepsOf p x)).2.2=0 then ((goS s p (stepsOf p x)).1,stepsOf p x,noC,0)
 else ([],[],(goS s p (stepsOf p x)).2.1,100)
def canV (s:Snap) (p:List Int) (x:Move):Bool:=decide ((tryV s p x).2.2.2=0)&&decide (0 < (tryV s p x).2.1.length)
def hopOk (s:Snap) (p off:List Int) (l:List Move) (shun:List Int) (x:Move) (n:Int):Bool:=!(decide (n=at0 p x.pod.toNat)||decide (n=x.to)||decide (n∈shun))&&l.any (fun y=>!decide (y.pod=x.pod)&&canV s (off.set x.pod.toNat n) y)
def findN (s:Snap) (p:List Int) (l:List Move) (shun:List Int) (x:Move):Option Int:=
 if askM s p x=0∧¬ at0 p x.pod.toNat=-1∧¬ at0 p x.pod.toNat=x.to∧(stepV s p (offS x.pod)).2.2=0 then (rankV s (stepV s p (offS x.pod)).1 x.pod).find? (hopOk s p (stepV s p (offS x.pod)).1 l shun x) else none
def findF (f:Move→Option Int):Int→List Move→Int × Int × Bool
 | _,[]=>(0,0,false)
 | i,x::r=>match f x with|some n=>(i,n,true)|none=>findF f (i+1) r
theorem findF_some {f:Move→Option Int} {i n:Int} {x:Move} {r:List Move} (h:f x=some n):findF f i (x::r)=(i,n,true):=by rw [findF,h]
theorem findF_none {f:Move→Option Int} {i:Int} {x:Move} {r:List Move} (h:f x=none):findF f i (x::r)=findF f (i+1) r:=by rw [findF,h]
def findGo (s:Snap) (p:List Int) (l:List Move) (shun:List Int) (i:Int) (r:List Move):Int × Int × Bool:=findF (findN s p l shun) i r
def findV (s:Snap) (p:List Int) (l:List Move) (shun:List Int):Int × Int × Bool:=findGo s p l shun 0 l
def rowGo (s:Snap):List Int→List Step→List Move→List Move→List Int × List Step × List Move
 | q,st,lf,[]=>(q,st,lf)
 | q,st,lf,x::l=>if ¬ (tryV s q x).2.2.2=0 then rowGo s q st (lf++[x]) l else rowGo s (tryV s q x).1 (st++(tryV s q x).2.1) lf l
def moveAt (l:List Move) (i:Int):Move:=l.getD i.toNat ⟨0,0⟩
def hopV (s:Snap) (q:List Int) (lf:List Move) (shun:List Int) (had:List Int):Option (List Int × List Step × Int):=
 if (findV s q lf shun).2.2=true∧¬ (moveAt lf (findV s q lf shun).1).pod∈had then
  (if (tryV s q ⟨(moveAt lf (findV s q lf shun).1).pod,(findV s q lf shun).2.1⟩).2.2.2=0 then some ((tryV s q ⟨(moveAt lf (findV s q lf shun).1).pod,(findV s q lf shun).2.1⟩).1,(tryV s q ⟨(moveAt lf (findV s q lf shun).1).pod,(findV s q lf shun).2.1⟩).2.1,(moveAt lf (findV s q lf shun).1).pod) else none)
 else none
structure RdS where
 q:List Int
 st:List Step
 lf:List Move
 had:List Int
def rdRow (s:Snap) (r:RdS):RdS:=⟨(rowGo s r.q r.st [] r.lf).1,(rowGo s r.q r.st [] r.lf).2.1,(rowGo s r.q r.st [] r.lf).2.2,r.had⟩
def rdGo (s:Snap) (shun:List Int):Nat→RdS→RdS
 | 0,r=>r
 | f+1,r=>if r.st.length < (rdRow s r).st.length then rdGo s shun f (rdRow s r) else
  match hopV s (rdRow s r).q (rdRow s r).lf shun (rdRow s r).had with
  | some (q,st,pod)=>rdGo s shun f ⟨q,(rdRow s r).st++st,(rdRow s r).lf,(rdRow s r).had++[pod]⟩
  | none=>rdRow s r
def rdStart (p:List Int) (l:List Move):RdS:=⟨p,[],l.take 48,[]⟩
def rdFuel (l:List Move):Nat:=2*(l.take 48).length+1
def roundV (s:Snap) (p:List Int) (l:List Move) (shun:List Int):List Int × List Step × Int:=
 if ¬ checkP s p=0 then ([],[],0) else ((rdGo s shun (rdFuel l) (rdStart p l)).q,(rdGo s shun (rdFuel l) (rdStart p l)).st,(rdGo s shun (rdFuel l) (rdStart p l)).had.length)
/-! ### What a try does -/
theorem run_append (s:Snap):∀ (a b:List Step) (q q1:List Int) (i i1:Int),runGo s q i a=(q1,i1,0)→runGo s q i (a++b)=runGo s q1 i1 b
 | [],b,q,q1,i,i1,h=>by
  rw [runGo] at h
  cases h
  rfl
 | y::a,b,q,q1,i,i1,h=>by
  rw [runGo] at h
  rw [List.cons_append,runGo]
  split at h
  ·rename_i h1
   have:=congrArg (fun z=>z.2.2) h
   dsimp only at this
   exact absurd this h1
  ·rename_i h1
   rw [if_neg h1]
   exact run_append s a b _ q1 _ i1 h
theorem goS_run (s:Snap):∀ (l:List Step) (q:List Int) (i:Int),(goS s q l).2.2=0→runGo s q i l=((goS s q l).1,i+l.length,0)
 | [],q,i,_=>by rw [runGo,goS];simp
 | y::l,q,i,h=>by
  rw [goS] at h
  rw [runGo,goS]
  split at h
  ·cases h
  ·rename_i h1
   rw [if_neg h1,if_neg h1,goS_run s l _ _ h]
   refine Prod.ext rfl (Prod.ext ?_ rfl)
   simp only [List.length_cons];omega
theorem goS_keeps {s:Snap} {p0:List Int}:∀ (l:List Step) (q:List Int),checkP s q=0→keepsC s (allL s p0) q→(goS s q l).2.2=0→checkP s (goS s q l).1=0∧keepsC s (allL s p0) (goS s q l).1∧(goS s q l).1.length=q.length
 | [],q,h1,h2,_=>by rw [goS];exact ⟨h1,h2,rfl⟩
 | y::l,q,h1,h2,h=>by
  rw [goS] at h ⊢
  split at h
  ·cases h
  ·rename_i he
   rw [if_neg he]
   obtain ⟨a,b,c⟩:∃ a b,stepV s q y=(a,b,0):=⟨_,_,Prod.ext rfl (Prod.ext rfl (Classical.not_not.1 he))⟩
   obtain ⟨e1,e2,_⟩:=step_ok c
   obtain ⟨f1,f2,_⟩:=apply_check e1
   rw [c] at h ⊢
   dsimp only at h ⊢
   obtain ⟨g1,g2,g3⟩:=goS_keeps l a (by rw [e2];exact f1) (keeps_step h2 c) h
   exact ⟨g1,g2,by rw [g3,e2,f2]⟩
theorem set_at0 {p:List Int} {i:Nat}:p.set i (at0 p i)=p:=by
 refine List.ext_getElem? fun j=>?_
 rw [List.getElem?_set]
 split
 ·rename_i e
  subst e
  split
  ·rename_i h
   rw [at0_some (List.getElem?_eq_getElem h),List.getElem?_eq_getElem h]
  ·rename_i h
   rw [List.getElem?_eq_none (by omega)]
 ·rfl
theorem step_bind {s:Snap} {p:List Int} {x:Move} (h:(stepV s p (bindS x)).2.2=0):stepV s p (bindS x)=(p.set x.pod.toNat x.to,noC,0)∧0≤x.pod∧x.pod < p.length:=by
 obtain ⟨a,b,c⟩:∃ a b,stepV s p (bindS x)=(a,b,0):=⟨_,_,Prod.ext rfl (Prod.ext rfl h)⟩
 obtain ⟨h1,h2,_,rfl,_⟩:=step_ok c
 obtain ⟨v,e1,hi,hi0,_,_,hst⟩:=apply_set h1
 dsimp only [bindS] at e1 hi hi0 hst
 rcases hst with ⟨hk,_⟩|⟨_,hv,_⟩
 ·simp at hk
 ·refine ⟨?_,hi0,by omega⟩
  rw [c,h2]
  exact Prod.ext (e1.trans (by rw [hv])) rfl
theorem step_off {s:Snap} {p:List Int} {pod:Int} (h:(stepV s p (offS pod)).2.2=0):stepV s p (offS pod)=(p.set pod.toNat (-1),noC,0)∧0≤pod∧pod < p.length:=by
 obtain ⟨a,b,c⟩:∃ a b,stepV s p (offS pod)=(a,b,0):=⟨_,_,Prod.ext rfl (Prod.ext rfl h)⟩
 obtain ⟨h1,h2,_,rfl,_⟩:=step_ok c
 obtain ⟨v,e1,hi,hi0,_,_,hst⟩:=apply_set h1
 dsimp only [offS] at e1 hi hi0 hst
 rcases hst with ⟨_,hv,_⟩|⟨hk,_⟩
 ·refine ⟨?_,hi0,by omega⟩
  rw [c,h2]
  exact Prod.ext (e1.trans (by rw [hv])) rfl
 ·simp at hk
theorem askM_ok {s:Snap} {p:List Int} {x:Move} (h:askM s p x=0):checkP s p=0∧0≤x.pod∧x.pod < p.length∧0≤x.to∧x.to < s.nodes.length:=by
 unfold askM at h
 split at h
 ·rename_i h1;exact absurd h h1
 ·rename_i h1
  split at h
  ·cases h
  ·exact ⟨Classical.not_not.1 h1,by omega,by omega,by omega,by omega⟩
theorem try_ok {s:Snap} {p:List Int} {x:Move} (h:(tryV s p x).2.2.2=0):askM s p x=0∧(goS s p (stepsOf p x)).2.2=0∧tryV s p x=(p.set x.pod.toNat x.to,stepsOf p x,noC,0)∧(goS s p (stepsOf p x)).1=p.set x.pod.toNat x.to:=by
 unfold tryV at h ⊢
 split at h
 ·rename_i h1;exact absurd h h1
 ·rename_i h1
  have h1:=Classical.not_not.1 h1
  obtain ⟨_,hp0,hp1,_⟩:=askM_ok h1
  split at h
  ·rename_i h2
   have key:(goS s p (stepsOf p x)).1=p.set x.pod.toNat x.to:=by
    unfold stepsOf at h2 ⊢
    split
    ·rename_i e
     rw [goS,← e,set_at0]
    ·rename_i e
     rw [if_neg e] at h2
     split
     ·rename_i e2
      rw [if_pos e2,goS] at h2
      rw [goS]
      split at h2
      ·cases h2
      ·rename_i e3
       have e3:=Classical.not_not.1 e3
       rw [if_neg (by simpa using e3),goS,(step_bind e3).1]
     ·rename_i e2
      rw [if_neg e2,goS] at h2
      rw [goS]
      split at h2
      ·cases h2
      ·rename_i e3
       have e3:=Classical.not_not.1 e3
       rw [if_neg (by simpa using e3)]
       rw [(step_off e3).1,goS] at h2
       rw [(step_off e3).1,goS]
       dsimp only at h2 ⊢
       split at h2
       ·cases h2
       ·rename_i e4
        have e4:=Classical.not_not.1 e4
        rw [if_neg (by simpa using e4),goS,(step_bind e4).1]
        simp
   rw [if_neg (by simpa using h1),if_pos h2]
   exact ⟨h1,h2,by rw [key],key⟩
  ·cases h
theorem stepsOf_len (p:List Int) (x:Move):(stepsOf p x).length≤2∧((stepsOf p x).length=0↔at0 p x.pod.toNat=x.to):=by
 unfold stepsOf
 split
 ·rename_i h;exact ⟨by simp,by simp [h]⟩
 ·rename_i h
  split<;>exact ⟨by simp,by simp [h]⟩
theorem can_iff {s:Snap} {p:List Int} {x:Move}:canV s p x=true↔(tryV s p x).2.2.2=0∧¬ at0 p x.pod.toNat=x.to:=by
 unfold canV
 rw [Bool.and_eq_true,decide_eq_true_eq,decide_eq_true_eq]
 constructor
 ·rintro ⟨h1,h2⟩
  refine ⟨h1,fun e=>?_⟩
  rw [(try_ok h1).2.2.1] at h2
  have:=(stepsOf_len p x).2.2 e
  dsimp only at h2;omega
 ·rintro ⟨h1,h2⟩
  refine ⟨h1,?_⟩
  rw [(try_ok h1).2.2.1]
  have:¬ (stepsOf p x).length=0:=fun h0=>h2 ((stepsOf_len p x).2.1 h0)
  dsimp only;omega
/-! ### Find -/
theorem findN_ok {s:Snap} {p:List Int} {l:List Move} {shun:List Int} {x:Move} {n:Int} (h:findN s p l shun x=some n) :
  askM s p x=0∧¬ at0 p x.pod.toNat=x.to∧¬ at0 p x.pod.toNat=-1∧stepV s p (offS x.pod)=(p.set x.pod.toNat (-1),noC,0)∧stepV s (p.set x.pod.toNat (-1)) (bindS ⟨x.pod,n⟩)=(p.set x.pod.toNat n,noC,0)∧0≤n∧n < s.nodes.length ∧
  ¬ n=at0 p x.pod.toNat∧¬ n=x.to∧n∉shun∧∃ y∈l,¬ y.pod=x.pod∧canV s (p.set x.pod.toNat n) y=true:=by
 unfold findN at h
 split at h
 ·rename_i hc
  obtain ⟨h1,h2,h3,h4⟩:=hc
  have hoff:=(step_off h4).1
  rw [hoff] at h
  have hm:=List.mem_of_find?_eq_some h
  have hp:=List.find?_some h
  have hw:=(rank_perm s _ x.pod).mem_iff.1 hm
  obtain ⟨a,b,_,_,c⟩:=ways_mem hw
  simp only [hopOk,Bool.and_eq_true,Bool.not_eq_true',Bool.or_eq_false_iff,decide_eq_false_iff_not,List.any_eq_true,List.set_set] at hp c
  obtain ⟨⟨⟨p1,p2⟩,p3⟩,y,y1,y2,y3⟩:=hp
  exact ⟨h1,h3,h2,hoff,c,a,b,p1,p2,p3,y,y1,y2,y3⟩
 ·cases h
theorem findF_ok {f:Move→Option Int}:∀ (r:List Move) (i:Int),((findF f i r).2.2=false→findF f i r=(0,0,false)) ∧
  ((findF f i r).2.2=true→∃ (k:Nat) (x:Move),r[k]?=some x∧(findF f i r).1=i+k∧f x=some (findF f i r).2.1)
 | [],i=>by rw [findF];exact ⟨fun _=>rfl,fun h=>(by cases h)⟩
 | x::r,i=>by
  cases hn:f x with
  | some n=>
   rw [findF_some hn]
   exact ⟨fun h=>(by cases h),fun _=>⟨0,x,rfl,by simp,hn⟩⟩
  | none=>
   rw [findF_none hn]
   obtain ⟨h1,h2⟩:=findF_ok (f:=f) r (i+1)
   refine ⟨h1,fun h=>?_⟩
   obtain ⟨k,y,a,b,c⟩:=h2 h
   exact ⟨k+1,y,by simpa using a,by rw [b];omega,c⟩
theorem findGo_ok {s:Snap} {p:List Int} {l:List Move} {shun:List Int} (r:List Move) (i:Int):((findGo s p l shun i r).2.2=false→findGo s p l shun i r=(0,0,false)) ∧
  ((findGo s p l shun i r).2.2=true→∃ (k:Nat) (x:Move),r[k]?=some x∧(findGo s p l shun i r).1=i+k∧findN s p l shun x=some (findGo s p l shun i r).2.1):=findF_ok r i
theorem find_ok {s:Snap} {p:List Int} {l:List Move} {shun:List Int} (h:(findV s p l shun).2.2=true):∃ (k:Nat) (x:Move),l[k]?=some x∧(findV s p l shun).1=k∧moveAt l (findV s p l shun).1=x∧findN s p l shun x=some (findV s p l shun).2.1:=by
 obtain ⟨k,x,a,b,c⟩:=(findGo_ok l 0).2 h
 have b':(findV s p l shun).1=k:=by unfold findV;rw [b];omega
 refine ⟨k,x,a,b',?_,c⟩
 unfold moveAt
 rw [b',Int.toNat_natCast,List.getD_eq_getElem?_getD,a];rfl
theorem hop_try {s:Snap} {q:List Int} {l:List Move} {shun:List Int} {x:Move} {n:Int} (h:findN s q l shun x=some n):tryV s q ⟨x.pod,n⟩=(q.set x.pod.toNat n,[offS x.pod,bindS ⟨x.pod,n⟩],noC,0):=by
 obtain ⟨h1,h2,h3,h4,h5,h6,h7,h8,_⟩:=findN_ok h
 obtain ⟨a1,a2,a3,_⟩:=askM_ok h1
 have hask:askM s q ⟨x.pod,n⟩=0:=by
  unfold askM
  rw [if_neg (by simpa using a1),if_neg]
  dsimp only;omega
 have hst:stepsOf q ⟨x.pod,n⟩=[offS x.pod,bindS ⟨x.pod,n⟩]:=by
  unfold stepsOf
  rw [if_neg (fun e=>h8 e.symm),if_neg h3]
 have hg:goS s q [offS x.pod,bindS ⟨x.pod,n⟩]=(q.set x.pod.toNat n,noC,0):=by
  rw [goS,h4]
  dsimp only
  rw [if_neg (by simp),goS,h5]
  dsimp only
  rw [if_neg (by simp),goS]
 unfold tryV
 rw [if_neg (by simpa using hask),hst,hg]
 exact if_pos rfl
/-! ### Round -/
theorem nodup_len:∀ {a b:List Int},a.Nodup→(∀ x∈a,x∈b)→a.length≤b.length
 | [],_,_,_=>Nat.zero_le _
 | x::a,b,h,hs=>by
  obtain ⟨h1,h2⟩:=List.nodup_cons.1 h
  have hx:=hs x (by simp)
  have ih:=nodup_len (b:=b.erase x) h2 fun y hy=>(List.mem_erase_of_ne (fun e=>h1 (by rw [← e];exact hy))).2 (hs y (by simp [hy]))
  rw [List.length_erase_of_mem hx] at ih
  have:=List.length_pos_of_mem hx
  simp only [List.length_cons];omega
structure RdC (s:Snap) (p:List Int) (l:List Move) (q:List Int) (st:List Step):Prop where
 chk:checkP s q=0
 len:q.length=p.length
 run:runGo s p 0 st=(q,(st.length:Int),0)
 keep:keepsC s (allL s p) q
 stay:∀ i:Nat,¬ at0 q i=at0 p i→∃ x∈l,x.pod=i
theorem RdC.step {s:Snap} {p q:List Int} {l:List Move} {st:List Step} {x:Move} (h:RdC s p l q st) (hx:∃ y∈l,y.pod=x.pod) (ht:(tryV s q x).2.2.2=0):RdC s p l (tryV s q x).1 (st++(tryV s q x).2.1):=by
 obtain ⟨ha,hg,he,hq⟩:=try_ok ht
 obtain ⟨_,a1,a2,_⟩:=askM_ok ha
 obtain ⟨g1,g2,g3⟩:=goS_keeps _ q h.chk h.keep hg
 rw [he]
 dsimp only
 rw [hq] at g1 g2 g3
 refine ⟨g1,by rw [g3,h.len],?_,g2,fun i hi=>?_⟩
 ·rw [run_append s st _ p q 0 _ h.run,goS_run s _ q _ hg,hq]
  refine Prod.ext rfl (Prod.ext ?_ rfl)
  simp only [List.length_append];omega
 ·by_cases e:x.pod.toNat=i
  ·obtain ⟨y,y1,y2⟩:=hx
   exact ⟨y,y1,by omega⟩
  ·rw [at0_set_ne e] at hi
   exact h.stay i hi
theorem row_ok {s:Snap} {p:List Int} {l:List Move}:∀ (rest:List Move) (q:List Int) (st:List Step) (lf:List Move),RdC s p l q st→(∀ x∈rest,x∈l)→(∀ x∈lf,x∈l) →
  RdC s p l (rowGo s q st lf rest).1 (rowGo s q st lf rest).2.1∧(∀ x∈(rowGo s q st lf rest).2.2,x∈l)∧st.length≤(rowGo s q st lf rest).2.1.length ∧
  (rowGo s q st lf rest).2.1.length+2*(rowGo s q st lf rest).2.2.length≤st.length+2*(lf.length+rest.length)∧(rowGo s q st lf rest).2.2.length≤lf.length+rest.length ∧
  (st.length < (rowGo s q st lf rest).2.1.length→(rowGo s q st lf rest).2.2.length < lf.length+rest.length) ∧
  (¬ st.length < (rowGo s q st lf rest).2.1.length→(rowGo s q st lf rest).1=q∧(rowGo s q st lf rest).2.1=st∧∀ x∈(rowGo s q st lf rest).2.2,x∈lf∨¬ (tryV s q x).2.2.2=0)
 | [],q,st,lf,h,_,hl=>by
  rw [rowGo]
  exact ⟨h,hl,Nat.le_refl _,by simp,by simp,fun h=>by dsimp only at h;omega,fun _=>⟨rfl,rfl,fun x hx=>.inl hx⟩⟩
 | x::rest,q,st,lf,h,hr,hl=>by
  have hxl:=hr x (by simp)
  rw [rowGo]
  split
  ·rename_i hf
   obtain ⟨a,b,c,d,e,f,g⟩:=row_ok rest q st (lf++[x]) h (fun y hy=>hr y (by simp [hy])) (fun y hy=>by
    rcases List.mem_append.1 hy with hy|hy
    ·exact hl y hy
    ·rw [List.mem_singleton] at hy;subst hy;exact hxl)
   simp only [List.length_append,List.length_cons,List.length_nil] at d e f ⊢
   refine ⟨a,b,c,by omega,by omega,fun hh=>by have:=f hh;omega,fun hh=>?_⟩
   obtain ⟨g1,g2,g3⟩:=g hh
   refine ⟨g1,g2,fun y hy=>?_⟩
   rcases g3 y hy with hy|hy
   ·rcases List.mem_append.1 hy with hy|hy
    ·exact .inl hy
    ·rw [List.mem_singleton] at hy;subst hy;exact .inr hf
   ·exact .inr hy
  ·rename_i hf
   have hf:=Classical.not_not.1 hf
   obtain ⟨_,_,he,_⟩:=try_ok hf
   have hs2:=stepsOf_len q x
   obtain ⟨a,b,c,d,e,f,g⟩:=row_ok rest _ _ lf (h.step ⟨x,hxl,rfl⟩ hf) (fun y hy=>hr y (by simp [hy])) hl
   have hst:(tryV s q x).2.1=stepsOf q x:=by rw [he]
   simp only [List.length_append,List.length_cons] at c d e f g ⊢
   rw [hst] at a b c d e f g ⊢
   refine ⟨a,b,by omega,by omega,by omega,fun hh=>by omega,fun hh=>?_⟩
   have h0:(stepsOf q x).length=0:=by omega
   obtain ⟨g1,g2,g3⟩:=g (by omega)
   have hsn:stepsOf q x=[]:=List.eq_nil_of_length_eq_zero h0
   have hqe:(tryV s q x).1=q:=by
    rw [he];dsimp only
    rw [← hs2.2.1 h0,set_at0]
   rw [hqe] at g1 g2 g3 ⊢
   rw [hsn,List.append_nil] at g1 g2 g3 ⊢
   exact ⟨g1,g2,g3⟩
structure RdI (s:Snap) (p:List Int) (l:List Move) (r:RdS):Prop where
 core:RdC s p l r.q r.st
 lf:∀ x∈r.lf,x∈l
 had:∀ x∈r.had,x∈l.map Move.pod
 nodup:r.had.Nodup
 most:r.st.length+2*r.lf.length≤2*(l.length+r.had.length)
theorem RdI.hadLen {s:Snap} {p:List Int} {l:List Move} {r:RdS} (h:RdI s p l r):r.had.length≤l.length:=by
 have:=nodup_len h.nodup h.had
 simpa using this
theorem RdI.row {s:Snap} {p:List Int} {l:List Move} {r:RdS} (h:RdI s p l r):RdI s p l (rdRow s r):=by
 obtain ⟨a,b,_,d,_,_,_⟩:=row_ok r.lf r.q r.st [] h.core h.lf (by simp)
 have:=h.most
 simp only [List.length_nil] at d
 exact ⟨a,b,h.had,h.nodup,by show (rowGo s r.q r.st [] r.lf).2.1.length+2*(rowGo s r.q r.st [] r.lf).2.2.length≤2*(l.length+r.had.length);omega⟩
theorem hopV_some {s:Snap} {q:List Int} {lf:List Move} {shun had:List Int} {q2:List Int} {st:List Step} {pod:Int} (h:hopV s q lf shun had=some (q2,st,pod)) :
  ∃ (k:Nat) (x:Move) (n:Int),lf[k]?=some x∧findV s q lf shun=((k:Int),n,true)∧findN s q lf shun x=some n∧pod=x.pod∧¬ x.pod∈had∧q2=q.set x.pod.toNat n∧st=[offS x.pod,bindS ⟨x.pod,n⟩]∧tryV s q ⟨x.pod,n⟩=(q2,st,noC,0):=by
 unfold hopV at h
 split at h
 ·rename_i hc
  obtain ⟨h1,h2⟩:=hc
  obtain ⟨k,x,a,b,c,d⟩:=find_ok h1
  have ht:=hop_try d
  rw [c] at h h2
  rw [ht] at h
  dsimp only at h
  rw [if_pos rfl] at h
  cases h
  exact ⟨k,x,_,a,Prod.ext b (Prod.ext rfl h1),d,rfl,h2,rfl,rfl,ht⟩
 ·cases h
theorem hopV_eq {s:Snap} {q:List Int} {lf:List Move} {shun had:List Int}:hopV s q lf shun had=if (findV s q lf shun).2.2=true∧¬ (moveAt lf (findV s q lf shun).1).pod∈had then some (q.set (moveAt lf (findV s q lf shun).1).pod.toNat (findV s q lf shun).2.1,[offS (moveAt lf (findV s q lf shun).1).pod,bindS ⟨(moveAt lf (findV s q lf shun).1).pod,(findV s q lf shun).2.1⟩],(moveAt lf (findV s q lf shun).1).pod) else none:=by
 unfold hopV
 split
 ·rename_i hc
  obtain ⟨k,x,a,b,c,d⟩:=find_ok hc.1
  have ht:=hop_try d
  rw [c,ht]
  dsimp only
  rw [if_pos rfl]
 ·rfl
theorem RdI.hop {s:Snap} {p:List Int} {l:List Move} {r:RdS} {shun:List Int} {q2:List Int} {st:List Step} {pod:Int} (h:RdI s p l r) (hh:hopV s r.q r.lf shun r.had=some (q2,st,pod)):RdI s p l ⟨q2,r.st++st,r.lf,r.had++[pod]⟩:=by
 obtain ⟨k,x,n,a,_,_,rfl,hn,hq,hs,ht⟩:=hopV_some hh
 have hxl:=h.lf x (List.mem_of_getElem? a)
 have hc:=h.core.step (x:=⟨x.pod,n⟩) ⟨x,hxl,rfl⟩ (by rw [ht])
 rw [ht] at hc
 refine ⟨hc,h.lf,fun y hy=>?_,?_,?_⟩
 ·rcases List.mem_append.1 hy with hy|hy
  ·exact h.had y hy
  ·rw [List.mem_singleton] at hy;subst hy
   exact List.mem_map.2 ⟨x,hxl,rfl⟩
 ·refine List.nodup_append.2 ⟨h.nodup,by simp,fun a ha b hb=>?_⟩
  rw [List.mem_singleton] at hb;subst hb
  intro e;subst e;exact hn ha
 ·have:=h.most
  rw [hs]
  simp only [List.length_append,List.length_cons,List.length_nil];omega
def RdEnd (s:Snap) (shun:List Int) (r:RdS):Prop:=(∀ x∈r.lf,¬ (tryV s r.q x).2.2.2=0)∧hopV s r.q r.lf shun r.had=none
theorem rdGo_ok {s:Snap} {p:List Int} {l:List Move} {shun:List Int}:∀ (f:Nat) (r:RdS),RdI s p l r→r.lf.length+(l.length - r.had.length) < f→RdI s p l (rdGo s shun f r)∧RdEnd s shun (rdGo s shun f r)
 | 0,r,_,hf=>by omega
 | f+1,r,h,hf=>by
  have hr:=h.row
  obtain ⟨_,_,_,_,e,g,k⟩:=row_ok r.lf r.q r.st [] h.core h.lf (by simp)
  simp only [List.length_nil,Nat.zero_add] at e g k
  rw [rdGo]
  by_cases hg:r.st.length < (rdRow s r).st.length
  ·rw [if_pos hg]
   have h1:(rdRow s r).lf.length < r.lf.length:=g hg
   exact rdGo_ok f _ hr (by show (rdRow s r).lf.length+(l.length - r.had.length) < f;omega)
  ·rw [if_neg hg]
   obtain ⟨k1,k2,k3⟩:=k hg
   cases hh:hopV s (rdRow s r).q (rdRow s r).lf shun (rdRow s r).had with
   | some z=>
    obtain ⟨q2,st,pod⟩:=z
    have h2:=hr.hop hh
    have hl:=h2.hadLen
    simp only [List.length_append,List.length_cons,List.length_nil] at hl
    have hh2:(rdRow s r).had=r.had:=rfl
    rw [hh2] at hl
    have e2:(rdRow s r).lf.length≤r.lf.length:=e
    refine rdGo_ok f _ h2 ?_
    simp only [List.length_append,List.length_cons,List.length_nil,hh2];omega
   | none=>
    refine ⟨hr,fun x hx=>?_,hh⟩
    have hq:(rdRow s r).q=r.q:=k1
    rw [hq]
    rcases k3 x hx with hx|hx
    ·cases hx
    ·exact hx
theorem RdI.start {s:Snap} {p:List Int} (hc:checkP s p=0) (l:List Move):RdI s p (l.take 48) (rdStart p l):=
 ⟨⟨hc,rfl,by rw [rdStart,runGo];rfl,keeps_self s p,fun i h=>absurd rfl h⟩,fun x hx=>hx,fun x hx=>(by cases hx),List.nodup_nil,by simp [rdStart]⟩
theorem round_ok {s:Snap} {p:List Int} (hc:checkP s p=0) (l:List Move) (shun:List Int):RdI s p (l.take 48) (rdGo s shun (rdFuel l) (rdStart p l))∧RdEnd s shun (rdGo s shun (rdFuel l) (rdStart p l)):=
 rdGo_ok _ _ (RdI.start hc l) (by show (l.take 48).length+((l.take 48).length - 0) < _;unfold rdFuel;omega)
theorem keeps_worse {s:Snap} {p q:List Int} (h:checkP s p=0) (hq:checkP s q=0) (hk:keepsC s (allL s p) q):worseV s p q=([],0):=by
 rw [worse_ok h hq]
 refine Prod.ext ?_ rfl
 refine List.filter_eq_nil_iff.2 fun c hc=>?_
 have:=hk c hc
 simp [worseF];omega
/-! ### Moves of unlike pods -/
def Unlike (l:List Move):Prop:=∀ x∈l,∀ y∈l,x.pod=y.pod→x=y
def DoneM (q:List Int) (x:Move):Prop:=0≤x.pod∧x.pod < q.length∧at0 q x.pod.toNat=x.to
theorem done_set {q:List Int} {x:Move} {pod n:Int} (h:DoneM q x) (h0:0≤pod) (hne:¬ x.pod=pod):DoneM (q.set pod.toNat n) x:=
 ⟨h.1,by rw [List.length_set];exact h.2.1,by rw [at0_set_ne (by have:=h.1;omega)];exact h.2.2⟩
theorem row_done {s:Snap} {l:List Move} (hu:Unlike l):∀ (rest:List Move) (q:List Int) (st:List Step) (lf:List Move),(∀ x∈rest,x∈l)→(∀ x∈l,x∈lf∨x∈rest∨DoneM q x) →
  ∀ x∈l,x∈(rowGo s q st lf rest).2.2∨DoneM (rowGo s q st lf rest).1 x
 | [],q,st,lf,_,h=>fun x hx=>by
  rw [rowGo]
  rcases h x hx with h|h|h
  ·exact .inl h
  ·cases h
  ·exact .inr h
 | y::rest,q,st,lf,hr,h=>by
  rw [rowGo]
  split
  ·refine row_done hu rest q st (lf++[y]) (fun x hx=>hr x (by simp [hx])) fun x hx=>?_
   rcases h x hx with h|h|h
   ·exact .inl (by simp [h])
   ·rcases List.mem_cons.1 h with rfl|h
    ·exact .inl (by simp)
    ·exact .inr (.inl h)
   ·exact .inr (.inr h)
  ·rename_i hf
   obtain ⟨ha,_,he,_⟩:=try_ok (Classical.not_not.1 hf)
   obtain ⟨_,a1,a2,_⟩:=askM_ok ha
   refine row_done hu rest _ _ lf (fun x hx=>hr x (by simp [hx])) fun x hx=>?_
   rw [he]
   dsimp only
   by_cases e:x=y
   ·subst e
    exact .inr (.inr ⟨a1,by rw [List.length_set];exact a2,at0_set_eq (by omega)⟩)
   ·rcases h x hx with h|h|h
    ·exact .inl h
    ·rcases List.mem_cons.1 h with e2|h
     ·exact absurd e2 e
     ·exact .inr (.inl h)
    ·exact .inr (.inr (done_set h a1 fun e2=>e (hu x hx y (hr y (by simp)) e2)))
theorem rdGo_done {s:Snap} {p:List Int} {l:List Move} {shun:List Int} (hu:Unlike l):∀ (f:Nat) (r:RdS),RdI s p l r→(∀ x∈l,x∈r.lf∨DoneM r.q x)→∀ x∈l,x∈(rdGo s shun f r).lf∨DoneM (rdGo s shun f r).q x
 | 0,r,_,h=>h
 | f+1,r,hI,h=>by
  have hr:=hI.row
  have h1:∀ x∈l,x∈(rdRow s r).lf∨DoneM (rdRow s r).q x:=row_done hu r.lf r.q r.st [] hI.lf fun x hx=>.inr (h x hx)
  rw [rdGo]
  split
  ·exact rdGo_done hu f _ hr h1
  ·cases hh:hopV s (rdRow s r).q (rdRow s r).lf shun (rdRow s r).had with
   | none=>exact h1
   | some z=>
    obtain ⟨q2,st,pod⟩:=z
    refine rdGo_done hu f _ (hr.hop hh) fun x hx=>?_
    obtain ⟨k,y,n,a,_,c,_,_,hq,_⟩:=hopV_some hh
    have hy:=List.mem_of_getElem? a
    obtain ⟨b1,b2,_⟩:=askM_ok (findN_ok c).1
    rcases h1 x hx with h2|h2
    ·exact .inl h2
    ·by_cases e:x.pod=y.pod
     ·have:=hu x hx y (hr.lf y hy) e
      subst this;exact .inl hy
     ·right
      show DoneM q2 x
      rw [hq]
      exact done_set h2 b2 e
theorem round_ends {s:Snap} {p:List Int} (hc:checkP s p=0) {l:List Move} (hl:l.length≤48) (hu:Unlike l) (shun:List Int):∀ x∈l,canV s (roundV s p l shun).1 x=false:=by
 intro x hx
 have ht:l.take 48=l:=List.take_of_length_le hl
 obtain ⟨h1,h2,_⟩:=round_ok hc l shun
 have h3:=rdGo_done (s:=s) (p:=p) (shun:=shun) (l:=l.take 48) (by rw [ht];exact hu) (rdFuel l) (rdStart p l) (RdI.start hc l) (fun y hy=>.inl hy) x (by rw [ht];exact hx)
 have hq:(roundV s p l shun).1=(rdGo s shun (rdFuel l) (rdStart p l)).q:=by unfold roundV;rw [if_neg (by simpa using hc)]
 rw [hq]
 cases hcan:canV s (rdGo s shun (rdFuel l) (rdStart p l)).q x with
 | false=>rfl
 | true=>
  obtain ⟨c1,c2⟩:=can_iff.1 hcan
  rcases h3 with h3|h3
  ·exact absurd c1 (h2 x h3)
  ·exact absurd h3.2.2 c2
end Go.Dr
namespace Go.Dr
open Go.Proofs
set_option maxRecDepth 20000
set_option maxHeartbeats 2000000
set_option linter.unusedSimpArgs false
set_option linter.unusedVariables false
abbrev FnTry (P:Program) (f:FuncId) (args:Array Value) (S:SHeap) (q:List Int) (st:List Step) (c:Clause) (z:Value):Prop:=
 FnR P f args S fun w S'=>∃ u v,w=.tuple #[u,v,clV c,z]∧(rSlice 8 rI64).V S' u q∧(rSlice 24 rStep).V S' v st∧rClause.V S' (clV c) c
def NewInts (E:TypeId) (S S':SHeap) (u:Value) (q:List Int):Prop:=q=[]∨∃ b tl n,u=.slice (some ⟨b,0,none⟩) q.length n∧q.length≤n∧S b=none∧S' b=some (.cells (intsT q tl) E (0,0))
section
variable {C:Cx} {R:Rg} {Q:Post} {S:SHeap} {M:List MEnt} {e:Env} {rest:List Nat}
variable {d:Nat} {ty:TypeId} {pos:String} {aft:Array Edge} {g:Option (Nat × Bool)}
theorem JEff.callTry {f:FuncId} [Ent C.P f] {args:Array Operand} {ts:Array TypeId} {vs:List Value} {q:List Int} {st:List Step} {c:Clause} {z:Value} (hargs:evs e args.toList=some vs) (hf:FnTry C.P f vs.toArray S q st c z) (hdN:Nat.blt d C.N=true)
  (k:∀ a n a2 n2 S',S.le S'→(rSlice 8 rI64).V S' (.slice a q.length n) q→q.length≤140737488355328→(rSlice 24 rStep).V S' (.slice a2 st.length n2) st→st.length≤140737488355328→rClause.V S' (clV c) c→JO C R rest Q S' M ((d,.tuple #[.slice a q.length n,.slice a2 st.length n2,clV c,z])::e)):JEff C R ⟨some d,.call { callee:=.value (.func f),args,argTypes:=ts },ty,pos,aft,g⟩ rest Q S M e:=
 JEff.callR hargs hf hdN fun v S' hl hp=>by
  obtain ⟨u,v,rfl,hp,hp2,hc⟩:=hp
  obtain ⟨a,c,rfl,_,_,hb,_⟩:=V_slice.1 hp
  obtain ⟨a2,c2,rfl,_,_,hb2,_⟩:=V_slice.1 hp2
  exact k a c a2 c2 S' hl hp hb hp2 hb2 hc
end
theorem run_results4 {P:Program} {fn:Func} {r1 r2 r3 r4:ResultVar} {v1 v2 v3 v4:Value} {tmps:Array Value} {w:World} (hr:fn.results=#[r1,r2,r3,r4])
  (h1:(resOf tmps r1).run P w=.ok v1 w) (h2:(resOf tmps r2).run P w=.ok v2 w) (h3:(resOf tmps r3).run P w=.ok v3 w) (h4:(resOf tmps r4).run P w=.ok v4 w):(results fn tmps).run P w=.ok (.tuple #[v1,v2,v3,v4]) w:=by
 rw [results_eq,hr]
 simp [Array.mapM_eq_mapM_toList,h1,h2,h3,h4]
theorem JX.ret4 {P:Program} {r:Option Nat} {N:Nat} {fn:Func} {w0:World} {B0:List Nat} {S0 S:SHeap} {M M':List MEnt} {e:Env} {PP:Value→SHeap→List MEnt→Prop} {r1 r2 r3 r4:ResultVar} {v1 v2 v3 v4:Value} (hr:fn.results=#[r1,r2,r3,r4]) (h1:ResV ⟨P,r,N,[],w0,B0,S0⟩ S M e r1 v1) (h2:ResV ⟨P,r,N,[],w0,B0,S0⟩ S M e r2 v2)
  (h3:ResV ⟨P,r,N,[],w0,B0,S0⟩ S M e r3 v3) (h4:ResV ⟨P,r,N,[],w0,B0,S0⟩ S M e r4 v4) (hM:M'.Sublist M) (hp:PP (.tuple #[v1,v2,v3,v4]) S M'):JX ⟨P,r,N,[],w0,B0,S0⟩ .ret (bodyPost P fn (EndPost w0 B0 S0 PP)) S M e:=⟨fun a w hw=>
 ⟨hw.defers,_,run_results4 hr (h1 a w hw) (h2 a w hw) (h3 a w hw) (h4 a w hw),_,S,M',rfl,hw.wd.sub hM,hp⟩⟩
theorem move_rng {S:SHeap} {v:Value} {x:Move} (h:rMove.V S v x):Rng x.pod∧Rng x.to:=(V_move.1 h).2
theorem askM_bad {s:Snap} {p:List Int} {x:Move} (h:checkP s p=0) (h2:x.pod < 0∨(p.length:Int)≤x.pod∨x.to < 0∨(s.nodes.length:Int)≤x.to):askM s p x=9:=by
 unfold askM
 rw [if_neg (by simpa using h),if_pos h2]
theorem askM_fine {s:Snap} {p:List Int} {x:Move} (h:checkP s p=0) (h2:¬ (x.pod < 0∨(p.length:Int)≤x.pod∨x.to < 0∨(s.nodes.length:Int)≤x.to)):askM s p x=0:=by
 unfold askM
 rw [if_neg (by simpa using h),if_neg h2]
theorem V_bindF {S:SHeap} {x:Move} (h1:Rng x.pod) (h2:Rng x.to):rStep.V S (.agg (flatCells [.int .i64 2,.int .i64 x.pod,.int .i64 x.to]).toArray) (bindS x):=V_step.2 ⟨by simp [flatCells,Value.cells,bindS],by unfold bindS Rng;dsimp only;omega,h1,h2⟩
theorem V_offF {S:SHeap} {pod:Int} (h:Rng pod):rStep.V S (.agg (flatCells [.int .i64 1,.int .i64 pod,.int .i64 0]).toArray) (offS pod):=V_step.2 ⟨by simp [flatCells,Value.cells,offS],by unfold offS Rng;dsimp only;omega,h,by unfold offS Rng;dsimp only;omega⟩
theorem s111_L17a {P K:Prop} (k:K) (h:Goal K→P:=by
 intro zk
 (first|refine Walk ?_|refine JC.block ?_|(refine JO.eff rfl rfl rfl (JEff.callV rfl (p7_Check (by exact vta) (by exact vta)) rfl ?_);intro zqa zqb)|(refine WBox ?_))
 (repeat (first|revert zqg|revert zqf|revert zqe|revert zqd|revert zqc|revert zqb|revert zqa))
 exact zk.k):P:=h ⟨k⟩
theorem p17_asked {S:SHeap} {u v xv:Value} {s:Snap} {p:List Int} {x:Move} (hu:rSnap.V S u s) (hv:(rSlice 8 rI64).V S v p) (hx:rMove.V S xv x):FnV Tryz.prog 111 #[u,v,xv] S (.int .i64 (askM s p x)):=by
 obtain ⟨pa,pc,rfl,_⟩:=V_slice.1 hv
 (refine Fn.enter (args:=[u,.slice pa p.length pc,xv]) Tryz.func111 rfl Tryz.ntmps111 rfl ?_;intro w0)
 repeat (refine s111_L17a ?_;intros)
 by_cases hc:checkP s p=0
 ·rw [decide_eq_true hc]
  repeat (refine s111_L17a ?_;intros)
  by_cases h0:x.pod < 0
  ·rw [decide_eq_true h0,askM_bad hc (.inl h0)]
   repeat (refine s111_L17a ?_;intros)
   (refine JX.ret1 Tryz.results111 (ResV.tmp rfl) (List.nil_sublist _) ?_)
   exact ⟨rfl,rfl⟩
  rw [decide_eq_false h0]
  repeat (refine s111_L17a ?_;intros)
  by_cases h1:(p.length:Int)≤x.pod
  ·rw [decide_eq_true h1,askM_bad hc (.inr (.inl h1))]
   repeat (refine s111_L17a ?_;intros)
   (refine JX.ret1 Tryz.results111 (ResV.tmp rfl) (List.nil_sublist _) ?_)
   exact ⟨rfl,rfl⟩
  rw [decide_eq_false h1]
  repeat (refine s111_L17a ?_;intros)
  by_cases h2:x.to < 0
  ·rw [decide_eq_true h2,askM_bad hc (.inr (.inr (.inl h2)))]
   repeat (refine s111_L17a ?_;intros)
   (refine JX.ret1 Tryz.results111 (ResV.tmp rfl) (List.nil_sublist _) ?_)
   exact ⟨rfl,rfl⟩
  rw [decide_eq_false h2]
  repeat (refine s111_L17a ?_;intros)
  by_cases h3:(s.nodes.length:Int)≤x.to
  ·rw [decide_eq_true h3,askM_bad hc (.inr (.inr (.inr h3)))]
   repeat (refine s111_L17a ?_;intros)
   (refine JX.ret1 Tryz.results111 (ResV.tmp rfl) (List.nil_sublist _) ?_)
   exact ⟨rfl,rfl⟩
  rw [decide_eq_false h3,askM_fine hc (by omega)]
  repeat (refine s111_L17a ?_;intros)
  (refine JX.ret1 Tryz.results111 (ResV.tmp rfl) (List.nil_sublist _) ?_)
  exact ⟨rfl,rfl⟩
 ·rw [decide_eq_false hc,show askM s p x=checkP s p from if_pos hc]
  repeat (refine s111_L17a ?_;intros)
  (refine JX.ret1 Tryz.results111 (ResV.tmp rfl) (List.nil_sublist _) ?_)
  exact ⟨rfl,rfl⟩
theorem p17_stepsOf {S:SHeap} {v xv:Value} {p:List Int} {x:Move} (hv:(rSlice 8 rI64).V S v p) (hx:rMove.V S xv x) (h0:0≤x.pod) (h1:x.pod < p.length):FnL Tryz.prog 112 #[v,xv] S 24 rStep (stepsOf p x):=by
 obtain ⟨a,c,rfl,_,_,hb,hpr⟩:=V_slice.1 hv
 obtain ⟨hxr1,hxr2⟩:=move_rng hx
 obtain ⟨y,hy,_⟩:=drop_at (l:=p) (show x.pod.toNat < p.length by omega)
 have hy0:=at0_some hy
 (refine Fn.enter (args:=[.slice a p.length c,xv]) Tryz.func112 rfl Tryz.ntmps112 rfl ?_;intro w0)
 repeat (first|(refine Walk ?_;intros)|refine JC.block ?_|((refine JO.eff rfl rfl rfl (JEff.storeW rfl rfl (V_bindF hxr1 hxr2 (S:=_)) nna pma rfl (by intro l hl;cases hl) ?_));refine JO.freezeV (V_bindF hxr1 hxr2) nna (by assumption) (by intro l hl;cases hl) ?_;intro _ _ _)|(refine WBox ?_;intros)|(refine WNew ?_;intros)|(refine WPut ?_;intros))
 by_cases e1:y=x.to
 ·rw [decide_eq_true e1,show stepsOf p x=[] by unfold stepsOf;rw [hy0,if_pos e1]]
  repeat (first|(refine Walk ?_;intros)|refine JC.block ?_|(refine WBox ?_;intros)|(refine WNew ?_;intros)|(refine WPut ?_;intros))
  (refine JX.ret1 Tryz.results112 (ResV.tmp rfl) (List.nil_sublist _) ?_)
  exact ⟨rfl,V_nil⟩
 rw [decide_eq_false e1]
 repeat (first|(refine Walk ?_;intros)|refine JC.block ?_|(refine WBox ?_;intros)|(refine WNew ?_;intros)|(refine WPut ?_;intros))
 by_cases e2:y=-1
 ·rw [decide_eq_true e2,show stepsOf p x=[bindS x] by unfold stepsOf;rw [hy0,if_neg e1,if_pos e2]]
  repeat (first|(refine Walk ?_;intros)|refine JC.block ?_|(refine WBox ?_;intros)|(refine WNew ?_;intros)|(refine WPut ?_;intros))
  (refine JO.eff rfl rfl rfl (JEff.buildS (bt:=24) (rep:=rStep) (ys:=[bindS x]) rfl rfl (⟨⟨by exact vta,nna⟩,trivial⟩) rfl rfl rfl (by decide) rfl ?_);intro S2 a2 hl2 hV2)
  repeat (first|(refine Walk ?_;intros)|refine JC.block ?_|(refine WBox ?_;intros)|(refine WNew ?_;intros)|(refine WPut ?_;intros))
  (refine JX.ret1 Tryz.results112 (ResV.tmp rfl) (List.nil_sublist _) ?_)
  exact ⟨rfl,by exact vta⟩
 rw [decide_eq_false e2,show stepsOf p x=[offS x.pod,bindS x] by unfold stepsOf;rw [hy0,if_neg e1,if_neg e2]]
 repeat (first|(refine Walk ?_;intros)|refine JC.block ?_|(refine WBox ?_;intros)|(refine WNew ?_;intros)|(refine WPut ?_;intros))
 (refine JO.eff rfl rfl rfl (JEff.buildS (bt:=24) (rep:=rStep) (ys:=[offS x.pod,bindS x]) rfl rfl (⟨⟨V_offF hxr1,nna⟩,⟨by exact vta,nna⟩,trivial⟩) rfl rfl rfl (by decide) rfl ?_);intro S2 a2 hl2 hV2)
 repeat (first|(refine Walk ?_;intros)|refine JC.block ?_|(refine WBox ?_;intros)|(refine WNew ?_;intros)|(refine WPut ?_;intros))
 (refine JX.ret1 Tryz.results112 (ResV.tmp rfl) (List.nil_sublist _) ?_)
 exact ⟨rfl,by exact vta⟩
theorem s44_L17a {P K:Prop} (k:K) (h:Goal K→P:=by
 intro zk
 (first|refine Walk ?_|refine JC.block ?_|refine JC.drawN 4 rfl [0,2,3,1,4,5,6] [0,5,6] Tryz_mixed (by decide +kernel) ?_|refine JC.drawN 10 rfl [0,1,2,3,4] [0,1,2,4] Tryz_mixed (by decide +kernel) ?_|(refine JO.eff rfl rfl rfl (JEff.callRow rfl (p_Clone_int (by exact vta)) rfl ?_);intro zqa zqb zqc zqd zqe zqf)|(refine JO.eff rfl rfl rfl (JEff.callV rfl (p17_asked (by exact vta) (by exact vta) (by exact vta)) rfl ?_);intro zqa zqb)|(refine WBox ?_))
 (repeat (first|revert zqg|revert zqf|revert zqe|revert zqd|revert zqc|revert zqb|revert zqa))
 exact zk.k):P:=h ⟨k⟩
theorem p17_TryN {S:SHeap} {u v xv:Value} {s:Snap} {p:List Int} {x:Move} (hu:rSnap.V S u s) (hv:(rSlice 8 rI64).V S v p) (hx:rMove.V S xv x):FnR Tryz.prog 44 #[u,v,xv] S (fun w S'=>∃ u v,w=.tuple #[u,v,clV (tryV s p x).2.2.1,.int .i64 (tryV s p x).2.2.2]∧(rSlice 8 rI64).V S' u (tryV s p x).1∧(rSlice 24 rStep).V S' v (tryV s p x).2.1∧rClause.V S' (clV (tryV s p x).2.2.1) (tryV s p x).2.2.1∧NewInts 3 S S' u (tryV s p x).1):=by
 have hv0:=hv
 obtain ⟨a,c,rfl,_,hb8,hb,hpr⟩:=V_slice.1 hv
 unfold big at hb8 hb
 (refine Fn.enter (args:=[u,.slice a p.length c,xv]) Tryz.func44 rfl Tryz.ntmps44 rfl ?_;intro w0)
 repeat (refine s44_L17a ?_;intros)
 (refine JO.eff rfl rfl rfl (JEff.alloc rfl ?_);intro b8 hb8)
 repeat (refine s44_L17a ?_;intros)
 by_cases he:askM s p x=0
 ·rw [decide_eq_true he]
  obtain ⟨hc,h0,h1,h2,h3⟩:=askM_ok he
  obtain ⟨_,_,_,_,_,_,hqr⟩:=placed_hyps hc
  have hty:tryV s p x=if (goS s p (stepsOf p x)).2.2=0 then ((goS s p (stepsOf p x)).1,stepsOf p x,noC,0) else ([],[],(goS s p (stepsOf p x)).2.1,100):=by unfold tryV;rw [if_neg (by simpa using he)]
  have hsl:=(stepsOf_len p x).1
  have hp1:0 < p.length:=by omega
  rw [hty]
  repeat (first|(refine Walk ?_;intros)|refine JC.block ?_|refine JC.drawN 4 rfl [0,2,3,1,4,5,6] [0,5,6] Tryz_mixed (by decide +kernel) ?_|refine JC.drawN 10 rfl [0,1,2,3,4] [0,1,2,4] Tryz_mixed (by decide +kernel) ?_|(refine JO.eff rfl rfl rfl (JEff.callL rfl (p17_stepsOf (by exact vta) (by exact vta) h0 h1) rfl ?_);intro _ _ _ _ _ _)|(refine JO.eff rfl rfl rfl (JEff.callRow rfl (p_Clone_int (by exact vta)) rfl ?_);intro _ _ _ _ _ _)|(refine JO.eff rfl rfl rfl (JEff.callV rfl (p17_asked (by exact vta) (by exact vta) (by exact vta)) rfl ?_);intro _ _)|(refine WBox ?_;intros))
  rename_i a2 c2 S3 us hl3 hus a3 c3 S4 hl4 hst hst2
  generalize stepsOf p x=l at *
  rw [flat_int hus]
  refine JC.rowBlk hp1 (fun b tl hab hbb hnc=>?_)
  subst hab
  refine JC.blkNew rfl (fun hb0 hbb=>?_)
  refine JC.freeze hbb (fun S9 hl9 hS9=>?_)
  have hV9:=blk_slice (SHeap.le.refl S9) hS9 rfl hnc (by unfold big;omega) hqr
  generalize ha2:(some (⟨b,0,none⟩:Addr))=a2 at *
  have hOwn:OwnNow 3 S w0.heap.size S9 a2 c2 p:=.inr ⟨b,tl,ha2.symm,hnc,hb0,hbb,hS9⟩
  repeat (refine s44_L17a ?_;intros)
  refine JC.loopF (σ:=Nat × Option Addr × Nat × List Int) [(3,_),(8,_),(29,_),(30,_)] (fun q=>[(6,.slice q.2.1 q.2.2.2.length q.2.2.1),(7,.slice a3 l.length c3),(31,.int .i64 q.1)]) (fun q=>[.blk b8 (.cells (clV noC).cells 41 (0,0))]) (fun Si q=>q.1≤l.length∧(rSlice 8 rI64).V Si (.slice q.2.1 q.2.2.2.length q.2.2.1) q.2.2.2∧OwnNow 3 S w0.heap.size Si q.2.1 q.2.2.1 q.2.2.2∧goS s q.2.2.2 (l.drop q.1)=goS s p l) (fun q=>l.length - q.1) ((0,a2,c2,p)) (by exact sba) (by exact sba) rfl (⟨Nat.zero_le _,hV9,hOwn,rfl⟩) ?_;rintro Si ⟨i,ra,rc,Q⟩ hli hii;(try dsimp only at hii);dsimp only [List.cons_append,List.nil_append]
  obtain ⟨hi,hV,hO,hgo⟩:=hii
  try dsimp only at hi hV hO hgo
  repeat (refine s44_L17a ?_;intros)
  refine JC.cond rfl (fun hc2=>?_) (fun hc2=>?_)
  ·have hi':=dlt hc2
   obtain ⟨y,hy,hd⟩:=drop_at hi'
   rw [hd,goS] at hgo
   repeat (first|(refine Walk ?_;intros)|refine JC.block ?_|refine JC.drawN 4 rfl [0,2,3,1,4,5,6] [0,5,6] Tryz_mixed (by decide +kernel) ?_|refine JC.drawN 10 rfl [0,1,2,3,4] [0,1,2,4] Tryz_mixed (by decide +kernel) ?_|(refine WNew ?_;intros)|(refine WPut ?_;intros)|(refine JO.eff rfl rfl rfl (JEff.callRow rfl (p_Clone_int (by exact vta)) rfl ?_);intro _ _ _ _ _ _)|(refine JO.eff rfl rfl rfl (JEff.callV rfl (p17_asked (by exact vta) (by exact vta) (by exact vta)) rfl ?_);intro _ _)|(refine WBox ?_;intros))
   refine JO.eff rfl rfl rfl (JEff.callM (Mc:=[]) rfl (List.Perm.refl _) (mayAll rfl) (p10_Step (s:=s) (p:=Q) (x:=y) (by exact vta) (by exact vta) (by exact vta)) rfl ?_);intro w S2 M2 hl2 hw
   rcases hw with ⟨cc,e,he2,hcr,hst,rfl,rfl⟩|⟨q,b,tl,cap,hst,hqr2,hql,rfl,hqc,rfl⟩
   ·dsimp only [List.nil_append]
    have hVc:=V_clV (S:=S2) hcr
    rw [hst,if_pos he2] at hgo
    rw [← hgo]
    repeat (first|(refine Walk ?_;intros)|refine JC.block ?_|refine JC.drawN 4 rfl [0,2,3,1,4,5,6] [0,5,6] Tryz_mixed (by decide +kernel) ?_|refine JC.drawN 10 rfl [0,1,2,3,4] [0,1,2,4] Tryz_mixed (by decide +kernel) ?_|(refine WNew ?_;intros)|(refine WPut ?_;intros)|(refine JO.eff rfl rfl rfl (JEff.callRow rfl (p_Clone_int (by exact vta)) rfl ?_);intro _ _ _ _ _ _)|(refine JO.eff rfl rfl rfl (JEff.callV rfl (p17_asked (by exact vta) (by exact vta) (by exact vta)) rfl ?_);intro _ _)|(refine WBox ?_;intros))
    refine JC.cond rfl (fun hf=>?_) (fun hf=>?_)
    ·repeat (refine s44_L17a ?_;intros)
     have hvy:=(by assumption:rClause.V _ _ cc)
     (refine JO.eff rfl rfl rfl (JEff.storeW rfl rfl (by exact vta) nna pma rfl (by intro l hl;cases hl) ?_))
     repeat (refine s44_L17a ?_;intros)
     refine JX.ret4 Tryz.results44 (ResV.tmp rfl) (ResV.tmp rfl) (ResV.clause rfl (by (first|exact List.mem_cons_self|exact List.mem_cons_of_mem _ List.mem_cons_self|exact List.mem_cons_of_mem _ (List.mem_cons_of_mem _ List.mem_cons_self))) hvy) (ResV.tmp rfl) (List.nil_sublist _) ?_
     exact ⟨rfl,_,_,rfl,V_nil,V_nil,by exact vta,.inl rfl⟩
    ·exact absurd (by simpa using hf) he2
   ·dsimp only [List.cons_append,List.nil_append]
    rw [hst,if_neg (by simp)] at hgo
    have hVc:=V_clV (S:=S2) noC_rng
    refine JO.blkNew rfl (fun hb0 hbb=>?_)
    refine JO.freeze hbb (by intro l hl;cases hl) (fun S4 hl4 hS4=>?_)
    obtain ⟨_,_,_,_,hQ8,_⟩:=V_slice.1 hV
    have hVq:=blk_slice (SHeap.le.refl S4) hS4 rfl hqc (by rw [hql];exact hQ8) hqr2
    repeat (first|(refine Walk ?_;intros)|refine JC.block ?_|refine JC.drawN 4 rfl [0,2,3,1,4,5,6] [0,5,6] Tryz_mixed (by decide +kernel) ?_|refine JC.drawN 10 rfl [0,1,2,3,4] [0,1,2,4] Tryz_mixed (by decide +kernel) ?_|(refine WNew ?_;intros)|(refine WPut ?_;intros)|(refine JO.eff rfl rfl rfl (JEff.callRow rfl (p_Clone_int (by exact vta)) rfl ?_);intro _ _ _ _ _ _)|(refine JO.eff rfl rfl rfl (JEff.callV rfl (p17_asked (by exact vta) (by exact vta) (by exact vta)) rfl ?_);intro _ _)|(refine WBox ?_;intros))
    exact JX.roundF ((i+1,some ⟨b,0,none⟩,cap,q)) (by exact lea) (⟨by omega,hVq.mono (by exact lea),.inr ⟨b,tl,rfl,hqc,hb0,hbb,(by exact lea:SHeap.le S4 _) _ _ hS4⟩,hgo⟩) (by (try dsimp only);omega) rfl (by exact sba) (by exact sba)
  ·have hi':=dnlt hc2
   rw [List.drop_eq_nil_of_le hi',goS] at hgo
   obtain rfl:i=l.length:=by omega
   rw [← hgo]
   repeat (refine s44_L17a ?_;intros)
   refine JO.eff rfl rfl rfl (JEff.storeW rfl rfl (V_noC (S:=_)) nna pma rfl (by intro l hl;cases hl) ?_)
   repeat (refine s44_L17a ?_;intros)
   refine JX.ret4 Tryz.results44 (ResV.tmp rfl) (ResV.tmp rfl) (ResV.clause rfl (by (first|exact List.mem_cons_self|exact List.mem_cons_of_mem _ List.mem_cons_self|exact List.mem_cons_of_mem _ (List.mem_cons_of_mem _ List.mem_cons_self))) (V_noC (S:=S))) (ResV.tmp rfl) (List.nil_sublist _) ?_
   refine ⟨rfl,_,_,rfl,by exact vta,by exact vta,V_clV noC_rng,?_⟩
   rcases hO with h|⟨b,tl,rfl,hqc,hb0,hbb,hSb⟩
   ·exact .inl h
   ·exact .inr ⟨b,tl,_,rfl,hqc,hb0,(by exact lea:SHeap.le _ _) _ _ hSb⟩
 ·have hty:tryV s p x=([],[],noC,askM s p x):=by unfold tryV;rw [if_pos he]
  rw [decide_eq_false he,hty]
  repeat (refine s44_L17a ?_;intros)
  refine JO.eff rfl rfl rfl (JEff.storeW rfl rfl (V_noC (S:=_)) nna pma rfl (by intro l hl;cases hl) ?_)
  repeat (refine s44_L17a ?_;intros)
  refine JX.ret4 Tryz.results44 (ResV.tmp rfl) (ResV.tmp rfl) (ResV.clause rfl (by (first|exact List.mem_cons_self|exact List.mem_cons_of_mem _ List.mem_cons_self|exact List.mem_cons_of_mem _ (List.mem_cons_of_mem _ List.mem_cons_self))) (V_noC (S:=S))) (ResV.tmp rfl) (List.nil_sublist _) ?_
  exact ⟨rfl,_,_,rfl,V_nil,V_nil,V_clV noC_rng,.inl rfl⟩
theorem p17_Try {S:SHeap} {u v xv:Value} {s:Snap} {p:List Int} {x:Move} (hu:rSnap.V S u s) (hv:(rSlice 8 rI64).V S v p) (hx:rMove.V S xv x):FnTry Tryz.prog 44 #[u,v,xv] S (tryV s p x).1 (tryV s p x).2.1 (tryV s p x).2.2.1 (.int .i64 (tryV s p x).2.2.2):=
 Fn.mono (p17_TryN hu hv hx) fun z S' M' _ hz=>⟨hz.1,by
  obtain ⟨u,v,h1,h2,h3,h4,_⟩:=hz.2
  exact ⟨u,v,h1,h2,h3,h4⟩⟩
theorem w17_Try {S:SHeap} {u v xv:Value} {s:Snap} {p q:List Int} {st:List Step} {c:Clause} {e:Int} {x:Move} (h:tryV s p x=(q,st,c,e)) (hu:rSnap.V S u s) (hv:(rSlice 8 rI64).V S v p) (hx:rMove.V S xv x):FnTry Tryz.prog 44 #[u,v,xv] S q st c (.int .i64 e):=by
 have hh:=p17_Try hu hv hx
 rw [h] at hh;exact hh
theorem s47_L17a {P K:Prop} (k:K) (h:Goal K→P:=by
 intro zk
 (first|refine Walk ?_|refine JC.block ?_|(refine JO.eff rfl rfl rfl (JEff.callTry rfl (p17_Try (by exact vta) (by exact vta) (by exact vta)) rfl ?_);intro zqa zqb zqc zqd zqe zqf zqg)|(refine WBox ?_)|(refine WNew ?_)|(refine WPut ?_))
 (repeat (first|revert zqg|revert zqf|revert zqe|revert zqd|revert zqc|revert zqb|revert zqa))
 exact zk.k):P:=h ⟨k⟩
theorem p17_Can {S:SHeap} {u v xv:Value} {s:Snap} {p:List Int} {x:Move} (hu:rSnap.V S u s) (hv:(rSlice 8 rI64).V S v p) (hx:rMove.V S xv x):FnV Tryz.prog 47 #[u,v,xv] S (.bool (canV s p x)):=by
 (refine Fn.enter (args:=[u,v,xv]) Tryz.func47 rfl Tryz.ntmps47 rfl ?_;intro w0)
 repeat (refine s47_L17a ?_;intros)
 unfold canV
 by_cases he:(tryV s p x).2.2.2=0
 ·rw [decide_eq_true he]
  repeat (refine s47_L17a ?_;intros)
  (refine JX.ret1 Tryz.results47 (ResV.tmp rfl) (List.nil_sublist _) ?_)
  exact ⟨rfl,by simp⟩
 ·rw [decide_eq_false he]
  repeat (refine s47_L17a ?_;intros)
  (refine JX.ret1 Tryz.results47 (ResV.tmp rfl) (List.nil_sublist _) ?_)
  exact ⟨rfl,by simp⟩
theorem w17_Can {S:SHeap} {u v xv:Value} {s:Snap} {p:List Int} {b:Bool} {x:Move} (h:canV s p x=b) (hu:rSnap.V S u s) (hv:(rSlice 8 rI64).V S v p) (hx:rMove.V S xv x):FnV Tryz.prog 47 #[u,v,xv] S (.bool b):=by
 have hh:=p17_Can hu hv hx
 rw [h] at hh;exact hh
end Go.Dr
namespace Go.Dr
open Go.Proofs
set_option maxRecDepth 20000
set_option maxHeartbeats 2000000
set_option linter.unusedSimpArgs false
set_option linter.unusedVariables false
theorem w10r_Step {S:SHeap} {u v xv:Value} {s:Snap} {p q:List Int} {c:Clause} {e:Int} {x:Step} (h:stepV s p x=(q,c,e)) (hu:rSnap.V S u s) (hv:(rSlice 8 rI64).V S v p) (hx:rStep.V S xv x):FnSt Tryz.prog 114 #[u,v,xv] S q c (.int .i64 e):=by
 have hh:=r10_Step hu hv hx
 rw [h] at hh;exact hh
theorem try_bad {s:Snap} {p:List Int} {x:Move} {e:Int} (h:askM s p x=e) (he:¬ e=0):tryV s p x=([],[],noC,e):=by
 unfold tryV
 rw [h,if_pos he]
theorem try_same {s:Snap} {p:List Int} {x:Move} (h:askM s p x=0) (he:at0 p x.pod.toNat=x.to):tryV s p x=(p,[],noC,0):=by
 have hst:stepsOf p x=[]:=if_pos he
 unfold tryV
 rw [if_neg (by simpa using h),hst,goS];rfl
theorem try_go {s:Snap} {p:List Int} {x:Move} (h:askM s p x=0):tryV s p x=if (goS s p (stepsOf p x)).2.2=0 then ((goS s p (stepsOf p x)).1,stepsOf p x,noC,0) else ([],[],(goS s p (stepsOf p x)).2.1,100):=by
 unfold tryV
 rw [if_neg (by simpa using h)]
theorem s45_L17r {P K:Prop} (k:K) (h:Goal K→P:=by
 intro zk
 (first|refine Walk ?_|refine JC.block ?_|refine JC.drawN 8 rfl [0,1,2,3,4,5,6,7] [0,1,2,3,4,5,6,7] Tryz_mixed (by decide +kernel) ?_|refine JC.drawN 18 rfl [0,1,2,3,4] [0,1,2,4] Tryz_mixed (by decide +kernel) ?_|(refine JO.eff rfl rfl rfl (JEff.callV rfl (r7_Check (by exact vta) (by exact vta)) rfl ?_);intro zqa zqb)|(refine JO.eff rfl rfl rfl (JEff.callSt rfl (r10_Step (by exact vta) (by exact vta) (by exact vta)) rfl ?_);intro zqa zqb zqc zqd zqe zqf zqg)|(refine WBox ?_))
 (repeat (first|revert zqg|revert zqf|revert zqe|revert zqd|revert zqc|revert zqb|revert zqa))
 exact zk.k):P:=h ⟨k⟩
theorem r17_Try {S:SHeap} {u v xv:Value} {s:Snap} {p:List Int} {x:Move} (hu:rSnap.V S u s) (hv:(rSlice 8 rI64).V S v p) (hx:rMove.V S xv x):FnTry Tryz.prog 45 #[u,v,xv] S (tryV s p x).1 (tryV s p x).2.1 (tryV s p x).2.2.1 (.int .i64 (tryV s p x).2.2.2):=by
 have hv0:=hv
 obtain ⟨a,c,rfl,_,hb8,hb,hpr⟩:=V_slice.1 hv
 obtain ⟨hxr1,hxr2⟩:=move_rng hx
 unfold big at hb8 hb
 (refine Fn.enter (args:=[u,.slice a p.length c,xv]) Tryz.func45 rfl Tryz.ntmps45 rfl ?_;intro w0)
 repeat (refine s45_L17r ?_;intros)
 (refine JO.eff rfl rfl rfl (JEff.alloc rfl ?_);intro b8 hb8)
 repeat (refine s45_L17r ?_;intros)
 by_cases hc:checkP s p=0
 ·rw [decide_eq_true hc]
  repeat (refine s45_L17r ?_;intros)
  by_cases h0:x.pod < 0
  ·rw [decide_eq_true h0,try_bad (askM_bad hc (.inl h0)) (by decide)]
   repeat (refine s45_L17r ?_;intros)
   refine JO.eff rfl rfl rfl (JEff.storeW rfl rfl (V_noC (S:=_)) nna pma rfl (by intro l hl;cases hl) ?_)
   repeat (refine s45_L17r ?_;intros)
   refine JX.ret4 Tryz.results45 (ResV.tmp rfl) (ResV.tmp rfl) (ResV.clause rfl (by (first|exact List.mem_cons_self|exact List.mem_cons_of_mem _ List.mem_cons_self|exact List.mem_cons_of_mem _ (List.mem_cons_of_mem _ List.mem_cons_self))) (V_noC (S:=S))) (ResV.tmp rfl) (List.nil_sublist _) ?_
   exact ⟨rfl,_,_,rfl,V_nil,V_nil,V_clV noC_rng⟩
  rw [decide_eq_false h0]
  repeat (refine s45_L17r ?_;intros)
  by_cases h1:(p.length:Int)≤x.pod
  ·rw [decide_eq_true h1,try_bad (askM_bad hc (.inr (.inl h1))) (by decide)]
   repeat (refine s45_L17r ?_;intros)
   refine JO.eff rfl rfl rfl (JEff.storeW rfl rfl (V_noC (S:=_)) nna pma rfl (by intro l hl;cases hl) ?_)
   repeat (refine s45_L17r ?_;intros)
   refine JX.ret4 Tryz.results45 (ResV.tmp rfl) (ResV.tmp rfl) (ResV.clause rfl (by (first|exact List.mem_cons_self|exact List.mem_cons_of_mem _ List.mem_cons_self|exact List.mem_cons_of_mem _ (List.mem_cons_of_mem _ List.mem_cons_self))) (V_noC (S:=S))) (ResV.tmp rfl) (List.nil_sublist _) ?_
   exact ⟨rfl,_,_,rfl,V_nil,V_nil,V_clV noC_rng⟩
  rw [decide_eq_false h1]
  repeat (refine s45_L17r ?_;intros)
  by_cases h2:x.to < 0
  ·rw [decide_eq_true h2,try_bad (askM_bad hc (.inr (.inr (.inl h2)))) (by decide)]
   repeat (refine s45_L17r ?_;intros)
   refine JO.eff rfl rfl rfl (JEff.storeW rfl rfl (V_noC (S:=_)) nna pma rfl (by intro l hl;cases hl) ?_)
   repeat (refine s45_L17r ?_;intros)
   refine JX.ret4 Tryz.results45 (ResV.tmp rfl) (ResV.tmp rfl) (ResV.clause rfl (by (first|exact List.mem_cons_self|exact List.mem_cons_of_mem _ List.mem_cons_self|exact List.mem_cons_of_mem _ (List.mem_cons_of_mem _ List.mem_cons_self))) (V_noC (S:=S))) (ResV.tmp rfl) (List.nil_sublist _) ?_
   exact ⟨rfl,_,_,rfl,V_nil,V_nil,V_clV noC_rng⟩
  rw [decide_eq_false h2]
  repeat (refine s45_L17r ?_;intros)
  by_cases h3:(s.nodes.length:Int)≤x.to
  ·rw [decide_eq_true h3,try_bad (askM_bad hc (.inr (.inr (.inr h3)))) (by decide)]
   repeat (refine s45_L17r ?_;intros)
   refine JO.eff rfl rfl rfl (JEff.storeW rfl rfl (V_noC (S:=_)) nna pma rfl (by intro l hl;cases hl) ?_)
   repeat (refine s45_L17r ?_;intros)
   refine JX.ret4 Tryz.results45 (ResV.tmp rfl) (ResV.tmp rfl) (ResV.clause rfl (by (first|exact List.mem_cons_self|exact List.mem_cons_of_mem _ List.mem_cons_self|exact List.mem_cons_of_mem _ (List.mem_cons_of_mem _ List.mem_cons_self))) (V_noC (S:=S))) (ResV.tmp rfl) (List.nil_sublist _) ?_
   exact ⟨rfl,_,_,rfl,V_nil,V_nil,V_clV noC_rng⟩
  rw [decide_eq_false h3]
  have hask:=askM_fine hc (x:=x) (by omega)
  obtain ⟨_,_,_,_,_,hq1,hqr⟩:=placed_hyps hc
  obtain ⟨y,hy,_⟩:=drop_at (l:=p) (show x.pod.toNat < p.length by omega)
  have hy0:=at0_some hy
  have hy1:=(hq1 y (List.mem_of_getElem? hy)).1
  have hB:∀ S,rStep.V S (stV (bindS x)) (bindS x):=fun S=>V_stV ⟨by unfold bindS Rng;dsimp only;omega,hxr1,hxr2⟩
  have hO:∀ S,rStep.V S (stV (offS x.pod)) (offS x.pod):=fun S=>V_stV ⟨by unfold offS Rng;dsimp only;omega,hxr1,by unfold offS Rng;dsimp only;omega⟩
  repeat (refine s45_L17r ?_;intros)
  refine JO.eff rfl rfl rfl (JEff.build0 rI64 rfl ?_);intro b0
  repeat (refine s45_L17r ?_;intros)
  (refine JO.eff rfl rfl rfl (JEff.appendS (rep:=rI64) rfl rfl (hv0.mono (by exact lea)) rfl rfl (List.Perm.refl _) (by unfold big;omega) (by unfold big;omega) (by intro l hl;cases hl) rfl ?_);intro a2 c2 us1 hus1)
  rw [List.nil_append,Nat.zero_add]
  refine JO.freezeRow (rep:=rI64) (bt:=8) (xs:=p) hus1 rfl (by unfold big;omega) (by unfold big;omega) (by intro l hl;cases hl) (fun S9 hl9 hV9=>?_)
  repeat (refine s45_L17r ?_;intros)
  by_cases e1:y=x.to
  ·rw [decide_eq_true e1,try_same hask (by rw [hy0];exact e1)]
   repeat (refine s45_L17r ?_;intros)
   refine JO.eff rfl rfl rfl (JEff.storeW rfl rfl (V_noC (S:=_)) nna pma rfl (by intro l hl;cases hl) ?_)
   repeat (refine s45_L17r ?_;intros)
   refine JX.ret4 Tryz.results45 (ResV.tmp rfl) (ResV.tmp rfl) (ResV.clause rfl (by (first|exact List.mem_cons_self|exact List.mem_cons_of_mem _ List.mem_cons_self|exact List.mem_cons_of_mem _ (List.mem_cons_of_mem _ List.mem_cons_self))) (V_noC (S:=S))) (ResV.tmp rfl) (List.nil_sublist _) ?_
   exact ⟨rfl,_,_,rfl,by exact vta,V_nil,V_clV noC_rng⟩
  rw [decide_eq_false e1,try_go hask]
  have hsl:=(stepsOf_len p x).1
  repeat (refine s45_L17r ?_;intros)
  by_cases e2:0≤y
  ·have hso:[offS x.pod,bindS x]=stepsOf p x:=by unfold stepsOf;rw [hy0,if_neg e1,if_neg (by omega)]
   rw [decide_eq_true e2]
   repeat (refine s45_L17r ?_;intros)
   (first|refine JC.newRow 45 (Rp.sz rStep) ?_|refine JO.newRow 45 (Rp.sz rStep) ?_|refine JX.newRow 45 (Rp.sz rStep) ?_)
   (refine JO.eff rfl rfl rfl (JEff.build (rep:=rStep) (ys:=[offS x.pod]) rfl rfl ⟨⟨(V_offF hxr1),nna⟩,trivial⟩ rfl rfl rfl rfl ?_);intro bb hbb hvv);(repeat (first|(refine Walk ?_;intros)|refine JC.block ?_));(refine JO.eff rfl rfl rfl (JEff.appendL (rep:=rStep) rfl rfl rfl rfl (List.Perm.swap _ _ _) (by exact hvv.flat) (by intro c hc;exact flat_one (fun v hv=>(hvv.size v hv).2) c hc) (by first|omega|(unfold big;omega)) (by unfold big;omega) (by first|exact rowT_ok|(intro l hl;cases hl)) rfl ?_);intro a4 c4;clear hvv hbb)
   repeat (refine s45_L17r ?_;intros)
   (refine JO.eff rfl rfl rfl (JEff.build (rep:=rStep) (ys:=[bindS x]) rfl rfl ⟨⟨(V_bindF hxr1 hxr2),nna⟩,trivial⟩ rfl rfl rfl rfl ?_);intro bb hbb hvv);(repeat (first|(refine Walk ?_;intros)|refine JC.block ?_));(refine JO.eff rfl rfl rfl (JEff.appendL (rep:=rStep) rfl rfl rfl rfl (List.Perm.swap _ _ _) (by exact hvv.flat) (by intro c hc;exact flat_one (fun v hv=>(hvv.size v hv).2) c hc) (by first|omega|(unfold big;omega)) (by unfold big;omega) (by first|exact rowT_ok|(intro l hl;cases hl)) rfl ?_);intro a5 c5;clear hvv hbb)
   repeat (refine s45_L17r ?_;intros)
   refine JC.freezeRow (rep:=rStep) (bt:=24) (n:=0+1+1) (vs:=[.agg (flatCells [.int .i64 1,.int .i64 x.pod,.int .i64 0]).toArray,.agg (flatCells [.int .i64 2,.int .i64 x.pod,.int .i64 x.to]).toArray]) (xs:=[offS x.pod,bindS x]) ⟨⟨V_offF hxr1,nna⟩,⟨V_bindF hxr1 hxr2,nna⟩,trivial⟩ rfl (by decide) (by decide) (fun S8 hl8 hV8=>?_)
   have hln:0+1+1=(stepsOf p x).length:=by rw [← hso];rfl
   rw [hso] at hV8
   rw [hln] at hV8 ⊢
   generalize stepsOf p x=l at *
   repeat (refine s45_L17r ?_;intros)
   refine JC.loopF (σ:=Nat × Option Addr × Nat × List Int) [(3,_),(8,_),(12,_)] (fun q=>[(11,.slice q.2.1 q.2.2.2.length q.2.2.1),(13,.int .i64 q.1)]) (fun q=>[.blk b8 (.cells (clV noC).cells 41 (0,0))]) (fun Si q=>q.1≤l.length∧(rSlice 8 rI64).V Si (.slice q.2.1 q.2.2.2.length q.2.2.1) q.2.2.2∧goS s q.2.2.2 (l.drop q.1)=goS s p l) (fun q=>l.length - q.1) ((0,a2,c2,p)) (by exact sba) (by exact sba) rfl (⟨Nat.zero_le _,hV9.mono (by exact lea),rfl⟩) ?_;rintro Si ⟨i,ra,rc,Q⟩ hli hii;(try dsimp only at hii);dsimp only [List.cons_append,List.nil_append]
   obtain ⟨hi,hV,hgo⟩:=hii
   try dsimp only at hi hV hgo
   repeat (refine s45_L17r ?_;intros)
   refine JC.cond rfl (fun hc2=>?_) (fun hc2=>?_)
   ·have hi':=dlt hc2
    obtain ⟨z,hz,hd⟩:=drop_at hi'
    rw [hd,goS] at hgo
    repeat (refine s45_L17r ?_;intros)
    rcases hst:stepV s Q z with ⟨q2,cc,ee⟩
    rw [hst] at hgo
    dsimp only at hgo
    refine JC.partF (σ:=Option Addr × Nat × Addr) [(3,_),(8,_),(12,_),(13,_)] (fun w=>[(14,.slice w.1 q2.length w.2.1),(15,.pointer (some w.2.2)),(16,.int .i64 ee)]) (fun w=>[.blk b8 (.cells (clV noC).cells 41 (0,0))]) (fun SA w=>(rSlice 8 rI64).V SA (.slice w.1 q2.length w.2.1) q2∧PtrTo SA w.2.2 rClause cc) ?_ (by exact sba) ?_;rotate_left;rintro SA ⟨ra2,rc2,kp⟩ hlA hiA;(try dsimp only at hiA);dsimp only [List.cons_append,List.nil_append];rotate_left
    ·refine JC.drawTree 16 rfl [12,14] [0,1,2,3,4,5] (.alt (ofL [6,7,8,9,10,11,12,13,14] .nil) (ofL [11,6,7,8,9,10,12,13,14] .nil)) Tryz_mixed (by decide +kernel) ?_
     repeat' (first|(refine Walk ?_;intros)|refine JC.block ?_|refine JC.drawN 8 rfl [0,1,2,3,4,5,6,7] [0,1,2,3,4,5,6,7] Tryz_mixed (by decide +kernel) ?_|refine JC.drawN 18 rfl [0,1,2,3,4] [0,1,2,4] Tryz_mixed (by decide +kernel) ?_|(refine JO.eff rfl rfl rfl (JEff.callSt rfl (w10r_Step hst (by exact vta) (by exact vta) (by exact vta)) rfl ?_);intro _ _ _ _ _ _ _)|refine JO.alt ?_ ?_|(refine WNew ?_;intros)|(refine WPut ?_;intros)|(refine JO.eff rfl rfl rfl (JEff.callV rfl (r7_Check (by exact vta) (by exact vta)) rfl ?_);intro _ _)|(refine JO.eff rfl rfl rfl (JEff.callSt rfl (r10_Step (by exact vta) (by exact vta) (by exact vta)) rfl ?_);intro _ _ _ _ _ _ _)|(refine WBox ?_;intros)|(refine JO.guard rfl rfl rfl rfl ?_ ?_<;>intro _)|(refine JC.cond rfl ?_ ?_<;>intro _))
     all_goals exact JX.partF ((_,_,_)) (by exact lea) (⟨by exact vta,by exact pta⟩) rfl (by exact sba) (by exact sba)
    obtain ⟨hVA,hpA⟩:=hiA
    try dsimp only at hVA hpA
    repeat (refine s45_L17r ?_;intros)
    by_cases he2:ee=0
    ·rw [decide_eq_true he2]
     rw [if_neg (by simpa using he2)] at hgo
     repeat (refine s45_L17r ?_;intros)
     exact JX.roundF ((i+1,ra2,rc2,q2)) (by exact lea) (⟨by omega,by exact vta,hgo⟩) (by (try dsimp only);omega) rfl (by exact sba) (by exact sba)
    ·rw [decide_eq_false he2]
     rw [if_pos he2] at hgo
     rw [← hgo]
     repeat (refine s45_L17r ?_;intros)
     have hvy:=(by assumption:rClause.V _ _ cc)
     (refine JO.eff rfl rfl rfl (JEff.storeW rfl rfl (by exact vta) nna pma rfl (by intro l hl;cases hl) ?_))
     repeat (refine s45_L17r ?_;intros)
     refine JX.ret4 Tryz.results45 (ResV.tmp rfl) (ResV.tmp rfl) (ResV.clause rfl (by (first|exact List.mem_cons_self|exact List.mem_cons_of_mem _ List.mem_cons_self|exact List.mem_cons_of_mem _ (List.mem_cons_of_mem _ List.mem_cons_self))) hvy) (ResV.tmp rfl) (List.nil_sublist _) ?_
     exact ⟨rfl,_,_,rfl,V_nil,V_nil,V_clV (V_clause.1 hvy).2⟩
   ·have hi':=dnlt hc2
    rw [List.drop_eq_nil_of_le hi',goS] at hgo
    obtain rfl:i=l.length:=by omega
    rw [← hgo]
    repeat (refine s45_L17r ?_;intros)
    refine JO.eff rfl rfl rfl (JEff.storeW rfl rfl (V_noC (S:=_)) nna pma rfl (by intro l hl;cases hl) ?_)
    repeat (refine s45_L17r ?_;intros)
    refine JX.ret4 Tryz.results45 (ResV.tmp rfl) (ResV.tmp rfl) (ResV.clause rfl (by (first|exact List.mem_cons_self|exact List.mem_cons_of_mem _ List.mem_cons_self|exact List.mem_cons_of_mem _ (List.mem_cons_of_mem _ List.mem_cons_self))) (V_noC (S:=S))) (ResV.tmp rfl) (List.nil_sublist _) ?_
    exact ⟨rfl,_,_,rfl,by exact vta,by exact vta,V_clV noC_rng⟩
  ·have hso:[bindS x]=stepsOf p x:=by unfold stepsOf;rw [hy0,if_neg e1,if_pos (by omega)]
   rw [decide_eq_false e2]
   repeat (refine s45_L17r ?_;intros)
   (first|refine JC.newRow 45 (Rp.sz rStep) ?_|refine JO.newRow 45 (Rp.sz rStep) ?_|refine JX.newRow 45 (Rp.sz rStep) ?_)
   (refine JO.eff rfl rfl rfl (JEff.build (rep:=rStep) (ys:=[bindS x]) rfl rfl ⟨⟨(V_bindF hxr1 hxr2),nna⟩,trivial⟩ rfl rfl rfl rfl ?_);intro bb hbb hvv);(repeat (first|(refine Walk ?_;intros)|refine JC.block ?_));(refine JO.eff rfl rfl rfl (JEff.appendL (rep:=rStep) rfl rfl rfl rfl (List.Perm.swap _ _ _) (by exact hvv.flat) (by intro c hc;exact flat_one (fun v hv=>(hvv.size v hv).2) c hc) (by first|omega|(unfold big;omega)) (by unfold big;omega) (by first|exact rowT_ok|(intro l hl;cases hl)) rfl ?_);intro a5 c5;clear hvv hbb)
   repeat (refine s45_L17r ?_;intros)
   refine JC.freezeRow (rep:=rStep) (bt:=24) (n:=0+1) (vs:=[.agg (flatCells [.int .i64 2,.int .i64 x.pod,.int .i64 x.to]).toArray]) (xs:=[bindS x]) ⟨⟨V_bindF hxr1 hxr2,nna⟩,trivial⟩ rfl (by decide) (by decide) (fun S8 hl8 hV8=>?_)
   have hln:0+1=(stepsOf p x).length:=by rw [← hso];rfl
   rw [hso] at hV8
   rw [hln] at hV8 ⊢
   generalize stepsOf p x=l at *
   repeat (refine s45_L17r ?_;intros)
   refine JC.loopF (σ:=Nat × Option Addr × Nat × List Int) [(3,_),(8,_),(12,_)] (fun q=>[(11,.slice q.2.1 q.2.2.2.length q.2.2.1),(13,.int .i64 q.1)]) (fun q=>[.blk b8 (.cells (clV noC).cells 41 (0,0))]) (fun Si q=>q.1≤l.length∧(rSlice 8 rI64).V Si (.slice q.2.1 q.2.2.2.length q.2.2.1) q.2.2.2∧goS s q.2.2.2 (l.drop q.1)=goS s p l) (fun q=>l.length - q.1) ((0,a2,c2,p)) (by exact sba) (by exact sba) rfl (⟨Nat.zero_le _,hV9.mono (by exact lea),rfl⟩) ?_;rintro Si ⟨i,ra,rc,Q⟩ hli hii;(try dsimp only at hii);dsimp only [List.cons_append,List.nil_append]
   obtain ⟨hi,hV,hgo⟩:=hii
   try dsimp only at hi hV hgo
   repeat (refine s45_L17r ?_;intros)
   refine JC.cond rfl (fun hc2=>?_) (fun hc2=>?_)
   ·have hi':=dlt hc2
    obtain ⟨z,hz,hd⟩:=drop_at hi'
    rw [hd,goS] at hgo
    repeat (refine s45_L17r ?_;intros)
    rcases hst:stepV s Q z with ⟨q2,cc,ee⟩
    rw [hst] at hgo
    dsimp only at hgo
    refine JC.partF (σ:=Option Addr × Nat × Addr) [(3,_),(8,_),(12,_),(13,_)] (fun w=>[(14,.slice w.1 q2.length w.2.1),(15,.pointer (some w.2.2)),(16,.int .i64 ee)]) (fun w=>[.blk b8 (.cells (clV noC).cells 41 (0,0))]) (fun SA w=>(rSlice 8 rI64).V SA (.slice w.1 q2.length w.2.1) q2∧PtrTo SA w.2.2 rClause cc) ?_ (by exact sba) ?_;rotate_left;rintro SA ⟨ra2,rc2,kp⟩ hlA hiA;(try dsimp only at hiA);dsimp only [List.cons_append,List.nil_append];rotate_left
    ·refine JC.drawTree 16 rfl [12,14] [0,1,2,3,4,5] (.alt (ofL [6,7,8,9,10,11,12,13,14] .nil) (ofL [11,6,7,8,9,10,12,13,14] .nil)) Tryz_mixed (by decide +kernel) ?_
     repeat' (first|(refine Walk ?_;intros)|refine JC.block ?_|refine JC.drawN 8 rfl [0,1,2,3,4,5,6,7] [0,1,2,3,4,5,6,7] Tryz_mixed (by decide +kernel) ?_|refine JC.drawN 18 rfl [0,1,2,3,4] [0,1,2,4] Tryz_mixed (by decide +kernel) ?_|(refine JO.eff rfl rfl rfl (JEff.callSt rfl (w10r_Step hst (by exact vta) (by exact vta) (by exact vta)) rfl ?_);intro _ _ _ _ _ _ _)|refine JO.alt ?_ ?_|(refine WNew ?_;intros)|(refine WPut ?_;intros)|(refine JO.eff rfl rfl rfl (JEff.callV rfl (r7_Check (by exact vta) (by exact vta)) rfl ?_);intro _ _)|(refine JO.eff rfl rfl rfl (JEff.callSt rfl (r10_Step (by exact vta) (by exact vta) (by exact vta)) rfl ?_);intro _ _ _ _ _ _ _)|(refine WBox ?_;intros)|(refine JO.guard rfl rfl rfl rfl ?_ ?_<;>intro _)|(refine JC.cond rfl ?_ ?_<;>intro _))
     all_goals exact JX.partF ((_,_,_)) (by exact lea) (⟨by exact vta,by exact pta⟩) rfl (by exact sba) (by exact sba)
    obtain ⟨hVA,hpA⟩:=hiA
    try dsimp only at hVA hpA
    repeat (refine s45_L17r ?_;intros)
    by_cases he2:ee=0
    ·rw [decide_eq_true he2]
     rw [if_neg (by simpa using he2)] at hgo
     repeat (refine s45_L17r ?_;intros)
     exact JX.roundF ((i+1,ra2,rc2,q2)) (by exact lea) (⟨by omega,by exact vta,hgo⟩) (by (try dsimp only);omega) rfl (by exact sba) (by exact sba)
    ·rw [decide_eq_false he2]
     rw [if_pos he2] at hgo
     rw [← hgo]
     repeat (refine s45_L17r ?_;intros)
     have hvy:=(by assumption:rClause.V _ _ cc)
     (refine JO.eff rfl rfl rfl (JEff.storeW rfl rfl (by exact vta) nna pma rfl (by intro l hl;cases hl) ?_))
     repeat (refine s45_L17r ?_;intros)
     refine JX.ret4 Tryz.results45 (ResV.tmp rfl) (ResV.tmp rfl) (ResV.clause rfl (by (first|exact List.mem_cons_self|exact List.mem_cons_of_mem _ List.mem_cons_self|exact List.mem_cons_of_mem _ (List.mem_cons_of_mem _ List.mem_cons_self))) hvy) (ResV.tmp rfl) (List.nil_sublist _) ?_
     exact ⟨rfl,_,_,rfl,V_nil,V_nil,V_clV (V_clause.1 hvy).2⟩
   ·have hi':=dnlt hc2
    rw [List.drop_eq_nil_of_le hi',goS] at hgo
    obtain rfl:i=l.length:=by omega
    rw [← hgo]
    repeat (refine s45_L17r ?_;intros)
    refine JO.eff rfl rfl rfl (JEff.storeW rfl rfl (V_noC (S:=_)) nna pma rfl (by intro l hl;cases hl) ?_)
    repeat (refine s45_L17r ?_;intros)
    refine JX.ret4 Tryz.results45 (ResV.tmp rfl) (ResV.tmp rfl) (ResV.clause rfl (by (first|exact List.mem_cons_self|exact List.mem_cons_of_mem _ List.mem_cons_self|exact List.mem_cons_of_mem _ (List.mem_cons_of_mem _ List.mem_cons_self))) (V_noC (S:=S))) (ResV.tmp rfl) (List.nil_sublist _) ?_
    exact ⟨rfl,_,_,rfl,by exact vta,by exact vta,V_clV noC_rng⟩
 ·rw [decide_eq_false hc,show tryV s p x=([],[],noC,checkP s p) from try_bad (if_pos hc) hc]
  repeat (refine s45_L17r ?_;intros)
  refine JO.eff rfl rfl rfl (JEff.storeW rfl rfl (V_noC (S:=_)) nna pma rfl (by intro l hl;cases hl) ?_)
  repeat (refine s45_L17r ?_;intros)
  refine JX.ret4 Tryz.results45 (ResV.tmp rfl) (ResV.tmp rfl) (ResV.clause rfl (by (first|exact List.mem_cons_self|exact List.mem_cons_of_mem _ List.mem_cons_self|exact List.mem_cons_of_mem _ (List.mem_cons_of_mem _ List.mem_cons_self))) (V_noC (S:=S))) (ResV.tmp rfl) (List.nil_sublist _) ?_
  exact ⟨rfl,_,_,rfl,V_nil,V_nil,V_clV noC_rng⟩
theorem s48_L17r {P K:Prop} (k:K) (h:Goal K→P:=by
 intro zk
 (first|refine Walk ?_|refine JC.block ?_|(refine JO.eff rfl rfl rfl (JEff.callTry rfl (r17_Try (by exact vta) (by exact vta) (by exact vta)) rfl ?_);intro zqa zqb zqc zqd zqe zqf zqg)|(refine WBox ?_)|(refine WNew ?_)|(refine WPut ?_))
 (repeat (first|revert zqg|revert zqf|revert zqe|revert zqd|revert zqc|revert zqb|revert zqa))
 exact zk.k):P:=h ⟨k⟩
theorem r17_Can {S:SHeap} {u v xv:Value} {s:Snap} {p:List Int} {x:Move} (hu:rSnap.V S u s) (hv:(rSlice 8 rI64).V S v p) (hx:rMove.V S xv x):FnV Tryz.prog 48 #[u,v,xv] S (.bool (canV s p x)):=by
 (refine Fn.enter (args:=[u,v,xv]) Tryz.func48 rfl Tryz.ntmps48 rfl ?_;intro w0)
 repeat (refine s48_L17r ?_;intros)
 unfold canV
 by_cases he:(tryV s p x).2.2.2=0
 ·rw [decide_eq_true he]
  repeat (refine s48_L17r ?_;intros)
  (refine JX.ret1 Tryz.results48 (ResV.tmp rfl) (List.nil_sublist _) ?_)
  exact ⟨rfl,by simp⟩
 ·rw [decide_eq_false he]
  repeat (refine s48_L17r ?_;intros)
  (refine JX.ret1 Tryz.results48 (ResV.tmp rfl) (List.nil_sublist _) ?_)
  exact ⟨rfl,by simp⟩
theorem s46_L17r {P K:Prop} (k:K) (h:Goal K→P:=by
 intro zk
 (first|refine Walk ?_|refine JC.block ?_|refine JC.drawN 6 rfl [0,1,2,3,4,5,6,7,8] [0,1,2,3,4,5,6,7,8] Tryz_mixed (by decide +kernel) ?_)
 (repeat (first|revert zqg|revert zqf|revert zqe|revert zqd|revert zqc|revert zqb|revert zqa))
 exact zk.k):P:=h ⟨k⟩
theorem r17_SameSteps {S:SHeap} {u v:Value} {l:List Step} (hu:(rSlice 24 rStep).V S u l) (hv:(rSlice 24 rStep).V S v l):FnV Tryz.prog 46 #[u,v] S (.bool true):=by
 obtain ⟨a,c,rfl,_,_,hb,_⟩:=V_slice.1 hu
 obtain ⟨a2,c2,rfl,_⟩:=V_slice.1 hv
 unfold big at hb
 (refine Fn.enter (args:=[.slice a l.length c,.slice a2 l.length c2]) Tryz.func46 rfl Tryz.ntmps46 rfl ?_;intro w0)
 repeat (refine s46_L17r ?_;intros)
 rw [decide_eq_true (rfl:(l.length:Int)=l.length)]
 repeat (refine s46_L17r ?_;intros)
 refine JC.loopF0 (σ:=Nat) [(0,_),(1,_)] (fun z=>[(5,.int .i64 z)]) (fun Si z=>z≤l.length) (fun z=>l.length - z) (0) (by exact sba) (by exact sba) (Nat.zero_le _) ?_;rintro Si k hli hii;(try dsimp only at hii);dsimp only [List.cons_append,List.nil_append]
 repeat (refine s46_L17r ?_;intros)
 refine JC.cond rfl (fun hc=>?_) (fun hc=>?_)
 ·have hk':=dlt hc
  obtain ⟨x,hx,_⟩:=drop_at hk'
  repeat (refine s46_L17r ?_;intros)
  rw [decide_eq_true (rfl:x=x)]
  repeat (refine s46_L17r ?_;intros)
  exact JX.roundF (k+1) (by exact lea) (by omega) (by (try dsimp only);omega) rfl (by exact sba) (by exact sba)
 ·repeat (refine s46_L17r ?_;intros)
  (refine JX.ret1 Tryz.results46 (ResV.tmp rfl) (List.nil_sublist _) ?_)
  exact ⟨rfl,rfl⟩
end Go.Dr
namespace Go.Dr
open Go.Proofs
set_option maxRecDepth 20000
set_option maxHeartbeats 2000000
set_option linter.unusedSimpArgs false
set_option linter.unusedVariables false
end Go.Dr
namespace Go.Dr
open Go.Proofs
set_option maxRecDepth 20000
set_option maxHeartbeats 2000000
set_option linter.unusedSimpArgs false
set_option linter.unusedVariables false
end Go.Dr
namespace Go.Dr
open Go.Proofs
set_option maxRecDepth 20000
set_option maxHeartbeats 2000000
set_option linter.unusedSimpArgs false
set_option linter.unusedVariables false
def podW (x:UInt8) (r:Int):Value:=.agg (flatCells [.string ⟨#[x]⟩,.string ⟨#[]⟩,.agg (flatCells [.int .i64 r,.int .i64 0,.int .i64 0,.int .i64 0,.int .i64 0]).toArray,.slice none 0 0,.slice none 0 0,.slice none 0 0,.agg #[.string ⟨#[]⟩,.slice none 0 0],.agg #[.string ⟨#[]⟩,.slice none 0 0],.string ⟨#[]⟩]).toArray
theorem V_pod14 {S:SHeap} {n:ByteArray} {x:UInt8} {r:Int} (hr:Rng r) (h:n=⟨#[x]⟩):rPod.V S (.agg (flatCells [.string n,.string ⟨#[]⟩,.agg (flatCells [.int .i64 r,.int .i64 0,.int .i64 0,.int .i64 0,.int .i64 0]).toArray,.slice none 0 0,.slice none 0 0,.slice none 0 0,.agg #[.string ⟨#[]⟩,.slice none 0 0],.agg #[.string ⟨#[]⟩,.slice none 0 0],.string ⟨#[]⟩]).toArray) (pd14 x r):=by
 subst h
 exact ⟨[_,_,_,_,_,_,_,_,_,_,_,_,_,_,_],map_R (seq1 (R_str (sz1 _)) (seq1 (R_str sz0) (seq5 (R_vec (by simp [Rng];exact hr)) (seq1 (V_nil.one rfl) (seq1 (V_nil.one rfl) (seq1 (V_nil.one rfl)
  (seq2 (map_R (seq1 (R_str sz0) (V_nil.one rfl))) (seq2 (map_R (seq1 (R_str sz0) (V_nil.one rfl))) (R_str sz0))))))))),rfl⟩
end Go.Dr
namespace Go.Dr
def findNC (s:Snap) (p:List Int) (l:List Move) (shun:List Int) (x:Move):Option Int:=
 if askM s p x=0∧¬ at0 p x.pod.toNat=-1∧¬ at0 p x.pod.toNat=x.to∧(stepV s p (offS x.pod)).2.2=0 then (iSort (leftAt s (stepV s p (offS x.pod)).1 x.pod) (waysV s (stepV s p (offS x.pod)).1 x.pod)).find? (hopOk s p (stepV s p (offS x.pod)).1 l shun x) else none
theorem findN_i (s:Snap) (p:List Int) (l:List Move) (shun:List Int) (x:Move):findN s p l shun x=findNC s p l shun x:=by
 unfold findN findNC
 rw [rank_i]
def findGoC (s:Snap) (p:List Int) (l:List Move) (shun:List Int) (i:Int) (r:List Move):Int × Int × Bool:=findF (findNC s p l shun) i r
theorem findGo_i (s:Snap) (p:List Int) (l:List Move) (shun:List Int) (r:List Move) (i:Int):findGo s p l shun i r=findGoC s p l shun i r:=by
 have h:findN s p l shun=findNC s p l shun:=funext (findN_i s p l shun)
 unfold findGo findGoC
 rw [h]
def hopC (s:Snap) (q:List Int) (lf:List Move) (shun:List Int) (had:List Int):Option (List Int × List Step × Int):=
 if (findGoC s q lf shun 0 lf).2.2=true∧¬ (moveAt lf (findGoC s q lf shun 0 lf).1).pod∈had then
  (if (tryV s q ⟨(moveAt lf (findGoC s q lf shun 0 lf).1).pod,(findGoC s q lf shun 0 lf).2.1⟩).2.2.2=0 then some ((tryV s q ⟨(moveAt lf (findGoC s q lf shun 0 lf).1).pod,(findGoC s q lf shun 0 lf).2.1⟩).1,(tryV s q ⟨(moveAt lf (findGoC s q lf shun 0 lf).1).pod,(findGoC s q lf shun 0 lf).2.1⟩).2.1,(moveAt lf (findGoC s q lf shun 0 lf).1).pod) else none)
 else none
theorem hopV_i (s:Snap) (q:List Int) (lf:List Move) (shun had:List Int):hopV s q lf shun had=hopC s q lf shun had:=by
 have h:findV s q lf shun=findGoC s q lf shun 0 lf:=findGo_i s q lf shun lf 0
 unfold hopV hopC
 rw [h]
def rdGoC (s:Snap) (shun:List Int):Nat→RdS→RdS
 | 0,r=>r
 | f+1,r=>if r.st.length < (rdRow s r).st.length then rdGoC s shun f (rdRow s r) else
  match hopC s (rdRow s r).q (rdRow s r).lf shun (rdRow s r).had with
  | some (q,st,pod)=>rdGoC s shun f ⟨q,(rdRow s r).st++st,(rdRow s r).lf,(rdRow s r).had++[pod]⟩
  | none=>rdRow s r
theorem rdGo_i (s:Snap) (shun:List Int):∀ (f:Nat) (r:RdS),rdGo s shun f r=rdGoC s shun f r
 | 0,r=>rfl
 | f+1,r=>by
  rw [rdGo,rdGoC,hopV_i,rdGo_i s shun f]
  split
  ·rfl
  ·cases hopC s (rdRow s r).q (rdRow s r).lf shun (rdRow s r).had with
   | none=>rfl
   | some z=>exact rdGo_i s shun f _
theorem round_i {s:Snap} {p:List Int} {l:List Move} {shun:List Int} {q:List Int} {st:List Step} {n:Int} (hc:checkP s p=0) (h1:(rdGoC s shun (rdFuel l) (rdStart p l)).q=q) (h2:(rdGoC s shun (rdFuel l) (rdStart p l)).st=st) (h3:((rdGoC s shun (rdFuel l) (rdStart p l)).had.length:Int)=n):roundV s p l shun=(q,st,n):=by
 unfold roundV
 rw [if_neg (by simpa using hc),rdGo_i,h1,h2,h3]
theorem find_i {s:Snap} {p:List Int} {l:List Move} {shun:List Int} {z:Int × Int × Bool} (h:findGoC s p l shun 0 l=z):findV s p l shun=z:=(findGo_i s p l shun l 0).trans h
def pods17:List Pod:=[pd14 112 10,pd14 113 10,pd14 114 10]
def chap17 (c:Bool):Snap:=⟨[nd14 97 10,nd14 98 10,⟨⟨#[99]⟩,[20,0,0,0,0],[],[],c,false⟩],pods17,[]⟩
def two17:List Move:=[⟨0,1⟩,⟨1,0⟩]
def same17:List Move:=[⟨0,1⟩,⟨1,0⟩,⟨0,0⟩,⟨9,1⟩,⟨1,-1⟩]
def row17:List Step:=[⟨1,0,0⟩,⟨2,0,2⟩,⟨1,1,0⟩,⟨2,1,0⟩,⟨1,0,0⟩,⟨2,0,1⟩]
theorem f17_1:tryV (chap17 false) [0,1,-1] ⟨0,1⟩=([],[],⟨1,1,0,10⟩,100):=by decide +kernel
theorem f17_2:tryV (chap17 false) [0,1,-1] ⟨2,2⟩=([0,1,2],[⟨2,2,2⟩],noC,0):=by decide +kernel
theorem f17_3:findV (chap17 false) [0,1,-1] two17 []=(0,2,true):=find_i (by decide +kernel)
theorem f17_4:findV (chap17 false) [0,1,-1] two17 [2]=(0,0,false):=find_i (by decide +kernel)
theorem f17_5:roundV (chap17 false) [0,1,-1] two17 []=([1,0,-1],row17,1):=round_i (by decide +kernel) (by decide +kernel) (by decide +kernel) (by decide +kernel)
theorem g17_1:tryV (chap17 false) [0,1,-1] ⟨3,0⟩=([],[],noC,9):=by decide +kernel
theorem g17_2:tryV (chap17 false) [0,1,-1] ⟨2,3⟩=([],[],noC,9):=by decide +kernel
theorem g17_3:tryV (chap17 false) [0] ⟨0,0⟩=([],[],noC,2):=by decide +kernel
theorem g17_4:tryV (chap17 false) [0,1,-1] ⟨0,0⟩=([0,1,-1],[],noC,0):=by decide +kernel
theorem g17_5:tryV (chap17 true) [0,1,-1] ⟨2,2⟩=([],[],noC,100):=by decide +kernel
theorem g17_6:roundV (chap17 true) [0,1,-1] two17 []=([0,1,-1],[],0):=round_i (by decide +kernel) (by decide +kernel) (by decide +kernel) (by decide +kernel)
theorem g17_7:findV (chap17 true) [0,1,-1] [] []=(0,0,false):=rfl
theorem g17_8:(roundV (chap17 false) [0,1,-1] same17 []).1=[1,0,-1]:=by
 have h:=round_i (s:=chap17 false) (p:=[0,1,-1]) (l:=same17) (shun:=[]) (by decide +kernel) rfl rfl rfl
 rw [h]
 decide +kernel
theorem g17_9:canV (chap17 true) [0,1,-1] ⟨0,0⟩=false:=by decide +kernel
end Go.Dr
namespace Go.Dr
theorem round_bad {s:Snap} {p:List Int} {l:List Move} {shun:List Int} (h:¬ checkP s p=0):roundV s p l shun=([],[],0):=if_pos h
theorem round_leads {s:Snap} {p:List Int} {l:List Move} {shun:List Int} (hc:checkP s p=0) (hl:l.length≤48):∃ q st n,roundV s p l shun=(q,st,n)∧checkP s q=0∧q.length=p.length∧runV s p st=(q,(st.length:Int),0)∧worseV s p q=([],0)∧0≤n∧n≤l.length ∧
  (st.length:Int)≤2*(l.length+n)∧∀ i:Nat,¬ at0 q i=at0 p i→∃ x∈l,x.pod=i:=by
 have ht:l.take 48=l:=List.take_of_length_le hl
 obtain ⟨h1,_⟩:=round_ok hc l shun
 rw [ht] at h1
 have hr:roundV s p l shun=((rdGo s shun (rdFuel l) (rdStart p l)).q,(rdGo s shun (rdFuel l) (rdStart p l)).st,((rdGo s shun (rdFuel l) (rdStart p l)).had.length:Int)):=by unfold roundV;rw [if_neg (by simpa using hc)]
 refine ⟨_,_,_,hr,h1.core.chk,h1.core.len,?_,keeps_worse hc h1.core.chk h1.core.keep,by omega,by have:=h1.hadLen;omega,by have:=h1.most;omega,h1.core.stay⟩
 unfold runV
 rw [if_neg (by simpa using hc)]
 exact h1.core.run
def movedB (l:List Move) (pod:Int):Bool:=l.any (fun x=>decide (x.pod=pod))
theorem movedB_mem {l:List Move} {pod:Int}:movedB l pod=true↔∃ x∈l,x.pod=pod:=by unfold movedB;simp
def ownGo:List Move→List Move→List Move
 | own,[]=>own
 | own,x::l=>if own.length < 6 then (if movedB own x.pod=true then ownGo own l else ownGo (own++[x]) l) else own
theorem unlike_add {own:List Move} {x:Move} (h:Unlike own) (hm:¬ movedB own x.pod=true):Unlike (own++[x]):=by
 intro a ha b hb e
 rw [movedB_mem] at hm
 rcases List.mem_append.1 ha with h1|h1<;>rcases List.mem_append.1 hb with h2|h2
 ·exact h a h1 b h2 e
 ·rw [List.mem_singleton] at h2
  exact absurd ⟨a,h1,by rw [← h2];exact e⟩ hm
 ·rw [List.mem_singleton] at h1
  exact absurd ⟨b,h2,by rw [← h1];exact e.symm⟩ hm
 ·rw [List.mem_singleton] at h1 h2;rw [h1,h2]
theorem run_hop {s:Snap} {p:List Int} {l:List Move} {shun:List Int} {x:Move} {n:Int} (h:findN s p l shun x=some n):runV s p [offS x.pod,bindS ⟨x.pod,n⟩]=(p.set x.pod.toNat n,2,0):=by
 have ht:=hop_try h
 obtain ⟨ha,hg,he,hq⟩:=try_ok (by rw [ht]:(tryV s p ⟨x.pod,n⟩).2.2.2=0)
 have hc:=(askM_ok ha).1
 have hst:stepsOf p ⟨x.pod,n⟩=[offS x.pod,bindS ⟨x.pod,n⟩]:=by rw [he] at ht;exact congrArg (fun z=>z.2.1) ht
 rw [hst] at hg hq
 unfold runV
 rw [if_neg (by simpa using hc),goS_run s _ p 0 hg,hq]
 rfl
theorem find_shuns {s:Snap} {p:List Int} {l:List Move} {shun:List Int} {a n:Int} (h:findV s p l shun=(a,n,true)):∃ (k:Nat) (x:Move),l[k]?=some x∧a=k∧0≤x.pod∧x.pod < p.length∧checkP s p=0∧0≤n∧n < s.nodes.length∧¬ n=at0 p x.pod.toNat∧¬ n=x.to∧n∉shun∧runV s p [offS x.pod,bindS ⟨x.pod,n⟩]=(p.set x.pod.toNat n,2,0)∧∃ y∈l,¬ y.pod=x.pod∧canV s (p.set x.pod.toNat n) y=true:=by
 obtain ⟨k,x,hk,ha,_,hn⟩:=find_ok (by rw [h]:(findV s p l shun).2.2=true)
 rw [h] at ha hn
 obtain ⟨h1,_,_,_,_,h2,h3,h4,h5,h6,h7⟩:=findN_ok hn
 obtain ⟨b1,b2,b3,_⟩:=askM_ok h1
 exact ⟨k,x,hk,ha,b2,b3,b1,h2,h3,h4,h5,h6,run_hop hn,h7⟩
theorem find_none0 {s:Snap} {p:List Int} {l:List Move} {shun:List Int} {a n:Int} (h:findV s p l shun=(a,n,false)):a=0∧n=0:=by
 have:=(findGo_ok l 0).1 (by show (findV s p l shun).2.2=false;rw [h])
 have h2:findV s p l shun=(0,0,false):=this
 rw [h2] at h
 cases h;exact ⟨rfl,rfl⟩
end Go.Dr
namespace Go.Dr
open Go.Proofs
set_option maxRecDepth 20000
set_option maxHeartbeats 2000000
set_option linter.unusedSimpArgs false
set_option linter.unusedVariables false
theorem s43_L17k {P K:Prop} (k:K) (h:Goal K→P:=by
 intro zk
 (first|refine Walk ?_|refine JC.block ?_|refine JC.drawN 1 rfl [0,1,2,3,4,5,6,7,8,9,10,11,12,13,14,15,16,17,18,19,20,21,22] [0,1,2,3,4,5,6,7,8,9,10,11,12,13,14,15,16,17,18,19,20,21] Tryz_mixed (by decide +kernel) ?_|(refine WBox ?_))
 (repeat (first|revert zqg|revert zqf|revert zqe|revert zqd|revert zqc|revert zqb|revert zqa))
 exact zk.k):P:=h ⟨k⟩
theorem q17_cut {S:SHeap} {u:Value} {s:Snap} (hu:rSnap.V S u s):FnR Tryz.prog 43 #[u] S (fun w S'=>rSnap.V S' w (cutS s)):=by
 (refine Fn.enter (args:=[u]) Tryz.func43 rfl Tryz.ntmps43 rfl ?_;intro w0)
 repeat (refine s43_L17k ?_;intros)
 (refine JO.eff rfl rfl rfl (JEff.alloc rfl ?_);intro cb hcb)
 repeat (refine s43_L17k ?_;intros)
 refine JO.pure rfl rfl rfl (JPure.sliceS (xs:=s.nodes) (rep:=rNode) (bt:=112) rfl (by exact vta) rfl rfl rfl (by omega) (by omega) (by omega) ?_);intro a1 c1 y1 hy1 hV1 hyl1 hyb1
 repeat (refine s43_L17k ?_;intros)
 refine JO.pure rfl rfl rfl (JPure.sliceS (xs:=s.pods) (rep:=rPod) (bt:=240) rfl (by exact vta) rfl rfl rfl (by omega) (by omega) (by omega) ?_);intro a2 c2 y2 hy2 hV2 hyl2 hyb2
 repeat (refine s43_L17k ?_;intros)
 refine JO.pure rfl rfl rfl (JPure.sliceS (xs:=s.owners) (rep:=rOwner) (bt:=56) rfl (by exact vta) rfl rfl rfl (by omega) (by omega) (by omega) ?_);intro a3 c3 y3 hy3 hV3 hyl3 hyb3
 repeat (refine s43_L17k ?_;intros)
 have e1:y1=s.nodes.take 12:=hy1.trans (cut_len s.nodes 12)
 have e2:y2=s.pods.take 30:=hy2.trans (cut_len s.pods 30)
 have e3:y3=s.owners.take 12:=hy3.trans (cut_len s.owners 12)
 subst e1;subst e2;subst e3
 have hV:=V_snap (x:=cutS s) hV1 hV2 hV3
 refine JO.eff rfl rfl rfl (JEff.storeW rfl rfl hV nna (List.Perm.refl _) rfl (by intro l hl;cases hl) ?_)
 refine JO.freezeV hV nna hcb (by intro l hl;cases hl) ?_;intro S2 hl2 hpo
 repeat (refine s43_L17k ?_;intros)
 exact JX.retCell Tryz.results43 rfl hpo (List.nil_sublist _) (fun w hw=>⟨rfl,hw⟩)
theorem movedB_step {l:List Move} {k:Nat} {x:Move} {pod:Int} (h:l[k]?=some x):movedB (l.take (k+1)) pod=(movedB (l.take k) pod||decide (x.pod=pod)):=by
 unfold movedB
 rw [List.take_add_one,h];simp
theorem q17_moved {S:SHeap} {v:Value} {l:List Move} (pod:Int) (hv:(rSlice 16 rMove).V S v l):FnV Tryz.prog 50 #[v,.int .i64 pod] S (.bool (movedB l pod)):=by
 obtain ⟨a,c,rfl,_,_,hb,_⟩:=V_slice.1 hv
 unfold big at hb
 (refine Fn.enter (args:=[.slice a l.length c,.int .i64 pod]) Tryz.func50 rfl Tryz.ntmps50 rfl ?_;intro w0)
 repeat (first|(refine Walk ?_;intros)|refine JC.block ?_)
 refine JC.loopF0 (σ:=Nat) [(0,_),(1,_)] (fun z=>[(5,.int .i64 z)]) (fun Si z=>z≤l.length∧movedB (l.take z) pod=false) (fun z=>l.length - z) (0) (by exact sba) (by exact sba) (⟨Nat.zero_le _,by simp [movedB]⟩) ?_;rintro Si k hli hii;(try dsimp only at hii);dsimp only [List.cons_append,List.nil_append]
 obtain ⟨hk,hm⟩:=hii
 try dsimp only at hk hm
 repeat (first|(refine Walk ?_;intros)|refine JC.block ?_)
 refine JC.cond rfl (fun hc=>?_) (fun hc=>?_)
 ·have hk':=dlt hc
  obtain ⟨x,hx,_⟩:=drop_at hk'
  have hst:=movedB_step (pod:=pod) hx
  rw [hm,Bool.false_or] at hst
  repeat (first|(refine Walk ?_;intros)|refine JC.block ?_)
  by_cases he:x.pod=pod
  ·rw [decide_eq_true he]
   have hmb:movedB l pod=true:=movedB_mem.2 ⟨x,List.mem_of_getElem? hx,he⟩
   rw [hmb]
   repeat (first|(refine Walk ?_;intros)|refine JC.block ?_)
   (refine JX.ret1 Tryz.results50 (ResV.tmp rfl) (List.nil_sublist _) ?_)
   exact ⟨rfl,rfl⟩
  ·rw [decide_eq_false he] at hst ⊢
   repeat (first|(refine Walk ?_;intros)|refine JC.block ?_)
   exact JX.roundF (k+1) (by exact lea) (⟨by omega,hst⟩) (by (try dsimp only);omega) rfl (by exact sba) (by exact sba)
 ·have hk':=dnlt hc
  rw [List.take_of_length_le hk'] at hm
  rw [hm]
  repeat (first|(refine Walk ?_;intros)|refine JC.block ?_)
  (refine JX.ret1 Tryz.results50 (ResV.tmp rfl) (List.nil_sublist _) ?_)
  exact ⟨rfl,rfl⟩
def podWs17:List Value:=[podW 112 10,podW 113 10,podW 114 10]
def ndW (n:UInt8) (c:Int) (b:Bool):Value:=.agg (flatCells [.string ⟨#[n]⟩,.agg (flatCells [.int .i64 c,.int .i64 0,.int .i64 0,.int .i64 0,.int .i64 0]).toArray,.slice none 0 0,.slice none 0 0,.bool b,.bool false]).toArray
def ndWs (b:Bool):List Value:=[ndW 97 10 false,ndW 98 10 false,ndW 99 20 b]
theorem V_ndW {S:SHeap} {n:UInt8} {c:Int} {b:Bool} (hc:Rng c):rNode.V S (ndW n c b) ⟨⟨#[n]⟩,[c,0,0,0,0],[],[],b,false⟩:=
 ⟨[_,_,_,_,_,_,_,_,_,_],map_R (seq1 (R_str (sz1 _)) (seq5 (R_vec (by simp [Rng];exact hc)) (seq1 (V_nil.one rfl) (seq1 (V_nil.one rfl) (seq1 R_bool R_bool))))),rfl⟩
theorem V_ndWs {S:SHeap} {b:Bool}:allV rNode S (ndWs b) (chap17 b).nodes:=⟨⟨V_ndW (by simp [Rng]),nna⟩,⟨V_ndW (by simp [Rng]),nna⟩,⟨V_ndW (by simp [Rng]),nna⟩,trivial⟩
theorem V_podWs17 {S:SHeap}:allV rPod S podWs17 pods17:=⟨⟨V_pod14 (by simp [Rng]) rfl,nna⟩,⟨V_pod14 (by simp [Rng]) rfl,nna⟩,⟨V_pod14 (by simp [Rng]) rfl,nna⟩,trivial⟩
theorem take45b {a b c:Value} {tl:List Value} (h:(flatCells [a,b,c]).length=45):(cellsR [a,b,c] tl).toList.take 45=flatCells [a,b,c]:=by
 show (flatCells [a,b,c]++tl).take 45=_
 rw [List.take_append_of_le_length (by omega),List.take_of_length_le (by omega)]
theorem pqr17_at {k:Nat} {x:UInt8} (h:([112,113,114]:List UInt8)[k]?=some x):(⟨#[112,113,114]⟩:ByteArray).extract ((k:Int)).toNat (((k:Int)+1)).toNat=⟨#[x]⟩:=by
 match k with
 | 0=>cases h;decide +kernel
 | 1=>cases h;decide +kernel
 | 2=>cases h;decide +kernel
 | k+3=>simp at h
def Chap17 (TN:TypeId) (w:Value) (S':SHeap) (M':List MEnt):Prop:=
 ∃ nb pa cap,w=.agg #[.slice (some ⟨nb,0,none⟩) 3 3,.slice pa 3 cap,.slice none 0 0]∧M'=[.blk nb (.cells (flatCells (ndWs false)).toArray TN (0,0))]∧(rSlice 240 rPod).V S' (.slice pa 3 cap) pods17
theorem q17_chapterM {S:SHeap}:Fn Tryz.prog 52 #[] S [] (Chap17 94):=by
 haveI:TyR Tryz.prog 23 rVal:=⟨(inferInstance:TyR Tryz.prog 23 (rSlice 240 rPod)).b⟩
 have hRaw:TyR Tryz.prog 26 rRaw3:=⟨(inferInstance:TyR Tryz.prog 26 rSnap).b⟩
 (refine Fn.enter (args:=[]) Tryz.func52 rfl Tryz.ntmps52 rfl ?_;intro w0)
 repeat (first|(refine Walk ?_;intros)|refine JC.block ?_)
 (refine JO.eff rfl rfl rfl (JEff.alloc rfl ?_);intro rb hrb)
 repeat (first|(refine Walk ?_;intros)|refine JC.block ?_)
 (refine JO.eff rfl rfl rfl (JEff.build (rep:=rNode) (ys:=(chap17 false).nodes) rfl rfl ⟨⟨V_ndW (by simp [Rng]),nna⟩,⟨V_ndW (by simp [Rng]),nna⟩,⟨V_ndW (by simp [Rng]),nna⟩,trivial⟩ rfl rfl rfl rfl ?_);intro nb hnb hnv)
 refine JO.out (fun hout=>?_)
 have hn3:=hout (.blk nb _) List.mem_cons_self nb rfl
 refine JO.blkNew rfl (fun hn0 _=>?_)
 refine JO.freeze hnb (by intro l hl;cases hl) (fun S4 hl4 hS4=>?_)
 repeat (first|(refine Walk ?_;intros)|refine JC.block ?_)
 (refine JO.eff rfl rfl rfl (JEff.alloc rfl ?_);intro sb hsb)
 repeat (first|(refine Walk ?_;intros)|refine JC.block ?_)
 refine JO.eff rfl rfl rfl (JEff.storeW (ht:=hRaw) rfl rfl V_raw3 nna (List.Perm.refl _) rfl (by intro l hl;cases hl) ?_)
 repeat (first|(refine Walk ?_;intros)|refine JC.block ?_)
 refine JC.newRow 127 (Rp.sz rPod) ?_
 refine JC.loopF (σ:=Nat × Option Addr × Nat × List Value) [(0,_),(1,_)] (fun q=>[(2,.int .i64 q.1)])
  (fun q=>[.row w0.heap.size 127 (Rp.sz rPod) (.slice q.2.1 q.1 q.2.2.1) q.1 (flatCells q.2.2.2),.blk sb (.cells #[.slice (some ⟨nb,0,none⟩) 3 3,.slice q.2.1 q.1 q.2.2.1,.slice none 0 0] 26 (0,0)),.blk rb (.cells #[.slice none 0 0,.slice none 0 0,.slice none 0 0] 26 (0,0))])
  (fun Sk q=>q.1≤3∧allV rPod Sk q.2.2.2 (pods17.take q.1)∧q.2.2.2=podWs17.take q.1) (fun q=>3 - q.1) (0,none,0,[]) (by exact sba) (by exact sba) (by rfl) ⟨Nat.zero_le _,trivial,rfl⟩ ?_
 rintro Sk ⟨k,ra,rc,vs⟩ hlk ⟨hk,hv1,hve⟩
 dsimp only at hk hv1 hve
 dsimp only [List.cons_append,List.nil_append]
 repeat (first|(refine Walk ?_;intros)|refine JC.block ?_)
 refine JC.cond rfl (fun hc=>?_) (fun hc=>?_)
 ·have hk':k < 3:=by have:=of_decide_eq_true hc;omega
  obtain ⟨x,hx⟩:∃ x,([112,113,114]:List UInt8)[k]?=some x:=⟨_,List.getElem?_eq_getElem (by simpa using hk')⟩
  have hst:pods17.take (k+1)=pods17.take k++[pd14 x 10]:=by
   match k with
   | 0=>cases hx;rfl
   | 1=>cases hx;rfl
   | 2=>cases hx;rfl
   | k+3=>omega
  have hst2:podWs17.take (k+1)=podWs17.take k++[podW x 10]:=by
   match k with
   | 0=>cases hx;rfl
   | 1=>cases hx;rfl
   | 2=>cases hx;rfl
   | k+3=>omega
  have hP:=fun S=>V_pod14 (S:=S) (r:=10) (by simp [Rng]) (pqr17_at hx)
  have hvl:=hv1.length
  have hpl:(pods17.take k).length=k:=by rw [List.length_take];show min k 3=k;omega
  rw [hpl] at hvl
  repeat (first|(refine Walk ?_;intros)|refine JC.block ?_)
  refine JC.drawTreeF 5 rfl [10] [1] [0,2,3,4,5,6,7] (.alt (ofL [1,8,9,10,11] .nil) (ofL [8,1,9,10,11] .nil)) Tryz_mixed (by decide +kernel) ?_
  refine JO.pure rfl rfl rfl (JPure.fieldP rfl rfl ?_)
  repeat (first|(refine Walk ?_;intros)|refine JC.block ?_)
  refine JO.pure rfl rfl rfl (JPure.sliceT rfl rfl rfl rfl (by omega) (by omega) (by show (k:Int)+1≤3;omega) ?_)
  repeat (first|(refine Walk ?_;intros)|refine JC.block ?_)
  refine JO.alt ?_ ?_
  ·refine JO.eff rfl rfl rfl (JEff.loadE (rVal) (x0:=.slice ra k rc) rfl (by (first|exact List.mem_cons_self|exact List.mem_cons_of_mem _ List.mem_cons_self|exact List.mem_cons_of_mem _ (List.mem_cons_of_mem _ List.mem_cons_self))) rfl ⟨rfl,rfl⟩ inferInstance rfl ?_)
   repeat (first|(refine Walk ?_;intros)|refine JC.block ?_)
   (refine JO.eff rfl rfl rfl (JEff.build (rep:=rPod) (ys:=[pd14 x 10]) rfl rfl ⟨⟨hP _,nna⟩,trivial⟩ rfl rfl rfl rfl ?_);intro bb hbb hvv)
   repeat (first|(refine Walk ?_;intros)|refine JC.block ?_)
   (refine JO.eff rfl rfl rfl (JEff.appendL (rep:=rPod) rfl rfl rfl rfl (List.Perm.swap _ _ _) (by exact hvv.flat) (by intro c hc;exact flat_one (fun v hv=>(hvv.size v hv).2) c hc) (by unfold big;omega) (by unfold big;omega) (by first|exact rowT_ok|(intro l hl;cases hl)) rfl ?_);intro a2 c2;clear hvv hbb)
   repeat (first|(refine Walk ?_;intros)|refine JC.block ?_)
   refine JO.pure rfl rfl rfl (JPure.fieldP rfl rfl ?_)
   refine JO.eff rfl rfl rfl (JEff.store (rep:=rVal) (x0:=.slice a2 (k+1) c2) rfl rfl (V_val.2 ⟨rfl,rfl⟩) nna (List.Perm.swap _ _ _) (by simp [rVal]) (by intro l hl;cases hl) ?_)
   repeat (first|(refine Walk ?_;intros)|refine JC.block ?_)
   refine JX.perm (M':=[_,_,_]) (List.Perm.trans (List.Perm.swap _ _ _) (List.Perm.refl _)) ?_
   exact JX.roundF (k+1,a2,c2,vs++[_]) (by exact lea) ⟨by dsimp only;omega,by (try dsimp only);rw [hst];exact allV_add (by exact lea) hv1 (hP _) nna,by (try dsimp only);rw [hst2,hve];unfold podW;rw [pqr17_at hx]⟩ (by (try dsimp only);omega) (by simp [flat_append];rfl) (by exact sba) (by exact sba)
  ·(refine JO.eff rfl rfl rfl (JEff.build (rep:=rPod) (ys:=[pd14 x 10]) rfl rfl ⟨⟨hP _,nna⟩,trivial⟩ rfl rfl rfl rfl ?_);intro bb hbb hvv)
   repeat (first|(refine Walk ?_;intros)|refine JC.block ?_)
   refine JO.eff rfl rfl rfl (JEff.loadE (rVal) (x0:=.slice ra k rc) rfl (by (first|exact List.mem_cons_self|exact List.mem_cons_of_mem _ List.mem_cons_self|exact List.mem_cons_of_mem _ (List.mem_cons_of_mem _ List.mem_cons_self))) rfl ⟨rfl,rfl⟩ inferInstance rfl ?_)
   repeat (first|(refine Walk ?_;intros)|refine JC.block ?_)
   (refine JO.eff rfl rfl rfl (JEff.appendL (rep:=rPod) rfl rfl rfl rfl (List.Perm.swap _ _ _) (by exact hvv.flat) (by intro c hc;exact flat_one (fun v hv=>(hvv.size v hv).2) c hc) (by unfold big;omega) (by unfold big;omega) (by first|exact rowT_ok|(intro l hl;cases hl)) rfl ?_);intro a2 c2;clear hvv hbb)
   repeat (first|(refine Walk ?_;intros)|refine JC.block ?_)
   refine JO.pure rfl rfl rfl (JPure.fieldP rfl rfl ?_)
   refine JO.eff rfl rfl rfl (JEff.store (rep:=rVal) (x0:=.slice a2 (k+1) c2) rfl rfl (V_val.2 ⟨rfl,rfl⟩) nna (List.Perm.swap _ _ _) (by simp [rVal]) (by intro l hl;cases hl) ?_)
   repeat (first|(refine Walk ?_;intros)|refine JC.block ?_)
   refine JX.perm (M':=[_,_,_]) (List.Perm.trans (List.Perm.swap _ _ _) (List.Perm.refl _)) ?_
   exact JX.roundF (k+1,a2,c2,vs++[_]) (by exact lea) ⟨by dsimp only;omega,by (try dsimp only);rw [hst];exact allV_add (by exact lea) hv1 (hP _) nna,by (try dsimp only);rw [hst2,hve];unfold podW;rw [pqr17_at hx]⟩ (by (try dsimp only);omega) (by simp [flat_append];rfl) (by exact sba) (by exact sba)
 ·obtain rfl:k=3:=by have:=of_decide_eq_false hc;omega
  obtain rfl:vs=podWs17:=hve
  refine JC.rowBlkB (by decide) (fun pb tl ha hcap hsz=>?_)
  subst ha
  refine JC.blkNew rfl (fun hp0 hpb=>?_)
  refine JC.out (fun hout3=>?_)
  have hpk:=hout3 (.blk pb _) List.mem_cons_self pb rfl
  refine JC.freeze hpb (fun S9 hl9 hS9=>?_)
  refine JC.freeze hsb (fun S10 hl10 hS10=>?_)
  have hfin:PtrTo S10 ⟨sb,0,none⟩ rRaw3 (.slice (some ⟨nb,0,none⟩) 3 3,.slice (some ⟨pb,0,none⟩) 3 rc,.slice none 0 0):=
   cells_ptr (v:=.agg #[.slice (some ⟨nb,0,none⟩) 3 3,.slice (some ⟨pb,0,none⟩) 3 rc,.slice none 0 0]) hS10 ⟨[_],[_,_],rfl,⟨rfl,rfl⟩,[_],[_],rfl,⟨rfl,rfl⟩,rfl,rfl⟩
  repeat (first|(refine Walk ?_;intros)|refine JC.block ?_)
  have hwv:=(by assumption:rRaw3.V S10 _ (.slice (some ⟨nb,0,none⟩) 3 3,_,_))
  obtain ⟨cs,⟨_,_,rfl,⟨rfl,_⟩,_,_,rfl,⟨rfl,_⟩,⟨rfl,_⟩⟩,rfl⟩:=hwv
  refine JO.eff rfl rfl rfl (JEff.storeW (ht:=hRaw) rfl rfl V_raw3 nna (List.Perm.refl _) rfl (by intro l hl;cases hl) ?_)
  refine JO.out (fun hout4=>?_)
  have hrk:=hout4 (.blk rb _) List.mem_cons_self rb rfl
  refine JO.freeze hrb (by intro l hl;cases hl) (fun S11 hl11 hS11=>?_)
  repeat (first|(refine Walk ?_;intros)|refine JC.block ?_)
  have r2:=ne_none hrk ((show SHeap.le S4 S10 by exact lea) _ _ hS4)
  have r3:=ne_none hpk ((show SHeap.le S4 Sk by exact lea) _ _ hS4)
  have hrf:=(SHeap.del_other r2.symm).trans hS11
  have hpf:=(SHeap.del_other r3.symm).trans ((show SHeap.le S9 S11 by exact lea) _ _ hS9)
  refine JX.thaw hn0 hnb ((show SHeap.le S4 S11 by exact lea) _ _ hS4) ?_
  refine JX.retCell (ht:=hRaw) (x:=(.slice (some ⟨nb,0,none⟩) 3 3,.slice (some ⟨pb,0,none⟩) 3 rc,.slice none 0 0)) Tryz.results52 rfl (cells_ptr (rep:=rRaw3) (v:=.agg #[.slice (some ⟨nb,0,none⟩) 3 3,.slice (some ⟨pb,0,none⟩) 3 rc,.slice none 0 0]) hrf ⟨[_],[_,_],rfl,⟨rfl,rfl⟩,[_],[_],rfl,⟨rfl,rfl⟩,rfl,rfl⟩) (List.Sublist.refl _) (fun w hw=>?_)
  obtain ⟨cs,⟨_,_,rfl,⟨rfl,_⟩,_,_,rfl,⟨rfl,_⟩,⟨rfl,_⟩⟩,rfl⟩:=hw
  exact ⟨nb,_,rc,rfl,rfl,slice_of_block (SHeap.le.refl _) hpf (rep:=rPod) (bt:=240) (xs:=pods17) (vs:=podWs17) V_podWs17 rfl hcap (by show 3*240≤big;decide) (by show 3≤big;decide) (take45b rfl)⟩
theorem chap17_V {S:SHeap} {nb cap:Nat} {pa:Option Addr} {b:Bool} {TN:TypeId} (hp:(rSlice 240 rPod).V S (.slice pa 3 cap) pods17) (hn:S nb=some (.cells (flatCells (ndWs b)).toArray TN (0,0))):rSnap.V S (.agg #[.slice (some ⟨nb,0,none⟩) 3 3,.slice pa 3 cap,.slice none 0 0]) (chap17 b):=
 V_snap (x:=chap17 b) (slice_of_block (SHeap.le.refl _) hn (rep:=rNode) (bt:=112) (xs:=(chap17 b).nodes) (vs:=ndWs b) V_ndWs rfl (by show 3≤3;decide) (by show 3*112≤big;decide) (by show 3≤big;decide) rfl) hp V_nil
theorem q17_chapter {S:SHeap}:FnR Tryz.prog 52 #[] S (fun w S'=>rSnap.V S' w (chap17 false)):=by
 refine Fn.frozen q17_chapterM fun w S' M' hw=>?_
 obtain ⟨nb,pa,cap,rfl,rfl,hp⟩:=hw
 exact .inr ⟨nb,_,rfl,fun S'' hl hS=>chap17_V (hp.mono hl) hS⟩
end Go.Dr
namespace Go.Dr
open Go.Proofs
set_option maxRecDepth 20000
set_option maxHeartbeats 2000000
set_option linter.unusedSimpArgs false
set_option linter.unusedVariables false
structure OfferD where
 s:Snap
 p:List Int
 pod:Int
def rOffer:Rp OfferD:=rMap (fun x:OfferD=>(x.s,x.p,x.pod)) (rSeq rSnap (rSeq (rSlice 8 rI64) rI64))
instance:Fld rOffer 0 rSnap OfferD.s:=⟨(Part.map Part.first)⟩
instance:Fld rOffer 3 (rSlice 8 rI64) OfferD.p:=⟨(Part.map (Part.next Part.first rfl))⟩
instance:Fld rOffer 4 rI64 OfferD.pod:=⟨(Part.map (Part.next (Part.last rfl) rfl))⟩
instance:TyR Tryz.prog 173 rOffer:=⟨by kernel_rfl⟩
theorem s122_L14o {P K:Prop} (k:K) (h:Goal K→P:=by
 intro zk
 (first|refine Walk ?_|refine JC.block ?_|(refine JO.eff rfl rfl rfl (JEff.callV rfl (p14_Left _ (by exact vta) (by exact vta)) rfl ?_);intro zqa zqb)|(refine JO.eff rfl rfl rfl (JEff.callRow rfl (p_Clone_int (by exact vta)) rfl ?_);intro zqa zqb zqc zqd zqe zqf)|(refine WBox ?_))
 (repeat (first|revert zqg|revert zqf|revert zqe|revert zqd|revert zqc|revert zqb|revert zqa))
 exact zk.k):P:=h ⟨k⟩
theorem p14_left {S:SHeap} {ov:Value} {s:Snap} {p:List Int} {pod:Int} (node:Int) (ho:rOffer.V S ov ⟨s,p,pod⟩) (h0:0≤pod) (h1:pod < p.length) (hr:Rng node):FnV Tryz.prog 122 #[ov,.int .i64 node] S (.int .i64 (leftAt s p pod node)):=by
 obtain ⟨i,rfl⟩:∃ i:Nat,pod=i:=⟨pod.toNat,by omega⟩
 (refine Fn.enter (args:=[ov,.int .i64 node]) Tryz.func122 rfl Tryz.ntmps122 rfl ?_;intro w0)
 repeat (refine s122_L14o ?_;intros)
 rw [flat_int (by assumption)]
 have hVp:=(by assumption:(rSlice 8 rI64).V _ _ (OfferD.mk s p i).p)
 obtain ⟨_,_,_,_,hp8,hp9,_⟩:=V_slice.1 hVp
 have hpr:∀ z∈p,Rng z:=fun z hz=>by
  obtain ⟨q,cs,h,_⟩:=slice_at hVp z hz
  exact h.2
 dsimp only at hp8 hp9
 refine JO.rowBlk (by dsimp only;omega) (fun b tl hab hbb hnc=>?_)
 subst hab
 dsimp only at hnc
 repeat (refine s122_L14o ?_;intros)
 refine JO.pure rfl rfl rfl (JPure.indexRI rfl rfl rfl (by dsimp only;omega) (by dsimp only;omega) ?_)
 refine JO.eff rfl rfl rfl (JEff.storeIT (i:=i) rfl rfl hr (List.Perm.refl _) (by dsimp only;omega) (by intro l hl;cases hl) ?_)
 refine JO.freeze hbb (by intro l hl;cases hl) (fun S9 hl9 hS9=>?_)
 have hq:(p.set i node).length=p.length:=by simp
 have hVq:(rSlice 8 rI64).V S9 (.slice (some ⟨b,0,none⟩) p.length _) (p.set i node):=blk_slice (SHeap.le.refl S9) hS9 hq.symm hnc hp8 (fun z hz=>by
  rcases List.mem_or_eq_of_mem_set hz with h|rfl
  ·exact hpr z h
  ·exact hr)
 repeat (first|(refine Walk ?_;intros)|refine JC.block ?_|(refine JO.eff rfl rfl rfl (JEff.callV rfl (p14_Left node (by exact vta) hVq) rfl ?_);intro _ _)|(refine JO.eff rfl rfl rfl (JEff.callV rfl (p14_Left _ (by exact vta) (by exact vta)) rfl ?_);intro _ _)|(refine JO.eff rfl rfl rfl (JEff.callRow rfl (p_Clone_int (by exact vta)) rfl ?_);intro _ _ _ _ _ _)|(refine WBox ?_;intros))
 (refine JX.ret1 Tryz.results122 (ResV.tmp rfl) (List.nil_sublist _) ?_)
 exact ⟨rfl,by unfold leftAt;rw [Int.toNat_natCast]⟩
theorem s21_L14o {P K:Prop} (k:K) (h:Goal K→P:=by
 intro zk
 (first|refine Walk ?_|refine JC.block ?_|(refine JO.eff rfl rfl rfl (JEff.callV rfl (p10_May (by exact vta) (by exact vta) (by exact vta)) rfl ?_);intro zqa zqb)|(refine WBox ?_))
 (repeat (first|revert zqg|revert zqf|revert zqe|revert zqd|revert zqc|revert zqb|revert zqa))
 exact zk.k):P:=h ⟨k⟩
theorem p10_WaysR {S:SHeap} {u v:Value} {s:Snap} {p:List Int} (pod:Int) (hu:rSnap.V S u s) (hv:(rSlice 8 rI64).V S v p) (hn:s.nodes.length≤1000) (hpr:Rng pod):FnRow Tryz.prog 21 #[u,v,.int .i64 pod] S 3 rI64 (waysV s p pod):=by
 (refine FnRow.enter (args:=[u,v,.int .i64 pod]) Tryz.func21 rfl Tryz.ntmps21 rfl ?_;intro w0)
 repeat (refine s21_L14o ?_;intros)
 (first|refine JC.newRow 3 1 ?_|refine JO.newRow 3 1 ?_|refine JX.newRow 3 1 ?_)
 refine JC.loopF (σ:=Nat × Option Addr × Nat × List Value) [(1,_),(2,_),(3,_),(10,_)] (fun q=>[(6,.slice q.2.1 ((fun k=>waysK s p pod k) q.1).length q.2.2.1),(11,((fun k=>.int .i64 k) q.1))]) (fun q=>[.row w0.heap.size 3 (Rp.sz rI64) (.slice q.2.1 ((fun k=>waysK s p pod k) q.1).length q.2.2.1) ((fun k=>waysK s p pod k) q.1).length (flatCells q.2.2.2)]) (fun Sk q=>q.1≤s.nodes.length∧allV rI64 Sk q.2.2.2 ((fun k=>waysK s p pod k) q.1)∧((fun k=>True) q.1)) (fun q=>s.nodes.length - q.1) (0,none,0,[]) (by exact sba) (by exact sba) (by first|rfl|simp) (⟨Nat.zero_le _,trivial,trivial⟩) ?_;rintro Sk ⟨k,rak,rck,vsk⟩ hlk ⟨hk,hvk,hik⟩;(try dsimp only at hk hvk hik);dsimp only [List.cons_append,List.nil_append]
 have hfl:=waysK_len s p pod k
 repeat (refine s21_L14o ?_;intros)
 refine JC.cond rfl (fun hc=>?_) (fun hc=>?_)
 ·have hk':=dlt hc
  have hst:=waysK_step s p pod k
  have hxv:rStep.V Sk (.agg (flatCells [.int .i64 2,.int .i64 pod,.int .i64 k]).toArray) ⟨2,pod,k⟩:=V_step.2 ⟨by simp [flatCells,Value.cells],by simp [Rng],hpr,by unfold Rng;dsimp only;omega⟩
  repeat (refine s21_L14o ?_;intros)
  refine JC.cond rfl (fun hf=>?_) (fun hf=>?_)
  ·rw [hf,if_pos rfl] at hst
   repeat (refine s21_L14o ?_;intros)
   (refine JO.eff rfl rfl rfl (JEff.build (rep:=rI64) (ys:=[(k:Int)]) rfl rfl ⟨⟨(V_i64.2 ⟨rfl,by unfold Rng;omega⟩),nna⟩,trivial⟩ rfl rfl rfl rfl ?_);intro bb hbb hvv);(repeat (first|(refine Walk ?_;intros)|refine JC.block ?_));(refine JO.eff rfl rfl rfl (JEff.appendL (rep:=rI64) rfl rfl rfl rfl (List.Perm.swap _ _ _) (by exact hvv.flat) (by intro c hc;exact flat_one (fun v hv=>(hvv.size v hv).2) c hc) (by first|omega|(unfold big;omega)) (by unfold big;omega) (by first|exact rowT_ok|(intro l hl;cases hl)) rfl ?_);intro a2 c2;clear hvv hbb)
   repeat (refine s21_L14o ?_;intros)
   exact JX.roundF (k+1,a2,c2,vsk++[(.int .i64 k)]) (by exact lea) ⟨by omega,by (try dsimp only);rw [hst];exact allV_add (by exact lea) hvk (V_i64.2 ⟨rfl,by unfold Rng;omega⟩) nna,(trivial)⟩ (by (try dsimp only);omega) (by (try dsimp only);rw [hst];(simp [flat_append]<;>omega)) (by (try dsimp only);rw [hst];simp only [List.length_append,List.length_cons,List.length_nil];exact sba) (by exact sba)
  ·rw [hf,if_neg (by simp),List.append_nil] at hst
   repeat (refine s21_L14o ?_;intros)
   exact JX.roundF (k+1,rak,rck,vsk) (by exact lea) ⟨by omega,by (try dsimp only);rw [hst];exact hvk.mono (by exact lea),(trivial)⟩ (by (try dsimp only);omega) (by (try dsimp only);rw [hst]) (by (try dsimp only);rw [hst];exact sba) (by exact sba)
 ·have hk':=dnlt hc
  obtain rfl:k=s.nodes.length:=by omega
  repeat (refine s21_L14o ?_;intros)
  exact JX.retRow Tryz.results21 (ResV.tmp rfl) rfl hvk
end Go.Dr
namespace Go.Proofs
open Go.Shelf
def Tryz.laySF_ren:Go.Shelf.Ren:=⟨fun|6=>146|15=>124|14=>215|28=>188|29=>189|20=>276|21=>277|22=>278|23=>279|24=>280|25=>281|26=>282|27=>283|46=>315|47=>259|48=>260|49=>316|50=>317|57=>352|n=>n,fun|22=>27|24=>3|25=>64|3=>3|39=>157|0=>0|53=>240|55=>242|4=>4|46=>234|45=>233|50=>66|5=>5|9=>9|66=>283|70=>287|76=>319|77=>320|n=>n,fun|n=>n⟩
theorem Tryz.laySF:Go.Proofs.SlLaysF.n6 Tryz.prog Tryz.laySF_ren:={
 mixed:=by kernel_rfl
 f6:=⟨Tryz.f146.name,by decide,Tryz.func146.trans (congrArg some (by kernel_rfl))⟩
 f14:=⟨Tryz.f215.name,by decide,Tryz.func215.trans (congrArg some (by kernel_rfl))⟩
 f15:=Tryz.func124.trans (congrArg some (by kernel_rfl))
 f20:=⟨Tryz.f276.name,by decide,Tryz.func276.trans (congrArg some (by kernel_rfl))⟩
 f21:=⟨Tryz.f277.name,by decide,Tryz.func277.trans (congrArg some (by kernel_rfl))⟩
 f22:=⟨Tryz.f278.name,by decide,Tryz.func278.trans (congrArg some (by kernel_rfl))⟩
 f23:=⟨Tryz.f279.name,by decide,Tryz.func279.trans (congrArg some (by kernel_rfl))⟩
 f24:=⟨Tryz.f280.name,by decide,Tryz.func280.trans (congrArg some (by kernel_rfl))⟩
 f25:=⟨Tryz.f281.name,by decide,Tryz.func281.trans (congrArg some (by kernel_rfl))⟩
 f26:=⟨Tryz.f282.name,by decide,Tryz.func282.trans (congrArg some (by kernel_rfl))⟩
 f27:=⟨Tryz.f283.name,by decide,Tryz.func283.trans (congrArg some (by kernel_rfl))⟩
 f28:=Tryz.func188.trans (congrArg some (by kernel_rfl))
 f29:=Tryz.func189.trans (congrArg some (by kernel_rfl))
 f46:=⟨Tryz.f315.name,by decide,Tryz.func315.trans (congrArg some (by kernel_rfl))⟩
 f47:=Tryz.func259.trans (congrArg some (by kernel_rfl))
 f48:=Tryz.func260.trans (congrArg some (by kernel_rfl))
 f49:=⟨Tryz.f316.name,by decide,Tryz.func316.trans (congrArg some (by kernel_rfl))⟩
 f50:=⟨Tryz.f317.name,by decide,Tryz.func317.trans (congrArg some (by kernel_rfl))⟩
 f57:=⟨Tryz.f352.name,by decide,Tryz.func352.trans (congrArg some (by kernel_rfl))⟩
 t0:=Tryz.underlying0
 a0:=Tryz.isAgg0
 z0:=Tryz.sizeOf0
 v0:=Tryz.zeroValue0
 t3:=Tryz.underlying3
 a3:=Tryz.isAgg3
 z3:=Tryz.sizeOf3
 v3:=Tryz.zeroValue3
 t4:=Tryz.underlying4
 a4:=Tryz.isAgg4
 z4:=Tryz.sizeOf4
 v4:=Tryz.zeroValue4
 t5:=Tryz.underlying5
 a5:=Tryz.isAgg5
 z5:=Tryz.sizeOf5
 v5:=Tryz.zeroValue5
 t9:=Tryz.underlying9
 a9:=Tryz.isAgg9
 z9:=Tryz.sizeOf9
 v9:=Tryz.zeroValue9
 t22:=Tryz.underlying27
 a22:=Tryz.isAgg27
 z22:=Tryz.sizeOf27
 v22:=Tryz.zeroValue27
 a24:=Tryz.isAgg3
 z24:=Tryz.sizeOf3
 t25:=Tryz.underlying64
 a25:=Tryz.isAgg64
 z25:=Tryz.sizeOf64
 v25:=Tryz.zeroValue64
 t39:=Tryz.underlying157
 a39:=Tryz.isAgg157
 z39:=Tryz.sizeOf157
 v39:=Tryz.zeroValue157
 t45:=Tryz.underlying233
 a45:=Tryz.isAgg233
 z45:=Tryz.sizeOf233
 v45:=Tryz.zeroValue233
 t46:=Tryz.underlying234
 a46:=Tryz.isAgg234
 z46:=Tryz.sizeOf234
 v46:=Tryz.zeroValue234
 t50:=Tryz.underlying66
 a50:=Tryz.isAgg66
 z50:=Tryz.sizeOf66
 v50:=Tryz.zeroValue66
 t53:=Tryz.underlying240
 a53:=Tryz.isAgg240
 z53:=Tryz.sizeOf240
 v53:=Tryz.zeroValue240
 t55:=Tryz.underlying242
 a55:=Tryz.isAgg242
 z55:=Tryz.sizeOf242
 v55:=Tryz.zeroValue242
 t66:=Tryz.underlying283
 a66:=Tryz.isAgg283
 z66:=Tryz.sizeOf283
 v66:=Tryz.zeroValue283
 t70:=Tryz.underlying287
 a70:=Tryz.isAgg287
 z70:=Tryz.sizeOf287
 v70:=Tryz.zeroValue287
 t76:=Tryz.underlying319
 a76:=Tryz.isAgg319
 z76:=Tryz.sizeOf319
 v76:=Tryz.zeroValue319
 t77:=Tryz.underlying320
 a77:=Tryz.isAgg320
 z77:=Tryz.sizeOf320
 v77:=Tryz.zeroValue320 }
end Go.Proofs
namespace Go.Dr
open Go.Proofs
theorem p_SortFunc {α:Type} [Inhabited α] (val:α→Int) (cf:α→α→Int) (hO:Sort.SWO (ltOf cf)) (hT:∀ x y,ltOf cf x y=false→ltOf cf y x=false→x=y) (g:Nat) (cb:Array Value)
  (eg:∀ args w,(callFunc g args).run Tryz.prog w=.ok (.enter g args) w) {S:SHeap} {b cap n:Nat} {E:TypeId} {tl:List Value} (d:List α) (hn:n=d.length) (hb:n≤1000000)
  (hcmp:∀ x y:α,FnV Tryz.prog g (#[.int .i64 (val x),.int .i64 (val y)]++cb) S (.int .i64 (cf x y))) :
  Fn Tryz.prog 146 #[.slice (some ⟨b,0,none⟩) n cap,.func (.func g) #[] cb] S [.blk b (.cells (intsT (d.map val) tl) E (0,0))]
   (fun v S' M'=>v=.tuple #[]∧S'=S∧M'=[.blk b (.cells (intsT ((d.mergeSort fun x y=>!(ltOf cf) y x).map val) tl) E (0,0))]):=by
 subst hn
 exact sortFunc_fn Tryz.laySF val cf hO hT g cb eg d (by omega) hcmp
theorem p_SortFunc0 {S:SHeap} (p:Option Addr) (cap:Nat) (fv:Value):FnV Tryz.prog 146 #[.slice p 0 cap,fv] S (.tuple #[]):=by
 intro w hg _ _ _
 refine (AnyF.slices_SortFunc_none { Tryz.laySF with } p cap fv w).mono ?_
 rintro e w' ⟨rfl,rfl⟩
 exact ⟨_,S,[],rfl,Wd.start0 hg,rfl,rfl⟩
end Go.Dr
namespace Go.Dr
open Go.Proofs
set_option maxRecDepth 20000
set_option maxHeartbeats 2000000
set_option linter.unusedSimpArgs false
set_option linter.unusedVariables false
theorem p_isNaNi {S:SHeap} (a:Int):FnV Tryz.prog 216 #[.int .i64 a] S (.bool false):=by
 (refine Fn.enter (args:=[.int .i64 a]) Tryz.func216 rfl Tryz.ntmps216 rfl ?_;intro w0)
 repeat (first|(refine Walk ?_;intros)|refine JC.block ?_)
 rw [decide_eq_true (rfl:a=a)]
 (refine JX.ret1 Tryz.results216 (ResV.tmp rfl) (List.nil_sublist _) ?_)
 exact ⟨rfl,rfl⟩
theorem p_CompareI {S:SHeap} (a b:Int):FnV Tryz.prog 149 #[.int .i64 a,.int .i64 b] S (.int .i64 (cmpI a b)):=by
 (refine Fn.enter (args:=[.int .i64 a,.int .i64 b]) Tryz.func149 rfl Tryz.ntmps149 rfl ?_;intro w0)
 repeat (first|(refine Walk ?_;intros)|refine JC.block ?_|(refine JO.eff rfl rfl rfl (JEff.callV rfl (p_isNaNi _) rfl ?_);intro _ _))
 by_cases h1:a < b
 ·rw [decide_eq_true h1,show cmpI a b=-1 from if_pos h1]
  repeat (first|(refine Walk ?_;intros)|refine JC.block ?_|(refine JO.eff rfl rfl rfl (JEff.callV rfl (p_isNaNi _) rfl ?_);intro _ _))
  (refine JX.ret1 Tryz.results149 (ResV.tmp rfl) (List.nil_sublist _) ?_)
  exact ⟨rfl,rfl⟩
 ·rw [decide_eq_false h1]
  repeat (first|(refine Walk ?_;intros)|refine JC.block ?_|(refine JO.eff rfl rfl rfl (JEff.callV rfl (p_isNaNi _) rfl ?_);intro _ _))
  by_cases h2:b < a
  ·rw [decide_eq_true h2,show cmpI a b=1 by unfold cmpI;rw [if_neg h1,if_pos h2]]
   repeat (first|(refine Walk ?_;intros)|refine JC.block ?_|(refine JO.eff rfl rfl rfl (JEff.callV rfl (p_isNaNi _) rfl ?_);intro _ _))
   (refine JX.ret1 Tryz.results149 (ResV.tmp rfl) (List.nil_sublist _) ?_)
   exact ⟨rfl,rfl⟩
  ·rw [decide_eq_false h2,show cmpI a b=0 by unfold cmpI;rw [if_neg h1,if_neg h2]]
   repeat (first|(refine Walk ?_;intros)|refine JC.block ?_|(refine JO.eff rfl rfl rfl (JEff.callV rfl (p_isNaNi _) rfl ?_);intro _ _))
   (refine JX.ret1 Tryz.results149 (ResV.tmp rfl) (List.nil_sublist _) ?_)
   exact ⟨rfl,rfl⟩
theorem p14_by1 {S:SHeap} {q:Addr} {fs cs:Array Value} {g:FuncId} {key:Int→Int} (hp:PtrTo S q rVal (.func (.func g) fs cs)) (hE:Ent Tryz.prog g) (a b:Int)
  (ha:∀ S',S.le S'→FnV Tryz.prog g (fs.toList++[Value.int .i64 a]++cs.toList).toArray S' (.int .i64 (key a))) (hb:∀ S',S.le S'→FnV Tryz.prog g (fs.toList++[Value.int .i64 b]++cs.toList).toArray S' (.int .i64 (key b))) :
  FnV Tryz.prog 147 #[.int .i64 a,.int .i64 b,.pointer (some q)] S (.int .i64 (cfBy key a b)):=by
 haveI:TyR Tryz.prog 117 rVal:=⟨by kernel_rfl⟩
 (refine Fn.enter (args:=[.int .i64 a,.int .i64 b,.pointer (some q)]) Tryz.func147 rfl Tryz.ntmps147 rfl ?_;intro w0)
 repeat (first|(refine Walk ?_;intros)|refine JC.block ?_|refine JC.drawN 1 rfl [0,1,3,4,7,8,2,5,6,9,10,11,12] [0,1,12] Tryz_mixed (by decide +kernel) ?_|(refine JO.eff rfl rfl rfl (JEff.dynV rfl hE rfl (ha _ (by exact lea)) rfl ?_);intro _ _)|(refine JO.eff rfl rfl rfl (JEff.dynV rfl hE rfl (hb _ (by exact lea)) rfl ?_);intro _ _)|(refine JO.eff rfl rfl rfl (JEff.callV rfl (p_CompareI _ _) rfl ?_);intro _ _))
 (refine JO.eff rfl rfl rfl (JEff.buildS (bt:=8) (rep:=rI64) (ys:=[cmpI (key a) (key b),cmpI a b]) rfl rfl (⟨⟨V_i64.2 ⟨rfl,cmpI_rng _ _⟩,nna⟩,⟨V_i64.2 ⟨rfl,cmpI_rng _ _⟩,nna⟩,trivial⟩) rfl rfl rfl (by decide) rfl ?_);intro S9 a9 hl9 hV9)
 repeat (first|(refine Walk ?_;intros)|refine JC.block ?_|refine JC.drawN 1 rfl [0,1,3,4,7,8,2,5,6,9,10,11,12] [0,1,12] Tryz_mixed (by decide +kernel) ?_|(refine JO.eff rfl rfl rfl (JEff.callV rfl (p_Or2 hV9) rfl ?_);intro _ _)|(refine JO.eff rfl rfl rfl (JEff.callV rfl (p_CompareI _ _) rfl ?_);intro _ _))
 (refine JX.ret1 Tryz.results147 (ResV.tmp rfl) (List.nil_sublist _) ?_)
 exact ⟨rfl,rfl⟩
theorem p14_by {S:SHeap} {b cap n:Nat} {E:TypeId} {tl:List Value} {xs:List Int} {D:Int→Prop} {fs cs:Array Value} {g:FuncId} {key:Int→Int} (hE:Ent Tryz.prog g) (hn:n=xs.length) (hb:n≤1000000) (h0:xs≠[]) (hD:∀ x∈xs,D x)
  (hk:∀ x,D x→∀ S',S.le S'→FnV Tryz.prog g (fs.toList++[Value.int .i64 x]++cs.toList).toArray S' (.int .i64 (key x))) :
  Fn Tryz.prog 69 #[.slice (some ⟨b,0,none⟩) n cap,.func (.func g) fs cs] S [.blk b (.cells (intsT xs tl) E (0,0))]
   (fun v S' M'=>v=.slice (some ⟨b,0,none⟩) n cap∧M'=[.blk b (.cells (intsT (sortBy key xs) tl) E (0,0))]):=by
 haveI:TyR Tryz.prog 117 rVal:=⟨by kernel_rfl⟩
 obtain ⟨d,rfl⟩:∃ d:List (NumD D),d.map Subtype.val=xs:=⟨xs.pmap Subtype.mk hD,by rw [List.map_pmap];simp⟩
 obtain ⟨x0,_⟩:=List.exists_mem_of_ne_nil d (fun h=>h0 (by rw [h];rfl))
 haveI:Inhabited (NumD D):=⟨x0⟩
 have hnd:n=d.length:=by rw [hn,List.length_map]
 (refine Fn.enter (args:=[.slice (some ⟨b,0,none⟩) n cap,.func (.func g) fs cs]) Tryz.func69 rfl Tryz.ntmps69 rfl ?_;intro w0)
 repeat (first|(refine Walk ?_;intros)|refine JC.block ?_|(refine WBox ?_;intros))
 have hq:=(by assumption:PtrTo _ _ rVal (.func (.func g) fs cs))
 have hle:=(by assumption:SHeap.le S _)
 refine JO.eff rfl rfl rfl (JEff.callM (Mc:=[.blk b (.cells (intsT (d.map Subtype.val) tl) E (0,0))]) (Mr:=[]) rfl (List.Perm.refl _) (mayAll rfl) (p_SortFunc (α:=NumD D) Subtype.val (fun x y=>cfBy key x.1 y.1) (swoBy D key) (totBy D key) 147 #[.pointer (some _)] (enters_of Tryz.func147 (by kernel_rfl) rfl) d hnd hb (fun x y=>p14_by1 hq hE x.1 y.1 (fun S' h=>hk x.1 x.2 S' (hle.trans h)) (fun S' h=>hk y.1 y.2 S' (hle.trans h)))) rfl ?_)
 intro v S3 M3 hl3 hw
 obtain ⟨rfl,rfl,rfl⟩:=hw
 dsimp only [List.cons_append,List.nil_append]
 repeat (first|(refine Walk ?_;intros)|refine JC.block ?_|(refine WBox ?_;intros))
 refine JX.ret1 Tryz.results69 (ResV.tmp rfl) (List.Sublist.refl _) ?_
 exact ⟨rfl,by rw [sortBy_map]⟩
theorem p14_by0 {S:SHeap} {a:Option Addr} {c:Nat} {fs cs:Array Value} {g:FuncId}:FnV Tryz.prog 69 #[.slice a 0 c,.func (.func g) fs cs] S (.slice a 0 c):=by
 haveI:TyR Tryz.prog 117 rVal:=⟨by kernel_rfl⟩
 (refine Fn.enter (args:=[.slice a 0 c,.func (.func g) fs cs]) Tryz.func69 rfl Tryz.ntmps69 rfl ?_;intro w0)
 repeat (first|(refine Walk ?_;intros)|refine JC.block ?_|(refine JO.eff rfl rfl rfl (JEff.callV rfl (p_SortFunc0 _ _ _) rfl ?_);intro _ _)|(refine WBox ?_;intros))
 (refine JX.ret1 Tryz.results69 (ResV.tmp rfl) (List.nil_sublist _) ?_)
 exact ⟨rfl,rfl⟩
end Go.Dr
namespace Go.Dr
open Go.Proofs
set_option maxRecDepth 20000
set_option maxHeartbeats 2000000
set_option linter.unusedSimpArgs false
set_option linter.unusedVariables false
theorem p14_Rank {S:SHeap} {u v:Value} {s:Snap} {p:List Int} (pod:Int) (hu:rSnap.V S u s) (hv:(rSlice 8 rI64).V S v p) (hn:s.nodes.length≤1000) (hpr:Rng pod):FnL Tryz.prog 58 #[u,v,.int .i64 pod] S 8 rI64 (rankV s p pod):=by
 have hv0:=hv
 obtain ⟨va,vc,rfl,_,hb8,hb1,_⟩:=V_slice.1 hv0
 (refine Fn.enter (args:=[u,.slice va p.length vc,.int .i64 pod]) Tryz.func58 rfl Tryz.ntmps58 rfl ?_;intro w0)
 repeat (first|(refine Walk ?_;intros)|refine JC.block ?_|refine JC.drawN 1 rfl [0,1,2,4,5,6,7,8,3,9,10] [0,1,2,10] Tryz_mixed (by decide +kernel) ?_|(refine JO.eff rfl rfl rfl (JEff.callRow rfl (p10_WaysR pod (by exact vta) (by exact vta) hn hpr) rfl ?_);intro _ _ _ _ _ _)|(refine JO.eff rfl rfl rfl (JEff.callL rfl (p10_Ways _ (by exact vta) (by exact vta) (by first|assumption|omega) (by first|assumption|(unfold Rng;omega))) rfl ?_);intro _ _ _ _ _ _)|(refine WBox ?_;intros))
 have hwl:=ways_len s p pod
 rw [flat_int (by assumption)]
 by_cases hw0:waysV s p pod=[]
 ·have hr0:rankV s p pod=[]:=by unfold rankV;rw [hw0];simp [sortBy]
  rw [hw0,hr0]
  repeat (first|(refine Walk ?_;intros)|refine JC.block ?_|refine JC.drawN 1 rfl [0,1,2,4,5,6,7,8,3,9,10] [0,1,2,10] Tryz_mixed (by decide +kernel) ?_|(refine JO.eff rfl rfl rfl (JEff.callV rfl (p14_by0) rfl ?_);intro _ _)|(refine JO.eff rfl rfl rfl (JEff.callL rfl (p10_Ways _ (by exact vta) (by exact vta) (by first|assumption|omega) (by first|assumption|(unfold Rng;omega))) rfl ?_);intro _ _ _ _ _ _)|(refine WBox ?_;intros))
  (refine JX.ret1 Tryz.results58 (ResV.tmp rfl) (List.nil_sublist _) ?_)
  exact ⟨rfl,V_slice.2 ⟨_,_,rfl,by simp,by simp,by simp,by simp⟩⟩
 ·have hpos:=List.length_pos_iff.2 hw0
  refine JO.rowBlk (by omega) (fun b tl hab hbb hnc=>?_)
  subst hab
  obtain ⟨n0,hn0⟩:=List.exists_mem_of_ne_nil _ hw0
  obtain ⟨_,_,hp0,hp1,_⟩:=ways_mem hn0
  obtain ⟨zs,hzs⟩:∃ z,rSnap.V S z s:=⟨_,hu⟩
  have hof:∀ (S':SHeap) (zv:Value),rSnap.V S' zv s→(rSlice 8 rI64).V S' (.slice va p.length vc) p→rOffer.V S' (.agg (flatCells [zv,.slice va p.length vc,.int .i64 pod]).toArray) ⟨s,p,pod⟩:=fun S' zv h1 h2=>by
   obtain ⟨cs,rfl,hcs⟩:=V_agg rfl h1
   refine ⟨_,⟨cs,[.slice va p.length vc,.int .i64 pod],?_,hcs,[_],[_],rfl,h2.one rfl,rfl,hpr⟩,rfl⟩
   simp [flatCells,Value.cells]
  have hD:∀ x∈waysV s p pod,0≤x∧x < s.nodes.length:=fun x hx=>⟨(ways_mem hx).1,(ways_mem hx).2.1⟩
  refine JO.eff rfl rfl rfl (JEff.callM (Mc:=[.blk b (.cells (intsT (waysV s p pod) tl) 3 (0,0))]) (Mr:=[]) rfl (List.Perm.refl _) (mayAll rfl) (p14_by (D:=fun x=>0≤x∧x < s.nodes.length) (key:=leftAt s p pod) inferInstance rfl (by omega) hw0 hD (fun x hx S' h=>p14_left x (hof S' _ (by exact vta) (by exact vta)) hp0 hp1 (by unfold Rng;omega))) rfl ?_)
  intro w S3 M3 hl3 hw
  obtain ⟨rfl,rfl⟩:=hw
  dsimp only [List.cons_append,List.nil_append]
  refine JO.freeze hbb (by intro l hl;cases hl) (fun S9 hl9 hS9=>?_)
  repeat (first|(refine Walk ?_;intros)|refine JC.block ?_|refine JC.drawN 1 rfl [0,1,2,4,5,6,7,8,3,9,10] [0,1,2,10] Tryz_mixed (by decide +kernel) ?_|(refine JO.eff rfl rfl rfl (JEff.callL rfl (p10_Ways _ (by exact vta) (by exact vta) (by first|assumption|omega) (by first|assumption|(unfold Rng;omega))) rfl ?_);intro _ _ _ _ _ _)|(refine WBox ?_;intros))
  (refine JX.ret1 Tryz.results58 (ResV.tmp rfl) (List.nil_sublist _) ?_)
  exact ⟨rfl,blk_slice (SHeap.le.refl S9) hS9 (rank_len s p pod).symm hnc (by unfold big;omega) (fun z hz=>by have:=hD z ((rank_perm s p pod).mem_iff.1 hz);unfold Rng;omega)⟩
end Go.Dr
namespace Go.Dr
theorem JC.label {C:Cx} {Q:Post} {S:SHeap} {M:List MEnt} {e:Env} {l:Nat} (h:JX C .normal Q S M e):JC C (.label l) Q S M e:=⟨fun a w hw=>wpIn_label (h.run a w hw)⟩
section
variable {P:Program} {b:Frame} {a:Act} {k:List Item} {cs:List Frame} {w:World}
theorem stepR_scope {c:Code}:step P (lone (b.atR a (.code (.scope c)::k)) cs w)=.next (lone (b.atR a (.code c::.inScope c::k)) cs w):=
 step_lone_go (by simp [stepG,stepG.exec,Frame.atR])
theorem stepR_inScope {c:Code}:step P (lone (b.atR a (.inScope c::k)) cs w)=.next (lone (b.atR a k) cs w):=
 step_lone_go (by simp [stepG,stepG.exec,Frame.atR])
end
theorem wpIn_scope {F:Fence} {n:Nat} {P:Program} {Q:Exit→Act→World→Prop} {a:Act} {w:World} {c:Code} (hg:∀ l a w,¬ Q (.goto l) a w) (h:c.wpIn F n P Q a w):(Code.scope c).wpIn F n P Q a w:=by
 intro b k cs hro hb hr
 have h0:(lone (b.atR a (.code (.scope c)::k)) cs w).fenced P F:=fenced_calm hb hr rfl
 obtain ⟨e,a₁,w₁,hq,harr⟩:=h b (.inScope c::k) cs hro hb hr
 cases e with
 | normal=>exact ⟨.normal,a₁,w₁,hq,.head h0 stepR_scope (StepsIn.trans harr (.one (fenced_calm hb hr rfl) stepR_inScope))⟩
 | exit id=>
  have hx:exitTo id (.inScope c::k)=exitTo id k:=by simp [exitTo]
  exact ⟨.exit id,a₁,w₁,hq,fun k' hk=>.head h0 stepR_scope (harr.1 k' (by rw [hx];exact hk)),
    fun hr' hk=>let ⟨k₁,h1,h2⟩:=harr.2 hr' (by rw [hx];exact hk);⟨k₁,h1,.head h0 stepR_scope h2⟩⟩
 | goto l=>exact absurd hq (hg _ _ _)
 | ret=>exact ⟨_,a₁,w₁,hq,.of_steps (.one h0 stepR_scope) harr⟩
 | panic ch=>exact ⟨_,a₁,w₁,hq,.of_steps (.one h0 stepR_scope) harr⟩
 | outgrown=>exact ⟨_,a₁,w₁,hq,.of_steps (.one h0 stepR_scope) harr⟩
theorem JC.scope {C:Cx} {Q:Post} {S:SHeap} {M:List MEnt} {e:Env} {c:Code} (hg:∀ l a w,¬ Q (.goto l) a w) (h:JC C c Q S M e):JC C (.scope c) Q S M e:=⟨fun a w hw=>wpIn_scope hg (h.run a w hw)⟩
end Go.Dr
