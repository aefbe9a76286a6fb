/- Part 5 of the rules and of the walks that the proofs of this seat rest on; no condition. -/
import Derived.Test.YtlckpojpnfidoaaGreatA03
import Derived.Lib.Strings
set_option linter.unusedVariables false
set_option linter.unusedSimpArgs false
namespace Go.Dr
theorem checkP_set {s:Snap} {p:List Int} {i:Nat} {v:Int} (h:checkP s p=0) (hv:oddP s v=false):checkP s (p.set i v)=0:=by
 obtain ⟨h1,h2,h3⟩:=checkP_ok h
 unfold checkP
 have e1:z0 (checkS s)=true:=by simp [z0,h1]
 have e2:(p.set i v).any (oddP s)=false:=by
  rw [List.any_eq_false]
  intro x hx
  rcases List.mem_or_eq_of_mem_set hx with hx|rfl
  ·rw [h3 x hx];simp
  ·rw [hv];simp
 rw [e1,e2,List.length_set,h2]
 simp
theorem odd_none (s:Snap):oddP s (-1)=false:=by simp [oddP];omega
theorem apply_set {s:Snap} {p:List Int} {x:Step} (h:(applyP s p x).2=0):∃ v,(applyP s p x).1=p.set x.pod.toNat v∧x.pod.toNat < p.length∧0≤x.pod∧oddP s v=false∧checkP s p=0 ∧
  ((x.kind=1∧v=-1∧x.node=0∧at0 p x.pod.toNat≠-1)∨(x.kind=2∧v=x.node∧0≤x.node∧x.node < s.nodes.length∧lostAt s x.node=false∧at0 p x.pod.toNat=-1)):=by
 unfold applyP at h ⊢
 split at h
 ·rename_i h1;simp [z0] at h1;exact absurd h h1
 rename_i h1
 rw [if_neg h1]
 have hok:checkP s p=0:=by simpa [z0] using h1
 split at h
 ·cases h
 rename_i h2
 rw [if_neg h2]
 split at h
 ·cases h
 rename_i h3
 rw [if_neg h3]
 split at h
 ·cases h
 rename_i h4
 rw [if_neg h4]
 simp only [Bool.and_eq_true,Bool.not_eq_true',decide_eq_false_iff_not,not_and,Classical.not_not] at h2
 simp only [Bool.or_eq_true,decide_eq_true_eq,Bool.and_eq_true,Bool.not_eq_true',decide_eq_false_iff_not,not_or,not_and,Classical.not_not] at h3
 obtain ⟨⟨⟨⟨a1,a2⟩,a3⟩,a4⟩,a5⟩:=h3
 have hp:x.pod.toNat < p.length:=by omega
 by_cases hk:x.kind=2
 ·have hk1:¬ x.kind=1:=by omega
  simp only [hk,Bool.or_eq_true,Bool.and_eq_true,not_or,not_and,Bool.not_eq_true,decide_true,true_implies] at h4
  obtain ⟨b1,b2⟩:=h4
  have b1:at0 p x.pod.toNat=-1:=by
   by_cases e:at0 p x.pod.toNat=-1
   ·exact e
   ·rw [decide_eq_false e] at b1;simp at b1
  refine ⟨x.node,by rw [if_pos hk],hp,by omega,?_,hok,.inr ⟨hk,rfl,by omega,by have:=a4 hk;omega,b2,b1⟩⟩
  unfold oddP
  have:=a4 hk
  simp [b2];omega
 ·have hk1:x.kind=1:=by
   by_cases e:x.kind=1
   ·exact e
   ·exact absurd (h2 e) hk
  have b1:¬ at0 p x.pod.toNat=-1:=by
   intro e
   apply h4
   rw [decide_eq_true e,decide_eq_true hk1];simp
  exact ⟨-1,by rw [if_neg hk],hp,by omega,odd_none s,hok,.inl ⟨hk1,rfl,a5 hk1,b1⟩⟩
theorem apply_check {s:Snap} {p:List Int} {x:Step} (h:(applyP s p x).2=0):checkP s (applyP s p x).1=0∧(applyP s p x).1.length=p.length∧0 < p.length:=by
 obtain ⟨v,h1,h2,_,h3,h4,_⟩:=apply_set h
 rw [h1]
 exact ⟨checkP_set h4 h3,by simp,by omega⟩
theorem worse_ok {s:Snap} {p q:List Int} (h1:checkP s p=0) (h2:checkP s q=0):worseV s p q=((allL s q).filter (worseF (allL s p)),0):=by
 unfold worseV;rw [if_neg (by simpa using h1),if_neg (by simpa using h2)]
end Go.Dr
namespace Go.Dr
def left1 (c u:Int):Int:=if 0 < c then (1000*max 0 (c - u)).tdiv c else 0
def leftTo (cap used:List Int):Nat→Int
 | 0=>0
 | k+1=>leftTo cap used k+left1 (at0 cap k) (at0 used k)
def leftV (s:Snap) (p:List Int) (node:Int):Int:=if checkP s p=0∧0≤node∧node < s.nodes.length then leftTo (capOf s node.toNat) (usedV s p node) 5 else 0
def leftAt (s:Snap) (p:List Int) (pod node:Int):Int:=leftV s (p.set pod.toNat node) node
end Go.Dr
namespace Go.Dr
def withinB (n a b:Int):Bool:=decide (a≤n)&&decide (n≤b)
def loHi (g:Pol) (k:Nat):Bool:=withinB (at0 g.low k) 0 1000&&withinB (at0 g.high k) (at0 g.low k) 1000
def loTo (g:Pol):Nat→Bool
 | 0=>true
 | k+1=>loTo g k&&loHi g k
def dr1 (l:List ByteArray) (k:Nat):Bool:=match l[k]? with|some x=>nameB x&&(decide (k=0)||(match l[k - 1]? with|some y=>ltS y x|none=>true))|none=>true
def drTo (l:List ByteArray):Nat→Bool
 | 0=>true
 | k+1=>drTo l k&&dr1 l k
def polB0 (g:Pol):Bool:=withinB g.on 0 31&&withinB g.maxMoves 0 48&&withinB g.tries 0 8&&decide (g.drain.length≤8)
def polB (g:Pol):Bool:=polB0 g&&loTo g 2&&drTo g.drain g.drain.length
def checkG (g:Pol):Int:=if polB g=true then 0 else 60
def drainsB (g:Pol) (name:ByteArray):Bool:=g.drain.any (fun x=>decide (x=name))
theorem checkG_ok {g:Pol} (h:checkG g=0):polB g=true:=by
 unfold checkG at h
 split at h
 ·assumption
 ·cases h
theorem polB_ok {g:Pol} (h:polB g=true):(0≤g.on∧g.on≤31)∧(0≤g.maxMoves∧g.maxMoves≤48)∧g.drain.length≤8∧loHi g 0=true∧loHi g 1=true:=by
 simp only [polB,polB0,withinB,loTo,Bool.and_eq_true,decide_eq_true_eq] at h
 obtain ⟨⟨⟨⟨⟨h1,h2⟩,h3⟩,h4⟩,⟨⟨_,h5⟩,h6⟩⟩,_⟩:=h
 exact ⟨h1,h2,h4,h5,h6⟩
def share1 (u c:Int):Int:=if c=0 then (if 0 < u then 1000 else 0) else (u*1000).tdiv c
theorem share1_rng {u c:Int} (hu:0≤u∧u≤Qty) (hc:0≤c):0≤share1 u c∧share1 u c≤1000*Qty:=by
 unfold share1
 split
 ·unfold Qty;split<;>omega
 ·have h0:0≤u*1000:=by omega
  rw [Int.tdiv_eq_ediv_of_nonneg h0]
  refine ⟨Int.ediv_nonneg h0 hc,?_⟩
  have h1:u*1000 / c≤u*1000:=Int.ediv_le_self _ h0
  omega
def shareV (s:Snap) (p:List Int) (n:Int):List Int:=if checkP s p=0∧0≤n∧n < s.nodes.length then [share1 (at0 (usedV s p n) 0) (at0 (capOf s n.toNat) 0),share1 (at0 (usedV s p n) 1) (at0 (capOf s n.toNat) 1)] else [0,0]
def podsK (p:List Int) (n:Int) (k:Nat):List Int:=((List.range k).filter (fun (i:Nat)=>decide (at0 p i=n))).map (fun (i:Nat)=>(i:Int))
def podsV (s:Snap) (p:List Int) (n:Int):List Int:=if checkP s p=0∧0≤n then podsK p n p.length else []
def lowB (s:Snap) (p:List Int) (g:Pol) (n:Nat):Bool:=!lostAt s n&&decide (0 < (podsV s p n).length)&&decide (at0 (shareV s p n) 0 < at0 g.low 0)&&decide (at0 (shareV s p n) 1 < at0 g.low 1)
def highB (s:Snap) (p:List Int) (g:Pol) (n:Nat):Bool:=!lostAt s n&&((decide (0 < at0 g.high 0)&&decide (at0 g.high 0 < at0 (shareV s p n) 0))||(decide (0 < at0 g.high 1)&&decide (at0 g.high 1 < at0 (shareV s p n) 1)))
def pickK (f:Nat→Bool) (k:Nat):List Int:=((List.range k).filter f).map (fun (i:Nat)=>(i:Int))
def pickV (s:Snap) (p:List Int) (g:Pol) (f:Nat→Bool):List Int:=if checkG g=0∧checkP s p=0 then pickK f s.nodes.length else []
def lowV (s:Snap) (p:List Int) (g:Pol):List Int:=pickV s p g (lowB s p g)
def highV (s:Snap) (p:List Int) (g:Pol):List Int:=pickV s p g (highB s p g)
theorem pickK_step (f:Nat→Bool) (k:Nat):pickK f (k+1)=pickK f k++(if f k=true then [(k:Int)] else []):=by
 unfold pickK
 rw [List.range_succ,List.filter_append,List.map_append]
 congr 1
 cases h:f k<;>simp [h]
theorem pickK_len (f:Nat→Bool) (k:Nat):(pickK f k).length≤k:=by
 unfold pickK
 rw [List.length_map]
 have:=List.length_filter_le f (List.range k)
 simpa using this
theorem pickK_mem {f:Nat→Bool} {k:Nat} {x:Int}:x∈pickK f k↔0≤x∧x < k∧f x.toNat=true:=by
 unfold pickK
 simp only [List.mem_map,List.mem_filter,List.mem_range]
 constructor
 ·rintro ⟨i,⟨h1,h2⟩,rfl⟩
  exact ⟨by omega,by omega,by simpa using h2⟩
 ·rintro ⟨h1,h2,h3⟩
  exact ⟨x.toNat,⟨by omega,h3⟩,by omega⟩
theorem podsK_step (p:List Int) (n:Int) (k:Nat):podsK p n (k+1)=podsK p n k++(if at0 p k=n then [(k:Int)] else []):=by
 unfold podsK
 rw [List.range_succ,List.filter_append,List.map_append]
 congr 1
 by_cases h:at0 p k=n<;>simp [h]
theorem podsK_len (p:List Int) (n:Int) (k:Nat):(podsK p n k).length≤k:=by
 unfold podsK
 rw [List.length_map]
 have:=List.length_filter_le (fun (i:Nat)=>decide (at0 p i=n)) (List.range k)
 simpa using this
theorem shareV_len (s:Snap) (p:List Int) (n:Int):(shareV s p n).length=2:=by unfold shareV;split<;>rfl
theorem shareV_no {s:Snap} {p:List Int} {n:Int} (h:¬ (checkP s p=0∧0≤n∧n < s.nodes.length)):shareV s p n=[0,0]:=if_neg h
end Go.Dr
namespace Go.Dr
open Go.Proofs
set_option maxRecDepth 20000
set_option maxHeartbeats 1000000
set_option linter.unusedSimpArgs false
set_option linter.unusedVariables false
theorem fold_take0 {l:List Int} {f:Int→Int→Int} {z:Int} {k:Nat} {x:Int} (h:l[k]?=some x):(l.take (k+1)).foldl f z=f ((l.take k).foldl f z) x:=by
 rw [List.take_add_one,h];simp
theorem p_Max {S:SHeap} {u:Value} {xs:List Int} (hu:(rSlice 8 rI64).V S u xs) (hne:xs≠[]):FnV Tryz.prog 265 #[u] S (.int .i64 (maxL xs)):=by
 obtain ⟨a,c,rfl,_,_,hb,_⟩:=V_slice.1 hu
 unfold big at hb
 obtain ⟨x,L,rfl⟩:∃ x L,xs=x::L:=by cases xs with|nil=>exact absurd rfl hne|cons x L=>exact ⟨x,L,rfl⟩
 have h0:(x::L)[(0:Int).toNat]?=some x:=rfl
 have hl0:(x::L).length=L.length+1:=rfl
 (refine Fn.enter (args:=[.slice a (x::L).length c]) Tryz.func265 rfl Tryz.ntmps265 rfl ?_;intro w0)
 repeat (first|(refine Walk ?_;intros)|refine JC.block ?_)
 refine JC.loopF0 [(0,_)] (fun (j:Nat)=>[(3,.int .i64 ((L.take j).foldl max x)),(4,.int .i64 ((j:Int)+1))]) (fun Sj j=>j≤L.length∧(True)) (fun j=>L.length - j) 0 (by exact sba) (by exact sba) ⟨Nat.zero_le _,trivial⟩ ?_;intro Sj j hlj hij;obtain ⟨hj,hij⟩:=hij;(try dsimp only at hj hij);dsimp only [List.cons_append,List.nil_append]
 repeat (first|(refine Walk ?_;intros)|refine JC.block ?_)
 refine JC.cond rfl (fun hc=>?_) (fun hc=>?_)
 ·have hj':j < L.length:=by have:=of_decide_eq_true hc;omega
  obtain ⟨y,hy,_⟩:=drop_at hj'
  have hst:=fold_take0 (f:=max) (z:=x) hy
  have hy':(x::L)[((j:Int)+1).toNat]?=some y:=by rw [show ((j:Int)+1).toNat=j+1 by omega];exact hy
  repeat (first|(refine Walk ?_;intros)|refine JC.block ?_)
  (refine JX.roundF (j+1) (by exact lea) ⟨by omega,(trivial)⟩ (by (try dsimp only);omega) rfl ?_ (by exact sba);(try dsimp only);rw [hst];exact sba;done)
 ·have hj':L.length≤j:=by have:=of_decide_eq_false hc;omega
  rw [List.take_of_length_le hj']
  repeat (first|(refine Walk ?_;intros)|refine JC.block ?_)
  (refine JX.ret1 Tryz.results265 (ResV.tmp rfl) (List.nil_sublist _) ?_)
  exact ⟨rfl,rfl⟩
theorem p_Min {S:SHeap} {u:Value} {xs:List Int} (hu:(rSlice 8 rI64).V S u xs) (hne:xs≠[]):FnV Tryz.prog 266 #[u] S (.int .i64 (minL xs)):=by
 obtain ⟨a,c,rfl,_,_,hb,_⟩:=V_slice.1 hu
 unfold big at hb
 obtain ⟨x,L,rfl⟩:∃ x L,xs=x::L:=by cases xs with|nil=>exact absurd rfl hne|cons x L=>exact ⟨x,L,rfl⟩
 have h0:(x::L)[(0:Int).toNat]?=some x:=rfl
 have hl0:(x::L).length=L.length+1:=rfl
 (refine Fn.enter (args:=[.slice a (x::L).length c]) Tryz.func266 rfl Tryz.ntmps266 rfl ?_;intro w0)
 repeat (first|(refine Walk ?_;intros)|refine JC.block ?_)
 refine JC.loopF0 [(0,_)] (fun (j:Nat)=>[(3,.int .i64 ((L.take j).foldl min x)),(4,.int .i64 ((j:Int)+1))]) (fun Sj j=>j≤L.length∧(True)) (fun j=>L.length - j) 0 (by exact sba) (by exact sba) ⟨Nat.zero_le _,trivial⟩ ?_;intro Sj j hlj hij;obtain ⟨hj,hij⟩:=hij;(try dsimp only at hj hij);dsimp only [List.cons_append,List.nil_append]
 repeat (first|(refine Walk ?_;intros)|refine JC.block ?_)
 refine JC.cond rfl (fun hc=>?_) (fun hc=>?_)
 ·have hj':j < L.length:=by have:=of_decide_eq_true hc;omega
  obtain ⟨y,hy,_⟩:=drop_at hj'
  have hst:=fold_take0 (f:=min) (z:=x) hy
  have hy':(x::L)[((j:Int)+1).toNat]?=some y:=by rw [show ((j:Int)+1).toNat=j+1 by omega];exact hy
  repeat (first|(refine Walk ?_;intros)|refine JC.block ?_)
  (refine JX.roundF (j+1) (by exact lea) ⟨by omega,(trivial)⟩ (by (try dsimp only);omega) rfl ?_ (by exact sba);(try dsimp only);rw [hst];exact sba;done)
 ·have hj':L.length≤j:=by have:=of_decide_eq_false hc;omega
  rw [List.take_of_length_le hj']
  repeat (first|(refine Walk ?_;intros)|refine JC.block ?_)
  (refine JX.ret1 Tryz.results266 (ResV.tmp rfl) (List.nil_sublist _) ?_)
  exact ⟨rfl,rfl⟩
theorem s202_L2p {P K:Prop} (k:K) (h:Goal K→P:=by
 intro zk
 (first|refine Walk ?_|refine JC.block ?_|refine JC.drawN 1 rfl [0,2,1,3,4,5] [0,4,5] Tryz_mixed (by decide +kernel) ?_|(refine JO.eff rfl rfl rfl (JEff.callV rfl (p_Max (by exact vta) (by first|assumption|simp)) rfl ?_);intro zqa zqb)|(refine JO.eff rfl rfl rfl (JEff.callV rfl (p_Min (by exact vta) (by first|assumption|simp)) rfl ?_);intro zqa zqb)|(refine WBox ?_))
 (repeat (first|revert zqg|revert zqf|revert zqe|revert zqd|revert zqc|revert zqb|revert zqa))
 exact zk.k):P:=h ⟨k⟩
theorem p2_Check {S:SHeap} {u:Value} {v:List Int} (hu:(rArr 5).V S u v):FnV Tryz.prog 202 #[u] S (.int .i64 (checkV v)):=by
 obtain ⟨_,hl,hr⟩:=V_arr.1 hu
 have hne:v≠[]:=by intro h;rw [h] at hl;cases hl
 have e1:=minL_neg hne
 have e2:=maxL_over hne
 (refine Fn.enter (args:=[u]) Tryz.func202 rfl Tryz.ntmps202 rfl ?_;intro w0)
 repeat (refine s202_L2p ?_;intros)
 refine JC.cond rfl (fun h1=>?_) (fun h1=>?_)
 ·rw [e1] at h1
  repeat (refine s202_L2p ?_;intros)
  (refine JX.ret1 Tryz.results202 (ResV.tmp rfl) (List.nil_sublist _) ?_)
  exact ⟨rfl,by rw [checkV,h1];rfl⟩
 rw [e1] at h1
 repeat (refine s202_L2p ?_;intros)
 refine JC.cond rfl (fun h2=>?_) (fun h2=>?_)
 ·have h2:v.any overB=true:=by rw [← e2];exact h2
  repeat (refine s202_L2p ?_;intros)
  (refine JX.ret1 Tryz.results202 (ResV.tmp rfl) (List.nil_sublist _) ?_)
  exact ⟨rfl,by rw [checkV,h1,h2];rfl⟩
 ·have h2:v.any overB=false:=by rw [← e2];exact h2
  repeat (refine s202_L2p ?_;intros)
  (refine JX.ret1 Tryz.results202 (ResV.tmp rfl) (List.nil_sublist _) ?_)
  exact ⟨rfl,by rw [checkV,h1,h2];rfl⟩
theorem p1_above {S:SHeap} (n:Int):FnV Tryz.prog 274 #[.int .i64 n] S (.bool (overB n)):=by
 (refine Fn.enter (args:=[.int .i64 n]) Tryz.func274 rfl Tryz.ntmps274 rfl ?_;intro w0)
 repeat (first|(refine Walk ?_;intros)|refine JC.block ?_)
 (refine JX.ret1 Tryz.results274 (ResV.tmp rfl) (List.nil_sublist _) ?_)
 exact ⟨rfl,rfl⟩
theorem p1_below {S:SHeap} (n:Int):FnV Tryz.prog 314 #[.int .i64 n] S (.bool (negB n)):=by
 (refine Fn.enter (args:=[.int .i64 n]) Tryz.func314 rfl Tryz.ntmps314 rfl ?_;intro w0)
 repeat (first|(refine Walk ?_;intros)|refine JC.block ?_)
 (refine JX.ret1 Tryz.results314 (ResV.tmp rfl) (List.nil_sublist _) ?_)
 exact ⟨rfl,rfl⟩
theorem p1_checked {S:SHeap} {u:Value} {l:List Int} (hu:(rSlice 8 rI64).V S u l):FnV Tryz.prog 273 #[u] S (.int .i64 (checkV l)):=by
 (refine Fn.enter (args:=[u]) Tryz.func273 rfl Tryz.ntmps273 rfl ?_;intro w0)
 repeat (first|(refine Walk ?_;intros)|refine JC.block ?_)
 (refine JO.eff rfl rfl rfl (JEff.callV rfl ((p_ContainsFunc_int negB (by exact vta) inferInstance (fun S' h u x hx=>by obtain ⟨rfl,_⟩:=V_i64.1 hx;exact p1_below x))) rfl ?_);intro _ _)
 repeat (first|(refine Walk ?_;intros)|refine JC.block ?_)
 refine JC.cond rfl (fun h1=>?_) (fun h1=>?_)
 ·repeat (first|(refine Walk ?_;intros)|refine JC.block ?_)
  (refine JX.ret1 Tryz.results273 (ResV.tmp rfl) (List.nil_sublist _) ?_)
  exact ⟨rfl,by rw [checkV,h1];rfl⟩
 repeat (first|(refine Walk ?_;intros)|refine JC.block ?_)
 (refine JO.eff rfl rfl rfl (JEff.callV rfl ((p_ContainsFunc_int overB (by exact vta) inferInstance (fun S' h u x hx=>by obtain ⟨rfl,_⟩:=V_i64.1 hx;exact p1_above x))) rfl ?_);intro _ _)
 repeat (first|(refine Walk ?_;intros)|refine JC.block ?_)
 refine JC.cond rfl (fun h2=>?_) (fun h2=>?_)
 ·repeat (first|(refine Walk ?_;intros)|refine JC.block ?_)
  (refine JX.ret1 Tryz.results273 (ResV.tmp rfl) (List.nil_sublist _) ?_)
  exact ⟨rfl,by rw [checkV,h1,h2];rfl⟩
 ·repeat (first|(refine Walk ?_;intros)|refine JC.block ?_)
  (refine JX.ret1 Tryz.results273 (ResV.tmp rfl) (List.nil_sublist _) ?_)
  exact ⟨rfl,by rw [checkV,h1,h2];rfl⟩
theorem mem_le_sum {l:List Int} (h:l.any negB=false):∀ x∈l,x≤l.sum:=by
 intro x hx
 obtain ⟨i,hi⟩:=List.getElem?_of_mem hx
 have h1:=take_at hi
 have h2:=sum_take_nn h i
 have h3:=sum_take h (i+1)
 omega
theorem s212_L2p {P K:Prop} (k:K) (h:Goal K→P:=by
 intro zk
 (first|refine Walk ?_|refine JC.block ?_|(refine JO.eff rfl rfl rfl (JEff.callV rfl (p1_checked (by exact vta)) rfl ?_);intro zqa zqb)|(refine JO.eff rfl rfl rfl (JEff.callV rfl (p1_above _) rfl ?_);intro zqa zqb))
 (repeat (first|revert zqg|revert zqf|revert zqe|revert zqd|revert zqc|revert zqb|revert zqa))
 exact zk.k):P:=h ⟨k⟩
theorem p1_Add {S:SHeap} {u:Value} {l:List Int} (hu:(rSlice 8 rI64).V S u l):FnV Tryz.prog 212 #[u] S (.tuple #[.int .i64 (addQ l).1,.int .i64 (addQ l).2]):=by
 obtain ⟨a,c,rfl,_,_,hb,_⟩:=V_slice.1 hu
 unfold big at hb
 (refine Fn.enter (args:=[.slice a l.length c]) Tryz.func212 rfl Tryz.ntmps212 rfl ?_;intro w0)
 repeat (refine s212_L2p ?_;intros)
 cases hn:l.any negB with
 | true=>
  have hcv:checkV l=2:=by rw [checkV,hn];rfl
  rw [hcv]
  repeat' (first|(refine s212_L2p ?_;intros)|(refine JO.guard rfl rfl rfl rfl ?_ ?_<;>intro _)|(refine JC.cond rfl ?_ ?_<;>intro _))
  all_goals first
   | ((refine JX.ret2 Tryz.results212 (ResV.tmp rfl) (ResV.tmp rfl) (List.nil_sublist _) ?_);exact ⟨rfl,by rw [addQ,hn];rfl⟩)
   | (exfalso;first|(simp only [decide_eq_true_eq,decide_eq_false_iff_not,Bool.not_eq_true',Bool.not_eq_false',Bool.and_eq_true,Bool.or_eq_true,Bool.and_eq_false_iff,Bool.or_eq_false_iff] at *;omega)|(simp_all;done)|(simp_all;omega))
 | false=>
  cases ho:l.any overB with
  | true=>
   have hcv:checkV l=10:=by rw [checkV,hn,ho];rfl
   have hsum:Qty < l.sum:=by
    obtain ⟨x,hx,h⟩:=List.any_eq_true.1 ho
    have h1:=mem_le_sum hn x hx
    have h2:Qty < x:=by simpa [overB] using h
    omega
   rw [hcv]
   repeat' (first|(refine s212_L2p ?_;intros)|(refine JO.guard rfl rfl rfl rfl ?_ ?_<;>intro _)|(refine JC.cond rfl ?_ ?_<;>intro _))
   all_goals first
    | ((refine JX.ret2 Tryz.results212 (ResV.tmp rfl) (ResV.tmp rfl) (List.nil_sublist _) ?_);exact ⟨rfl,by rw [addQ,hn,if_neg (by simp),if_pos hsum]⟩)
    | (exfalso;first|(simp only [decide_eq_true_eq,decide_eq_false_iff_not,Bool.not_eq_true',Bool.not_eq_false',Bool.and_eq_true,Bool.or_eq_true,Bool.and_eq_false_iff,Bool.or_eq_false_iff] at *;omega)|(simp_all;done)|(simp_all;omega))
  | false=>
   have hcv:checkV l=0:=by rw [checkV,hn,ho];rfl
   have hsm:∀ x∈l,0≤x∧x≤Qty:=by
    intro x hx
    have h1:=(List.any_eq_false.1 hn) x hx
    have h2:=(List.any_eq_false.1 ho) x hx
    simp only [negB,overB,decide_eq_true_eq] at h1 h2
    omega
   rw [hcv]
   repeat (refine s212_L2p ?_;intros)
   refine JC.loopF0 [(12,_),(13,_)] (fun (k:Nat)=>[(2,.int .i64 (l.take k).sum),(14,.int .i64 k)]) (fun Sk k=>k≤l.length∧((l.take k).sum≤Qty)) (fun k=>l.length - k) 0 (by exact sba) (by exact sba) ⟨Nat.zero_le _,by simp [Qty]⟩ ?_;intro Sk k hlk hik;obtain ⟨hk,hik⟩:=hik;(try dsimp only at hk hik);dsimp only [List.cons_append,List.nil_append]
   repeat (refine s212_L2p ?_;intros)
   refine JC.cond rfl (fun hc=>?_) (fun hc=>?_)
   ·have hk':=dlt hc
    obtain ⟨x,hx,_⟩:=drop_at hk'
    have h1:=sum_take_nn hn k
    have h2:=take_at hx
    have h3:=sum_take hn (k+1)
    have hxr:=hsm x (List.mem_of_getElem? hx)
    unfold Qty at hik hxr
    repeat (refine s212_L2p ?_;intros)
    refine JC.cond rfl (fun h9=>?_) (fun h9=>?_)
    ·have h9:Qty < (l.take (k+1)).sum:=by rw [h2];simpa [overB] using h9
     have hsum:Qty < l.sum:=by omega
     repeat (refine s212_L2p ?_;intros)
     (refine JX.ret2 Tryz.results212 (ResV.tmp rfl) (ResV.tmp rfl) (List.nil_sublist _) ?_)
     exact ⟨rfl,by rw [addQ,hn,if_neg (by simp),if_pos hsum]⟩
    ·have h9:¬ Qty < (l.take (k+1)).sum:=by rw [h2];simpa [overB] using h9
     repeat (refine s212_L2p ?_;intros)
     (refine JX.roundF (k+1) (by exact lea) ⟨by omega,(by omega)⟩ (by (try dsimp only);omega) rfl ?_ (by exact sba);(try dsimp only);rw [h2];exact sba;done)
   ·have hk':=dnlt hc
    rw [List.take_of_length_le hk'] at hik ⊢
    repeat (refine s212_L2p ?_;intros)
    (refine JX.ret2 Tryz.results212 (ResV.tmp rfl) (ResV.tmp rfl) (List.nil_sublist _) ?_)
    exact ⟨rfl,by rw [addQ,hn,if_neg (by simp),if_neg (by omega)]⟩
theorem p2_each {S:SHeap} {f:FuncId} {fs cs:Array Value} (g:Nat→Int × Int) (hg:∀ i,Rng (g i).1) (hE:Ent Tryz.prog f) (hf:∀ S',S.le S'→∀ i:Nat,i < 5→FnV Tryz.prog f (fs.toList++[Value.int .i64 i]++cs.toList).toArray S' (.tuple #[.int .i64 (g i).1,.int .i64 (g i).2])) :
  FnV Tryz.prog 210 #[.func (.func f) fs cs] S (.tuple #[.agg (ints (eachV g).1),.int .i64 (eachV g).2]):=by
 (refine Fn.enter (args:=[.func (.func f) fs cs]) Tryz.func210 rfl Tryz.ntmps210 rfl ?_;intro w0)
 repeat (first|(refine Walk ?_;intros)|refine JC.block ?_)
 (refine JO.eff rfl rfl rfl (JEff.alloc rfl ?_);intro b2 hb2)
 repeat (first|(refine Walk ?_;intros)|refine JC.block ?_)
 refine JC.loopF [(0,_),(2,_)] (fun (k:Nat)=>[(5,.int .i64 k)]) (fun k=>[.blk b2 (.cells (ints (eachTo g k)) 91 (0,0))]) (fun Sk k=>k≤5∧(okE g k)) (fun k=>5 - k) 0 (by exact sba) (by exact sba) rfl ⟨Nat.zero_le _,by intro i hi;omega⟩ ?_;intro Sk k hlk hik;obtain ⟨hk,hik⟩:=hik;(try dsimp only at hk hik);dsimp only [List.cons_append,List.nil_append]
 have hrk:=eachTo_rng hg
 repeat (first|(refine Walk ?_;intros)|refine JC.block ?_)
 refine JC.cond rfl (fun hc=>?_) (fun hc=>?_)
 ·have hk':=dlt5 hc
  repeat (first|(refine Walk ?_;intros)|refine JC.block ?_)
  (refine JO.eff rfl rfl rfl (JEff.dynV rfl (by assumption) rfl ((hf _ (by exact lea) k hk')) rfl ?_);intro _ _)
  repeat (first|(refine Walk ?_;intros)|refine JC.block ?_)
  refine JO.pure rfl rfl rfl (JPure.indexBI rfl rfl rfl (by omega) (by omega) ?_)
  refine JO.eff rfl rfl rfl (JEff.storeI (i:=k) rfl rfl (hg k) (List.Perm.refl _) (by rw [eachTo_len g (by omega)];exact hk') (by intro l hl;cases hl) ?_)
  rw [eachTo_set g hk']
  repeat (first|(refine Walk ?_;intros)|refine JC.block ?_)
  refine JC.cond rfl (fun he=>?_) (fun he=>?_)
  ·have he:¬ (g k).2=0:=by simpa using he
   repeat (first|(refine Walk ?_;intros)|refine JC.block ?_)
   refine JO.eff rfl rfl rfl (JEff.storeA (n:=5) (ys:=[0,0,0,0,0]) rfl rfl rfl (by intro z hz;simp at hz;subst hz;unfold Rng;omega) (List.Perm.refl _) (eachTo_len g (by omega)) (by intro l hl;cases hl) ?_)
   repeat (first|(refine Walk ?_;intros)|refine JC.block ?_)
   refine JX.ret2 Tryz.results210 (ResV.cellA (n:=5) rfl (by (first|exact List.mem_cons_self|exact List.mem_cons_of_mem _ List.mem_cons_self|exact List.mem_cons_of_mem _ (List.mem_cons_of_mem _ List.mem_cons_self))) rfl) (ResV.tmp rfl) (List.nil_sublist _) ?_
   rw [each_bad hik hk' he]
   exact ⟨rfl,rfl⟩
  ·have he:(g k).2=0:=by simpa using he
   repeat (first|(refine Walk ?_;intros)|refine JC.block ?_)
   exact JX.roundF (k+1) (by exact lea) ⟨by omega,(okE_step hik he)⟩ (by (try dsimp only);omega) rfl (by exact sba) (by exact sba)
 ·have hk':=dnlt5 hc
  obtain rfl:k=5:=by omega
  repeat (first|(refine Walk ?_;intros)|refine JC.block ?_)
  refine JO.pure rfl rfl rfl (JPure.loadMA (n:=5) rfl (by (first|exact List.mem_cons_self|exact List.mem_cons_of_mem _ List.mem_cons_self|exact List.mem_cons_of_mem _ (List.mem_cons_of_mem _ List.mem_cons_self))) (eachTo_len g (by omega)) (hrk 5) (.inl rfl) rfl ?_)
  refine JO.eff rfl rfl rfl (JEff.storeA (n:=5) (ys:=eachTo g 5) rfl rfl (eachTo_len g (by omega)) (hrk 5) (List.Perm.refl _) (eachTo_len g (by omega)) (by intro l hl;cases hl) ?_)
  repeat (first|(refine Walk ?_;intros)|refine JC.block ?_)
  refine JX.ret2 Tryz.results210 (ResV.cellA (n:=5) rfl (by (first|exact List.mem_cons_self|exact List.mem_cons_of_mem _ List.mem_cons_self|exact List.mem_cons_of_mem _ (List.mem_cons_of_mem _ List.mem_cons_self))) (eachTo_len g (by omega))) (ResV.tmp rfl) (List.nil_sublist _) ?_
  rw [each_good hik]
  exact ⟨rfl,rfl⟩
end Go.Dr
namespace Go.Dr
open Go.Proofs
set_option maxRecDepth 20000
set_option maxHeartbeats 1000000
set_option linter.unusedSimpArgs false
set_option linter.unusedVariables false
theorem ptr_arr5 {S:SHeap} {p:Addr} {n:Nat} {xs:List Int} (h:PtrTo S p (rArr n) xs):xs.length=n∧∀ x∈xs,Rng x:=by
 obtain ⟨cs,h,_⟩:=h;exact ⟨h.1,h.2.2⟩
theorem s211_L2q {P K:Prop} (k:K) (h:Goal K→P:=by
 intro zk
 (first|refine Walk ?_|refine JC.block ?_|(refine JO.eff rfl rfl rfl (JEff.callV rfl (p1_Add (by exact vta)) rfl ?_);intro zqa zqb)|(refine WNew ?_)|(refine WPut ?_))
 (repeat (first|revert zqg|revert zqf|revert zqe|revert zqd|revert zqc|revert zqb|revert zqa))
 exact zk.k):P:=h ⟨k⟩
theorem p2_Plus1 {S:SHeap} {q:Addr} {l:List (List Int)} (i:Nat) (hi:i < 5) (hq:PtrTo S q (rSlice 40 (rArr 5)) l):FnV Tryz.prog 211 #[.int .i64 i,.pointer (some q)] S (.tuple #[.int .i64 (colQ l i).1,.int .i64 (colQ l i).2]):=by
 obtain ⟨cs,⟨a,n,c,hcs,hlen,hnc,hbt,hb1,hp⟩,hcell⟩:=hq
 have hq:PtrTo S q (rSlice 40 (rArr 5)) l:=⟨cs,⟨a,n,c,hcs,hlen,hnc,hbt,hb1,hp⟩,hcell⟩
 subst hlen
 unfold big at hbt hb1
 have hvl:∀ v∈l,v.length=5∧∀ y∈v,Rng y:=by
  intro v hv
  obtain ⟨j,hj⟩:=List.getElem?_of_mem hv
  obtain ⟨ad,_,hpp⟩:=hp j v hj
  exact ptr_arr5 hpp
 (refine Fn.enter (args:=[.int .i64 i,.pointer (some q)]) Tryz.func211 rfl Tryz.ntmps211 rfl ?_;intro w0)
 repeat (refine s211_L2q ?_;intros)
 refine JO.eff rfl rfl rfl (JEff.makeRow (rep:=rI64) rfl rfl (by unfold big;omega) (by unfold big;omega) rfl ?_);intro a0
 repeat (refine s211_L2q ?_;intros)
 refine JC.loopF (σ:=Nat × Option Addr × Nat × List Value) [(0,_),(11,_),(12,_)] (fun q=>[(5,.slice q.2.1 ((fun k=>(l.take k).map (fun v=>at0 v i)) q.1).length q.2.2.1),(13,((fun k=>.int .i64 k) q.1))]) (fun q=>[.row w0.heap.size 3 (Rp.sz rI64) (.slice q.2.1 ((fun k=>(l.take k).map (fun v=>at0 v i)) q.1).length q.2.2.1) ((fun k=>(l.take k).map (fun v=>at0 v i)) q.1).length (flatCells q.2.2.2)]) (fun Sk q=>q.1≤l.length∧allV rI64 Sk q.2.2.2 ((fun k=>(l.take k).map (fun v=>at0 v i)) q.1)∧((fun k=>True) q.1)) (fun q=>l.length - q.1) (0,a0,l.length,[]) (by exact sba) (by exact sba) (by first|rfl|simp) (⟨Nat.zero_le _,trivial,trivial⟩) ?_;rintro Sk ⟨k,rak,rck,vsk⟩ hlk ⟨hk,hvk,hik⟩;(try dsimp only at hk hvk hik);dsimp only [List.cons_append,List.nil_append]
 have hkl:((l.take k).map (fun v=>at0 v i)).length≤k:=by rw [List.length_map,List.length_take];omega
 repeat (refine s211_L2q ?_;intros)
 refine JC.cond rfl (fun hc=>?_) (fun hc=>?_)
 ·have hk':=dlt hc
  obtain ⟨v,hv,_⟩:=drop_at hk'
  obtain ⟨hvl5,hvr⟩:=hvl v (List.mem_of_getElem? hv)
  obtain ⟨z,hz⟩:∃ z,v[i]?=some z:=⟨_,List.getElem?_eq_getElem (by omega)⟩
  have hz0:=at0_some hz
  have hst:(l.take (k+1)).map (fun v=>at0 v i)=(l.take k).map (fun v=>at0 v i)++[z]:=by rw [List.take_add_one,hv];simp [hz0]
  repeat (refine s211_L2q ?_;intros)
  (refine JO.eff rfl rfl rfl (JEff.build (rep:=rI64) (ys:=[z]) rfl rfl ⟨⟨(V_i64.2 ⟨rfl,hvr z (List.mem_of_getElem? hz)⟩),nna⟩,trivial⟩ rfl rfl rfl rfl ?_);intro bb hbb hvv);(repeat (first|(refine Walk ?_;intros)|refine JC.block ?_));(refine JO.eff rfl rfl rfl (JEff.appendL (rep:=rI64) rfl rfl rfl rfl (List.Perm.swap _ _ _) (by exact hvv.flat) (by intro c hc;exact flat_one (fun v hv=>(hvv.size v hv).2) c hc) (by first|omega|(unfold big;omega)) (by unfold big;omega) (by first|exact rowT_ok|(intro l hl;cases hl)) rfl ?_);intro a2 c2;clear hvv hbb)
  repeat (refine s211_L2q ?_;intros)
  exact JX.roundF (k+1,a2,c2,vsk++[(.int .i64 z)]) (by exact lea) ⟨by omega,by (try dsimp only);rw [hst];exact allV_add (by exact lea) hvk (V_i64.2 ⟨rfl,hvr z (List.mem_of_getElem? hz)⟩) nna,(trivial)⟩ (by (try dsimp only);omega) (by (try dsimp only);rw [hst];(simp [flat_append]<;>omega)) (by (try dsimp only);rw [hst];simp only [List.length_append,List.length_cons,List.length_nil];exact sba) (by exact sba)
 ·have hk':=dnlt hc
  rw [List.take_of_length_le hk'] at hvk hkl ⊢
  repeat (refine s211_L2q ?_;intros)
  refine JO.freezeRow (rep:=rI64) (bt:=8) hvk rfl (by unfold big;rw [List.length_map];omega) (by unfold big;rw [List.length_map];omega) (by intro l hl;cases hl) (fun S9 hl9 hV9=>?_)
  repeat (refine s211_L2q ?_;intros)
  (refine JX.ret2 Tryz.results211 (ResV.tmp rfl) (ResV.tmp rfl) (List.nil_sublist _) ?_)
  exact ⟨rfl,rfl⟩
theorem p2_Plus {S:SHeap} {u:Value} {l:List (List Int)} (hu:(rSlice 40 (rArr 5)).V S u l):FnV Tryz.prog 139 #[u] S (.tuple #[.agg (ints (plusV l).1),.int .i64 (plusV l).2]):=by
 obtain ⟨hpl,hpr⟩:=plusV_fine l
 have hV:(rArr 5).V S (.agg (ints (plusV l).1)) (plusV l).1:=V_arr.2 ⟨rfl,hpl,hpr⟩
 obtain ⟨a,c,rfl,_⟩:=V_slice.1 hu
 (refine Fn.enter (args:=[.slice a l.length c]) Tryz.func139 rfl Tryz.ntmps139 rfl ?_;intro w0)
 repeat (first|(refine Walk ?_;intros)|refine JC.block ?_|(refine WBox ?_;intros))
 (refine JO.eff rfl rfl rfl (JEff.alloc rfl ?_);intro b2 hb2)
 repeat (first|(refine Walk ?_;intros)|refine JC.block ?_|(refine WBox ?_;intros))
 (refine JO.eff rfl rfl rfl (JEff.callV rfl ((p2_each (colQ l) (fun i=>(addQ_rng _).1) inferInstance (fun S' hl i hi=>p2_Plus1 i hi (by exact pta)))) rfl ?_);intro _ _)
 rw [← plusV_each]
 repeat (first|(refine Walk ?_;intros)|refine JC.block ?_|(refine WBox ?_;intros))
 refine JO.eff rfl rfl rfl (JEff.storeA (n:=5) (xs:=[0,0,0,0,0]) rfl rfl hpl hpr (List.Perm.refl _) rfl (by intro l hl;cases hl) ?_)
 repeat (first|(refine Walk ?_;intros)|refine JC.block ?_|(refine WBox ?_;intros))
 refine JX.ret2 Tryz.results139 (ResV.cellA (n:=5) rfl (by (first|exact List.mem_cons_self|exact List.mem_cons_of_mem _ List.mem_cons_self|exact List.mem_cons_of_mem _ (List.mem_cons_of_mem _ List.mem_cons_self))) hpl) (ResV.tmp rfl) (List.nil_sublist _) ?_
 exact ⟨rfl,rfl⟩
end Go.Dr
namespace Go.Dr
open Go.Proofs
set_option maxRecDepth 20000
set_option linter.unusedSimpArgs false
set_option linter.unusedVariables false
theorem p3_small {S:SHeap} (c:Int):FnV Tryz.prog 170 #[.int .i32 c] S (.bool (isLetter c)):=by
 (refine Fn.enter (args:=[.int .i32 c]) Tryz.func170 rfl Tryz.ntmps170 rfl ?_;intro w0)
 repeat' (first|(refine Walk ?_;intros)|refine JC.block ?_|(refine JO.guard rfl rfl rfl rfl ?_ ?_<;>intro _)|(refine JC.cond rfl ?_ ?_<;>intro _))
 all_goals (refine JX.ret1 Tryz.results170 (ResV.tmp rfl) (List.nil_sublist _) ?_;exact ⟨rfl,by (first|((simp only [isLetter, *,Bool.and_true,Bool.true_and,Bool.false_and,Bool.and_false,Bool.or_true,Bool.true_or,Bool.false_or,Bool.or_false,Bool.not_true,Bool.not_false])<;>rfl)|(simp only [isLetter, *,Bool.and_true,Bool.true_and,Bool.false_and,Bool.and_false,Bool.or_true,Bool.true_or,Bool.false_or,Bool.or_false,Bool.not_true,Bool.not_false];done)|(simp [isLetter, *];done)|(simp_all [isLetter];done)|(simp_all [isLetter];intros;omega)|(simp_all [isLetter];omega))⟩)
theorem p3_inside {S:SHeap} (c:Int):FnV Tryz.prog 252 #[.int .i32 c] S (.bool (isInside c)):=by
 (refine Fn.enter (args:=[.int .i32 c]) Tryz.func252 rfl Tryz.ntmps252 rfl ?_;intro w0)
 repeat' (first|(refine Walk ?_;intros)|refine JC.block ?_|(refine JO.eff rfl rfl rfl (JEff.callV rfl (p3_small c) rfl ?_);intro _ _)|(refine JO.guard rfl rfl rfl rfl ?_ ?_<;>intro _)|(refine JC.cond rfl ?_ ?_<;>intro _))
 all_goals (refine JX.ret1 Tryz.results252 (ResV.tmp rfl) (List.nil_sublist _) ?_;exact ⟨rfl,by (first|((simp only [isInside, *,Bool.and_true,Bool.true_and,Bool.false_and,Bool.and_false,Bool.or_true,Bool.true_or,Bool.false_or,Bool.or_false,Bool.not_true,Bool.not_false])<;>rfl)|(simp only [isInside, *,Bool.and_true,Bool.true_and,Bool.false_and,Bool.and_false,Bool.or_true,Bool.true_or,Bool.false_or,Bool.or_false,Bool.not_true,Bool.not_false];done)|(simp [isInside, *];done)|(simp_all [isInside];done)|(simp_all [isInside];intros;omega)|(simp_all [isInside];omega))⟩)
theorem p3_Value1 {S:SHeap} (c:Int):FnV Tryz.prog 251 #[.int .i32 c] S (.bool (!isInside c)):=by
 (refine Fn.enter (args:=[.int .i32 c]) Tryz.func251 rfl Tryz.ntmps251 rfl ?_;intro w0)
 repeat' (first|(refine Walk ?_;intros)|refine JC.block ?_|(refine JO.eff rfl rfl rfl (JEff.callV rfl (p3_inside c) rfl ?_);intro _ _)|(refine JO.guard rfl rfl rfl rfl ?_ ?_<;>intro _)|(refine JC.cond rfl ?_ ?_<;>intro _))
 all_goals (refine JX.ret1 Tryz.results251 (ResV.tmp rfl) (List.nil_sublist _) ?_;exact ⟨rfl,rfl⟩)
theorem p3_valued {S:SHeap} (c:Int):FnV Tryz.prog 269 #[.int .i64 c] S (.bool (valuedB c)):=by
 (refine Fn.enter (args:=[.int .i64 c]) Tryz.func269 rfl Tryz.ntmps269 rfl ?_;intro w0)
 repeat' (first|(refine Walk ?_;intros)|refine JC.block ?_|(refine JO.guard rfl rfl rfl rfl ?_ ?_<;>intro _)|(refine JC.cond rfl ?_ ?_<;>intro _))
 all_goals (refine JX.ret1 Tryz.results269 (ResV.tmp rfl) (List.nil_sublist _) ?_;exact ⟨rfl,by (first|((simp only [valuedB, *,Bool.and_true,Bool.true_and,Bool.false_and,Bool.and_false,Bool.or_true,Bool.true_or,Bool.false_or,Bool.or_false,Bool.not_true,Bool.not_false])<;>rfl)|(simp only [valuedB, *,Bool.and_true,Bool.true_and,Bool.false_and,Bool.and_false,Bool.or_true,Bool.true_or,Bool.false_or,Bool.or_false,Bool.not_true,Bool.not_false];done)|(simp [valuedB, *];done)|(simp_all [valuedB];done)|(simp_all [valuedB];intros;omega)|(simp_all [valuedB];omega))⟩)
theorem p3_arg {S:SHeap} (b:Bool):FnV Tryz.prog 270 #[.bool b] S (.int .i64 (if b then 0 else 2)):=by
 (refine Fn.enter (args:=[.bool b]) Tryz.func270 rfl Tryz.ntmps270 rfl ?_;intro w0)
 repeat' (first|(refine Walk ?_;intros)|refine JC.block ?_|(refine JO.guard rfl rfl rfl rfl ?_ ?_<;>intro _)|(refine JC.cond rfl ?_ ?_<;>intro _))
 all_goals (refine JX.ret1 Tryz.results270 (ResV.tmp rfl) (List.nil_sublist _) ?_;exact ⟨rfl,by simp_all⟩)
theorem p3_byKey {S:SHeap} {u v:Value} {a b:Label} (hu:rLabel.V S u a) (hv:rLabel.V S v b):FnV Tryz.prog 268 #[u,v] S (.bool (riseL a b false)):=by
 (refine Fn.enter (args:=[u,v]) Tryz.func268 rfl Tryz.ntmps268 rfl ?_;intro w0)
 repeat (first|(refine Walk ?_;intros)|refine JC.block ?_)
 (refine JO.eff rfl rfl rfl (JEff.boxS rfl (by exact vta) nna rfl ?_);intro S1 p l1 hp)
 (refine JO.eff rfl rfl rfl (JEff.boxS rfl (by exact vta) nna rfl ?_);intro S2 q l2 hq)
 repeat (first|(refine Walk ?_;intros)|refine JC.block ?_)
 refine JX.ret1 Tryz.results268 (ResV.tmp rfl) (List.nil_sublist _) ?_
 exact ⟨rfl,by simp [riseL,ltS]⟩
theorem p_CompareString {S:SHeap} (a b:ByteArray):FnV Tryz.prog 370 #[.string a,.string b] S (.int .i64 (cmpS a b)):=by
 (refine Fn.enter (args:=[.string a,.string b]) Tryz.func370 rfl Tryz.ntmps370 rfl ?_;intro w0)
 repeat (first|(refine Walk ?_;intros)|refine JC.block ?_)
 (refine JO.eff rfl rfl rfl (JEff.ext (r:=.int .i64 (cmpS a b)) rfl ((fun w=>by rw [run_callFunc_extern Tryz.func376 (by kernel_rfl) (by kernel_rfl) (by kernel_rfl) (e:=Extern.BytealgCompare.compare) (by kernel_rfl),Lib.run_compareString];rfl)) rfl ?_))
 repeat (first|(refine Walk ?_;intros)|refine JC.block ?_)
 refine JX.ret1 Tryz.results370 (ResV.tmp rfl) (List.nil_sublist _) ?_
 exact ⟨rfl,rfl⟩
theorem p_Compare {S:SHeap} (a b:ByteArray):FnV Tryz.prog 351 #[.string a,.string b] S (.int .i64 (cmpS a b)):=by
 (refine Fn.enter (args:=[.string a,.string b]) Tryz.func351 rfl Tryz.ntmps351 rfl ?_;intro w0)
 repeat' (first|(refine Walk ?_;intros)|refine JC.block ?_|(refine JO.eff rfl rfl rfl (JEff.callV rfl (p_CompareString _ _) rfl ?_);intro _ _)|(refine JO.guard rfl rfl rfl rfl ?_ ?_<;>intro _)|(refine JC.cond rfl ?_ ?_<;>intro _))
 refine JX.ret1 Tryz.results351 (ResV.tmp rfl) (List.nil_sublist _) ?_
 exact ⟨rfl,rfl⟩
theorem p_Or2 {S:SHeap} {v:Value} {xs:List Int} (hv:(rSlice 8 rI64).V S v xs):FnV Tryz.prog 148 #[v] S (.int .i64 ((xs.find? (fun x=>!decide (x=0))).getD 0)):=by
 obtain ⟨a,c,rfl,_,_,hb,_⟩:=V_slice.1 hv
 unfold big at hb
 (refine Fn.enter (args:=[.slice a xs.length c]) Tryz.func148 rfl Tryz.ntmps148 rfl ?_;intro w0)
 repeat (first|(refine Walk ?_;intros)|refine JC.block ?_)
 refine JC.loop (σ:=Nat) (fun _=>S) (fun _=>[]) (fun k=>[(3,.int .i64 0),(6,.slice a xs.length c),(7,.int .i64 xs.length),(8,.int .i64 k)]) (fun k=>k≤xs.length∧(xs.drop k).find? (fun x=>!decide (x=0))=xs.find? (fun x=>!decide (x=0))) (fun k=>xs.length - k) 0 ⟨Nat.zero_le _,rfl⟩ rfl rfl (by exact sba) ?_
 rintro k ⟨hk,hi⟩
 repeat (first|(refine Walk ?_;intros)|refine JC.block ?_)
 refine JC.cond rfl (fun hc=>?_) (fun hc=>?_)
 ·have hk':=dlt hc
  obtain ⟨x,hx,hd⟩:=drop_at hk'
  rw [hd,List.find?_cons] at hi
  repeat (first|(refine Walk ?_;intros)|refine JC.block ?_)
  refine JC.cond rfl (fun h1=>?_) (fun h1=>?_)
  ·rw [h1] at hi
   repeat (first|(refine Walk ?_;intros)|refine JC.block ?_)
   refine JX.ret1 Tryz.results148 (ResV.tmp rfl) (List.nil_sublist _) ?_
   exact ⟨rfl,by simp [← hi]⟩
  ·rw [h1] at hi
   repeat (first|(refine Walk ?_;intros)|refine JC.block ?_)
   exact JX.round (k+1) ⟨hk',hi⟩ (by omega) rfl rfl (by exact sba)
 ·have hk':=dnlt hc
  rw [List.drop_eq_nil_of_le hk'] at hi
  repeat (first|(refine Walk ?_;intros)|refine JC.block ?_)
  refine JX.ret1 Tryz.results148 (ResV.tmp rfl) (List.nil_sublist _) ?_
  exact ⟨rfl,by simp [← hi]⟩
end Go.Dr
namespace Go.Dr
open Go.Proofs
set_option maxRecDepth 20000
set_option linter.unusedSimpArgs false
set_option linter.unusedVariables false
theorem p_indexFunc {S:SHeap} {s:ByteArray} {f:FuncId} {fs cs:Array Value} (g:Int→Bool) (hs:s.size≤big) (hE:Ent Tryz.prog f)
  (hf:∀ S',S.le S'→∀ c:Int,FnV Tryz.prog f (fs.toList++[Value.int .i32 c]++cs.toList).toArray S' (.bool (g c))):FnV Tryz.prog 304 #[.string s,.func (.func f) fs cs,.bool true] S (.int .i64 (scanR g s s.size 0)):=by
 unfold big at hs
 (refine Fn.enter (args:=[.string s,.func (.func f) fs cs,.bool true]) Tryz.func304 rfl Tryz.ntmps304 rfl ?_;intro w0)
 repeat (first|(refine Walk ?_;intros)|refine JC.block ?_)
 (refine JO.eff rfl rfl rfl (JEff.rangeT rfl rfl ?_);intro b hb)
 repeat (first|(refine Walk ?_;intros)|refine JC.block ?_)
 refine JC.loop (σ:=SHeap × Nat × Nat) (fun q=>q.1) (fun q=>[.blk b (.stringIter s q.2.1)]) (fun q=>[(1,.func (.func f) fs cs),(2,.bool true),(10,.pointer (some ⟨b,0,none⟩))]) (fun q=>S.le q.1∧s.size - q.2.1≤q.2.2∧scanR g s s.size 0=scanR g s q.2.2 q.2.1) (fun q=>s.size - q.2.1) (S,0,s.size) ⟨SHeap.le.refl _,by simp,rfl⟩ rfl rfl (by exact sba) ?_
 rintro ⟨S1,p,k⟩ ⟨hl1,hk,hi⟩
 dsimp only at hl1 hk hi ⊢
 repeat (first|(refine Walk ?_;intros)|refine JC.block ?_)
 refine JO.eff rfl rfl rfl (JEff.nextT rfl pma (by intro l hl;cases hl) rfl (fun hp=>?_) (fun hp=>?_))
 ·obtain ⟨k,rfl⟩:∃ j,k=j+1:=⟨k - 1,by omega⟩
  have hw:=decode_pos s p
  rw [scanR,if_pos hp] at hi
  repeat (first|(refine Walk ?_;intros)|refine JC.block ?_)
  (refine JO.eff rfl rfl rfl (JEff.dynV rfl (by assumption) rfl ((hf _ (by exact lea) _)) rfl ?_);intro _ _)
  repeat (first|(refine Walk ?_;intros)|refine JC.block ?_)
  refine JC.cond rfl (fun h1=>?_) (fun h1=>?_)
  ·have h1:g (Utf8.decode s p).1=true:=by simpa using h1
   rw [if_pos h1] at hi
   repeat (first|(refine Walk ?_;intros)|refine JC.block ?_)
   refine JX.ret1 Tryz.results304 (ResV.tmp rfl) (List.nil_sublist _) ?_
   exact ⟨rfl,by rw [hi]⟩
  ·have h1:g (Utf8.decode s p).1=false:=by simpa using h1
   rw [if_neg (by rw [h1];simp)] at hi
   repeat (first|(refine Walk ?_;intros)|refine JC.block ?_)
   exact JX.round (_,p+(Utf8.decode s p).2,k) ⟨by exact lea,by dsimp only;omega,hi⟩ (by dsimp only;omega) rfl rfl (by exact sba)
 ·have hi':scanR g s s.size 0=-1:=by
   rw [hi]
   cases k with
   | zero=>rfl
   | succ k=>rw [scanR,if_neg (by omega)]
  repeat (first|(refine Walk ?_;intros)|refine JC.block ?_)
  refine JX.ret1 Tryz.results304 (ResV.tmp rfl) (List.nil_sublist _) ?_
  exact ⟨rfl,by rw [hi']⟩
theorem p_sIndexFunc {S:SHeap} {s:ByteArray} {f:FuncId} {fs cs:Array Value} (g:Int→Bool) (hs:s.size≤big) (hE:Ent Tryz.prog f)
  (hf:∀ S',S.le S'→∀ c:Int,FnV Tryz.prog f (fs.toList++[Value.int .i32 c]++cs.toList).toArray S' (.bool (g c))):FnV Tryz.prog 253 #[.string s,.func (.func f) fs cs] S (.int .i64 (scanR g s s.size 0)):=by
 (refine Fn.enter (args:=[.string s,.func (.func f) fs cs]) Tryz.func253 rfl Tryz.ntmps253 rfl ?_;intro w0)
 repeat' (first|(refine Walk ?_;intros)|refine JC.block ?_|(refine JO.eff rfl rfl rfl (JEff.callV rfl (p_indexFunc g hs hE hf) rfl ?_);intro _ _)|(refine JO.guard rfl rfl rfl rfl ?_ ?_<;>intro _)|(refine JC.cond rfl ?_ ?_<;>intro _))
 refine JX.ret1 Tryz.results253 (ResV.tmp rfl) (List.nil_sublist _) ?_
 exact ⟨rfl,rfl⟩
theorem inside_high:∀ c:Int,128≤c→isInside c=false:=by
 intro c hc
 simp [isInside,isLetter];omega
theorem valueB_scan (s:ByteArray):valueB s=(decide (¬ s=noS)&&decide (s.size≤15)&&decide (scanR (fun c=>!isInside c) s s.size 0 < 0)):=by
 rw [scanR_all isInside inside_high s s.size 0 (Nat.zero_le _) (by omega),List.drop_zero]
 have h1:decide (1≤s.size)=decide (¬ s=noS):=by
  by_cases h:s=noS
  ·subst h;rfl
  ·have:s.size≠0:=fun h0=>h (by
    obtain ⟨d⟩:=s
    have:d=#[]:=by simpa [ByteArray.size] using h0
    rw [this];rfl)
   simp [h];omega
 rw [valueB,h1,Bool.and_comm,← Bool.and_assoc,Bool.and_comm (decide (s.size≤15))]
 cases decide (¬ s=noS)<;>cases decide (s.size≤15)<;>simp
theorem p3_Value {S:SHeap} (s:ByteArray) (hs:s.size≤big):FnV Tryz.prog 169 #[.string s] S (.bool (valueB s)):=by
 (refine Fn.enter (args:=[.string s]) Tryz.func169 rfl Tryz.ntmps169 rfl ?_;intro w0)
 have hf:∀ S1 S':SHeap,S1.le S'→∀ c:Int,FnV Tryz.prog 251 ((#[]:Array Value).toList++[Value.int .i32 c]++(#[]:Array Value).toList).toArray S' (.bool (!isInside c)):=fun _ _ _ c=>p3_Value1 c
 have hE:Ent Tryz.prog 251:=inferInstance
 repeat' (first|(refine Walk ?_;intros)|refine JC.block ?_|(refine JO.eff rfl rfl rfl (JEff.callV rfl (p_sIndexFunc (fs:=#[]) (cs:=#[]) (fun c=>!isInside c) hs hE (hf _)) rfl ?_);intro _ _)|(refine JO.guard rfl rfl rfl rfl ?_ ?_<;>intro _)|(refine JC.cond rfl ?_ ?_<;>intro _))
 all_goals (refine JX.ret1 Tryz.results169 (ResV.tmp rfl) (List.nil_sublist _) ?_;refine ⟨rfl,?_⟩;rw [valueB_scan];(first|((simp only [noS, *,Bool.and_true,Bool.true_and,Bool.false_and,Bool.and_false,Bool.or_true,Bool.true_or,Bool.false_or,Bool.or_false,Bool.not_true,Bool.not_false])<;>rfl)|(simp only [noS, *,Bool.and_true,Bool.true_and,Bool.false_and,Bool.and_false,Bool.or_true,Bool.true_or,Bool.false_or,Bool.or_false,Bool.not_true,Bool.not_false];done)|(simp [noS, *];done)|(simp_all [noS];done)|(simp_all [noS];intros;omega)|(simp_all [noS];omega)))
theorem p3_Name {S:SHeap} (s:ByteArray) (hs:s.size≤big):FnV Tryz.prog 107 #[.string s] S (.bool (nameB s)):=by
 (refine Fn.enter (args:=[.string s]) Tryz.func107 rfl Tryz.ntmps107 rfl ?_;intro w0)
 repeat (first|(refine Walk ?_;intros)|refine JC.block ?_)
 (refine JO.eff rfl rfl rfl (JEff.callV rfl (p3_Value s hs) rfl ?_);intro _ _)
 repeat (first|(refine Walk ?_;intros)|refine JC.block ?_)
 refine JO.guard rfl rfl rfl rfl (fun h1=>?_) (fun h1=>?_)
 ·obtain ⟨x,hx⟩:∃ x,s.data.toList[(0:Int).toNat]?=some x:=by
   simp [valueB] at h1
   exact ⟨s.data.toList[0]'(by simp;omega),List.getElem?_eq_getElem (by simp;omega)⟩
  repeat (first|(refine Walk ?_;intros)|refine JC.block ?_)
  (refine JO.eff rfl rfl rfl (JEff.callV rfl (p3_small _) rfl ?_);intro _ _)
  repeat (first|(refine Walk ?_;intros)|refine JC.block ?_)
  refine JX.ret1 Tryz.results107 (ResV.tmp rfl) (List.nil_sublist _) ?_
  refine ⟨rfl,?_⟩
  have hx':s.data.toList[0]?=some x:=hx
  unfold nameB
  rw [h1]
  cases hl:s.data.toList with
  | nil=>rw [hl] at hx';cases hx'
  | cons y ys=>rw [hl] at hx';cases hx';simp
 ·repeat (first|(refine Walk ?_;intros)|refine JC.block ?_)
  refine JX.ret1 Tryz.results107 (ResV.tmp rfl) (List.nil_sublist _) ?_
  exact ⟨rfl,by simp [nameB,h1]⟩
theorem p3_star {S:SHeap} (s:ByteArray) (hs:s.size≤big):FnV Tryz.prog 271 #[.string s] S (.bool (valueB s||decide (s=starS))):=by
 (refine Fn.enter (args:=[.string s]) Tryz.func271 rfl Tryz.ntmps271 rfl ?_;intro w0)
 repeat' (first|(refine Walk ?_;intros)|refine JC.block ?_|(refine JO.eff rfl rfl rfl (JEff.callV rfl (p3_Value s hs) rfl ?_);intro _ _)|(refine JO.guard rfl rfl rfl rfl ?_ ?_<;>intro _)|(refine JC.cond rfl ?_ ?_<;>intro _))
 all_goals (refine JX.ret1 Tryz.results271 (ResV.tmp rfl) (List.nil_sublist _) ?_;exact ⟨rfl,by (first|((simp only [starS,Bool.or_comm, *,Bool.and_true,Bool.true_and,Bool.false_and,Bool.and_false,Bool.or_true,Bool.true_or,Bool.false_or,Bool.or_false,Bool.not_true,Bool.not_false])<;>rfl)|(simp only [starS,Bool.or_comm, *,Bool.and_true,Bool.true_and,Bool.false_and,Bool.and_false,Bool.or_true,Bool.true_or,Bool.false_or,Bool.or_false,Bool.not_true,Bool.not_false];done)|(simp [starS,Bool.or_comm, *];done)|(simp_all [starS,Bool.or_comm];done)|(simp_all [starS,Bool.or_comm];intros;omega)|(simp_all [starS,Bool.or_comm];omega))⟩)
theorem cmpS_or (a b:Label):decide (((([cmpS a.key b.key,cmpS a.value b.value]:List Int).find? (fun x=>!decide (x=0))).getD 0) < 0)=riseL a b true:=by
 have h1:∀ x y:List UInt8,(Lib.compareBytes x y=0↔x=y)∧(decide (Lib.compareBytes x y < 0)=Op.bytesLess x y):=by
  intro x
  induction x with
  | nil=>intro y;cases y<;>simp [Lib.compareBytes,Op.bytesLess]
  | cons c x ih=>
   intro y
   cases y with
   | nil=>simp [Lib.compareBytes,Op.bytesLess]
   | cons d y=>
    unfold Lib.compareBytes Op.bytesLess
    by_cases h1:c < d
    ·have:¬ c=d:=by rintro rfl;exact absurd h1 (by simp)
     simp [h1,this]
    ·by_cases h2:d < c
     ·have:¬ c=d:=by rintro rfl;exact absurd h2 (by simp)
      simp [h1,h2,this]
     ·have:c=d:=by
       apply UInt8.toNat_inj.1
       have a1:¬ c.toNat < d.toNat:=fun h=>h1 (UInt8.lt_iff_toNat_lt.2 h)
       have a2:¬ d.toNat < c.toNat:=fun h=>h2 (UInt8.lt_iff_toNat_lt.2 h)
       omega
      subst this
      simp [h1,ih y]
 have h2:∀ x y:ByteArray,(cmpS x y=0↔x=y)∧decide (cmpS x y < 0)=ltS x y:=by
  intro x y
  refine ⟨?_,(h1 _ _).2⟩
  rw [cmpS,(h1 _ _).1]
  constructor
  ·intro h
   cases x;cases y;simp at h;simp [h]
  ·rintro rfl;rfl
 obtain ⟨k1,k2⟩:=h2 a.key b.key
 obtain ⟨v1,v2⟩:=h2 a.value b.value
 unfold riseL
 by_cases hk:a.key=b.key
 ·have:cmpS a.key b.key=0:=k1.2 hk
  have hl:ltS a.key b.key=false:=by rw [← k2,this];rfl
  rw [hl]
  rw [this]
  by_cases hv:cmpS a.value b.value=0
  ·simp [hv,hk,← v2]
  ·simp [hv,hk,← v2]
 ·have h0:¬ cmpS a.key b.key=0:=fun h=>hk (k1.1 h)
  simp [h0,hk,← k2]
end Go.Dr
namespace Go.Dr
open Go.Proofs
set_option maxRecDepth 20000
set_option linter.unusedSimpArgs false
set_option linter.unusedVariables false
theorem cmpS_rng (a b:ByteArray):Rng (cmpS a b):=by
 have:∀ x y:List UInt8,Lib.compareBytes x y=-1∨Lib.compareBytes x y=0∨Lib.compareBytes x y=1:=by
  intro x
  induction x with
  | nil=>intro y;cases y<;>simp [Lib.compareBytes]
  | cons c x ih=>
   intro y
   cases y with
   | nil=>simp [Lib.compareBytes]
   | cons d y=>
    unfold Lib.compareBytes
    have:=ih y
    split
    ·simp
    ·split<;>simp [this]
 unfold Rng cmpS
 rcases this a.data.toList b.data.toList with h|h|h<;>rw [h]<;>omega
theorem p3_compare {S:SHeap} {u v:Value} {a b:Label} (hu:rLabel.V S u a) (hv:rLabel.V S v b):FnV Tryz.prog 313 #[u,v] S (.int .i64 (([cmpS a.key b.key,cmpS a.value b.value].find? (fun x=>!decide (x=0))).getD 0)):=by
 (refine Fn.enter (args:=[u,v]) Tryz.func313 rfl Tryz.ntmps313 rfl ?_;intro w0)
 repeat (first|(refine Walk ?_;intros)|refine JC.block ?_)
 (refine JO.eff rfl rfl rfl (JEff.boxS rfl (by exact vta) nna rfl ?_);intro S1 p l1 hp)
 (refine JO.eff rfl rfl rfl (JEff.boxS rfl (by exact vta) nna rfl ?_);intro S2 q l2 hq)
 have hp2:=hp.mono l2
 repeat (first|(refine Walk ?_;intros)|refine JC.block ?_)
 refine JC.drawT [0,1,2,3,5,6,7,8,4,9,10,11,12] [0,1,2,3,12] [] Tryz_mixed (by decide +kernel) (by simp [MEnt.own]) ?_
 repeat' (first|(refine Walk ?_;intros)|refine JC.block ?_|(refine JO.eff rfl rfl rfl (JEff.callV rfl (p_Compare _ _) rfl ?_);intro _ _)|(refine JO.guard rfl rfl rfl rfl ?_ ?_<;>intro _)|(refine JC.cond rfl ?_ ?_<;>intro _))
 (refine JO.eff rfl rfl rfl (JEff.buildS (bt:=8) (rep:=rI64) (ys:=[cmpS a.key b.key,cmpS a.value b.value]) rfl rfl (⟨⟨V_i64.2 ⟨rfl,cmpS_rng _ _⟩,fun _ _ h=>by cases h⟩,⟨V_i64.2 ⟨rfl,cmpS_rng _ _⟩,fun _ _ h=>by cases h⟩,trivial⟩) rfl rfl rfl (by decide) rfl ?_);intro S3 sa l3 hs)
 repeat' (first|(refine Walk ?_;intros)|refine JC.block ?_|(refine JO.eff rfl rfl rfl (JEff.callV rfl (p_Or2 (by exact vta)) rfl ?_);intro _ _)|(refine JO.guard rfl rfl rfl rfl ?_ ?_<;>intro _)|(refine JC.cond rfl ?_ ?_<;>intro _))
 refine JX.ret1 Tryz.results313 (ResV.tmp rfl) (List.nil_sublist _) ?_
 exact ⟨rfl,rfl⟩
theorem p3_byBoth {S:SHeap} {u v:Value} {a b:Label} (hu:rLabel.V S u a) (hv:rLabel.V S v b):FnV Tryz.prog 272 #[u,v] S (.bool (riseL a b true)):=by
 (refine Fn.enter (args:=[u,v]) Tryz.func272 rfl Tryz.ntmps272 rfl ?_;intro w0)
 repeat (first|(refine Walk ?_;intros)|refine JC.block ?_)
 (refine JO.eff rfl rfl rfl (JEff.boxS rfl (by exact vta) nna rfl ?_);intro S1 p l1 hp)
 (refine JO.eff rfl rfl rfl (JEff.boxS rfl (by exact vta) nna rfl ?_);intro S2 q l2 hq)
 have hp2:=hp.mono l2
 repeat' (first|(refine Walk ?_;intros)|refine JC.block ?_|(refine JO.eff rfl rfl rfl (JEff.callV rfl (p3_compare (by exact vta) (by exact vta)) rfl ?_);intro _ _)|(refine JO.guard rfl rfl rfl rfl ?_ ?_<;>intro _)|(refine JC.cond rfl ?_ ?_<;>intro _))
 refine JX.ret1 Tryz.results272 (ResV.tmp rfl) (List.nil_sublist _) ?_
 exact ⟨rfl,by rw [← cmpS_or]⟩
def rowG (g:ByteArray→Bool) (h:Label→Label→Bool):Option Label→List Label→Bool
 | _,[]=>true
 | p,l::r=>(nameB l.key&&g l.value)&&(match p with|some a=>h a l|none=>true)&&rowG g h (some l) r
def prevG {α:Type} (l:List α) (k:Nat):Option α:=if k=0 then none else l[k - 1]?
theorem rowG_eq (star:Bool):∀ (l:List Label) (p:Option Label),rowG (fun v=>valueB v||(star&&decide (v=starS))) (fun a b=>riseL a b star) p l=rowL star p l
 | [],_=>rfl
 | x::l,p=>by cases p<;>simp only [rowG,rowL,rowG_eq star l,oneL]
theorem p3_check {S:SHeap} {u:Value} {l:List Label} {f1 f2:FuncId} (g:ByteArray→Bool) (h:Label→Label→Bool) (hu:(rSlice 32 rLabel).V S u l) (hE1:Ent Tryz.prog f1) (hE2:Ent Tryz.prog f2)
  (hf1:∀ S',S.le S'→∀ s:ByteArray,s.size≤big→FnV Tryz.prog f1 #[.string s] S' (.bool (g s))) (hf2:∀ S',S.le S'→∀ u v a b,rLabel.V S' u a→rLabel.V S' v b→FnV Tryz.prog f2 #[u,v] S' (.bool (h a b))) :
  FnV Tryz.prog 267 #[u,.func (.func f1) #[] #[],.func (.func f2) #[] #[]] S (.int .i64 (if decide (l.length≤6)&&rowG g h none l then 0 else 2)):=by
 obtain ⟨a,c,rfl,_,_,hb,_⟩:=V_slice.1 hu
 unfold big at hb
 (refine Fn.enter (args:=[.slice a l.length c,.func (.func f1) #[] #[],.func (.func f2) #[] #[]]) Tryz.func267 rfl Tryz.ntmps267 rfl ?_;intro w0)
 repeat (first|(refine Walk ?_;intros)|refine JC.block ?_)
 refine JC.loop (σ:=SHeap × Nat) (fun q=>q.1) (fun _=>[]) (fun q=>[(0,.slice a l.length c),(1,.func (.func f1) #[] #[]),(2,.func (.func f2) #[] #[]),(9,.slice a l.length c),(10,.int .i64 l.length),(11,.int .i64 q.2)]) (fun q=>S.le q.1∧q.2≤l.length∧(rowG g h (prevG l q.2) (l.drop q.2)=rowG g h none l)) (fun q=>l.length - q.2) (S,0) ⟨SHeap.le.refl _,Nat.zero_le _,rfl⟩ rfl rfl (by exact sba) ?_;rintro ⟨S1,k⟩ ⟨hl1,hk,hi⟩;dsimp only at hl1 hk hi ⊢
 repeat (first|(refine Walk ?_;intros)|refine JC.block ?_)
 refine JC.cond rfl (fun hc=>?_) (fun hc=>?_)
 ·have hk':=dlt hc
  obtain ⟨x,hx,hd⟩:=drop_at hk'
  rw [hd] at hi;simp only [rowG] at hi
  have hnext:prevG l (k+1)=some x:=by simp [prevG,hx]
  repeat (first|(refine Walk ?_;intros)|refine JC.block ?_)
  (refine JO.eff rfl rfl rfl (JEff.alloc rfl ?_);intro b hb);(repeat (first|(refine Walk ?_;intros)|refine JC.block ?_));(refine JO.eff rfl rfl rfl (JEff.storeW rfl rfl (by exact vta) nna pma rfl (by intro l hl;cases hl) ?_));(refine JO.freezeV (by exact vta) nna hb (by intro l hl;cases hl) ?_;intro S2 l2 hp)
  repeat (first|(refine Walk ?_;intros)|refine JC.block ?_)
  refine JC.drawT [0,1,2,3,4,5,6,7,8,9,10,11,12,13,14,15,16,17,18,19,20,21,22,23,24,25] [0,1,3,4,5,6,7,9,10,11,12,13,14,15,16,17,18,19,20,21,23,24,25] [] Tryz_mixed (by decide +kernel) (by simp [MEnt.own]) ?_
  repeat (first|(refine Walk ?_;intros)|refine JC.block ?_)
  rcases Nat.eq_zero_or_pos k with h0|h0
  ·subst h0
   repeat' (first|(refine Walk ?_;intros)|refine JC.block ?_|(refine JO.eff rfl rfl rfl (JEff.callV rfl (p3_Name _ (by assumption)) rfl ?_);intro _ _)|(refine JO.eff rfl rfl rfl (JEff.dynV rfl (by assumption) rfl (hf1 _ (by exact lea) _ (by assumption)) rfl ?_);intro _ _)|(refine JO.eff rfl rfl rfl (JEff.dynV rfl (by assumption) rfl (hf2 _ (by exact lea) _ _ _ _ (by exact vta) (by exact vta)) rfl ?_);intro _ _)|(refine JO.guard rfl rfl rfl rfl ?_ ?_<;>intro _)|(refine JC.cond rfl ?_ ?_<;>intro _))
   all_goals simp only [prevG,if_true,Bool.true_and,Bool.and_true] at hi
   all_goals first
    | (refine JX.ret1 Tryz.results267 (ResV.tmp rfl) (List.nil_sublist _) ?_;refine ⟨rfl,?_⟩;have h1:(nameB x.key&&g x.value)=false:=(by clear hi hd;simp_all);rw [h1,Bool.false_and] at hi;simp [← hi];done)
    | (have h1:(nameB x.key&&g x.value)=true:=(by clear hi hd;simp_all);rw [h1,Bool.true_and] at hi;exact JX.round (_,0+1) ⟨by exact lea,hk',by rw [hnext];exact hi⟩ (by simp;omega) rfl rfl (by exact sba))
    | (exfalso;clear hd;simp_all;done)
    | skip
  ·obtain ⟨y,hy⟩:∃ y,l[((k:Int) - 1).toNat]?=some y:=by
    have:((k:Int) - 1).toNat < l.length:=by omega
    exact ⟨_,List.getElem?_eq_getElem this⟩
   have hpv:prevG l k=some y:=by
    rw [prevG,if_neg (by omega),← hy];congr 1;omega
   rw [hpv] at hi
   have hkp:decide ((0:Int) < (k:Int))=true:=by simp;omega
   repeat' (first|(refine Walk ?_;intros)|refine JC.block ?_|(refine JO.eff rfl rfl rfl (JEff.callV rfl (p3_Name _ (by assumption)) rfl ?_);intro _ _)|(refine JO.eff rfl rfl rfl (JEff.dynV rfl (by assumption) rfl (hf1 _ (by exact lea) _ (by assumption)) rfl ?_);intro _ _)|(refine JO.eff rfl rfl rfl (JEff.dynV rfl (by assumption) rfl (hf2 _ (by exact lea) _ _ _ _ (by exact vta) (by exact vta)) rfl ?_);intro _ _)|(refine JO.guard rfl rfl rfl rfl ?_ ?_<;>intro _)|(refine JC.cond rfl ?_ ?_<;>intro _))
   all_goals first
    | (refine JX.ret1 Tryz.results267 (ResV.tmp rfl) (List.nil_sublist _) ?_;refine ⟨rfl,?_⟩;have h1:(nameB x.key&&g x.value&&h y x)=false:=(by clear hi hd;simp_all);rw [h1,Bool.false_and] at hi;simp [← hi];done)
    | (have h1:(nameB x.key&&g x.value&&h y x)=true:=(by clear hi hd;simp_all);rw [h1,Bool.true_and] at hi;exact JX.round (_,k+1) ⟨by exact lea,hk',by rw [hnext];exact hi⟩ (by simp;omega) rfl rfl (by exact sba))
    | (exfalso;clear hd;simp_all;done)
    | skip
 ·have hk':=dnlt hc
  rw [List.drop_eq_nil_of_le hk'] at hi
  repeat' (first|(refine Walk ?_;intros)|refine JC.block ?_|(refine JO.eff rfl rfl rfl (JEff.callV rfl (p3_arg _) rfl ?_);intro _ _)|(refine JO.guard rfl rfl rfl rfl ?_ ?_<;>intro _)|(refine JC.cond rfl ?_ ?_<;>intro _))
  refine JX.ret1 Tryz.results267 (ResV.tmp rfl) (List.nil_sublist _) ?_
  refine ⟨rfl,?_⟩
  rw [← hi]
  simp only [rowG,Bool.and_true]
  by_cases h6:l.length≤6
  ·have:((l.length:Int)≤6):=by omega
   simp [h6,this]
  ·have:¬ ((l.length:Int)≤6):=by omega
   simp [h6,this]
theorem p3_Check {S:SHeap} {u:Value} {l:List Label} (hu:(rSlice 32 rLabel).V S u l):FnV Tryz.prog 203 #[u] S (.int .i64 (checkL false l)):=by
 (refine Fn.enter (args:=[u]) Tryz.func203 rfl Tryz.ntmps203 rfl ?_;intro w0)
 repeat (first|(refine Walk ?_;intros)|refine JC.block ?_)
 (refine JO.eff rfl rfl rfl (JEff.callV rfl ((p3_check valueB (fun a b=>riseL a b false) (by exact vta) inferInstance inferInstance (fun S' hl s hs=>p3_Value s hs) (fun S' hl u v a b hu hv=>p3_byKey hu hv))) rfl ?_);intro _ _)
 repeat (first|(refine Walk ?_;intros)|refine JC.block ?_)
 refine JX.ret1 Tryz.results203 (ResV.tmp rfl) (List.nil_sublist _) ?_
 refine ⟨rfl,?_⟩
 rw [checkL,← rowG_eq false l none]
 simp
theorem p3_CheckBears {S:SHeap} {u:Value} {l:List Label} (hu:(rSlice 32 rLabel).V S u l):FnV Tryz.prog 208 #[u] S (.int .i64 (checkL true l)):=by
 (refine Fn.enter (args:=[u]) Tryz.func208 rfl Tryz.ntmps208 rfl ?_;intro w0)
 repeat (first|(refine Walk ?_;intros)|refine JC.block ?_)
 (refine JO.eff rfl rfl rfl (JEff.callV rfl ((p3_check (fun v=>valueB v||decide (v=starS)) (fun a b=>riseL a b true) (by exact vta) inferInstance inferInstance (fun S' hl s hs=>p3_star s hs) (fun S' hl u v a b hu hv=>p3_byBoth hu hv))) rfl ?_);intro _ _)
 repeat (first|(refine Walk ?_;intros)|refine JC.block ?_)
 refine JX.ret1 Tryz.results208 (ResV.tmp rfl) (List.nil_sublist _) ?_
 refine ⟨rfl,?_⟩
 rw [checkL,← rowG_eq true l none]
 simp
theorem p3_CheckTerms {S:SHeap} {u:Value} {l:List Term} (hu:(rSlice 40 rTerm).V S u l):FnV Tryz.prog 207 #[u] S (.int .i64 (checkT l)):=by
 obtain ⟨a,c,rfl,_,_,hb,_⟩:=V_slice.1 hu
 unfold big at hb
 (refine Fn.enter (args:=[.slice a l.length c]) Tryz.func207 rfl Tryz.ntmps207 rfl ?_;intro w0)
 repeat (first|(refine Walk ?_;intros)|refine JC.block ?_)
 refine JC.loop (σ:=SHeap × Nat) (fun q=>q.1) (fun _=>[]) (fun q=>[(0,.slice a l.length c),(5,.slice a l.length c),(6,.int .i64 l.length),(7,.int .i64 q.2)]) (fun q=>S.le q.1∧q.2≤l.length∧((l.drop q.2).all oneT=l.all oneT)) (fun q=>l.length - q.2) (S,0) ⟨SHeap.le.refl _,Nat.zero_le _,rfl⟩ rfl rfl (by exact sba) ?_;rintro ⟨S1,k⟩ ⟨hl1,hk,hi⟩;dsimp only at hl1 hk hi ⊢
 repeat (first|(refine Walk ?_;intros)|refine JC.block ?_)
 refine JC.cond rfl (fun hc=>?_) (fun hc=>?_)
 ·have hk':=dlt hc
  obtain ⟨t,ht,hd⟩:=drop_at hk'
  rw [hd,List.all_cons] at hi
  repeat (first|(refine Walk ?_;intros)|refine JC.block ?_)
  (refine JO.eff rfl rfl rfl (JEff.alloc rfl ?_);intro b hb);(repeat (first|(refine Walk ?_;intros)|refine JC.block ?_));(refine JO.eff rfl rfl rfl (JEff.storeW rfl rfl (by exact vta) nna pma rfl (by intro l hl;cases hl) ?_));(refine JO.freezeV (by exact vta) nna hb (by intro l hl;cases hl) ?_;intro S2 l2 hp)
  repeat (first|(refine Walk ?_;intros)|refine JC.block ?_)
  refine JC.drawT [0,1,2,3,4,5,6,7,8,9,10,11,12,13,14,15,16,18,19,17,20,21,22,23,24,25,26,27,28,29,30,31,32,33] [0,1,2,3,4,5,6,7,8,9,10,12,13,14,15,16,21,22,23,24,25,27,28,29,30,31,32,33] [] Tryz_mixed (by decide +kernel) (by simp [MEnt.own]) ?_
  repeat' (first|(refine Walk ?_;intros)|refine JC.block ?_|(refine JO.eff rfl rfl rfl (JEff.callV rfl (p3_Name _ (by assumption)) rfl ?_);intro _ _)|(refine JO.eff rfl rfl rfl (JEff.callV rfl (p3_Value _ (by assumption)) rfl ?_);intro _ _)|(refine JO.eff rfl rfl rfl (JEff.callV rfl (p3_valued _) rfl ?_);intro _ _)|(refine JO.guard rfl rfl rfl rfl ?_ ?_<;>intro _)|(refine JC.cond rfl ?_ ?_<;>intro _))
  all_goals first
   | (refine JX.ret1 Tryz.results207 (ResV.tmp rfl) (List.nil_sublist _) ?_;refine ⟨rfl,?_⟩;have h1:oneT t=false:=(by clear hi;first|(cases hv1:valuedB t.kind<;>cases hv2:valueB t.value<;>simp_all [oneT,noS];done)|(cases hv1:valuedB t.kind<;>cases hv2:valueB t.value<;>simp_all [oneT,noS]<;>first|omega|(intros;omega)|exact decide_eq_false (fun hh=>by rw [hh] at hv2;exact absurd hv2 (by decide))));rw [h1,Bool.false_and] at hi;simp [checkT,← hi];done)
   | (have h1:oneT t=true:=(by clear hi;first|(cases hv1:valuedB t.kind<;>cases hv2:valueB t.value<;>simp_all [oneT,noS];done)|(cases hv1:valuedB t.kind<;>cases hv2:valueB t.value<;>simp_all [oneT,noS]<;>first|omega|(intros;omega)|exact decide_eq_false (fun hh=>by rw [hh] at hv2;exact absurd hv2 (by decide))));rw [h1,Bool.true_and] at hi;exact JX.round (_,k+1) ⟨by exact lea,hk',hi⟩ (by simp;omega) rfl rfl (by exact sba))
   | skip
 ·have hk':=dnlt hc
  rw [List.drop_eq_nil_of_le hk'] at hi
  repeat' (first|(refine Walk ?_;intros)|refine JC.block ?_|(refine JO.eff rfl rfl rfl (JEff.callV rfl (p3_arg _) rfl ?_);intro _ _)|(refine JO.guard rfl rfl rfl rfl ?_ ?_<;>intro _)|(refine JC.cond rfl ?_ ?_<;>intro _))
  refine JX.ret1 Tryz.results207 (ResV.tmp rfl) (List.nil_sublist _) ?_
  refine ⟨rfl,?_⟩
  rw [checkT,← hi]
  by_cases h6:l.length≤6
  ·have:((l.length:Int)≤6):=by omega
   simp [h6,this]
  ·have:¬ ((l.length:Int)≤6):=by omega
   simp [h6,this]
end Go.Dr
namespace Go.Dr
open Go.Proofs
set_option maxRecDepth 20000
set_option linter.unusedSimpArgs false
set_option linter.unusedVariables false
theorem p3_Get1 {S:SHeap} {u:Value} {x:Label} {q:Addr} {key:ByteArray} (hu:rLabel.V S u x) (hq:PtrTo S q rStr key):FnV Tryz.prog 374 #[u,.pointer (some q)] S (.bool (keyIs key x)):=by
 (refine Fn.enter (args:=[u,.pointer (some q)]) Tryz.func374 rfl Tryz.ntmps374 rfl ?_;intro w0)
 repeat (first|(refine Walk ?_;intros)|refine JC.block ?_)
 (refine JO.eff rfl rfl rfl (JEff.boxS rfl (by exact vta) nna rfl ?_);intro S1 p l1 hp)
 have hq1:=hq.mono l1
 repeat (first|(refine Walk ?_;intros)|refine JC.block ?_)
 refine JX.ret1 Tryz.results374 (ResV.tmp rfl) (List.nil_sublist _) ?_
 exact ⟨rfl,rfl⟩
theorem getL_idx (l:List Label) (key:ByteArray):(idxF (keyIs key) l < 0→getL l key=(noS,false))∧(¬ idxF (keyIs key) l < 0→∃ x,l[(idxF (keyIs key) l).toNat]?=some x∧getL l key=(x.value,true)∧0≤idxF (keyIs key) l∧idxF (keyIs key) l < l.length):=by
 unfold idxF getL
 cases h:l.findIdx? (keyIs key) with
 | none=>
  have h2:l.find? (keyIs key)=none:=by
   rw [List.find?_eq_none];intro x hx;simpa using List.findIdx?_eq_none_iff.1 h x hx
  refine ⟨fun _=>by rw [h2],fun h=>absurd (by simp) h⟩
 | some i=>
  obtain ⟨hi,h1,h2⟩:=List.findIdx?_eq_some_iff_getElem.1 h
  have h3:l.find? (keyIs key)=some l[i]:=by
   rw [List.find?_eq_some_iff_getElem]
   exact ⟨h1,i,hi,rfl,fun j hj=>by simpa using h2 j hj⟩
  refine ⟨fun h=>absurd h (by simp),fun _=>⟨l[i],by simp [hi],by rw [h3],by simp,by simpa using hi⟩⟩
theorem p3_Get {S:SHeap} {u:Value} {l:List Label} (key:ByteArray) (hk:key.size≤big) (hu:(rSlice 32 rLabel).V S u l):FnV Tryz.prog 362 #[u,.string key] S (.tuple #[.string (getL l key).1,.bool (getL l key).2]):=by
 obtain ⟨a,c,rfl,_,_,hb,_⟩:=V_slice.1 hu
 unfold big at hb
 (refine Fn.enter (args:=[.slice a l.length c,.string key]) Tryz.func362 rfl Tryz.ntmps362 rfl ?_;intro w0)
 repeat (first|(refine Walk ?_;intros)|refine JC.block ?_)
 (refine JO.eff rfl rfl rfl (JEff.boxS rfl (V_str.2 ⟨rfl,hk⟩) nna rfl ?_);intro S1 p l1 hp)
 repeat (first|(refine Walk ?_;intros)|refine JC.block ?_)
 (refine JO.eff rfl rfl rfl (JEff.callV rfl ((p_IndexFunc_Label (fs:=#[]) (cs:=#[.pointer (some p)]) (keyIs key) (by exact vta) inferInstance (fun S' hl u x hx=>p3_Get1 hx (hp.mono (by exact lea))))) rfl ?_);intro _ _)
 repeat (first|(refine Walk ?_;intros)|refine JC.block ?_)
 obtain ⟨hn,hy⟩:=getL_idx l key
 refine JC.cond rfl (fun h1=>?_) (fun h1=>?_)
 ·have h1:idxF (keyIs key) l < 0:=by simpa using h1
  repeat (first|(refine Walk ?_;intros)|refine JC.block ?_)
  refine JX.ret2 Tryz.results362 (ResV.tmp rfl) (ResV.tmp rfl) (List.nil_sublist _) ?_
  exact ⟨rfl,by rw [hn h1];rfl⟩
 ·have h1:¬ idxF (keyIs key) l < 0:=by simpa using h1
  obtain ⟨x,hx,hg,h0,hlt⟩:=hy h1
  repeat (first|(refine Walk ?_;intros)|refine JC.block ?_)
  refine JX.ret2 Tryz.results362 (ResV.tmp rfl) (ResV.tmp rfl) (List.nil_sublist _) ?_
  exact ⟨rfl,by rw [hg]⟩
theorem p3_Holds {S:SHeap} {u v:Value} {ts:List Term} {l:List Label} (hu:(rSlice 40 rTerm).V S u ts) (hv:(rSlice 32 rLabel).V S v l):FnV Tryz.prog 334 #[u,v] S (.bool (holdsB ts l)):=by
 obtain ⟨a,c,rfl,_,_,hb,_⟩:=V_slice.1 hu
 unfold big at hb
 (refine Fn.enter (args:=[.slice a ts.length c,v]) Tryz.func334 rfl Tryz.ntmps334 rfl ?_;intro w0)
 repeat (first|(refine Walk ?_;intros)|refine JC.block ?_)
 refine JC.loop (σ:=SHeap × Nat) (fun q=>q.1) (fun _=>[]) (fun q=>[(1,v),(11,.slice a ts.length c),(12,.int .i64 ts.length),(13,.int .i64 q.2)]) (fun q=>S.le q.1∧q.2≤ts.length∧((ts.drop q.2).all (fun t=>holdsT t l)=ts.all (fun t=>holdsT t l))) (fun q=>ts.length - q.2) (S,0) ⟨SHeap.le.refl _,Nat.zero_le _,rfl⟩ rfl rfl (by exact sba) ?_;rintro ⟨S1,k⟩ ⟨hl1,hk,hi⟩;dsimp only at hl1 hk hi ⊢
 repeat (first|(refine Walk ?_;intros)|refine JC.block ?_)
 refine JC.cond rfl (fun hc=>?_) (fun hc=>?_)
 ·have hk':=dlt hc
  obtain ⟨t,ht,hd⟩:=drop_at hk'
  rw [hd,List.all_cons] at hi
  repeat (first|(refine Walk ?_;intros)|refine JC.block ?_)
  (refine JO.eff rfl rfl rfl (JEff.alloc rfl ?_);intro b hb);(repeat (first|(refine Walk ?_;intros)|refine JC.block ?_));(refine JO.eff rfl rfl rfl (JEff.storeW rfl rfl (by exact vta) nna pma rfl (by intro l hl;cases hl) ?_));(refine JO.freezeV (by exact vta) nna hb (by intro l hl;cases hl) ?_;intro S2 l2 hp)
  repeat' (first|(refine Walk ?_;intros)|refine JC.block ?_|(refine JO.eff rfl rfl rfl (JEff.callV rfl (p3_Get t.key (by assumption) (by exact vta)) rfl ?_);intro _ _)|(refine JO.eff rfl rfl rfl (JEff.callV rfl (p3_valued _) rfl ?_);intro _ _)|(refine JO.guard rfl rfl rfl rfl ?_ ?_<;>intro _)|(refine JC.cond rfl ?_ ?_<;>intro _))
  all_goals first
   | (refine JX.ret1 Tryz.results334 (ResV.tmp rfl) (List.nil_sublist _) ?_;refine ⟨rfl,?_⟩;have h1:holdsT t l=false:=(by clear hi;simp_all [holdsT,valuedB];try omega);rw [h1,Bool.false_and] at hi;simp [holdsB,← hi];done)
   | (have h1:holdsT t l=true:=(by clear hi;simp_all [holdsT,valuedB];try omega);rw [h1,Bool.true_and] at hi;exact JX.round (_,k+1) ⟨by exact lea,hk',hi⟩ (by simp;omega) rfl rfl (by exact sba))
   | skip
 ·have hk':=dnlt hc
  rw [List.drop_eq_nil_of_le hk'] at hi
  repeat (first|(refine Walk ?_;intros)|refine JC.block ?_)
  refine JX.ret1 Tryz.results334 (ResV.tmp rfl) (List.nil_sublist _) ?_
  exact ⟨rfl,by simp [holdsB,← hi]⟩
theorem p3_Bears1 {S:SHeap} {u:Value} {b t:Label} {q:Addr} (hu:rLabel.V S u b) (hq:PtrTo S q rLabel t):FnV Tryz.prog 364 #[u,.pointer (some q)] S (.bool (bears1 t b)):=by
 (refine Fn.enter (args:=[u,.pointer (some q)]) Tryz.func364 rfl Tryz.ntmps364 rfl ?_;intro w0)
 repeat (first|(refine Walk ?_;intros)|refine JC.block ?_)
 (refine JO.eff rfl rfl rfl (JEff.boxS rfl (by exact vta) nna rfl ?_);intro S1 p l1 hp)
 have hq1:=hq.mono l1
 repeat' (first|(refine Walk ?_;intros)|refine JC.block ?_|(refine JO.guard rfl rfl rfl rfl ?_ ?_<;>intro _)|(refine JC.cond rfl ?_ ?_<;>intro _))
 all_goals (refine JX.ret1 Tryz.results364 (ResV.tmp rfl) (List.nil_sublist _) ?_;exact ⟨rfl,by (first|((simp only [bears1,starS, *,Bool.and_true,Bool.true_and,Bool.false_and,Bool.and_false,Bool.or_true,Bool.true_or,Bool.false_or,Bool.or_false,Bool.not_true,Bool.not_false])<;>rfl)|(simp only [bears1,starS, *,Bool.and_true,Bool.true_and,Bool.false_and,Bool.and_false,Bool.or_true,Bool.true_or,Bool.false_or,Bool.or_false,Bool.not_true,Bool.not_false];done)|(simp [bears1,starS, *];done)|(simp_all [bears1,starS];done)|(simp_all [bears1,starS];intros;omega)|(simp_all [bears1,starS];omega))⟩)
theorem p3_Bears {S:SHeap} {u v:Value} {l ts:List Label} (hu:(rSlice 32 rLabel).V S u l) (hv:(rSlice 32 rLabel).V S v ts):FnV Tryz.prog 338 #[u,v] S (.bool (bearsB l ts)):=by
 obtain ⟨a2,c2,rfl,_,_,hb2,_⟩:=V_slice.1 hv
 unfold big at hb2
 (refine Fn.enter (args:=[u,.slice a2 ts.length c2]) Tryz.func338 rfl Tryz.ntmps338 rfl ?_;intro w0)
 repeat (first|(refine Walk ?_;intros)|refine JC.block ?_)
 refine JC.loop (σ:=SHeap × Nat) (fun q=>q.1) (fun _=>[]) (fun q=>[(0,u),(7,.slice a2 ts.length c2),(8,.int .i64 ts.length),(9,.int .i64 q.2)]) (fun q=>S.le q.1∧q.2≤ts.length∧((ts.drop q.2).all (fun t=>l.any (bears1 t))=ts.all (fun t=>l.any (bears1 t)))) (fun q=>ts.length - q.2) (S,0) ⟨SHeap.le.refl _,Nat.zero_le _,rfl⟩ rfl rfl (by exact sba) ?_;rintro ⟨S1,k⟩ ⟨hl1,hk,hi⟩;dsimp only at hl1 hk hi ⊢
 repeat (first|(refine Walk ?_;intros)|refine JC.block ?_)
 refine JC.cond rfl (fun hc=>?_) (fun hc=>?_)
 ·have hk':=dlt hc
  obtain ⟨t,ht,hd⟩:=drop_at hk'
  rw [hd,List.all_cons] at hi
  repeat (first|(refine Walk ?_;intros)|refine JC.block ?_)
  (refine JO.eff rfl rfl rfl (JEff.alloc rfl ?_);intro b hb);(repeat (first|(refine Walk ?_;intros)|refine JC.block ?_));(refine JO.eff rfl rfl rfl (JEff.storeW rfl rfl (by exact vta) nna pma rfl (by intro l hl;cases hl) ?_));(refine JO.freezeV (by exact vta) nna hb (by intro l hl;cases hl) ?_;intro S2 l2 hp)
  repeat (first|(refine Walk ?_;intros)|refine JC.block ?_)
  (refine JO.eff rfl rfl rfl (JEff.callV rfl ((p_ContainsFunc_Label (fs:=#[]) (cs:=#[.pointer (some ⟨b,0,none⟩)]) (bears1 t) (by exact vta) inferInstance (fun S' hl u x hx=>p3_Bears1 hx (hp.mono (by exact lea))))) rfl ?_);intro _ _)
  repeat (first|(refine Walk ?_;intros)|refine JC.block ?_)
  refine JC.cond rfl (fun h1=>?_) (fun h1=>?_)
  ·have h1:l.any (bears1 t)=false:=by simpa using h1
   rw [h1,Bool.false_and] at hi
   repeat (first|(refine Walk ?_;intros)|refine JC.block ?_)
   refine JX.ret1 Tryz.results338 (ResV.tmp rfl) (List.nil_sublist _) ?_
   exact ⟨rfl,by simp [bearsB,← hi]⟩
  ·have h1:l.any (bears1 t)=true:=by simpa using h1
   rw [h1,Bool.true_and] at hi
   repeat (first|(refine Walk ?_;intros)|refine JC.block ?_)
   exact JX.round (_,k+1) ⟨by exact lea,hk',hi⟩ (by simp;omega) rfl rfl (by exact sba)
 ·have hk':=dnlt hc
  rw [List.drop_eq_nil_of_le hk'] at hi
  repeat (first|(refine Walk ?_;intros)|refine JC.block ?_)
  refine JX.ret1 Tryz.results338 (ResV.tmp rfl) (List.nil_sublist _) ?_
  exact ⟨rfl,by simp [bearsB,← hi]⟩
end Go.Dr
namespace Go.Dr
open Go.Proofs
set_option maxRecDepth 20000
set_option maxHeartbeats 2000000
set_option linter.unusedSimpArgs false
set_option linter.unusedVariables false
theorem p5_fine1 {S:SHeap} (x:Int):FnV Tryz.prog 214 #[.int .i64 x] S (.bool (!z0 x)):=by
 (refine Fn.enter (args:=[.int .i64 x]) Tryz.func214 rfl Tryz.ntmps214 rfl ?_;intro w0)
 repeat (first|(refine Walk ?_;intros)|refine JC.block ?_)
 (refine JX.ret1 Tryz.results214 (ResV.tmp rfl) (List.nil_sublist _) ?_)
 exact ⟨rfl,rfl⟩
abbrev rVec:Rp (List Int):=rArr 5
theorem nameB_no:nameB (ByteArray.mk #[])=false:=by decide
theorem all_z0:∀ (l:List Int),(!l.any (fun x=>!z0 x))=l.all z0
 | []=>rfl
 | x::l=>by rw [List.any_cons,List.all_cons,← all_z0 l];cases z0 x<;>simp
theorem p5_fine {S:SHeap} {u:Value} {l:List Int} (hu:(rSlice 8 rI64).V S u l):FnV Tryz.prog 144 #[u] S (.bool (l.all z0)):=by
 (refine Fn.enter (args:=[u]) Tryz.func144 rfl Tryz.ntmps144 rfl ?_;intro w0)
 repeat (first|(refine Walk ?_;intros)|refine JC.block ?_)
 (refine JO.eff rfl rfl rfl (JEff.callV rfl ((p_ContainsFunc_Errno (fun x=>!z0 x) (by exact vta) inferInstance (fun S' h u x hx=>by obtain ⟨rfl,_⟩:=V_i64.1 hx;exact p5_fine1 x))) rfl ?_);intro _ _)
 repeat (first|(refine Walk ?_;intros)|refine JC.block ?_)
 (refine JX.ret1 Tryz.results144 (ResV.tmp rfl) (List.nil_sublist _) ?_)
 exact ⟨rfl,by rw [all_z0]⟩
theorem checkV_rng (v:List Int):Rng (checkV v):=by unfold checkV Rng;split<;>(try split)<;>omega
theorem checkL_rng (b:Bool) (l:List Label):Rng (checkL b l):=by unfold checkL Rng;split<;>omega
theorem checkT_rng (l:List Term):Rng (checkT l):=by unfold checkT Rng;split<;>omega
theorem s209_L5p {P K:Prop} (k:K) (h:Goal K→P:=by
 intro zk
 (first|refine Walk ?_|refine JC.block ?_|(refine JO.eff rfl rfl rfl (JEff.callV rfl (p3_Name _ (by assumption)) rfl ?_);intro zqa zqb)|(refine JO.eff rfl rfl rfl (JEff.callV rfl (p3_CheckTerms (by exact vta)) rfl ?_);intro zqa zqb)|(refine WBox ?_))
 (repeat (first|revert zqg|revert zqf|revert zqe|revert zqd|revert zqc|revert zqb|revert zqa))
 exact zk.k):P:=h ⟨k⟩
theorem p5_near {S:SHeap} {u:Value} {n:Near} (hu:rNear.V S u n):FnV Tryz.prog 209 #[u] S (.bool (nearB n)):=by
 (refine Fn.enter (args:=[u]) Tryz.func209 rfl Tryz.ntmps209 rfl ?_;intro w0)
 repeat (refine s209_L5p ?_;intros)
 refine JC.cond rfl (fun h1=>?_) (fun h1=>?_)
 ·have h1:n.topo=noS:=of_decide_eq_true h1
  repeat (refine s209_L5p ?_;intros)
  (refine JX.ret1 Tryz.results209 (ResV.tmp rfl) (List.nil_sublist _) ?_)
  exact ⟨rfl,by simp [nearB,h1]⟩
 ·have h1:¬ n.topo=noS:=of_decide_eq_false h1
  repeat' (first|(refine s209_L5p ?_;intros)|(refine JO.guard rfl rfl rfl rfl ?_ ?_<;>intro _)|(refine JC.cond rfl ?_ ?_<;>intro _))
  all_goals ((refine JX.ret1 Tryz.results209 (ResV.tmp rfl) (List.nil_sublist _) ?_);exact ⟨rfl,by rw [nearB,if_neg h1];(first|((simp only [z0, *,Bool.and_true,Bool.true_and,Bool.false_and,Bool.and_false,Bool.or_true,Bool.true_or,Bool.false_or,Bool.or_false,Bool.not_true,Bool.not_false])<;>rfl)|(simp only [z0, *,Bool.and_true,Bool.true_and,Bool.false_and,Bool.and_false,Bool.or_true,Bool.true_or,Bool.false_or,Bool.or_false,Bool.not_true,Bool.not_false];done)|(simp [z0, *];done)|(simp_all [z0];done)|(simp_all [z0];intros;omega)|(simp_all [z0];omega))⟩)
theorem s132_L5p {P K:Prop} (k:K) (h:Goal K→P:=by
 intro zk
 (first|refine Walk ?_|refine JC.block ?_|refine JC.drawN 1 rfl [0,1,3,4,6,7,2,5,8,9,10,11] [0,1,11] Tryz_mixed (by decide +kernel) ?_|(refine JO.eff rfl rfl rfl (JEff.callV rfl (p5_fine (by exact vta)) rfl ?_);intro zqa zqb)|(refine JO.eff rfl rfl rfl (JEff.callV rfl (p2_Check (by exact vta)) rfl ?_);intro zqa zqb)|(refine JO.eff rfl rfl rfl (JEff.callV rfl (p3_Check (by exact vta)) rfl ?_);intro zqa zqb)|(refine WBox ?_))
 (repeat (first|revert zqg|revert zqf|revert zqe|revert zqd|revert zqc|revert zqb|revert zqa))
 exact zk.k):P:=h ⟨k⟩
theorem p5_node {S:SHeap} {u:Value} {n:Node} (hu:rNode.V S u n):FnV Tryz.prog 132 #[u] S (.bool (nodeB n)):=by
 (refine Fn.enter (args:=[u]) Tryz.func132 rfl Tryz.ntmps132 rfl ?_;intro w0)
 repeat (refine s132_L5p ?_;intros)
 (refine JO.eff rfl rfl rfl (JEff.buildS (bt:=8) (rep:=rI64) (ys:=[checkV n.cap,checkL false n.labels,checkL false n.taints]) rfl rfl (⟨⟨V_i64.2 ⟨rfl,checkV_rng _⟩,nna⟩,⟨V_i64.2 ⟨rfl,checkL_rng _ _⟩,nna⟩,⟨V_i64.2 ⟨rfl,checkL_rng _ _⟩,nna⟩,trivial⟩) rfl rfl rfl (by decide) rfl ?_);intro S3 sa l3 hs)
 repeat (refine s132_L5p ?_;intros)
 (refine JX.ret1 Tryz.results132 (ResV.tmp rfl) (List.nil_sublist _) ?_)
 exact ⟨rfl,by simp [nodeB,Bool.and_assoc]⟩
theorem p5_owner {S:SHeap} {u:Value} {o:Owner} (hu:rOwner.V S u o):FnV Tryz.prog 135 #[u] S (.bool (ownerB o)):=by
 (refine Fn.enter (args:=[u]) Tryz.func135 rfl Tryz.ntmps135 rfl ?_;intro w0)
 repeat' (first|(refine Walk ?_;intros)|refine JC.block ?_|(refine JO.eff rfl rfl rfl (JEff.callV rfl (p3_Name _ (by assumption)) rfl ?_);intro _ _)|(refine WBox ?_;intros)|(refine JO.guard rfl rfl rfl rfl ?_ ?_<;>intro _)|(refine JC.cond rfl ?_ ?_<;>intro _))
 all_goals ((refine JX.ret1 Tryz.results135 (ResV.tmp rfl) (List.nil_sublist _) ?_);refine ⟨rfl,?_⟩;by_cases hn:o.topo=noS)
 all_goals first
  | ((first|((simp only [ownerB,noS, *,Bool.and_true,Bool.true_and,Bool.false_and,Bool.and_false,Bool.or_true,Bool.true_or,Bool.false_or,Bool.or_false,Bool.not_true,Bool.not_false])<;>rfl)|(simp only [ownerB,noS, *,Bool.and_true,Bool.true_and,Bool.false_and,Bool.and_false,Bool.or_true,Bool.true_or,Bool.false_or,Bool.or_false,Bool.not_true,Bool.not_false];done)|(simp [ownerB,noS, *];done)|(simp_all [ownerB,noS];done)|(simp_all [ownerB,noS];intros;omega)|(simp_all [ownerB,noS];omega)))
  | (simp_all [ownerB,noS,nameB_no];done)
  | (simp_all [ownerB,noS,nameB_no]<;>omega)
  | (simp_all [ownerB,noS,nameB_no]<;>intros<;>omega)
theorem p5_each_NS {S:SHeap} {u:Value} {l:List Node} {f:FuncId} {fs cs:Array Value} (g:Node→ByteArray) (hn:l.length≤1300000000000) (hu:(rSlice 112 rNode).V S u l) (hE:Ent Tryz.prog f) (hV:∀ S v x,(rNode).V S v x→(rStr).V S (Value.string (g x)) (g x))
  (hf:∀ S',S.le S'→∀ u x,(rNode).V S' u x→FnV Tryz.prog f (fs.toList++[u]++cs.toList).toArray S' (Value.string (g x))):FnL Tryz.prog 195 #[u,.func (.func f) fs cs] S 16 rStr (l.map g):=by
 obtain ⟨a,c,rfl,_,_,hb,_⟩:=V_slice.1 hu
 unfold big at hb
 (refine Fn.enter (args:=[.slice a l.length c,.func (.func f) fs cs]) Tryz.func195 rfl Tryz.ntmps195 rfl ?_;intro w0)
 repeat (first|(refine Walk ?_;intros)|refine JC.block ?_|(refine WNew ?_;intros)|(refine WPut ?_;intros))
 refine JO.eff rfl rfl rfl (JEff.makeRow (rep:=rStr) rfl rfl (by unfold big;omega) (by unfold big;omega) rfl ?_);intro a0
 repeat (first|(refine Walk ?_;intros)|refine JC.block ?_|(refine WNew ?_;intros)|(refine WPut ?_;intros))
 refine JC.loopF (σ:=Nat × Option Addr × Nat × List Value) [(1,_),(11,_),(12,_)] (fun q=>[(5,.slice q.2.1 ((fun k=>(l.take k).map g) q.1).length q.2.2.1),(13,((fun k=>.int .i64 k) q.1))]) (fun q=>[.row w0.heap.size 9 (Rp.sz rStr) (.slice q.2.1 ((fun k=>(l.take k).map g) q.1).length q.2.2.1) ((fun k=>(l.take k).map g) q.1).length (flatCells q.2.2.2)]) (fun Sk q=>q.1≤l.length∧allV rStr Sk q.2.2.2 ((fun k=>(l.take k).map g) q.1)∧((fun k=>True) q.1)) (fun q=>l.length - q.1) (0,a0,l.length,[]) (by exact sba) (by exact sba) (by first|rfl|simp) (⟨Nat.zero_le _,trivial,trivial⟩) ?_;rintro Sk ⟨k,rak,rck,vsk⟩ hlk ⟨hk,hvk,hik⟩;(try dsimp only at hk hvk hik);dsimp only [List.cons_append,List.nil_append]
 have hkl:((l.take k).map g).length≤k:=by rw [List.length_map,List.length_take];omega
 repeat (first|(refine Walk ?_;intros)|refine JC.block ?_|(refine WNew ?_;intros)|(refine WPut ?_;intros))
 refine JC.cond rfl (fun hc=>?_) (fun hc=>?_)
 ·have hk':=dlt hc
  obtain ⟨x,hx,_⟩:=drop_at hk'
  have hst:(l.take (k+1)).map g=(l.take k).map g++[g x]:=by rw [List.take_add_one,hx];simp
  repeat (first|(refine Walk ?_;intros)|refine JC.block ?_|(refine WNew ?_;intros)|(refine WPut ?_;intros))
  have hvx:=(by assumption:(rNode).V _ _ x)
  (refine JO.eff rfl rfl rfl (JEff.dynV rfl (by assumption) rfl ((hf _ (by exact lea) _ x (by exact vta))) rfl ?_);intro _ _)
  repeat (first|(refine Walk ?_;intros)|refine JC.block ?_|(refine WNew ?_;intros)|(refine WPut ?_;intros))
  (refine JO.eff rfl rfl rfl (JEff.build (rep:=rStr) (ys:=[g x]) rfl rfl ⟨⟨((hV _ _ x hvx).mono (by exact lea)),nna⟩,trivial⟩ rfl rfl rfl rfl ?_);intro bb hbb hvv);(repeat (first|(refine Walk ?_;intros)|refine JC.block ?_));(refine JO.eff rfl rfl rfl (JEff.appendL (rep:=rStr) rfl rfl rfl rfl (List.Perm.swap _ _ _) (by exact hvv.flat) (by intro c hc;exact flat_one (fun v hv=>(hvv.size v hv).2) c hc) (by first|omega|(unfold big;omega)) (by unfold big;omega) (by first|exact rowT_ok|(intro l hl;cases hl)) rfl ?_);intro a2 c2;clear hvv hbb)
  repeat (first|(refine Walk ?_;intros)|refine JC.block ?_|(refine WNew ?_;intros)|(refine WPut ?_;intros))
  exact JX.roundF (k+1,a2,c2,vsk++[((Value.string (g x)))]) (by exact lea) ⟨by omega,by (try dsimp only);rw [hst];exact allV_add (by exact lea) hvk ((hV _ _ x hvx).mono (by exact lea)) nna,(trivial)⟩ (by (try dsimp only);omega) (by (try dsimp only);rw [hst];(simp [flat_append]<;>omega)) (by (try dsimp only);rw [hst];simp only [List.length_append,List.length_cons,List.length_nil];exact sba) (by exact sba)
 ·have hk':=dnlt hc
  rw [List.take_of_length_le hk'] at hvk hkl ⊢
  repeat (first|(refine Walk ?_;intros)|refine JC.block ?_|(refine WNew ?_;intros)|(refine WPut ?_;intros))
  refine JX.freezeRow (rep:=rStr) (bt:=16) hvk rfl (by unfold big;rw [List.length_map];omega) (by unfold big;rw [List.length_map];omega) (fun S9 hl9 hV9=>?_)
  (refine JX.ret1 Tryz.results195 (ResV.tmp rfl) (List.nil_sublist _) ?_)
  exact ⟨rfl,hV9⟩
theorem p5_each_PS {S:SHeap} {u:Value} {l:List Pod} {f:FuncId} {fs cs:Array Value} (g:Pod→ByteArray) (hn:l.length≤1300000000000) (hu:(rSlice 240 rPod).V S u l) (hE:Ent Tryz.prog f) (hV:∀ S v x,(rPod).V S v x→(rStr).V S (Value.string (g x)) (g x))
  (hf:∀ S',S.le S'→∀ u x,(rPod).V S' u x→FnV Tryz.prog f (fs.toList++[u]++cs.toList).toArray S' (Value.string (g x))):FnL Tryz.prog 197 #[u,.func (.func f) fs cs] S 16 rStr (l.map g):=by
 obtain ⟨a,c,rfl,_,_,hb,_⟩:=V_slice.1 hu
 unfold big at hb
 (refine Fn.enter (args:=[.slice a l.length c,.func (.func f) fs cs]) Tryz.func197 rfl Tryz.ntmps197 rfl ?_;intro w0)
 repeat (first|(refine Walk ?_;intros)|refine JC.block ?_|(refine WNew ?_;intros)|(refine WPut ?_;intros))
 refine JO.eff rfl rfl rfl (JEff.makeRow (rep:=rStr) rfl rfl (by unfold big;omega) (by unfold big;omega) rfl ?_);intro a0
 repeat (first|(refine Walk ?_;intros)|refine JC.block ?_|(refine WNew ?_;intros)|(refine WPut ?_;intros))
 refine JC.loopF (σ:=Nat × Option Addr × Nat × List Value) [(1,_),(11,_),(12,_)] (fun q=>[(5,.slice q.2.1 ((fun k=>(l.take k).map g) q.1).length q.2.2.1),(13,((fun k=>.int .i64 k) q.1))]) (fun q=>[.row w0.heap.size 9 (Rp.sz rStr) (.slice q.2.1 ((fun k=>(l.take k).map g) q.1).length q.2.2.1) ((fun k=>(l.take k).map g) q.1).length (flatCells q.2.2.2)]) (fun Sk q=>q.1≤l.length∧allV rStr Sk q.2.2.2 ((fun k=>(l.take k).map g) q.1)∧((fun k=>True) q.1)) (fun q=>l.length - q.1) (0,a0,l.length,[]) (by exact sba) (by exact sba) (by first|rfl|simp) (⟨Nat.zero_le _,trivial,trivial⟩) ?_;rintro Sk ⟨k,rak,rck,vsk⟩ hlk ⟨hk,hvk,hik⟩;(try dsimp only at hk hvk hik);dsimp only [List.cons_append,List.nil_append]
 have hkl:((l.take k).map g).length≤k:=by rw [List.length_map,List.length_take];omega
 repeat (first|(refine Walk ?_;intros)|refine JC.block ?_|(refine WNew ?_;intros)|(refine WPut ?_;intros))
 refine JC.cond rfl (fun hc=>?_) (fun hc=>?_)
 ·have hk':=dlt hc
  obtain ⟨x,hx,_⟩:=drop_at hk'
  have hst:(l.take (k+1)).map g=(l.take k).map g++[g x]:=by rw [List.take_add_one,hx];simp
  repeat (first|(refine Walk ?_;intros)|refine JC.block ?_|(refine WNew ?_;intros)|(refine WPut ?_;intros))
  have hvx:=(by assumption:(rPod).V _ _ x)
  (refine JO.eff rfl rfl rfl (JEff.dynV rfl (by assumption) rfl ((hf _ (by exact lea) _ x (by exact vta))) rfl ?_);intro _ _)
  repeat (first|(refine Walk ?_;intros)|refine JC.block ?_|(refine WNew ?_;intros)|(refine WPut ?_;intros))
  (refine JO.eff rfl rfl rfl (JEff.build (rep:=rStr) (ys:=[g x]) rfl rfl ⟨⟨((hV _ _ x hvx).mono (by exact lea)),nna⟩,trivial⟩ rfl rfl rfl rfl ?_);intro bb hbb hvv);(repeat (first|(refine Walk ?_;intros)|refine JC.block ?_));(refine JO.eff rfl rfl rfl (JEff.appendL (rep:=rStr) rfl rfl rfl rfl (List.Perm.swap _ _ _) (by exact hvv.flat) (by intro c hc;exact flat_one (fun v hv=>(hvv.size v hv).2) c hc) (by first|omega|(unfold big;omega)) (by unfold big;omega) (by first|exact rowT_ok|(intro l hl;cases hl)) rfl ?_);intro a2 c2;clear hvv hbb)
  repeat (first|(refine Walk ?_;intros)|refine JC.block ?_|(refine WNew ?_;intros)|(refine WPut ?_;intros))
  exact JX.roundF (k+1,a2,c2,vsk++[((Value.string (g x)))]) (by exact lea) ⟨by omega,by (try dsimp only);rw [hst];exact allV_add (by exact lea) hvk ((hV _ _ x hvx).mono (by exact lea)) nna,(trivial)⟩ (by (try dsimp only);omega) (by (try dsimp only);rw [hst];(simp [flat_append]<;>omega)) (by (try dsimp only);rw [hst];simp only [List.length_append,List.length_cons,List.length_nil];exact sba) (by exact sba)
 ·have hk':=dnlt hc
  rw [List.take_of_length_le hk'] at hvk hkl ⊢
  repeat (first|(refine Walk ?_;intros)|refine JC.block ?_|(refine WNew ?_;intros)|(refine WPut ?_;intros))
  refine JX.freezeRow (rep:=rStr) (bt:=16) hvk rfl (by unfold big;rw [List.length_map];omega) (by unfold big;rw [List.length_map];omega) (fun S9 hl9 hV9=>?_)
  (refine JX.ret1 Tryz.results197 (ResV.tmp rfl) (List.nil_sublist _) ?_)
  exact ⟨rfl,hV9⟩
theorem p5_each_OS {S:SHeap} {u:Value} {l:List Owner} {f:FuncId} {fs cs:Array Value} (g:Owner→ByteArray) (hn:l.length≤1300000000000) (hu:(rSlice 56 rOwner).V S u l) (hE:Ent Tryz.prog f) (hV:∀ S v x,(rOwner).V S v x→(rStr).V S (Value.string (g x)) (g x))
  (hf:∀ S',S.le S'→∀ u x,(rOwner).V S' u x→FnV Tryz.prog f (fs.toList++[u]++cs.toList).toArray S' (Value.string (g x))):FnL Tryz.prog 199 #[u,.func (.func f) fs cs] S 16 rStr (l.map g):=by
 obtain ⟨a,c,rfl,_,_,hb,_⟩:=V_slice.1 hu
 unfold big at hb
 (refine Fn.enter (args:=[.slice a l.length c,.func (.func f) fs cs]) Tryz.func199 rfl Tryz.ntmps199 rfl ?_;intro w0)
 repeat (first|(refine Walk ?_;intros)|refine JC.block ?_|(refine WNew ?_;intros)|(refine WPut ?_;intros))
 refine JO.eff rfl rfl rfl (JEff.makeRow (rep:=rStr) rfl rfl (by unfold big;omega) (by unfold big;omega) rfl ?_);intro a0
 repeat (first|(refine Walk ?_;intros)|refine JC.block ?_|(refine WNew ?_;intros)|(refine WPut ?_;intros))
 refine JC.loopF (σ:=Nat × Option Addr × Nat × List Value) [(1,_),(11,_),(12,_)] (fun q=>[(5,.slice q.2.1 ((fun k=>(l.take k).map g) q.1).length q.2.2.1),(13,((fun k=>.int .i64 k) q.1))]) (fun q=>[.row w0.heap.size 9 (Rp.sz rStr) (.slice q.2.1 ((fun k=>(l.take k).map g) q.1).length q.2.2.1) ((fun k=>(l.take k).map g) q.1).length (flatCells q.2.2.2)]) (fun Sk q=>q.1≤l.length∧allV rStr Sk q.2.2.2 ((fun k=>(l.take k).map g) q.1)∧((fun k=>True) q.1)) (fun q=>l.length - q.1) (0,a0,l.length,[]) (by exact sba) (by exact sba) (by first|rfl|simp) (⟨Nat.zero_le _,trivial,trivial⟩) ?_;rintro Sk ⟨k,rak,rck,vsk⟩ hlk ⟨hk,hvk,hik⟩;(try dsimp only at hk hvk hik);dsimp only [List.cons_append,List.nil_append]
 have hkl:((l.take k).map g).length≤k:=by rw [List.length_map,List.length_take];omega
 repeat (first|(refine Walk ?_;intros)|refine JC.block ?_|(refine WNew ?_;intros)|(refine WPut ?_;intros))
 refine JC.cond rfl (fun hc=>?_) (fun hc=>?_)
 ·have hk':=dlt hc
  obtain ⟨x,hx,_⟩:=drop_at hk'
  have hst:(l.take (k+1)).map g=(l.take k).map g++[g x]:=by rw [List.take_add_one,hx];simp
  repeat (first|(refine Walk ?_;intros)|refine JC.block ?_|(refine WNew ?_;intros)|(refine WPut ?_;intros))
  have hvx:=(by assumption:(rOwner).V _ _ x)
  (refine JO.eff rfl rfl rfl (JEff.dynV rfl (by assumption) rfl ((hf _ (by exact lea) _ x (by exact vta))) rfl ?_);intro _ _)
  repeat (first|(refine Walk ?_;intros)|refine JC.block ?_|(refine WNew ?_;intros)|(refine WPut ?_;intros))
  (refine JO.eff rfl rfl rfl (JEff.build (rep:=rStr) (ys:=[g x]) rfl rfl ⟨⟨((hV _ _ x hvx).mono (by exact lea)),nna⟩,trivial⟩ rfl rfl rfl rfl ?_);intro bb hbb hvv);(repeat (first|(refine Walk ?_;intros)|refine JC.block ?_));(refine JO.eff rfl rfl rfl (JEff.appendL (rep:=rStr) rfl rfl rfl rfl (List.Perm.swap _ _ _) (by exact hvv.flat) (by intro c hc;exact flat_one (fun v hv=>(hvv.size v hv).2) c hc) (by first|omega|(unfold big;omega)) (by unfold big;omega) (by first|exact rowT_ok|(intro l hl;cases hl)) rfl ?_);intro a2 c2;clear hvv hbb)
  repeat (first|(refine Walk ?_;intros)|refine JC.block ?_|(refine WNew ?_;intros)|(refine WPut ?_;intros))
  exact JX.roundF (k+1,a2,c2,vsk++[((Value.string (g x)))]) (by exact lea) ⟨by omega,by (try dsimp only);rw [hst];exact allV_add (by exact lea) hvk ((hV _ _ x hvx).mono (by exact lea)) nna,(trivial)⟩ (by (try dsimp only);omega) (by (try dsimp only);rw [hst];(simp [flat_append]<;>omega)) (by (try dsimp only);rw [hst];simp only [List.length_append,List.length_cons,List.length_nil];exact sba) (by exact sba)
 ·have hk':=dnlt hc
  rw [List.take_of_length_le hk'] at hvk hkl ⊢
  repeat (first|(refine Walk ?_;intros)|refine JC.block ?_|(refine WNew ?_;intros)|(refine WPut ?_;intros))
  refine JX.freezeRow (rep:=rStr) (bt:=16) hvk rfl (by unfold big;rw [List.length_map];omega) (by unfold big;rw [List.length_map];omega) (fun S9 hl9 hV9=>?_)
  (refine JX.ret1 Tryz.results199 (ResV.tmp rfl) (List.nil_sublist _) ?_)
  exact ⟨rfl,hV9⟩
theorem p5_each_NV {S:SHeap} {u:Value} {l:List Node} {f:FuncId} {fs cs:Array Value} (g:Node→(List Int)) (hn:l.length≤1300000000000) (hu:(rSlice 112 rNode).V S u l) (hE:Ent Tryz.prog f) (hV:∀ S v x,(rNode).V S v x→((rArr 5)).V S (Value.agg (ints (g x))) (g x))
  (hf:∀ S',S.le S'→∀ u x,(rNode).V S' u x→FnV Tryz.prog f (fs.toList++[u]++cs.toList).toArray S' (Value.agg (ints (g x)))):FnL Tryz.prog 140 #[u,.func (.func f) fs cs] S 40 (rArr 5) (l.map g):=by
 obtain ⟨a,c,rfl,_,_,hb,_⟩:=V_slice.1 hu
 unfold big at hb
 (refine Fn.enter (args:=[.slice a l.length c,.func (.func f) fs cs]) Tryz.func140 rfl Tryz.ntmps140 rfl ?_;intro w0)
 repeat (first|(refine Walk ?_;intros)|refine JC.block ?_|(refine WNew ?_;intros)|(refine WPut ?_;intros))
 refine JO.eff rfl rfl rfl (JEff.makeRow (rep:=rVec) rfl rfl (by unfold big;omega) (by unfold big;omega) rfl ?_);intro a0
 repeat (first|(refine Walk ?_;intros)|refine JC.block ?_|(refine WNew ?_;intros)|(refine WPut ?_;intros))
 refine JC.loopF (σ:=Nat × Option Addr × Nat × List Value) [(1,_),(11,_),(12,_)] (fun q=>[(5,.slice q.2.1 ((fun k=>(l.take k).map g) q.1).length q.2.2.1),(13,((fun k=>.int .i64 k) q.1))]) (fun q=>[.row w0.heap.size 91 (Rp.sz rVec) (.slice q.2.1 ((fun k=>(l.take k).map g) q.1).length q.2.2.1) ((fun k=>(l.take k).map g) q.1).length (flatCells q.2.2.2)]) (fun Sk q=>q.1≤l.length∧allV rVec Sk q.2.2.2 ((fun k=>(l.take k).map g) q.1)∧((fun k=>True) q.1)) (fun q=>l.length - q.1) (0,a0,l.length,[]) (by exact sba) (by exact sba) (by first|rfl|simp) (⟨Nat.zero_le _,trivial,trivial⟩) ?_;rintro Sk ⟨k,rak,rck,vsk⟩ hlk ⟨hk,hvk,hik⟩;(try dsimp only at hk hvk hik);dsimp only [List.cons_append,List.nil_append]
 have hkl:((l.take k).map g).length≤k:=by rw [List.length_map,List.length_take];omega
 repeat (first|(refine Walk ?_;intros)|refine JC.block ?_|(refine WNew ?_;intros)|(refine WPut ?_;intros))
 refine JC.cond rfl (fun hc=>?_) (fun hc=>?_)
 ·have hk':=dlt hc
  obtain ⟨x,hx,_⟩:=drop_at hk'
  have hst:(l.take (k+1)).map g=(l.take k).map g++[g x]:=by rw [List.take_add_one,hx];simp
  repeat (first|(refine Walk ?_;intros)|refine JC.block ?_|(refine WNew ?_;intros)|(refine WPut ?_;intros))
  have hvx:=(by assumption:(rNode).V _ _ x)
  (refine JO.eff rfl rfl rfl (JEff.dynV rfl (by assumption) rfl ((hf _ (by exact lea) _ x (by exact vta))) rfl ?_);intro _ _)
  repeat (first|(refine Walk ?_;intros)|refine JC.block ?_|(refine WNew ?_;intros)|(refine WPut ?_;intros))
  (refine JO.eff rfl rfl rfl (JEff.build (rep:=rVec) (ys:=[g x]) rfl rfl ⟨⟨((hV _ _ x hvx).mono (by exact lea)),nna⟩,trivial⟩ rfl rfl rfl rfl ?_);intro bb hbb hvv);(repeat (first|(refine Walk ?_;intros)|refine JC.block ?_));(refine JO.eff rfl rfl rfl (JEff.appendL (rep:=rVec) rfl rfl rfl rfl (List.Perm.swap _ _ _) (by exact hvv.flat) (by intro c hc;exact flat_one (fun v hv=>(hvv.size v hv).2) c hc) (by first|omega|(unfold big;omega)) (by unfold big;omega) (by first|exact rowT_ok|(intro l hl;cases hl)) rfl ?_);intro a2 c2;clear hvv hbb)
  repeat (first|(refine Walk ?_;intros)|refine JC.block ?_|(refine WNew ?_;intros)|(refine WPut ?_;intros))
  exact JX.roundF (k+1,a2,c2,vsk++[((Value.agg (ints (g x))))]) (by exact lea) ⟨by omega,by (try dsimp only);rw [hst];exact allV_add (by exact lea) hvk ((hV _ _ x hvx).mono (by exact lea)) nna,(trivial)⟩ (by (try dsimp only);omega) (by (try dsimp only);rw [hst];(simp [flat_append]<;>omega)) (by (try dsimp only);rw [hst];simp only [List.length_append,List.length_cons,List.length_nil];exact sba) (by exact sba)
 ·have hk':=dnlt hc
  rw [List.take_of_length_le hk'] at hvk hkl ⊢
  repeat (first|(refine Walk ?_;intros)|refine JC.block ?_|(refine WNew ?_;intros)|(refine WPut ?_;intros))
  refine JX.freezeRow (rep:=rVec) (bt:=40) hvk rfl (by unfold big;rw [List.length_map];omega) (by unfold big;rw [List.length_map];omega) (fun S9 hl9 hV9=>?_)
  (refine JX.ret1 Tryz.results140 (ResV.tmp rfl) (List.nil_sublist _) ?_)
  exact ⟨rfl,hV9⟩
theorem p5_each_PV {S:SHeap} {u:Value} {l:List Pod} {f:FuncId} {fs cs:Array Value} (g:Pod→(List Int)) (hn:l.length≤1300000000000) (hu:(rSlice 240 rPod).V S u l) (hE:Ent Tryz.prog f) (hV:∀ S v x,(rPod).V S v x→((rArr 5)).V S (Value.agg (ints (g x))) (g x))
  (hf:∀ S',S.le S'→∀ u x,(rPod).V S' u x→FnV Tryz.prog f (fs.toList++[u]++cs.toList).toArray S' (Value.agg (ints (g x)))):FnL Tryz.prog 142 #[u,.func (.func f) fs cs] S 40 (rArr 5) (l.map g):=by
 obtain ⟨a,c,rfl,_,_,hb,_⟩:=V_slice.1 hu
 unfold big at hb
 (refine Fn.enter (args:=[.slice a l.length c,.func (.func f) fs cs]) Tryz.func142 rfl Tryz.ntmps142 rfl ?_;intro w0)
 repeat (first|(refine Walk ?_;intros)|refine JC.block ?_|(refine WNew ?_;intros)|(refine WPut ?_;intros))
 refine JO.eff rfl rfl rfl (JEff.makeRow (rep:=rVec) rfl rfl (by unfold big;omega) (by unfold big;omega) rfl ?_);intro a0
 repeat (first|(refine Walk ?_;intros)|refine JC.block ?_|(refine WNew ?_;intros)|(refine WPut ?_;intros))
 refine JC.loopF (σ:=Nat × Option Addr × Nat × List Value) [(1,_),(11,_),(12,_)] (fun q=>[(5,.slice q.2.1 ((fun k=>(l.take k).map g) q.1).length q.2.2.1),(13,((fun k=>.int .i64 k) q.1))]) (fun q=>[.row w0.heap.size 91 (Rp.sz rVec) (.slice q.2.1 ((fun k=>(l.take k).map g) q.1).length q.2.2.1) ((fun k=>(l.take k).map g) q.1).length (flatCells q.2.2.2)]) (fun Sk q=>q.1≤l.length∧allV rVec Sk q.2.2.2 ((fun k=>(l.take k).map g) q.1)∧((fun k=>True) q.1)) (fun q=>l.length - q.1) (0,a0,l.length,[]) (by exact sba) (by exact sba) (by first|rfl|simp) (⟨Nat.zero_le _,trivial,trivial⟩) ?_;rintro Sk ⟨k,rak,rck,vsk⟩ hlk ⟨hk,hvk,hik⟩;(try dsimp only at hk hvk hik);dsimp only [List.cons_append,List.nil_append]
 have hkl:((l.take k).map g).length≤k:=by rw [List.length_map,List.length_take];omega
 repeat (first|(refine Walk ?_;intros)|refine JC.block ?_|(refine WNew ?_;intros)|(refine WPut ?_;intros))
 refine JC.cond rfl (fun hc=>?_) (fun hc=>?_)
 ·have hk':=dlt hc
  obtain ⟨x,hx,_⟩:=drop_at hk'
  have hst:(l.take (k+1)).map g=(l.take k).map g++[g x]:=by rw [List.take_add_one,hx];simp
  repeat (first|(refine Walk ?_;intros)|refine JC.block ?_|(refine WNew ?_;intros)|(refine WPut ?_;intros))
  have hvx:=(by assumption:(rPod).V _ _ x)
  (refine JO.eff rfl rfl rfl (JEff.dynV rfl (by assumption) rfl ((hf _ (by exact lea) _ x (by exact vta))) rfl ?_);intro _ _)
  repeat (first|(refine Walk ?_;intros)|refine JC.block ?_|(refine WNew ?_;intros)|(refine WPut ?_;intros))
  (refine JO.eff rfl rfl rfl (JEff.build (rep:=rVec) (ys:=[g x]) rfl rfl ⟨⟨((hV _ _ x hvx).mono (by exact lea)),nna⟩,trivial⟩ rfl rfl rfl rfl ?_);intro bb hbb hvv);(repeat (first|(refine Walk ?_;intros)|refine JC.block ?_));(refine JO.eff rfl rfl rfl (JEff.appendL (rep:=rVec) rfl rfl rfl rfl (List.Perm.swap _ _ _) (by exact hvv.flat) (by intro c hc;exact flat_one (fun v hv=>(hvv.size v hv).2) c hc) (by first|omega|(unfold big;omega)) (by unfold big;omega) (by first|exact rowT_ok|(intro l hl;cases hl)) rfl ?_);intro a2 c2;clear hvv hbb)
  repeat (first|(refine Walk ?_;intros)|refine JC.block ?_|(refine WNew ?_;intros)|(refine WPut ?_;intros))
  exact JX.roundF (k+1,a2,c2,vsk++[((Value.agg (ints (g x))))]) (by exact lea) ⟨by omega,by (try dsimp only);rw [hst];exact allV_add (by exact lea) hvk ((hV _ _ x hvx).mono (by exact lea)) nna,(trivial)⟩ (by (try dsimp only);omega) (by (try dsimp only);rw [hst];(simp [flat_append]<;>omega)) (by (try dsimp only);rw [hst];simp only [List.length_append,List.length_cons,List.length_nil];exact sba) (by exact sba)
 ·have hk':=dnlt hc
  rw [List.take_of_length_le hk'] at hvk hkl ⊢
  repeat (first|(refine Walk ?_;intros)|refine JC.block ?_|(refine WNew ?_;intros)|(refine WPut ?_;intros))
  refine JX.freezeRow (rep:=rVec) (bt:=40) hvk rfl (by unfold big;rw [List.length_map];omega) (by unfold big;rw [List.length_map];omega) (fun S9 hl9 hV9=>?_)
  (refine JX.ret1 Tryz.results142 (ResV.tmp rfl) (List.nil_sublist _) ?_)
  exact ⟨rfl,hV9⟩
end Go.Dr
namespace Go.Dr
open Go.Proofs
set_option maxRecDepth 20000
set_option maxHeartbeats 2000000
set_option linter.unusedSimpArgs false
set_option linter.unusedVariables false
theorem node_name {S:SHeap} {v:Value} {x:Node} (h:rNode.V S v x):x.name.size≤big:=by
 obtain ⟨cs,h,_⟩:=h
 obtain ⟨c1,c2,_,⟨_,h1⟩,_⟩:=h
 exact h1
theorem pod_name {S:SHeap} {v:Value} {x:Pod} (h:rPod.V S v x):x.name.size≤big:=by
 obtain ⟨cs,h,_⟩:=h
 obtain ⟨c1,c2,_,⟨_,h1⟩,_⟩:=h
 exact h1
theorem owner_name {S:SHeap} {v:Value} {x:Owner} (h:rOwner.V S v x):x.name.size≤big:=by
 obtain ⟨cs,h,_⟩:=h
 obtain ⟨c1,c2,_,⟨_,h1⟩,_⟩:=h
 exact h1
theorem p5_nodes1 {S:SHeap} {u:Value} {x:Node} (hu:rNode.V S u x):FnV Tryz.prog 196 #[u] S (.string x.name):=by
 (refine Fn.enter (args:=[u]) Tryz.func196 rfl Tryz.ntmps196 rfl ?_;intro w0)
 repeat (first|(refine Walk ?_;intros)|refine JC.block ?_|(refine WBox ?_;intros))
 (refine JX.ret1 Tryz.results196 (ResV.tmp rfl) (List.nil_sublist _) ?_)
 exact ⟨rfl,rfl⟩
theorem p5_pods1 {S:SHeap} {u:Value} {x:Pod} (hu:rPod.V S u x):FnV Tryz.prog 198 #[u] S (.string x.name):=by
 (refine Fn.enter (args:=[u]) Tryz.func198 rfl Tryz.ntmps198 rfl ?_;intro w0)
 repeat (first|(refine Walk ?_;intros)|refine JC.block ?_|(refine WBox ?_;intros))
 (refine JX.ret1 Tryz.results198 (ResV.tmp rfl) (List.nil_sublist _) ?_)
 exact ⟨rfl,rfl⟩
theorem p5_owners1 {S:SHeap} {u:Value} {x:Owner} (hu:rOwner.V S u x):FnV Tryz.prog 200 #[u] S (.string x.name):=by
 (refine Fn.enter (args:=[u]) Tryz.func200 rfl Tryz.ntmps200 rfl ?_;intro w0)
 repeat (first|(refine Walk ?_;intros)|refine JC.block ?_|(refine WBox ?_;intros))
 (refine JX.ret1 Tryz.results200 (ResV.tmp rfl) (List.nil_sublist _) ?_)
 exact ⟨rfl,rfl⟩
theorem p5_nodes {S:SHeap} {u:Value} {s:Snap} (hu:rSnap.V S u s) (hn:s.nodes.length≤1300000000000):FnL Tryz.prog 127 #[u] S 16 rStr (nNames s):=by
 (refine Fn.enter (args:=[u]) Tryz.func127 rfl Tryz.ntmps127 rfl ?_;intro w0)
 repeat (first|(refine Walk ?_;intros)|refine JC.block ?_|(refine WBox ?_;intros))
 (refine JO.eff rfl rfl rfl (JEff.callR rfl (p5_each_NS (l:=s.nodes) Node.name hn (by exact vta) inferInstance (fun S v x h=>V_str.2 ⟨rfl,node_name h⟩) (fun S' h u x hx=>p5_nodes1 hx)) rfl ?_);intro w S2 hl2 hV)
 repeat (first|(refine Walk ?_;intros)|refine JC.block ?_|(refine WBox ?_;intros))
 (refine JX.ret1 Tryz.results127 (ResV.tmp rfl) (List.nil_sublist _) ?_)
 exact ⟨rfl,hV⟩
theorem p5_pods {S:SHeap} {u:Value} {s:Snap} (hu:rSnap.V S u s) (hn:s.pods.length≤1300000000000):FnL Tryz.prog 128 #[u] S 16 rStr (pNames s):=by
 (refine Fn.enter (args:=[u]) Tryz.func128 rfl Tryz.ntmps128 rfl ?_;intro w0)
 repeat (first|(refine Walk ?_;intros)|refine JC.block ?_|(refine WBox ?_;intros))
 (refine JO.eff rfl rfl rfl (JEff.callR rfl (p5_each_PS (l:=s.pods) Pod.name hn (by exact vta) inferInstance (fun S v x h=>V_str.2 ⟨rfl,pod_name h⟩) (fun S' h u x hx=>p5_pods1 hx)) rfl ?_);intro w S2 hl2 hV)
 repeat (first|(refine Walk ?_;intros)|refine JC.block ?_|(refine WBox ?_;intros))
 (refine JX.ret1 Tryz.results128 (ResV.tmp rfl) (List.nil_sublist _) ?_)
 exact ⟨rfl,hV⟩
theorem p5_owners {S:SHeap} {u:Value} {s:Snap} (hu:rSnap.V S u s) (hn:s.owners.length≤1300000000000):FnL Tryz.prog 129 #[u] S 16 rStr (oNames s):=by
 (refine Fn.enter (args:=[u]) Tryz.func129 rfl Tryz.ntmps129 rfl ?_;intro w0)
 repeat (first|(refine Walk ?_;intros)|refine JC.block ?_|(refine WBox ?_;intros))
 (refine JO.eff rfl rfl rfl (JEff.callR rfl (p5_each_OS (l:=s.owners) Owner.name hn (by exact vta) inferInstance (fun S v x h=>V_str.2 ⟨rfl,owner_name h⟩) (fun S' h u x hx=>p5_owners1 hx)) rfl ?_);intro w S2 hl2 hV)
 repeat (first|(refine Walk ?_;intros)|refine JC.block ?_|(refine WBox ?_;intros))
 (refine JX.ret1 Tryz.results129 (ResV.tmp rfl) (List.nil_sublist _) ?_)
 exact ⟨rfl,hV⟩
theorem p_Index_string {S:SHeap} {u:Value} {l:List ByteArray} (name:ByteArray) (hu:(rSlice 16 rStr).V S u l):FnV Tryz.prog 164 #[u,.string name] S (.int .i64 (idxS l name)):=by
 obtain ⟨a,c,rfl,_,_,hb,_⟩:=V_slice.1 hu
 unfold big at hb
 (refine Fn.enter (args:=[.slice a l.length c,.string name]) Tryz.func164 rfl Tryz.ntmps164 rfl ?_;intro w0)
 repeat (first|(refine Walk ?_;intros)|refine JC.block ?_)
 refine JC.loopF0 [(0,_),(1,_),(7,_)] (fun (k:Nat)=>[(8,.int .i64 k)]) (fun Sk k=>k≤l.length∧(l.findIdx? (fun x=>decide (x=name))=((l.drop k).findIdx? (fun x=>decide (x=name))).map (·+k))) (fun k=>l.length - k) 0 (by exact sba) (by exact sba) ⟨Nat.zero_le _,by simp⟩ ?_;intro Sk k hlk hik;obtain ⟨hk,hik⟩:=hik;(try dsimp only at hk hik);dsimp only [List.cons_append,List.nil_append]
 repeat (first|(refine Walk ?_;intros)|refine JC.block ?_)
 refine JC.cond rfl (fun hc=>?_) (fun hc=>?_)
 ·have hk':=dlt hc
  obtain ⟨x,hx,hd⟩:=drop_at hk'
  repeat (first|(refine Walk ?_;intros)|refine JC.block ?_)
  refine JC.cond rfl (fun h1=>?_) (fun h1=>?_)
  ·have h1:decide (x=name)=true:=by have:=of_decide_eq_true h1;simp [this]
   repeat (first|(refine Walk ?_;intros)|refine JC.block ?_)
   (refine JX.ret1 Tryz.results164 (ResV.tmp rfl) (List.nil_sublist _) ?_)
   exact ⟨rfl,by rw [idxS,idx_hit hd h1 hik]⟩
  ·have h1:decide (x=name)=false:=by have:=of_decide_eq_false h1;simp;exact fun h=>this h.symm
   repeat (first|(refine Walk ?_;intros)|refine JC.block ?_)
   exact JX.roundF (k+1) (by exact lea) ⟨by omega,(idx_step hd h1 hik)⟩ (by (try dsimp only);omega) rfl (by exact sba) (by exact sba)
 ·have hk':=dnlt hc
  repeat (first|(refine Walk ?_;intros)|refine JC.block ?_)
  (refine JX.ret1 Tryz.results164 (ResV.tmp rfl) (List.nil_sublist _) ?_)
  exact ⟨rfl,by rw [idxS,idx_miss (List.drop_eq_nil_of_le hk') hik]⟩
theorem p5_Node {S:SHeap} {u:Value} {s:Snap} (name:ByteArray) (hu:rSnap.V S u s) (hn:s.nodes.length≤1300000000000):FnV Tryz.prog 99 #[u,.string name] S (.int .i64 (idxS (nNames s) name)):=by
 (refine Fn.enter (args:=[u,.string name]) Tryz.func99 rfl Tryz.ntmps99 rfl ?_;intro w0)
 repeat (first|(refine Walk ?_;intros)|refine JC.block ?_|(refine JO.eff rfl rfl rfl (JEff.callL rfl (p5_nodes (by exact vta) (by omega)) rfl ?_);intro _ _ _ _ _ _)|(refine JO.eff rfl rfl rfl (JEff.callV rfl (p_Index_string _ (by exact vta)) rfl ?_);intro _ _)|(refine WBox ?_;intros))
 (refine JX.ret1 Tryz.results99 (ResV.tmp rfl) (List.nil_sublist _) ?_)
 exact ⟨rfl,rfl⟩
theorem p5_Owner {S:SHeap} {u:Value} {s:Snap} (name:ByteArray) (hu:rSnap.V S u s) (hn:s.owners.length≤1300000000000):FnV Tryz.prog 206 #[u,.string name] S (.int .i64 (idxS (oNames s) name)):=by
 (refine Fn.enter (args:=[u,.string name]) Tryz.func206 rfl Tryz.ntmps206 rfl ?_;intro w0)
 repeat (first|(refine Walk ?_;intros)|refine JC.block ?_|(refine JO.eff rfl rfl rfl (JEff.callL rfl (p5_owners (by exact vta) (by omega)) rfl ?_);intro _ _ _ _ _ _)|(refine JO.eff rfl rfl rfl (JEff.callV rfl (p_Index_string _ (by exact vta)) rfl ?_);intro _ _)|(refine WBox ?_;intros))
 (refine JX.ret1 Tryz.results206 (ResV.tmp rfl) (List.nil_sublist _) ?_)
 exact ⟨rfl,rfl⟩
theorem p_isNaN {S:SHeap} (a:ByteArray):FnV Tryz.prog 312 #[.string a] S (.bool false):=by
 (refine Fn.enter (args:=[.string a]) Tryz.func312 rfl Tryz.ntmps312 rfl ?_;intro w0)
 repeat (first|(refine Walk ?_;intros)|refine JC.block ?_)
 (refine JX.ret1 Tryz.results312 (ResV.tmp rfl) (List.nil_sublist _) ?_)
 exact ⟨rfl,by simp⟩
theorem p_Less {S:SHeap} (a b:ByteArray):FnV Tryz.prog 264 #[.string a,.string b] S (.bool (ltS a b)):=by
 (refine Fn.enter (args:=[.string a,.string b]) Tryz.func264 rfl Tryz.ntmps264 rfl ?_;intro w0)
 repeat (first|(refine Walk ?_;intros)|refine JC.block ?_|(refine JO.eff rfl rfl rfl (JEff.callV rfl (p_isNaN _) rfl ?_);intro _ _))
 (refine JX.ret1 Tryz.results264 (ResV.tmp rfl) (List.nil_sublist _) ?_)
 exact ⟨rfl,rfl⟩
theorem s192_L5q {P K:Prop} (k:K) (h:Goal K→P:=by
 intro zk
 (first|refine Walk ?_|refine JC.block ?_|refine JC.drawN 4 rfl [0,1,2,3,4,5,6,7,8,9] [0,1,2,3,4,5,6,7,8] Tryz_mixed (by decide +kernel) ?_|(refine JO.eff rfl rfl rfl (JEff.callV rfl (p_Less _ _) rfl ?_);intro zqa zqb))
 (repeat (first|revert zqg|revert zqf|revert zqe|revert zqd|revert zqc|revert zqb|revert zqa))
 exact zk.k):P:=h ⟨k⟩
theorem p_IsSorted {S:SHeap} {u:Value} {l:List ByteArray} (hu:(rSlice 16 rStr).V S u l):FnV Tryz.prog 192 #[u] S (.bool (sortedB l)):=by
 obtain ⟨a,c,rfl,_,_,hb,_⟩:=V_slice.1 hu
 unfold big at hb
 (refine Fn.enter (args:=[.slice a l.length c]) Tryz.func192 rfl Tryz.ntmps192 rfl ?_;intro w0)
 repeat (refine s192_L5q ?_;intros)
 refine JC.loopF0 (σ:=Int) [(0,_)] (fun i=>[(3,.int .i64 i)]) (fun Si i=>-1≤i∧i≤(l.length:Int) - 1∧∀ (j:Nat) (x y:ByteArray),i≤j→l[j]?=some x→l[j+1]?=some y→(!ltS y x)=true) (fun i=>i.toNat) ((l.length:Int) - 1) (by exact sba) (by exact sba) (⟨by omega,Int.le_refl _,fun j x y hj _ hy=>by have:=(List.getElem?_eq_some_iff.1 hy).1;omega⟩) ?_;rintro Si i hli hii;(try dsimp only at hii);dsimp only [List.cons_append,List.nil_append]
 obtain ⟨h1,h2,h3⟩:=hii
 repeat (refine s192_L5q ?_;intros)
 refine JC.cond rfl (fun hc=>?_) (fun hc=>?_)
 ·have hc:=of_decide_eq_true hc
  obtain ⟨m,rfl⟩:∃ m:Nat,i=(m:Int)+1:=⟨(i - 1).toNat,by omega⟩
  obtain ⟨y,hy⟩:∃ y,l[((m:Int)+1).toNat]?=some y:=⟨_,List.getElem?_eq_getElem (by omega)⟩
  obtain ⟨x,hx⟩:∃ x,l[((m:Int)+1 - 1).toNat]?=some x:=⟨_,List.getElem?_eq_getElem (by omega)⟩
  have hy':l[m+1]?=some y:=by rw [← hy];congr 1
  have hx':l[m]?=some x:=by rw [← hx];congr 1;omega
  repeat (refine s192_L5q ?_;intros)
  refine JC.cond rfl (fun hlt=>?_) (fun hlt=>?_)
  ·repeat (refine s192_L5q ?_;intros)
   (refine JX.ret1 Tryz.results192 (ResV.tmp rfl) (List.nil_sublist _) ?_)
   refine ⟨rfl,?_⟩
   congr 1
   cases hs:sortedB l with
   | false=>rfl
   | true=>have:=adj_iff.1 hs m x y hx' hy';rw [hlt] at this;cases this
  ·repeat (refine s192_L5q ?_;intros)
   have h4:∀ (j:Nat) (x' y':ByteArray),(m:Int)+1 - 1≤j→l[j]?=some x'→l[j+1]?=some y'→(!ltS y' x')=true:=by
    intro j x' y' hj hx2 hy2
    rcases Nat.eq_or_lt_of_le (show m≤j by omega) with rfl|h
    ·rw [hx'] at hx2;rw [hy'] at hy2;cases hx2;cases hy2;rw [hlt];rfl
    ·exact h3 j x' y' (by omega) hx2 hy2
   exact JX.roundF ((m:Int)+1 - 1) (by exact lea) (⟨by omega,by omega,h4⟩) (by (try dsimp only);omega) rfl (by exact sba) (by exact sba)
 ·have hc:=of_decide_eq_false hc
  repeat (refine s192_L5q ?_;intros)
  (refine JX.ret1 Tryz.results192 (ResV.tmp rfl) (List.nil_sublist _) ?_)
  refine ⟨rfl,?_⟩
  congr 1
  exact (adj_iff.2 (fun j x y hx hy=>h3 j x y (by omega) hx hy)).symm
theorem p_Clone_string {S:SHeap} {u:Value} {l:List ByteArray} (hu:(rSlice 16 rStr).V S u l):FnRow Tryz.prog 194 #[u] S 9 rStr l:=by
 have hu0:=hu
 obtain ⟨a,c,rfl,_,hb16,hb,_⟩:=V_slice.1 hu
 unfold big at hb16 hb
 (refine FnRow.enter (args:=[.slice a l.length c]) Tryz.func194 rfl Tryz.ntmps194 rfl ?_;intro w0)
 repeat (first|(refine Walk ?_;intros)|refine JC.block ?_)
 refine JO.pure rfl rfl rfl (JPure.eqNil rfl rfl rfl ?_)
 repeat (first|(refine Walk ?_;intros)|refine JC.block ?_)
 refine JC.cond rfl (fun hn=>?_) (fun hn=>?_)
 ·have ha:a=none:=by simpa using hn
  subst ha
  have hl:l=[]:=nil_slice hu0
  subst hl
  repeat (first|(refine Walk ?_;intros)|refine JC.block ?_)
  (first|refine JC.newRow 9 (Rp.sz rStr) ?_|refine JO.newRow 9 (Rp.sz rStr) ?_|refine JX.newRow 9 (Rp.sz rStr) ?_)
  exact JX.retRow (vs:=[]) Tryz.results194 (ResV.tmp rfl) rfl trivial
 ·repeat (first|(refine Walk ?_;intros)|refine JC.block ?_)
  refine JO.eff rfl rfl rfl (JEff.build0 rStr rfl ?_);intro b0
  repeat (first|(refine Walk ?_;intros)|refine JC.block ?_)
  (refine JO.eff rfl rfl rfl (JEff.appendS (rep:=rStr) rfl rfl (hu0.mono (by exact lea)) rfl rfl (List.Perm.refl _) (by unfold big;omega) (by unfold big;omega) (by intro l hl;cases hl) rfl ?_);intro a2 c2 us1 hus1)
  repeat (first|(refine Walk ?_;intros)|refine JC.block ?_)
  exact JX.retRow Tryz.results194 (ResV.tmp rfl) (Nat.zero_add _) hus1
end Go.Dr
namespace Go.Dr
open Go.Proofs
set_option maxRecDepth 20000
set_option maxHeartbeats 2000000
set_option linter.unusedSimpArgs false
set_option linter.unusedVariables false
def uniqTo (l:List ByteArray) (k:Nat):Prop:=∀ (j:Nat) (x y:ByteArray),j+1 < k→l[j]?=some x→l[j+1]?=some y→¬ y=x
theorem s193_L5w {P K:Prop} (k:K) (h:Goal K→P:=by
 intro zk
 (first|refine Walk ?_|refine JC.block ?_|refine JC.drawN 6 rfl [0,1,2,3,4,5,6,7,8,9] [0,1,2,3,4,5,6,7,8,9] Tryz_mixed (by decide +kernel) ?_|refine JC.drawN 11 rfl [0,1,2,3,4,5,6,7,8,9] [0,1,2,3,4,5,6,7,8,9] Tryz_mixed (by decide +kernel) ?_)
 (repeat (first|revert zqg|revert zqf|revert zqe|revert zqd|revert zqc|revert zqb|revert zqa))
 exact zk.k):P:=h ⟨k⟩
theorem p_Compact {S:SHeap} {base n c:Nat} {vs:List Value} {xs:List ByteArray} {a:Option Addr} (hv:allV rStr S vs xs) (hn:n=xs.length) (hb:n≤1000000) (hc:n≤c) :
  Fn Tryz.prog 193 #[.slice a n c] S [.row base 9 1 (.slice a n c) n (flatCells vs)] (fun w S' M'=>M'=[]∧∃ a' m c',w=.slice a' m c'∧decide (m=n)=uniqB xs):=by
 (refine Fn.enter (args:=[.slice a n c]) Tryz.func193 rfl Tryz.ntmps193 rfl ?_;intro w0)
 repeat (refine s193_L5w ?_;intros)
 refine JC.cond rfl (fun h2=>?_) (fun h2=>?_)
 ·have h2:n < 2:=by have:=of_decide_eq_true h2;omega
  have hu:uniqB xs=true:=by
   match xs,hn with
   | [],_=>rfl
   | [x],_=>rfl
   | x::y::l,hn=>simp at hn;omega
  repeat (refine s193_L5w ?_;intros)
  refine JX.ret1 Tryz.results193 (ResV.tmp rfl) (List.nil_sublist _) ?_
  exact ⟨rfl,_,_,_,rfl,by rw [hu];simp⟩
 have h2:2≤n:=by have:=of_decide_eq_false h2;omega
 repeat (refine s193_L5w ?_;intros)
 refine JC.rowBlkB (by omega) (fun b tl hab hnc hsz=>?_)
 subst hab
 refine JC.loopF [(0,_)] (fun (k:Nat)=>[(3,.int .i64 ((k:Int)+1))]) (fun k=>[.blk b (.cells (cellsR vs tl) 9 (0,0))]) (fun Sk k=>k≤n - 1∧(uniqTo xs (k+1))) (fun k=>n - 1 - k) 0 (by exact sba) (by exact sba) rfl ⟨Nat.zero_le _,by intro j x y hj;omega⟩ ?_;intro Sk k hlk hik;obtain ⟨hk,hik⟩:=hik;(try dsimp only at hk hik);dsimp only [List.cons_append,List.nil_append]
 repeat (refine s193_L5w ?_;intros)
 refine JC.cond rfl (fun hc0=>?_) (fun hc0=>?_)
 ·have hk':k+1 < n:=by have:=of_decide_eq_true hc0;omega
  obtain ⟨y,hy⟩:∃ y,xs[k+1]?=some y:=⟨_,List.getElem?_eq_getElem (by omega)⟩
  obtain ⟨x,hx⟩:∃ x,xs[k]?=some x:=⟨_,List.getElem?_eq_getElem (by omega)⟩
  repeat (refine s193_L5w ?_;intros)
  refine JO.pure rfl rfl rfl (JPure.indexRR rStr rfl rfl rfl (by omega) (by omega) ?_)
  refine JO.pure rfl rfl rfl (JPure.loadRT (j:=k+1) rfl (by show 0+((k:Int)+1).toNat*1=k+1;omega) (by (first|exact List.mem_cons_self|exact List.mem_cons_of_mem _ List.mem_cons_self|exact List.mem_cons_of_mem _ (List.mem_cons_of_mem _ List.mem_cons_self))) (hv.mono (by exact lea)) hy (.inl rfl) rfl ?_);intro hys
  repeat (refine s193_L5w ?_;intros)
  refine JO.pure rfl rfl rfl (JPure.indexRR rStr rfl rfl rfl (by omega) (by omega) ?_)
  refine JO.pure rfl rfl rfl (JPure.loadRT (j:=k) rfl (by show 0+((k:Int)+1 - 1).toNat*1=k;omega) (by (first|exact List.mem_cons_self|exact List.mem_cons_of_mem _ List.mem_cons_self|exact List.mem_cons_of_mem _ (List.mem_cons_of_mem _ List.mem_cons_self))) (hv.mono (by exact lea)) hx (.inl rfl) rfl ?_);intro hxs
  repeat (refine s193_L5w ?_;intros)
  refine JC.cond rfl (fun heq=>?_) (fun heq=>?_)
  ·have heq:y=x:=of_decide_eq_true heq
   have hu:uniqB xs=false:=by
    cases hh:uniqB xs with
    | false=>rfl
    | true=>
     have:=adj_iff.1 hh k x y hx hy
     simp [heq] at this
   repeat (refine s193_L5w ?_;intros)
   refine JO.pure rfl rfl rfl (JPure.sliceBlk rStr rfl rfl rfl rfl (by omega) (by omega) (Int.le_refl _) hnc (by omega) ?_)
   rw [show ((n:Int)).toNat - ((k:Int)+1).toNat=n - (k+1) by omega,show ((k:Int)+1).toNat=k+1 by omega]
   repeat (refine s193_L5w ?_;intros)
   refine JC.loopF (σ:=Nat × Nat × List Value × List ByteArray) [(0,_),(4,_)] (fun q=>[(3,.int .i64 q.1),(5,.int .i64 q.2.1)]) (fun q=>[.blk b (.cells (cellsR q.2.2.1 tl) 9 (0,0))]) (fun Sj q=>1≤q.2.1∧k+1+q.2.1≤n∧k+1≤q.1∧q.1+1≤k+1+q.2.1∧allV rStr Sj q.2.2.1 q.2.2.2∧q.2.2.2.length=n) (fun q=>n - q.2.1) ((k+1,1,vs,xs)) (by exact sba) (by exact sba) rfl (⟨Nat.le_refl _,by dsimp only;omega,Nat.le_refl _,Nat.le_refl _,hv.mono (by exact lea),hn.symm⟩) ?_;rintro Sj ⟨kk,k2,vs',xs'⟩ hlj hij;(try dsimp only at hij);dsimp only [List.cons_append,List.nil_append]
   obtain ⟨g1,g2,g3,g4,hv',hl'⟩:=hij
   repeat (refine s193_L5w ?_;intros)
   refine JC.cond rfl (fun hc1=>?_) (fun hc1=>?_)
   ·have hlt:k2 < n - (k+1):=by have:=of_decide_eq_true hc1;omega
    obtain ⟨y2,hy2⟩:∃ y2,xs'[k+1+k2]?=some y2:=⟨_,List.getElem?_eq_getElem (by omega)⟩
    obtain ⟨x2,hx2⟩:∃ x2,xs'[k+1+k2 - 1]?=some x2:=⟨_,List.getElem?_eq_getElem (by omega)⟩
    repeat (refine s193_L5w ?_;intros)
    refine JO.pure rfl rfl rfl (JPure.indexRR rStr rfl rfl rfl (by omega) (by omega) ?_)
    refine JO.pure rfl rfl rfl (JPure.loadRT (j:=k+1+k2) rfl (by show 0+(k+1)*1+((k2:Int)).toNat*1=k+1+k2;omega) (by (first|exact List.mem_cons_self|exact List.mem_cons_of_mem _ List.mem_cons_self|exact List.mem_cons_of_mem _ (List.mem_cons_of_mem _ List.mem_cons_self))) (hv'.mono (by exact lea)) hy2 (.inl rfl) rfl ?_);intro hys2
    repeat (refine s193_L5w ?_;intros)
    refine JO.pure rfl rfl rfl (JPure.indexRR rStr rfl rfl rfl (by omega) (by omega) ?_)
    refine JO.pure rfl rfl rfl (JPure.loadRT (j:=k+1+k2 - 1) rfl (by show 0+(k+1)*1+((k2:Int) - 1).toNat*1=k+1+k2 - 1;omega) (by (first|exact List.mem_cons_self|exact List.mem_cons_of_mem _ List.mem_cons_self|exact List.mem_cons_of_mem _ (List.mem_cons_of_mem _ List.mem_cons_self))) (hv'.mono (by exact lea)) hx2 (.inl rfl) rfl ?_);intro hxs2
    repeat (refine s193_L5w ?_;intros)
    refine JC.cond rfl (fun hne=>?_) (fun hne=>?_)
    ·repeat (refine s193_L5w ?_;intros)
     refine JO.pure rfl rfl rfl (JPure.indexRR rStr rfl rfl rfl (by omega) (by omega) ?_)
     refine JO.pure rfl rfl rfl (JPure.loadRT (j:=k+1+k2) rfl (by show 0+(k+1)*1+((k2:Int)).toNat*1=k+1+k2;omega) (by (first|exact List.mem_cons_self|exact List.mem_cons_of_mem _ List.mem_cons_self|exact List.mem_cons_of_mem _ (List.mem_cons_of_mem _ List.mem_cons_self))) (hv'.mono (by exact lea)) hy2 (.inl rfl) rfl ?_);intro hys3
     repeat (refine s193_L5w ?_;intros)
     refine JO.pure rfl rfl rfl (JPure.indexRR rStr rfl rfl rfl (by omega) (by omega) ?_)
     refine JO.eff rfl rfl rfl (JEff.storeRO (i:=kk) rfl (by show 0+((kk:Int)).toNat*1=kk*1;omega) rfl (hv'.mono (by exact lea)) (V_str.2 ⟨rfl,hys2⟩) nna (List.Perm.refl _) (by omega) (by intro l hl;cases hl) ?_);intro hv''
     repeat (refine s193_L5w ?_;intros)
     exact JX.roundF (kk+1,k2+1,_,_) (by exact lea) ⟨by dsimp only;omega,by dsimp only;omega,by dsimp only;omega,by dsimp only;omega,hv''.mono (by exact lea),by (try dsimp only);rw [List.length_set];exact hl'⟩ (by (try dsimp only);omega) rfl (by exact sba) (by exact sba)
    ·repeat (refine s193_L5w ?_;intros)
     exact JX.roundF (kk,k2+1,vs',xs') (by exact lea) ⟨by dsimp only;omega,by dsimp only;omega,by dsimp only;omega,by dsimp only;omega,hv'.mono (by exact lea),hl'⟩ (by (try dsimp only);omega) rfl (by exact sba) (by exact sba)
   ·repeat (refine s193_L5w ?_;intros)
    refine JO.pure rfl rfl rfl (JPure.sliceBlk rStr rfl rfl rfl rfl (by omega) (by omega) (Int.le_refl _) hnc (by omega) ?_)
    refine JO.eff rfl rfl rfl (JEff.clear rfl rfl rfl (by omega) (List.Perm.refl _) (by rw [show (cellsR vs' tl).size=(cellsR vs tl).size by unfold cellsR;simp;have e1:=flat_len (n:=1) (vs:=vs') (fun v h=>(hv'.size v h).1);have e2:=flat_len (n:=1) (vs:=vs) (fun v h=>(hv.size v h).1);have e3:=hv'.length;have e4:=hv.length;omega,hsz];show 0+((kk:Int)).toNat*1+_≤_;omega) (by intro l hl;cases hl) ?_);intro cur'
    repeat (refine s193_L5w ?_;intros)
    refine JO.pure rfl rfl rfl (JPure.sliceBlk rStr rfl rfl rfl rfl (by omega) (by omega) (by omega) hnc (by omega) ?_)
    repeat (refine s193_L5w ?_;intros)
    refine JX.ret1 Tryz.results193 (ResV.tmp rfl) (List.nil_sublist _) ?_
    exact ⟨rfl,_,_,_,rfl,by rw [hu];simp;omega⟩
  ·have heq:¬ y=x:=of_decide_eq_false heq
   have hnext:uniqTo xs (k+1+1):=by
    intro j x' y' hj hx2 hy2
    rcases Nat.eq_or_lt_of_le (show j≤k by omega) with rfl|h
    ·rw [hx] at hx2;rw [hy] at hy2;cases hx2;cases hy2;exact heq
    ·exact hik j x' y' (by omega) hx2 hy2
   repeat (refine s193_L5w ?_;intros)
   exact JX.roundF (k+1) (by exact lea) ⟨by omega,(hnext)⟩ (by (try dsimp only);omega) rfl (by exact sba) (by exact sba)
 ·have hk':n≤k+1:=by have:=of_decide_eq_false hc0;omega
  have hu:uniqB xs=true:=adj_iff.2 (fun j x y hx hy=>by
   have h:=hik j x y (by have:=(List.getElem?_eq_some_iff.1 hy).1;omega) hx hy
   simpa using h)
  repeat (refine s193_L5w ?_;intros)
  refine JX.ret1 Tryz.results193 (ResV.tmp rfl) (List.nil_sublist _) ?_
  exact ⟨rfl,_,_,_,rfl,by rw [hu];simp⟩
end Go.Dr
namespace Go.Dr
open Go.Proofs
set_option maxRecDepth 20000
set_option maxHeartbeats 2000000
set_option linter.unusedSimpArgs false
set_option linter.unusedVariables false
theorem p5_rise1 {S:SHeap} (s:ByteArray) (hs:s.size≤big):FnV Tryz.prog 191 #[.string s] S (.bool (!nameB s)):=by
 (refine Fn.enter (args:=[.string s]) Tryz.func191 rfl Tryz.ntmps191 rfl ?_;intro w0)
 repeat (first|(refine Walk ?_;intros)|refine JC.block ?_|(refine JO.eff rfl rfl rfl (JEff.callV rfl (p3_Name _ (by assumption)) rfl ?_);intro _ _))
 (refine JX.ret1 Tryz.results191 (ResV.tmp rfl) (List.nil_sublist _) ?_)
 exact ⟨rfl,rfl⟩
theorem s126_L5x {P K:Prop} (k:K) (h:Goal K→P:=by
 intro zk
 (first|refine Walk ?_|refine JC.block ?_|(refine JO.eff rfl rfl rfl (JEff.callV rfl (p_IsSorted (by exact vta)) rfl ?_);intro zqa zqb)|(refine JO.eff rfl rfl rfl (JEff.callRow rfl (p_Clone_string (by exact vta)) rfl ?_);intro zqa zqb zqc zqd zqe zqf))
 (repeat (first|revert zqg|revert zqf|revert zqe|revert zqd|revert zqc|revert zqb|revert zqa))
 exact zk.k):P:=h ⟨k⟩
theorem p5_rise {S:SHeap} {u:Value} {l:List ByteArray} (hu:(rSlice 16 rStr).V S u l) (hb:l.length≤1000000):FnV Tryz.prog 126 #[u] S (.bool (riseN none l)):=by
 obtain ⟨a,c,rfl,_,_,_,_⟩:=V_slice.1 hu
 rw [rise_eq]
 (refine Fn.enter (args:=[.slice a l.length c]) Tryz.func126 rfl Tryz.ntmps126 rfl ?_;intro w0)
 repeat (refine s126_L5x ?_;intros)
 (refine JO.eff rfl rfl rfl (JEff.callV rfl ((p_ContainsFunc_string (fun s=>!nameB s) (by exact vta) inferInstance (fun S' h u x hx=>by obtain ⟨rfl,hs⟩:=V_str.1 hx;exact p5_rise1 x hs))) rfl ?_);intro _ _)
 repeat (refine s126_L5x ?_;intros)
 have hany:(l.any fun s=>!nameB s)=!l.all nameB:=by
  rw [← List.not_all_eq_any_not]
 rw [hany]
 refine JO.guard rfl rfl rfl rfl (fun h1=>?_) (fun h1=>?_)
 ·have h1:l.all nameB=true:=by simpa using h1
  repeat (refine s126_L5x ?_;intros)
  refine JO.guard rfl rfl rfl rfl (fun h2=>?_) (fun h2=>?_)
  ·repeat (refine s126_L5x ?_;intros)
   rename_i a2 c2 S2 vs2 hl2 hv2
   refine JO.rowCap (fun hcap=>?_)
   refine JO.eff rfl rfl rfl (JEff.fn (Mc:=[_]) (Mr:=[]) (sem_call rfl _ _ _ _ _) rfl rfl rfl (List.Perm.refl _) (by intro l hl;cases hl) (p_Compact hv2 rfl hb hcap) ?_);rintro v S' M' hl ⟨rfl,a',m,c',rfl,hm⟩
   repeat (refine s126_L5x ?_;intros)
   (refine JX.ret1 Tryz.results126 (ResV.tmp rfl) (List.nil_sublist _) ?_)
   refine ⟨rfl,?_⟩
   rw [h1,h2,Bool.true_and,Bool.true_and,← hm]
   congr 1
   rw [Bool.eq_iff_iff];simp;omega
  ·repeat (refine s126_L5x ?_;intros)
   (refine JX.ret1 Tryz.results126 (ResV.tmp rfl) (List.nil_sublist _) ?_)
   exact ⟨rfl,by rw [h1,h2];rfl⟩
 ·have h1:l.all nameB=false:=by simpa using h1
  repeat (refine s126_L5x ?_;intros)
  (refine JX.ret1 Tryz.results126 (ResV.tmp rfl) (List.nil_sublist _) ?_)
  exact ⟨rfl,by rw [h1];rfl⟩
theorem p5_many {S:SHeap} {u:Value} {s:Snap} (hu:rSnap.V S u s):FnV Tryz.prog 125 #[u] S (.bool (manyB s)):=by
 (refine Fn.enter (args:=[u]) Tryz.func125 rfl Tryz.ntmps125 rfl ?_;intro w0)
 repeat' (first|(refine Walk ?_;intros)|refine JC.block ?_|(refine WBox ?_;intros)|(refine JO.guard rfl rfl rfl rfl ?_ ?_<;>intro _)|(refine JC.cond rfl ?_ ?_<;>intro _))
 all_goals ((refine JX.ret1 Tryz.results125 (ResV.tmp rfl) (List.nil_sublist _) ?_);refine ⟨rfl,?_⟩;(first|((simp only [manyB, *,Bool.and_true,Bool.true_and,Bool.false_and,Bool.and_false,Bool.or_true,Bool.true_or,Bool.false_or,Bool.or_false,Bool.not_true,Bool.not_false])<;>rfl)|(simp only [manyB, *,Bool.and_true,Bool.true_and,Bool.false_and,Bool.and_false,Bool.or_true,Bool.true_or,Bool.false_or,Bool.or_false,Bool.not_true,Bool.not_false];done)|(simp [manyB, *];done)|(simp_all [manyB];done)|(simp_all [manyB];intros;omega)|(simp_all [manyB];omega)))
theorem s138_L5x {P K:Prop} (k:K) (h:Goal K→P:=by
 intro zk
 (first|refine Walk ?_|refine JC.block ?_|refine JC.drawN 2 rfl [0,1,2,3,4,5,6,7,8,9,10,11,12,13,14,15,16,17,18,19,20,21,22,23,24,25,26,27,28,29,30,32,33,35,36,38,39,31,34,37,40,41,42,43,44,45,46,47,48,49,50,51,52,53,54] [0,1,2,3,4,5,6,8,9,10,11,12,13,14,15,16,17,18,19,20,21,22,23,24,25,26,27,28,29,30,43,44,45,46,48,49,50,51,53,54] Tryz_mixed (by decide +kernel) ?_|(refine JO.eff rfl rfl rfl (JEff.callV rfl (p5_Node _ (by exact vta) (by omega)) rfl ?_);intro zqa zqb)|(refine JO.eff rfl rfl rfl (JEff.callV rfl (p5_fine (by exact vta)) rfl ?_);intro zqa zqb)|(refine JO.eff rfl rfl rfl (JEff.callV rfl (p2_Check (by exact vta)) rfl ?_);intro zqa zqb)|(refine JO.eff rfl rfl rfl (JEff.callV rfl (p3_Check (by exact vta)) rfl ?_);intro zqa zqb)|(refine JO.eff rfl rfl rfl (JEff.callV rfl (p5_Owner _ (by exact vta) (by omega)) rfl ?_);intro zqa zqb)|(refine JO.eff rfl rfl rfl (JEff.callV rfl (p3_CheckTerms (by exact vta)) rfl ?_);intro zqa zqb)|(refine JO.eff rfl rfl rfl (JEff.callV rfl (p3_CheckBears (by exact vta)) rfl ?_);intro zqa zqb)|(refine JO.eff rfl rfl rfl (JEff.callV rfl (p5_near (by exact vta)) rfl ?_);intro zqa zqb)|(refine WBox ?_))
 (repeat (first|revert zqg|revert zqf|revert zqe|revert zqd|revert zqc|revert zqb|revert zqa))
 exact zk.k):P:=h ⟨k⟩
theorem p5_pod {S:SHeap} {u v:Value} {s:Snap} {p:Pod} (hu:rSnap.V S u s) (hv:rPod.V S v p) (hn:s.nodes.length≤1000000) (ho:s.owners.length≤1000000):FnV Tryz.prog 138 #[u,v] S (.bool (podB s p)):=by
 have hlt:idxS (nNames s) p.on < s.nodes.length:=by rw [nNames,idxS_map];exact idxF_lt _ _
 have hge:-1≤idxS (nNames s) p.on:=by rw [nNames,idxS_map];exact idxF_ge _ _
 have hpb:podB s p=((decide (p.owner=noS)||decide (0≤idxS (oNames s) p.owner))&&(decide (p.on=noS)||(decide (0≤idxS (nNames s) p.on)&&!lostAt s (idxS (nNames s) p.on))) &&
  [checkV p.req,checkL false p.labels,checkT p.wher,checkL true p.bears].all z0&&nearB p.with_&&nearB p.apart):=by simp [podB,Bool.and_assoc]
 rw [hpb]
 clear hpb
 generalize hI:idxS (nNames s) p.on=I at *
 generalize hJ:idxS (oNames s) p.owner=J at *
 generalize hX:[checkV p.req,checkL false p.labels,checkT p.wher,checkL true p.bears].all z0=X at *
 (refine Fn.enter (args:=[u,v]) Tryz.func138 rfl Tryz.ntmps138 rfl ?_;intro w0)
 cases o1:decide (p.owner=noS) with
 | true=>
  repeat (refine s138_L5x ?_;intros)
  rw [hI]
  repeat (refine s138_L5x ?_;intros)
  refine JO.guard rfl rfl rfl rfl (fun _=>?_) (fun g=>Bool.noConfusion (g.symm.trans o1))
  rw [Bool.true_or,Bool.true_and]
  repeat (refine s138_L5x ?_;intros)
  cases n1:decide (p.on=noS) with
  | true=>
   refine JO.guard rfl rfl rfl rfl (fun _=>?_) (fun g=>Bool.noConfusion (g.symm.trans n1))
   rw [Bool.true_or,Bool.true_and]
   repeat (refine s138_L5x ?_;intros)
   refine JO.eff rfl rfl rfl (JEff.buildS (bt:=8) (rep:=rI64) (ys:=[checkV p.req,checkL false p.labels,checkT p.wher,checkL true p.bears]) rfl rfl (⟨⟨V_i64.2 ⟨rfl,checkV_rng _⟩,nna⟩,⟨V_i64.2 ⟨rfl,checkL_rng _ _⟩,nna⟩,⟨V_i64.2 ⟨rfl,checkT_rng _⟩,nna⟩,⟨V_i64.2 ⟨rfl,checkL_rng _ _⟩,nna⟩,trivial⟩) rfl rfl rfl (by decide) rfl ?_);intro S3 sa l3 hs
   repeat (refine s138_L5x ?_;intros)
   rw [hX]
   cases x1:X with
   | true=>
    rw [Bool.true_and]
    repeat (refine s138_L5x ?_;intros)
    cases w1:nearB p.with_ with
    | true=>
     refine JO.guard rfl rfl rfl rfl (fun _=>?_) (fun g=>Bool.noConfusion (g.symm.trans rfl))
     repeat (refine s138_L5x ?_;intros)
     (refine JX.ret1 Tryz.results138 (ResV.tmp rfl) (List.nil_sublist _) ?_)
     exact ⟨rfl,rfl⟩
    | false=>
     refine JO.guard rfl rfl rfl rfl (fun g=>Bool.noConfusion (g.symm.trans rfl)) (fun _=>?_)
     repeat (refine s138_L5x ?_;intros)
     (refine JX.ret1 Tryz.results138 (ResV.tmp rfl) (List.nil_sublist _) ?_)
     exact ⟨rfl,rfl⟩
   | false=>
    repeat (refine s138_L5x ?_;intros)
    (refine JX.ret1 Tryz.results138 (ResV.tmp rfl) (List.nil_sublist _) ?_)
    exact ⟨rfl,rfl⟩
  | false=>
   refine JO.guard rfl rfl rfl rfl (fun g=>Bool.noConfusion (g.symm.trans n1)) (fun _=>?_)
   repeat (refine s138_L5x ?_;intros)
   cases n2:decide (0≤I) with
   | true=>
    refine JO.guard rfl rfl rfl rfl (fun _=>?_) (fun g=>Bool.noConfusion (g.symm.trans rfl))
    obtain ⟨nd,hnd,_⟩:=drop_at (l:=s.nodes) (show I.toNat < s.nodes.length by have:=of_decide_eq_true n2;omega)
    have h0:0≤I:=of_decide_eq_true n2
    have hlo:lostAt s I=nd.lost:=by simp [lostAt,hnd]
    rw [hlo]
    repeat (refine s138_L5x ?_;intros)
    cases lo:nd.lost with
    | true=>
     refine JO.guard rfl rfl rfl rfl (fun g=>Bool.noConfusion (g.symm.trans rfl)) (fun _=>?_)
     repeat (refine s138_L5x ?_;intros)
     (refine JX.ret1 Tryz.results138 (ResV.tmp rfl) (List.nil_sublist _) ?_)
     exact ⟨rfl,rfl⟩
    | false=>
     refine JO.guard rfl rfl rfl rfl (fun _=>?_) (fun g=>Bool.noConfusion (g.symm.trans rfl))
     rw [show (false||(true&&!false))=true from rfl,Bool.true_and]
     repeat (refine s138_L5x ?_;intros)
     refine JO.eff rfl rfl rfl (JEff.buildS (bt:=8) (rep:=rI64) (ys:=[checkV p.req,checkL false p.labels,checkT p.wher,checkL true p.bears]) rfl rfl (⟨⟨V_i64.2 ⟨rfl,checkV_rng _⟩,nna⟩,⟨V_i64.2 ⟨rfl,checkL_rng _ _⟩,nna⟩,⟨V_i64.2 ⟨rfl,checkT_rng _⟩,nna⟩,⟨V_i64.2 ⟨rfl,checkL_rng _ _⟩,nna⟩,trivial⟩) rfl rfl rfl (by decide) rfl ?_);intro S3 sa l3 hs
     repeat (refine s138_L5x ?_;intros)
     rw [hX]
     cases x1:X with
     | true=>
      rw [Bool.true_and]
      repeat (refine s138_L5x ?_;intros)
      cases w1:nearB p.with_ with
      | true=>
       refine JO.guard rfl rfl rfl rfl (fun _=>?_) (fun g=>Bool.noConfusion (g.symm.trans rfl))
       repeat (refine s138_L5x ?_;intros)
       (refine JX.ret1 Tryz.results138 (ResV.tmp rfl) (List.nil_sublist _) ?_)
       exact ⟨rfl,rfl⟩
      | false=>
       refine JO.guard rfl rfl rfl rfl (fun g=>Bool.noConfusion (g.symm.trans rfl)) (fun _=>?_)
       repeat (refine s138_L5x ?_;intros)
       (refine JX.ret1 Tryz.results138 (ResV.tmp rfl) (List.nil_sublist _) ?_)
       exact ⟨rfl,rfl⟩
     | false=>
      repeat (refine s138_L5x ?_;intros)
      (refine JX.ret1 Tryz.results138 (ResV.tmp rfl) (List.nil_sublist _) ?_)
      exact ⟨rfl,rfl⟩
   | false=>
    refine JO.guard rfl rfl rfl rfl (fun g=>Bool.noConfusion (g.symm.trans rfl)) (fun _=>?_)
    repeat (refine s138_L5x ?_;intros)
    (refine JX.ret1 Tryz.results138 (ResV.tmp rfl) (List.nil_sublist _) ?_)
    exact ⟨rfl,rfl⟩
 | false=>
  cases o2:decide (0≤J) with
  | true=>
   repeat (refine s138_L5x ?_;intros)
   rw [hI]
   repeat (refine s138_L5x ?_;intros)
   refine JO.guard rfl rfl rfl rfl (fun g=>Bool.noConfusion (g.symm.trans o1)) (fun _=>?_)
   repeat (refine s138_L5x ?_;intros)
   rw [hJ]
   repeat (refine s138_L5x ?_;intros)
   refine JO.guard rfl rfl rfl rfl (fun _=>?_) (fun g=>Bool.noConfusion (g.symm.trans o2))
   rw [Bool.or_true,Bool.true_and]
   repeat (refine s138_L5x ?_;intros)
   cases n1:decide (p.on=noS) with
   | true=>
    refine JO.guard rfl rfl rfl rfl (fun _=>?_) (fun g=>Bool.noConfusion (g.symm.trans n1))
    rw [Bool.true_or,Bool.true_and]
    repeat (refine s138_L5x ?_;intros)
    refine JO.eff rfl rfl rfl (JEff.buildS (bt:=8) (rep:=rI64) (ys:=[checkV p.req,checkL false p.labels,checkT p.wher,checkL true p.bears]) rfl rfl (⟨⟨V_i64.2 ⟨rfl,checkV_rng _⟩,nna⟩,⟨V_i64.2 ⟨rfl,checkL_rng _ _⟩,nna⟩,⟨V_i64.2 ⟨rfl,checkT_rng _⟩,nna⟩,⟨V_i64.2 ⟨rfl,checkL_rng _ _⟩,nna⟩,trivial⟩) rfl rfl rfl (by decide) rfl ?_);intro S3 sa l3 hs
    repeat (refine s138_L5x ?_;intros)
    rw [hX]
    cases x1:X with
    | true=>
     rw [Bool.true_and]
     repeat (refine s138_L5x ?_;intros)
     cases w1:nearB p.with_ with
     | true=>
      refine JO.guard rfl rfl rfl rfl (fun _=>?_) (fun g=>Bool.noConfusion (g.symm.trans rfl))
      repeat (refine s138_L5x ?_;intros)
      (refine JX.ret1 Tryz.results138 (ResV.tmp rfl) (List.nil_sublist _) ?_)
      exact ⟨rfl,rfl⟩
     | false=>
      refine JO.guard rfl rfl rfl rfl (fun g=>Bool.noConfusion (g.symm.trans rfl)) (fun _=>?_)
      repeat (refine s138_L5x ?_;intros)
      (refine JX.ret1 Tryz.results138 (ResV.tmp rfl) (List.nil_sublist _) ?_)
      exact ⟨rfl,rfl⟩
    | false=>
     repeat (refine s138_L5x ?_;intros)
     (refine JX.ret1 Tryz.results138 (ResV.tmp rfl) (List.nil_sublist _) ?_)
     exact ⟨rfl,rfl⟩
   | false=>
    refine JO.guard rfl rfl rfl rfl (fun g=>Bool.noConfusion (g.symm.trans n1)) (fun _=>?_)
    repeat (refine s138_L5x ?_;intros)
    cases n2:decide (0≤I) with
    | true=>
     refine JO.guard rfl rfl rfl rfl (fun _=>?_) (fun g=>Bool.noConfusion (g.symm.trans rfl))
     obtain ⟨nd,hnd,_⟩:=drop_at (l:=s.nodes) (show I.toNat < s.nodes.length by have:=of_decide_eq_true n2;omega)
     have h0:0≤I:=of_decide_eq_true n2
     have hlo:lostAt s I=nd.lost:=by simp [lostAt,hnd]
     rw [hlo]
     repeat (refine s138_L5x ?_;intros)
     cases lo:nd.lost with
     | true=>
      refine JO.guard rfl rfl rfl rfl (fun g=>Bool.noConfusion (g.symm.trans rfl)) (fun _=>?_)
      repeat (refine s138_L5x ?_;intros)
      (refine JX.ret1 Tryz.results138 (ResV.tmp rfl) (List.nil_sublist _) ?_)
      exact ⟨rfl,rfl⟩
     | false=>
      refine JO.guard rfl rfl rfl rfl (fun _=>?_) (fun g=>Bool.noConfusion (g.symm.trans rfl))
      rw [show (false||(true&&!false))=true from rfl,Bool.true_and]
      repeat (refine s138_L5x ?_;intros)
      refine JO.eff rfl rfl rfl (JEff.buildS (bt:=8) (rep:=rI64) (ys:=[checkV p.req,checkL false p.labels,checkT p.wher,checkL true p.bears]) rfl rfl (⟨⟨V_i64.2 ⟨rfl,checkV_rng _⟩,nna⟩,⟨V_i64.2 ⟨rfl,checkL_rng _ _⟩,nna⟩,⟨V_i64.2 ⟨rfl,checkT_rng _⟩,nna⟩,⟨V_i64.2 ⟨rfl,checkL_rng _ _⟩,nna⟩,trivial⟩) rfl rfl rfl (by decide) rfl ?_);intro S3 sa l3 hs
      repeat (refine s138_L5x ?_;intros)
      rw [hX]
      cases x1:X with
      | true=>
       rw [Bool.true_and]
       repeat (refine s138_L5x ?_;intros)
       cases w1:nearB p.with_ with
       | true=>
        refine JO.guard rfl rfl rfl rfl (fun _=>?_) (fun g=>Bool.noConfusion (g.symm.trans rfl))
        repeat (refine s138_L5x ?_;intros)
        (refine JX.ret1 Tryz.results138 (ResV.tmp rfl) (List.nil_sublist _) ?_)
        exact ⟨rfl,rfl⟩
       | false=>
        refine JO.guard rfl rfl rfl rfl (fun g=>Bool.noConfusion (g.symm.trans rfl)) (fun _=>?_)
        repeat (refine s138_L5x ?_;intros)
        (refine JX.ret1 Tryz.results138 (ResV.tmp rfl) (List.nil_sublist _) ?_)
        exact ⟨rfl,rfl⟩
      | false=>
       repeat (refine s138_L5x ?_;intros)
       (refine JX.ret1 Tryz.results138 (ResV.tmp rfl) (List.nil_sublist _) ?_)
       exact ⟨rfl,rfl⟩
    | false=>
     refine JO.guard rfl rfl rfl rfl (fun g=>Bool.noConfusion (g.symm.trans rfl)) (fun _=>?_)
     repeat (refine s138_L5x ?_;intros)
     (refine JX.ret1 Tryz.results138 (ResV.tmp rfl) (List.nil_sublist _) ?_)
     exact ⟨rfl,rfl⟩
  | false=>
   repeat (refine s138_L5x ?_;intros)
   rw [hI]
   repeat (refine s138_L5x ?_;intros)
   refine JO.guard rfl rfl rfl rfl (fun g=>Bool.noConfusion (g.symm.trans o1)) (fun _=>?_)
   repeat (refine s138_L5x ?_;intros)
   rw [hJ]
   repeat (refine s138_L5x ?_;intros)
   refine JO.guard rfl rfl rfl rfl (fun g=>Bool.noConfusion (g.symm.trans o2)) (fun _=>?_)
   repeat (refine s138_L5x ?_;intros)
   (refine JX.ret1 Tryz.results138 (ResV.tmp rfl) (List.nil_sublist _) ?_)
   exact ⟨rfl,rfl⟩
end Go.Dr
