/- Part 6 of the rules and of the walks that the proofs of this seat rest on; no condition. -/
import Derived.Test.YtlckpojpnfidoaaGreatA04
import Derived.Shelf.Small.Bits
import Derived.Shelf.Sort.Plain
import Derived.Shelf.Slices.In.SortNone
set_option linter.unusedVariables false
set_option linter.unusedSimpArgs false
namespace Go.Dr
open Go.Proofs
set_option maxRecDepth 20000
set_option maxHeartbeats 1000000
set_option linter.unusedSimpArgs false
set_option linter.unusedVariables false
theorem ptr_arr {S:SHeap} {p:Addr} {n:Nat} {xs:List Int} (h:PtrTo S p (rArr n) xs):xs.length=n∧∀ x∈xs,Rng x:=by
 obtain ⟨cs,h,_⟩:=h;exact ⟨h.1,h.2.2⟩
theorem ptr_slice {α:Type} {S:SHeap} {p:Addr} {bt:Nat} {rep:Rp α} {xs:List α} (h:PtrTo S p (rSlice bt rep) xs):∀ x∈xs,∃ q,PtrTo S q rep x:=by
 obtain ⟨cs,⟨a,n,c,_,_,_,_,_,hh⟩,_⟩:=h
 intro x hx
 obtain ⟨i,hi⟩:=List.getElem?_of_mem hx
 obtain ⟨ad,_,hp⟩:=hh i x hi
 exact ⟨_,hp⟩
theorem snap_reqs {S:SHeap} {p:Addr} {s:Snap} (h:PtrTo S p rSnap s):∀ x∈s.pods,x.req.length=5∧∀ y∈x.req,Rng y:=by
 intro x hx
 have h1:PtrTo S (p.add 1) (rSlice 240 rPod) s.pods:=h.part (Fld.h (rep:=rSnap) (off:=1))
 obtain ⟨q,hq⟩:=ptr_slice h1 x hx
 have h2:PtrTo S (q.add 2) (rArr 5) x.req:=hq.part (Fld.h (rep:=rPod) (off:=2))
 exact ptr_arr h2
theorem snap_caps {S:SHeap} {p:Addr} {s:Snap} (h:PtrTo S p rSnap s):∀ x∈s.nodes,x.cap.length=5∧∀ y∈x.cap,Rng y:=by
 intro x hx
 have h1:PtrTo S (p.add 0) (rSlice 112 rNode) s.nodes:=h.part (Fld.h (rep:=rSnap) (off:=0))
 obtain ⟨q,hq⟩:=ptr_slice h1 x hx
 have h2:PtrTo S (q.add 1) (rArr 5) x.cap:=hq.part (Fld.h (rep:=rNode) (off:=1))
 exact ptr_arr h2
theorem plus_ok {l:List (List Int)} (h:(plusV l).2=0) (j:Nat) (hj:j < 5):(l.map (fun v=>at0 v j)).any negB=false∧(l.map (fun v=>at0 v j)).sum≤Qty:=by
 have hc:(colQ l j).2=0:=by
  unfold plusV at h
  split at h
  ·rename_i i hi
   rw [List.find?_range_eq_some] at hi
   have:=hi.1
   simp only [Bool.not_eq_true',decide_eq_false_iff_not] at this
   exact absurd h this
  ·rename_i hi
   rw [List.find?_range_eq_none] at hi
   have:=hi j hj
   simpa using this
 unfold colQ addQ at hc
 cases hn:(l.map (fun v=>at0 v j)).any negB with
 | true=>rw [hn] at hc;simp at hc
 | false=>
  rw [hn] at hc
  refine ⟨rfl,?_⟩
  simp only [Bool.false_eq_true,if_false] at hc
  split at hc
  ·simp at hc
  ·rename_i h;omega
theorem checkS_ok {s:Snap} (h:checkS s=0):shapedB s=true∧(plusV (caps s)).2=0∧(plusV (reqs s)).2=0:=by
 unfold checkS at h
 cases h1:shapedB s with
 | false=>rw [h1] at h;simp at h
 | true=>
  rw [h1] at h
  simp only [if_true] at h
  split at h
  ·rename_i h2
   simp only [Bool.and_eq_true,z0,decide_eq_true_eq] at h2
   exact ⟨rfl,h2⟩
  ·cases h
def colsOf (l:List Pod) (x:List Int) (j:Nat):List Int:=(List.range 5).map (fun i=>(l.map (fun y=>at0 y.req i)).sum+if i < j then at0 x i else 0)
theorem colsOf_len (l:List Pod) (x:List Int) (j:Nat):(colsOf l x j).length=5:=by simp [colsOf]
theorem colsOf_at (l:List Pod) (x:List Int) (j:Nat) (hj:j < 5):(colsOf l x j)[j]?=some ((l.map (fun y=>at0 y.req j)).sum):=by
 simp [colsOf,hj]
theorem colsOf_set (l:List Pod) (x:List Int) (j:Nat) (hj:j < 5):(colsOf l x j).set j ((l.map (fun y=>at0 y.req j)).sum+at0 x j)=colsOf l x (j+1):=by
 apply List.ext_getElem?
 intro i
 rw [List.getElem?_set]
 simp only [colsOf,List.length_map,List.length_range,List.getElem?_map]
 by_cases h:j=i
 ·subst h;simp [hj]
 ·rw [if_neg h]
  cases hr:(List.range 5)[i]? with
  | none=>rfl
  | some i'=>
   have:i'=i:=by
    rw [List.getElem?_range] at hr
    ·simpa using hr.symm
    ·exact Nat.lt_of_not_le fun hle=>by rw [List.getElem?_eq_none (by simpa using hle)] at hr;cases hr
   subst this
   simp only [Option.map_some]
   have:(i' < j)=(i' < j+1):=by simp;omega
   simp [this]
theorem colsOf_full (l:List Pod) (x:Pod) (y:List Int):colsOf l x.req 5=colsOf (l++[x]) y 0:=by
 unfold colsOf
 apply List.map_congr_left
 intro i hi
 have:i < 5:=by simpa using hi
 simp [this]
def onK (s:Snap) (p:List Int) (node:Int) (k:Nat):List Pod:=(((p.zip s.pods).take k).filter (fun x=>decide (x.1=node))).map (fun x=>x.2)
theorem onK_all {s:Snap} {p:List Int} {node:Int} (h:p.length=s.pods.length):onK s p node p.length=onN s p node:=by
 unfold onK onN
 rw [List.take_of_length_le (by simp [h])]
theorem filt_sum {l:List Pod} {f:Pod→Int} (h:∀ x∈l,0≤f x):∀ {m:List Pod},m.Sublist l→(m.map f).sum≤(l.map f).sum∧0≤(m.map f).sum:=by
 intro m hm
 induction hm with
 | slnil=>simp
 | cons a hs ih=>
  have:=ih (fun x hx=>h x (by simp [hx]))
  have:=h a (by simp)
  simp only [List.map_cons,List.sum_cons];omega
 | cons_cons a hs ih=>
  have:=ih (fun x hx=>h x (by simp [hx]))
  have:=h a (by simp)
  simp only [List.map_cons,List.sum_cons];omega
theorem zip_snd_sub:∀ (p:List Int) (l:List Pod),((p.zip l).map (fun x=>x.2)).Sublist l
 | [],l=>by simp
 | _::_,[]=>by simp
 | a::p,x::l=>by
  rw [List.zip_cons_cons,List.map_cons]
  exact (zip_snd_sub p l).cons_cons x
theorem onK_sub (s:Snap) (p:List Int) (node:Int) (k:Nat):(onK s p node k).Sublist s.pods:=by
 have h1:=zip_snd_sub p s.pods
 exact (((List.filter_sublist).trans (List.take_sublist _ _)).map _).trans h1
theorem used_bound {s:Snap} (h:checkS s=0) (p:List Int) (node:Int) (k j:Nat) (hj:j < 5):0≤((onK s p node k).map (fun y=>at0 y.req j)).sum∧((onK s p node k).map (fun y=>at0 y.req j)).sum≤Qty:=by
 obtain ⟨_,_,h3⟩:=checkS_ok h
 obtain ⟨h4,h5⟩:=plus_ok h3 j hj
 have hnn:∀ x∈s.pods,0≤at0 x.req j:=by
  intro x hx
  rw [List.any_eq_false] at h4
  have:=h4 (at0 x.req j) (by simp only [reqs,List.map_map,List.mem_map];exact ⟨x,hx,rfl⟩)
  simpa [negB] using this
 have h6:=filt_sum (f:=fun y=>at0 y.req j) hnn (onK_sub s p node k)
 have h7:(s.pods.map (fun y=>at0 y.req j)).sum≤Qty:=by
  simpa [reqs,List.map_map,Function.comp_def] using h5
 omega
end Go.Dr
namespace Go.Dr
open Go.Proofs
set_option maxRecDepth 20000
set_option maxHeartbeats 2000000
set_option linter.unusedSimpArgs false
set_option linter.unusedVariables false
theorem p7_on {S:SHeap} {u v:Value} {s:Snap} {p:List Int} (node:Int) (hu:rSnap.V S u s) (hv:(rSlice 8 rI64).V S v p) (hr:Rng node) (hlen:p.length=s.pods.length) (hb:p.length≤1000000) :
  FnR Tryz.prog 178 #[u,v,.int .i64 node] S (fun w S'=>∃ lb,w=.func (.func 257) #[] lb∧Iter Tryz.prog 257 lb rPod S' (onN s p node)):=by
 have hn:rI64.V S (.int .i64 node) node:=V_i64.2 ⟨rfl,hr⟩
 obtain ⟨a,c,rfl,_⟩:=V_slice.1 hv
 (refine Fn.enter (args:=[u,.slice a p.length c,.int .i64 node]) Tryz.func178 rfl Tryz.ntmps178 rfl ?_;intro w0)
 repeat (first|(refine Walk ?_;intros)|refine JC.block ?_|(refine WBox ?_;intros))
 (refine JX.ret1 Tryz.results178 (ResV.tmp rfl) (List.nil_sublist _) ?_)
 exact ⟨rfl,_,rfl,p7_on1 hlen (by exact pta) (by exact pta) (by exact pta) hb⟩
theorem p7_owned {S:SHeap} {u v:Value} {s:Snap} {p:List Int} (o:Nat) (hu:rSnap.V S u s) (hv:(rSlice 8 rI64).V S v p) (ho:o < s.owners.length) (hos:s.owners.length≤1000000) (hlen:p.length=s.pods.length) (hb:p.length≤1000000) (hrg:∀ x∈p,Rng x) :
  FnR Tryz.prog 320 #[u,v,.int .i64 o] S (fun w S'=>∃ lb,w=.func (.func 355) #[] lb∧Iter Tryz.prog 355 lb rI64 S' (ownedL s p o)):=by
 have hn:rI64.V S (.int .i64 (o:Int)) (o:Int):=V_i64.2 ⟨rfl,by unfold Rng;omega⟩
 obtain ⟨a,c,rfl,_⟩:=V_slice.1 hv
 (refine Fn.enter (args:=[u,.slice a p.length c,.int .i64 o]) Tryz.func320 rfl Tryz.ntmps320 rfl ?_;intro w0)
 repeat (first|(refine Walk ?_;intros)|refine JC.block ?_|(refine WBox ?_;intros))
 (refine JX.ret1 Tryz.results320 (ResV.tmp rfl) (List.nil_sublist _) ?_)
 exact ⟨rfl,_,rfl,p7_owned1 hlen ho (by exact pta) (by exact pta) (by exact pta) hb hrg⟩
theorem owned_len (s:Snap) (p:List Int) (o:Nat):(ownedL s p o).length≤p.length:=by
 unfold ownedL
 rw [List.length_map]
 refine Nat.le_trans (List.length_filter_le _ _) ?_
 rw [List.length_zip]
 exact Nat.min_le_left _ _
theorem ResV.cellI {C:Cx} {S:SHeap} {M:List MEnt} {e:Env} {p b:Nat} {T t:TypeId} {fr:Nat × Nat} {n:Int} (h:Env.get? e p=some (.pointer (some ⟨b,0,none⟩))) (hM:MEnt.blk b (.cells (ints [n]) t fr)∈M) [ht:TyR C.P T rI64]:ResV C S M e (.cell p T) (.int .i64 n):=
 ResV.cellM (rep:=rI64) (mid:=[.int .i64 n]) h hM rfl rfl
theorem placed_hyps {s:Snap} {p:List Int} (h:checkP s p=0):checkS s=0∧p.length=s.pods.length∧p.length≤24∧s.nodes.length≤8∧s.owners.length≤8∧(∀ x∈p,-1≤x∧x < s.nodes.length)∧∀ x∈p,Rng x:=by
 obtain ⟨h1,h2,h3⟩:=checkP_ok h
 obtain ⟨h4,h5,h6⟩:=shaped_small (checkS_ok h1).1
 have h7:∀ x∈p,-1≤x∧x < s.nodes.length:=by
  intro x hx
  have:=h3 x hx
  simp only [oddP,Bool.or_eq_false_iff,decide_eq_false_iff_not] at this
  omega
 exact ⟨h1,h2,by omega,h4,h6,h7,fun x hx=>by have:=h7 x hx;unfold Rng;omega⟩
theorem s303_L7y {P K:Prop} (k:K) (h:Goal K→P:=by
 intro zk
 (first|refine Walk ?_|refine JC.block ?_|(refine JO.eff rfl rfl rfl (JEff.callV rfl (p7_asked _ (by exact vta) (by exact vta)) rfl ?_);intro zqa zqb)|(refine WBox ?_))
 (repeat (first|revert zqg|revert zqf|revert zqe|revert zqd|revert zqc|revert zqb|revert zqa))
 exact zk.k):P:=h ⟨k⟩
theorem p7_Placed {S:SHeap} {u v:Value} {s:Snap} {p:List Int} (o:Int) (hu:rSnap.V S u s) (hv:(rSlice 8 rI64).V S v p) :
  FnV Tryz.prog 303 #[u,v,.int .i64 o] S (.int .i64 (if z0 (checkP s p)&&(decide (0≤o)&&decide (o < s.owners.length)) then placedN s p o.toNat else 0)):=by
 obtain ⟨a,c,rfl,_⟩:=V_slice.1 hv
 (refine Fn.enterM (args:=[u,.slice a p.length c,.int .i64 o]) Tryz.func303 rfl Tryz.ntmps303 rfl ?_;intro w0)
 repeat (refine s303_L7y ?_;intros)
 (refine JO.eff rfl rfl rfl (JEff.alloc rfl ?_);intro b6 hb6)
 repeat (refine s303_L7y ?_;intros)
 cases hc:(z0 (checkP s p)&&(decide (0≤o)&&decide (o < s.owners.length))) with
 | false=>
  repeat (refine s303_L7y ?_;intros)
  refine JO.eff rfl rfl rfl (JEff.storeI (i:=0) (xs:=[0]) rfl rfl (by unfold Rng;omega) (List.Perm.refl _) (by decide) (by intro l hl;cases hl) ?_)
  repeat (refine s303_L7y ?_;intros)
  refine JX.retM0 Tryz.results303 (ResV.cellI (n:=0) rfl (by (first|exact List.mem_cons_self|exact List.mem_cons_of_mem _ List.mem_cons_self|exact List.mem_cons_of_mem _ (List.mem_cons_of_mem _ List.mem_cons_self)))) (List.nil_sublist _) ?_
  exact ⟨rfl,rfl⟩
 | true=>
  have hol:=owned_len s p o.toNat
  simp only [Bool.and_eq_true,decide_eq_true_eq] at hc
  obtain ⟨c1,c2,c3⟩:=hc
  obtain ⟨o,rfl⟩:=Int.eq_ofNat_of_zero_le c2
  rw [Int.toNat_natCast] at hol
  obtain ⟨h1,h2,h3,h4,h5,h6,h7⟩:=placed_hyps (s:=s) (p:=p) (by simpa [z0] using c1)
  repeat (refine s303_L7y ?_;intros)
  (refine JO.eff rfl rfl rfl (JEff.callR rfl ((p7_owned o (by exact vta) (by exact vta) (by omega) (by omega) h2 (by omega) h7)) rfl ?_);intro w S2 hl2 hV)
  obtain ⟨lb,rfl,hit⟩:=hV
  repeat (refine s303_L7y ?_;intros)
  refine JC.rangeFunc (rep:=rI64) (xs:=ownedL s p o) (fun k S' M'=>M'=[.blk b6 (.cells (ints [(k:Int)]) 3 (0,0))]) rfl rfl inferInstance rfl hit rfl ?_ ?_
  ·rintro w1 B1 K L Rc k y v S' M' hR hp hl hy hv rfl
   repeat (refine s303_L7y ?_;intros)
   have hk:=(List.getElem?_eq_some_iff.1 hy).1
   have hkr:Rng (k:Int):=by unfold Rng;omega
   refine JX.begin rfl hR ?_
   repeat (refine s303_L7y ?_;intros)
   refine JO.pure rfl rfl rfl (JPure.loadMI (xs:=[(k:Int)]) rfl (by (first|exact List.mem_cons_self|exact List.mem_cons_of_mem _ List.mem_cons_self|exact List.mem_cons_of_mem _ (List.mem_cons_of_mem _ List.mem_cons_self))) rfl hkr (.inl rfl) rfl ?_)
   repeat (refine s303_L7y ?_;intros)
   refine JO.eff rfl rfl rfl (JEff.storeI (i:=0) (xs:=[(k:Int)]) (Mr:=[.blk L (.loop { Rc with state:=.busy }),.blk K (.deferred (some []))]) rfl rfl (by unfold Rng;omega) (List.perm_append_comm (l₁:=[_]) (l₂:=[_,_])) (by simp) (by intro l hl;cases hl) ?_)
   repeat (refine s303_L7y ?_;intros)
   refine JX.endRound hR hp (List.perm_append_comm (l₁:=[_,_]) (l₂:=[_])) ?_
   simp
  ·rintro K S' M' hl rfl
   repeat (refine s303_L7y ?_;intros)
   have hkr:Rng (((ownedL s p o).length:Nat):Int):=by unfold Rng;omega
   refine JO.pure rfl rfl rfl (JPure.loadMI (xs:=[((ownedL s p o).length:Int)]) rfl (by (first|exact List.mem_cons_self|exact List.mem_cons_of_mem _ List.mem_cons_self|exact List.mem_cons_of_mem _ (List.mem_cons_of_mem _ List.mem_cons_self))) rfl hkr (.inl rfl) rfl ?_)
   repeat (refine s303_L7y ?_;intros)
   refine JO.eff rfl rfl rfl (JEff.storeI (i:=0) (xs:=[((ownedL s p o).length:Int)]) (Mr:=[.blk K (.deferred (some []))]) rfl rfl hkr (List.perm_append_comm (l₁:=[_]) (l₂:=[_])) (by simp) (by intro l hl;cases hl) ?_)
   repeat (refine s303_L7y ?_;intros)
   refine JX.retM1 Tryz.results303 (List.perm_append_comm (l₁:=[_]) (l₂:=[_])) (ResV.cellI (n:=((ownedL s p o).length:Int)) rfl (by (first|exact List.mem_cons_self|exact List.mem_cons_of_mem _ List.mem_cons_self|exact List.mem_cons_of_mem _ (List.mem_cons_of_mem _ List.mem_cons_self)))) (List.nil_sublist _) ?_
   exact ⟨rfl,rfl⟩
end Go.Dr
namespace Go.Dr
open Go.Proofs
set_option maxRecDepth 20000
set_option maxHeartbeats 2000000
set_option linter.unusedSimpArgs false
set_option linter.unusedVariables false
theorem onT_bound {s:Snap} {p:List Int} (h:checkS s=0) (hl:p.length=s.pods.length) (node:Int) (k j:Nat) (hj:j < 5) :
  0≤(((onN s p node).take k).map (fun y=>at0 y.req j)).sum∧(((onN s p node).take k).map (fun y=>at0 y.req j)).sum≤Qty:=by
 obtain ⟨_,_,h3⟩:=checkS_ok h
 obtain ⟨h4,h5⟩:=plus_ok h3 j hj
 have hnn:∀ x∈s.pods,0≤at0 x.req j:=by
  intro x hx
  rw [List.any_eq_false] at h4
  have:=h4 (at0 x.req j) (by simp only [reqs,List.map_map,List.mem_map];exact ⟨x,hx,rfl⟩)
  simpa [negB] using this
 have hsub:((onN s p node).take k).Sublist s.pods:=by
  rw [← onK_all hl]
  exact (List.take_sublist _ _).trans (onK_sub s p node p.length)
 have h6:=filt_sum (f:=fun y=>at0 y.req j) hnn hsub
 have h7:(s.pods.map (fun y=>at0 y.req j)).sum≤Qty:=by
  simpa [reqs,List.map_map,Function.comp_def] using h5
 omega
def usedP (s:Snap) (p:List Int) (node:Int):List Int:=if z0 (checkP s p)&&(decide (0≤node)&&decide (node < s.nodes.length)) then usedV s p node else [0,0,0,0,0]
theorem s121_L7z {P K:Prop} (k:K) (h:Goal K→P:=by
 intro zk
 (first|refine Walk ?_|refine JC.block ?_|(refine JO.eff rfl rfl rfl (JEff.callV rfl (p7_Check (by exact vta) (by exact vta)) rfl ?_);intro zqa zqb)|(refine JO.eff rfl rfl rfl (JEff.callV rfl (p7_there _ _) rfl ?_);intro zqa zqb)|(refine WBox ?_))
 (repeat (first|revert zqg|revert zqf|revert zqe|revert zqd|revert zqc|revert zqb|revert zqa))
 exact zk.k):P:=h ⟨k⟩
theorem p7_Used {S:SHeap} {u v:Value} {s:Snap} {p:List Int} (node:Int) (hu:rSnap.V S u s) (hv:(rSlice 8 rI64).V S v p) :
  FnV Tryz.prog 121 #[u,v,.int .i64 node] S (.agg (ints (usedP s p node))):=by
 obtain ⟨a,c,rfl,_⟩:=V_slice.1 hv
 (refine Fn.enterM (args:=[u,.slice a p.length c,.int .i64 node]) Tryz.func121 rfl Tryz.ntmps121 rfl ?_;intro w0)
 repeat (refine s121_L7z ?_;intros)
 (refine JO.eff rfl rfl rfl (JEff.alloc rfl ?_);intro b6 hb6)
 repeat (refine s121_L7z ?_;intros)
 cases g1:decide (checkP s p=0) with
 | false=>
  refine JO.guard rfl rfl rfl rfl (fun _=>?_) (fun g=>Bool.noConfusion (g.symm.trans rfl))
  repeat (refine s121_L7z ?_;intros)
  refine JO.eff rfl rfl rfl (JEff.storeA (n:=5) (xs:=[0,0,0,0,0]) (ys:=[0,0,0,0,0]) rfl rfl rfl (by intro z hz;simp at hz;subst hz;unfold Rng;omega) (List.Perm.refl _) rfl (by intro l hl;cases hl) ?_)
  repeat (refine s121_L7z ?_;intros)
  refine JX.retM0 Tryz.results121 (ResV.cellA (n:=5) (xs:=[0,0,0,0,0]) rfl (by (first|exact List.mem_cons_self|exact List.mem_cons_of_mem _ List.mem_cons_self|exact List.mem_cons_of_mem _ (List.mem_cons_of_mem _ List.mem_cons_self))) rfl) (List.nil_sublist _) ?_
  exact ⟨rfl,by rw [usedP,z0,g1];rfl⟩
 | true=>
  refine JO.guard rfl rfl rfl rfl (fun g=>Bool.noConfusion (g.symm.trans rfl)) (fun _=>?_)
  repeat (refine s121_L7z ?_;intros)
  cases g2:(decide (0≤node)&&decide (node < s.nodes.length)) with
  | false=>
   repeat (refine s121_L7z ?_;intros)
   refine JO.eff rfl rfl rfl (JEff.storeA (n:=5) (xs:=[0,0,0,0,0]) (ys:=[0,0,0,0,0]) rfl rfl rfl (by intro z hz;simp at hz;subst hz;unfold Rng;omega) (List.Perm.refl _) rfl (by intro l hl;cases hl) ?_)
   repeat (refine s121_L7z ?_;intros)
   refine JX.retM0 Tryz.results121 (ResV.cellA (n:=5) (xs:=[0,0,0,0,0]) rfl (by (first|exact List.mem_cons_self|exact List.mem_cons_of_mem _ List.mem_cons_self|exact List.mem_cons_of_mem _ (List.mem_cons_of_mem _ List.mem_cons_self))) rfl) (List.nil_sublist _) ?_
   exact ⟨rfl,by rw [usedP,z0,g1,g2];rfl⟩
  | true=>
   have hus:usedP s p node=usedV s p node:=by rw [usedP,z0,g1,g2];rfl
   rw [hus]
   obtain ⟨h1,h2,h3,h4,h5,h6,h7⟩:=placed_hyps (s:=s) (p:=p) (of_decide_eq_true g1)
   simp only [Bool.and_eq_true,decide_eq_true_eq] at g2
   repeat (refine s121_L7z ?_;intros)
   (refine JO.eff rfl rfl rfl (JEff.callR rfl ((p7_on node (by exact vta) (by exact vta) (by unfold Rng;omega) h2 (by omega))) rfl ?_);intro w S2 hl2 hV)
   obtain ⟨lb,rfl,hit⟩:=hV
   repeat (refine s121_L7z ?_;intros)
   refine JC.rangeFunc (rep:=rPod) (xs:=onN s p node) (fun k S' M'=>M'=[.blk b6 (.cells (ints (colsOf ((onN s p node).take k) [] 0)) 91 (0,0))]) rfl rfl inferInstance rfl hit rfl ?_ ?_
   ·rintro w1 B1 K L Rc k y v S' M' hR hp hl hy hv rfl
    repeat (refine s121_L7z ?_;intros)
    (refine JO.eff rfl rfl rfl (JEff.alloc rfl ?_);intro b7 hb7);(repeat (first|(refine Walk ?_;intros)|refine JC.block ?_));(refine JO.eff rfl rfl rfl (JEff.storeW rfl rfl (by exact vta) nna pma rfl (by intro l hl;cases hl) ?_));(refine JO.freezeV (by exact vta) nna hb7 (by intro l hl;cases hl) ?_;intro S3 l3 hp7)
    repeat (refine s121_L7z ?_;intros)
    refine JX.begin rfl hR ?_
    repeat (refine s121_L7z ?_;intros)
    obtain ⟨hk,hky⟩:=List.getElem?_eq_some_iff.1 hy
    have htk:(onN s p node).take (k+1)=(onN s p node).take k++[y]:=by rw [List.take_add_one,hy];rfl
    have hyl:=(V_arr.1 (pod_req hv)).2
    obtain ⟨rfl,_,_⟩:=V_arr.1 ‹(rArr 5).V _ _ y.req›
    refine JC.loopF [(6,_),(29,_)] (fun (j:Nat)=>[(30,.int .i64 j)]) (fun j=>[.blk L (.loop { Rc with state:=.busy }),.blk K (.deferred (some [])),.blk b6 (.cells (ints (colsOf ((onN s p node).take k) y.req j)) 91 (0,0))]) (fun Sj j=>j≤5∧(True)) (fun j=>5 - j) 0 (by exact sba) (by exact sba) rfl ⟨Nat.zero_le _,trivial⟩ ?_;intro Sj j hlj hij;obtain ⟨hj,hij⟩:=hij;(try dsimp only at hj hij);dsimp only [List.cons_append,List.nil_append]
    repeat (refine s121_L7z ?_;intros)
    refine JC.cond rfl (fun hc=>?_) (fun hc=>?_)
    ·have hj':=dlt5 hc
     obtain ⟨z,hz⟩:∃ z,y.req[j]?=some z:=⟨_,List.getElem?_eq_getElem (by omega)⟩
     have hatz:=at0_some hz
     have hub:=onT_bound h1 h2 node k j hj'
     have hub2:=onT_bound h1 h2 node (k+1) j hj'
     rw [htk] at hub2
     simp only [List.map_append,List.sum_append,List.map_cons,List.map_nil,List.sum_cons,List.sum_nil,hatz] at hub2
     unfold Qty at hub hub2
     repeat (refine s121_L7z ?_;intros)
     refine JO.pure rfl rfl rfl (JPure.indexV rfl rfl rfl (by omega) hyl.1 (by simpa using hz) ?_)
     repeat (refine s121_L7z ?_;intros)
     refine JO.pure rfl rfl rfl (JPure.indexBI rfl rfl rfl (by omega) (by omega) ?_)
     refine JO.pure rfl rfl rfl (JPure.loadMI rfl (by (first|exact List.mem_cons_self|exact List.mem_cons_of_mem _ List.mem_cons_self|exact List.mem_cons_of_mem _ (List.mem_cons_of_mem _ List.mem_cons_self))) (colsOf_at _ _ j hj') (by unfold Rng;omega) (.inl rfl) rfl ?_)
     repeat (refine s121_L7z ?_;intros)
     refine JO.pure rfl rfl rfl (JPure.indexBI rfl rfl rfl (by omega) (by omega) ?_)
     refine JO.eff rfl rfl rfl (JEff.storeI (i:=j) (Mr:=[.blk L (.loop { Rc with state:=.busy }),.blk K (.deferred (some []))]) rfl rfl (by unfold Rng;omega) (List.perm_append_comm (l₁:=[_]) (l₂:=[_,_])) (by rw [colsOf_len];omega) (by intro l hl;cases hl) ?_)
     rw [← hatz,colsOf_set _ _ j hj',hatz]
     repeat (refine s121_L7z ?_;intros)
     refine JX.perm (List.perm_append_comm (l₁:=[_,_]) (l₂:=[_])) ?_
     exact JX.roundF (j+1) (by exact lea) ⟨by omega,(trivial)⟩ (by (try dsimp only);omega) rfl (by exact sba) (by exact sba)
    ·have hj':=dnlt5 hc
     obtain rfl:j=5:=by omega
     rw [colsOf_full _ _ [],← htk]
     repeat (refine s121_L7z ?_;intros)
     refine JX.endRound hR hp (List.Perm.refl _) ?_
     rfl
   ·rintro K S' M' hl rfl
    have hfin:colsOf ((onN s p node).take (onN s p node).length) [] 0=usedV s p node:=by rw [List.take_length];simp [colsOf,usedV]
    have hrng:∀ z∈usedV s p node,Rng z:=by
     intro z hz
     obtain ⟨j,hj,rfl⟩:=List.mem_map.1 hz
     have:=onT_bound h1 h2 node (onN s p node).length j (by simpa using hj)
     rw [List.take_length] at this
     unfold Qty at this;unfold Rng;omega
    rw [hfin]
    repeat (refine s121_L7z ?_;intros)
    refine JO.pure rfl rfl rfl (JPure.loadMA (n:=5) rfl (by (first|exact List.mem_cons_self|exact List.mem_cons_of_mem _ List.mem_cons_self|exact List.mem_cons_of_mem _ (List.mem_cons_of_mem _ List.mem_cons_self))) (by simp [usedV]) hrng (.inl rfl) rfl ?_)
    refine JO.eff rfl rfl rfl (JEff.storeA (n:=5) (Mr:=[.blk K (.deferred (some []))]) rfl rfl (by simp [usedV]) hrng (List.Perm.swap _ _ _) (by simp [usedV]) (by intro l hl;cases hl) ?_)
    repeat (refine s121_L7z ?_;intros)
    refine JX.retM1 Tryz.results121 (List.Perm.swap _ _ _) (ResV.cellA (n:=5) rfl (by (first|exact List.mem_cons_self|exact List.mem_cons_of_mem _ List.mem_cons_self|exact List.mem_cons_of_mem _ (List.mem_cons_of_mem _ List.mem_cons_self))) (by simp [usedV])) (List.nil_sublist _) ?_
    exact ⟨rfl,rfl⟩
end Go.Dr
namespace Go.Dr
open Go.Proofs
set_option maxRecDepth 20000
set_option maxHeartbeats 2000000
set_option linter.unusedSimpArgs false
set_option linter.unusedVariables false
theorem nd_more {l:List Nat} {n:Nat} (hn:l.Nodup) (hb:∀ i∈l,i < n):∃ t,(l++t).Perm (List.range n):=by
 refine ⟨(List.range n).filter (fun i=>!decide (i∈l)),?_⟩
 have h1:(l++(List.range n).filter (fun i=>!decide (i∈l))).Nodup:=by
  rw [List.nodup_append]
  refine ⟨hn,List.nodup_range.filter _,?_⟩
  intro a ha b hb he
  subst he
  simp at hb
  exact hb.2 ha
 rw [List.perm_ext_iff_of_nodup h1 List.nodup_range]
 intro a
 by_cases ha:a∈l
 ·simp [ha,hb a ha]
 ·simp [ha]
theorem nd_len {l:List Nat} {n:Nat} (hn:l.Nodup) (hb:∀ i∈l,i < n):l.length≤n:=by
 obtain ⟨t,ht⟩:=nd_more hn hb
 have:=ht.length_eq
 simp at this
 omega
def keyAt (l:List (ByteArray × Value)) (i:Nat):ByteArray:=((l[i]?).map Prod.fst).getD noS
theorem keyAt_range (l:List (ByteArray × Value)):(List.range l.length).map (keyAt l)=l.map Prod.fst:=by
 apply List.ext_getElem?
 intro i
 rw [List.getElem?_map,List.getElem?_map]
 by_cases hi:i < l.length
 ·rw [List.getElem?_range hi]
  simp [keyAt,List.getElem?_eq_getElem hi]
 ·rw [List.getElem?_eq_none (by simpa using hi),List.getElem?_eq_none (by omega)]
  rfl
theorem p_Keys1 {S:SHeap} {b:Nat} {l:List (ByteArray × Value)} {q:Addr} (hq:PtrTo S q rVal (.map (some b))) (hS:S b=some (mapObj l)) (hk:∀ p∈l,p.1.size≤big) :
  IterS Tryz.prog 358 #[.pointer (some q)] rStr S (fun xs=>xs.Perm (l.map Prod.fst)):=by
 intro L J S1 M1 hl h0 hy
 have hq1:=hq.mono hl
 have hS1:=hl _ _ hS
 clear hq hS
 rw [show (#[.func (.yield L) #[] #[]]++#[.pointer (some q)]:Array Value)=#[.func (.yield L) #[] #[],.pointer (some q)] from rfl]
 (refine Fn.enter (args:=[.func (.yield L) #[] #[],.pointer (some q)]) Tryz.func358 rfl Tryz.ntmps358 rfl ?_;intro w0)
 repeat (first|(refine Walk ?_;intros)|refine JC.block ?_)
 refine JO.eff rfl rfl rfl (JEff.rangeM rfl hS1 rfl ?_);intro r hr
 repeat (first|(refine Walk ?_;intros)|refine JC.block ?_)
 refine JC.loopF (σ:=Array Nat × List MEnt) [(0,_),(5,_)] (fun q=>[]) (fun q=>.blk r (.mapIter (some b) l.length q.1 l.length)::q.2) (fun Si q=>q.1.toList.Nodup∧(∀ j∈q.1.toList,j < l.length)∧J (q.1.toList.map (keyAt l)) Si q.2) (fun q=>l.length - q.1.size) ((#[],M1)) (by exact sba) (by exact sba) rfl (⟨List.nodup_nil,(by intro j hj;cases hj),h0⟩) ?_;rintro Si ⟨seen,Mi⟩ hli hii;(try dsimp only at hii);dsimp only [List.cons_append,List.nil_append]
 obtain ⟨hi1,hi2,hi3⟩:=hii
 have hSi:=hli _ _ hS1
 have hlen:=nd_len hi1 hi2
 repeat (first|(refine Walk ?_;intros)|refine JC.block ?_)
 refine JO.eff rfl rfl rfl (JEff.nextM rfl hSi (List.Perm.refl _) (by intro l hl;cases hl) rfl (fun j p hj hjn=>?_) (fun hall=>?_))
 ·have hjl:=(List.getElem?_eq_some_iff.1 hj).1
  have hn2:(seen.toList++[j]).Nodup:=by
   rw [List.nodup_append]
   refine ⟨hi1,by simp,?_⟩
   intro a ha c hc he
   simp at hc
   subst hc;subst he
   exact hjn (by simpa using ha)
  have hb2:∀ i∈seen.toList++[j],i < l.length:=by
   intro i hi
   rcases List.mem_append.1 hi with h|h
   ·exact hi2 i h
   ·simp at h;subst h;exact hjl
  have hlen2:=nd_len hn2 hb2
  have hsz:(seen.push j).size=seen.size+1:=by simp
  have hsl:seen.size+1≤l.length:=by simpa using hlen2
  have hkj:keyAt l j=p.1:=by simp [keyAt,hj]
  have hpk:=hk p (List.mem_of_getElem? hj)
  obtain ⟨t,ht⟩:=nd_more hn2 hb2
  repeat (first|(refine Walk ?_;intros)|refine JC.block ?_)
  refine JO.eff rfl rfl rfl (JEff.entryM rfl hSi (by (first|exact List.mem_cons_self|exact List.mem_cons_of_mem _ List.mem_cons_self|exact List.mem_cons_of_mem _ (List.mem_cons_of_mem _ List.mem_cons_self))) hj rfl ?_)
  repeat (first|(refine Walk ?_;intros)|refine JC.block ?_)
  have hpre:∃ xs:List ByteArray,xs.Perm (l.map Prod.fst)∧seen.toList.map (keyAt l)++[p.1] <+: xs:=by
   refine ⟨(seen.toList++[j]++t).map (keyAt l),?_,?_⟩
   ·rw [← keyAt_range];exact ht.map _
   ·rw [List.map_append,List.map_append,List.map_singleton,hkj];exact List.prefix_append _ _
  refine JO.eff rfl rfl rfl (JEff.yield (Mc:=Mi) (Mr:=[.blk r (.mapIter (some b) l.length (seen.push j) l.length)]) rfl rfl rfl List.perm_append_comm (by intro l hl;cases hl) (hy _ p.1 _ _ _ (by exact lea) hpre (V_str.2 ⟨rfl,hpk⟩) hi3) rfl ?_);intro S' M' hl' hJ'
  repeat (first|(refine Walk ?_;intros)|refine JC.block ?_)
  refine JX.perm List.perm_append_comm ?_
  exact JX.roundF (seen.push j,M') (by exact lea) (⟨by simpa using hn2,by simpa using hb2,by simpa [hkj] using hJ'⟩) (by (try dsimp only);omega) rfl (by exact sba) (by exact sba)
 ·repeat (first|(refine Walk ?_;intros)|refine JC.block ?_)
  refine JX.end0 Tryz.results358 (List.sublist_cons_self _ _) ?_
  refine ⟨_,?_,hi3⟩
  rw [← keyAt_range]
  refine List.Perm.map _ ((List.perm_ext_iff_of_nodup hi1 List.nodup_range).2 (fun a=>⟨fun h=>by simpa using hi2 a h,fun h=>by simpa using hall a (by simpa using h)⟩))
theorem p_Keys {S:SHeap} {b:Nat} {l:List (ByteArray × Value)} (hS:S b=some (mapObj l)) (hk:∀ p∈l,p.1.size≤big) :
  FnR Tryz.prog 322 #[.map (some b)] S (fun w S'=>∃ lb,w=.func (.func 358) #[] lb∧IterS Tryz.prog 358 lb rStr S' (fun xs=>xs.Perm (l.map Prod.fst))):=by
 (refine Fn.enter (args:=[.map (some b)]) Tryz.func322 rfl Tryz.ntmps322 rfl ?_;intro w0)
 repeat (first|(refine Walk ?_;intros)|refine JC.block ?_|(refine WBox ?_;intros))
 (refine JX.ret1 Tryz.results322 (ResV.tmp rfl) (List.nil_sublist _) ?_)
 exact ⟨rfl,_,rfl,p_Keys1 (by exact pta) (by first|exact hS|exact (by assumption:SHeap.le _ _) _ _ hS) hk⟩
end Go.Dr
namespace Go.Dr
open Go.RowKit
set_option linter.unusedSimpArgs false
set_option linter.unusedVariables false
theorem Wd.rowTurnB {B:Nat} {w0 w w':World} {B0:List Nat} {S0 S:SHeap} {M:List MEnt} {e:TypeId} {sz:Nat} {v v':Value} {n n':Nat} {xs xs':List Value} (h:Wd w0 B0 S0 S (.row B e sz v n xs::M) w)
  (hg:w.grownBy w' v.ownBlock) (hd:w.drawn≤w'.drawn) (hr:w'.ownsRow B e sz v' n' xs') (ho:v'.ownBlock=v.ownBlock∨v'.ownBlock=some w.heap.size):Wd w0 B0 S0 S (.row B e sz v' n' xs'::M) w' where
 os:=hg.os.trans h.os
 tape:=hg.tape.trans h.tape
 output:=hg.output.trans h.output
 size:=Nat.le_trans h.size hg.size
 drawn:=Nat.le_trans h.drawn hd
 keep:=fun k hk hb=>by
  refine (hg.block k (Nat.lt_of_lt_of_le hk h.size) fun e1=>?_).trans (h.keep k hk hb)
  rcases (h.out (.row B e sz v n xs) (by simp) k e1.symm).2 with h1|h1
  ·omega
  ·exact hb h1
 le:=h.le
 new:=h.new
 agree:=fun k o hk=>by
  have h1:=h.agree k o hk
  rw [hg.block k (Array.getElem?_eq_some_iff.1 h1).1 fun e1=>?_]
  ·exact h1
  ·have:=(h.out (.row B e sz v n xs) (by simp) k e1.symm).1
   rw [this] at hk;cases hk
 ok:=fun m hm=>by
  rcases List.mem_cons.1 hm with rfl|hm
  ·exact hr
  ·have h1:=h.ok m (List.mem_cons_of_mem _ hm)
   exact h1.keep fun k hk=>hg.block k (h1.lt k hk) fun e1=>(List.pairwise_cons.1 h.sep).1 m hm k e1.symm hk
 sep:=List.pairwise_cons.2 ⟨fun m hm k hk hk'=>by
  rcases ho with ho|ho
  ·exact (List.pairwise_cons.1 h.sep).1 m hm k ((show v.ownBlock=some k from ho.symm.trans hk)) hk'
  ·have h1:=(h.ok m (List.mem_cons_of_mem _ hm)).lt k hk'
   have h2:some w.heap.size=some k:=ho.symm.trans hk
   cases h2;omega,(List.pairwise_cons.1 h.sep).2⟩
 out:=fun m hm k hk=>by
  rcases List.mem_cons.1 hm with rfl|hm
  ·rcases ho with ho|ho
   ·exact h.out (.row B e sz v n xs) (by simp) k ((show v.ownBlock=some k from ho.symm.trans hk))
   ·have h2:some w.heap.size=some k:=ho.symm.trans hk
    cases h2
    exact ⟨h.fresh,.inl h.size⟩
  ·exact h.out m (List.mem_cons_of_mem _ hm) k hk
section
variable {C:Cx} {R:Rg} {Q:Post} {S S' S1:SHeap} {M M':List MEnt} {e e':Env} {rest:List Nat}
variable {d:Nat} {ty:TypeId} {pos:String} {aft:Array Edge} {g:Option (Nat × Bool)}
theorem JEff.appendLB {B:Nat} {α:Type} {T E:TypeId} {x y:Operand} {b n m bt:Nat} {v:Value} {xs:List Value} {cs:Array Value} {fr:Nat × Nat} {rep:Rp α} {z:Value} {Mr:List MEnt} (hB:B≤C.w0.heap.size) (hx:ev e x=some v) (hy:ev e y=some (.slice (some ⟨b,0,none⟩) m m))
  [hu:Und C.P T (.slice E)] [ht:TyR C.P E rep] [hz:Zero C.P E z] (hzs:z.cells.size=rep.sz) [hby:Byt C.P E bt] (hsz:Nat.ble 1 rep.sz=true)
  (hM:(MEnt.row B E rep.sz v n xs::.blk b (.cells cs E fr)::Mr).Perm M) (hcs:cs.size=m*rep.sz) (h1:∀ c∈cs.toList,c.oneCell'=true) (hbig:(n+m)*bt≤big) (hbig1:n+m≤big)
  (hT:∀ l,R.T=some l→∀ b,v.ownBlock=some b→b∈l) (hdN:Nat.blt d C.N=true)
  (k:∀ a c,JO C R rest Q S (.row B E rep.sz (.slice a (n+m) c) (n+m) (xs++cs.toList)::Mr) ((d,.slice a (n+m) c)::e)) :
  JEff C R ⟨some d,.call { callee:=.builtin .append,args:=#[x,y],argTypes:=#[T,T] },ty,pos,aft,g⟩ rest Q S M e:=
 JEff.ofRun rfl rfl hdN fun a w hw=>by
  have hwd:=hw.wd.perm hM
  have hrow:w.ownsRow B E rep.sz v n xs:=hwd.ok (.row B E rep.sz v n xs) (by simp)
  have hblk:w.heap[b]?=some (.cells cs E fr):=hwd.ok (.blk b (.cells cs E fr)) (by simp)
  obtain ⟨i,hi,hsi⟩:=ht.i
  obtain ⟨i',hi',hz'⟩:=Option.map_eq_some_iff.1 hz.h
  have e1:i=i':=by rw [hi] at hi';exact Option.some.inj hi'
  subst e1
  have hbt:i.bytes=bt:=by have hby:=hby.h;rw [hi] at hby;simpa using hby
  obtain ⟨v',w',hrun,hown,hg,_,ho,hdr⟩:=run_append_d (P:=C.P) w B T ty E i z rep.sz bt hu.h hi hz' hsi hbt hzs (Nat.le_of_ble_eq_true hsz) v n xs hrow ⟨b,0,none⟩ m m cs.toList (by simpa using hcs)
   (fun j u hj=>by rw [add_plain];simp only [World.cell?,hblk];simpa using hj) h1 (by unfold big at hbig1;simp only [maxLen];omega) hbig (Nat.le_trans hB hwd.size)
  obtain ⟨a',c',rfl⟩:=ownsRow_form hown
  refine ⟨_,w',?_,subX_grown hg hT,hg.size,S,_,(hwd.rowTurnB hg hdr hown ho).sub (List.Sublist.cons_cons _ (List.sublist_cons_self _ _)),SHeap.le.refl _,k a' c'⟩
  simp only [execOp,resolve,invoke,builtin,Sem.run_bind,Sem.run_pure,Result.andThen_ok,List.map_toArray,List.map_cons,List.map_nil,hw.env.eval hx,hw.env.eval hy,hrun]
theorem Wd.rowBase {w0 w:World} {B0:List Nat} {S0 S:SHeap} {M:List MEnt} {B B' E sz n:Nat} {v:Value} {xs:List Value} (h:Wd w0 B0 S0 S (.row B E sz v n xs::M) w) (hb:B'≤B):Wd w0 B0 S0 S (.row B' E sz v n xs::M) w:=
 { h with
  ok:=fun m hm=>by
   rcases List.mem_cons.1 hm with rfl|hm
   ·have h1:w.ownsRow B E sz v n xs:=h.ok (.row B E sz v n xs) (by simp)
    refine ⟨h1.1,?_⟩
    rcases h1.2 with h2|⟨g,cap,cur,hv,hg,hr⟩
    ·exact .inl h2
    ·exact .inr ⟨g,cap,cur,hv,Nat.le_trans hb hg,hr⟩
   ·exact h.ok m (List.mem_cons_of_mem _ hm)
  sep:=List.pairwise_cons.2 ⟨fun m hm k hk=>(List.pairwise_cons.1 h.sep).1 m hm k hk,(List.pairwise_cons.1 h.sep).2⟩
  out:=fun m hm k hk=>by
   rcases List.mem_cons.1 hm with rfl|hm
   ·exact h.out (.row B E sz v n xs) (by simp) k hk
   ·exact h.out m (List.mem_cons_of_mem _ hm) k hk }
theorem JC.newRow0 {c:Code} (E:TypeId) (sz:Nat) (k:JC C c Q S (.row 0 E sz (.slice none 0 0) 0 []::M) e):JC C c Q S M e:=⟨fun a w hw=>k.run a w ⟨hw.env,hw.defers,(hw.wd.newRow E sz).rowBase (Nat.zero_le _)⟩⟩
end
end Go.Dr
namespace Go.Dr
open Go.Proofs
set_option maxRecDepth 20000
set_option maxHeartbeats 2000000
set_option linter.unusedSimpArgs false
set_option linter.unusedVariables false
theorem p_AppendSeq {S:SHeap} {gf:FuncId} {lb:Array Value} {Sx:List ByteArray→Prop} (hE:Ent Tryz.prog gf) (hit:IterS Tryz.prog gf lb rStr S Sx) (hlen:∀ xs,Sx xs→xs.length≤1000000) :
  Fn Tryz.prog 371 #[.slice none 0 0,.func (.func gf) #[] lb] S [] (fun v S' M'=>∃ xs a c vs,Sx xs∧v=.slice a xs.length c∧allV rStr S' vs xs∧M'=[.row 0 9 1 v xs.length (flatCells vs)]):=by
 haveI:TyR Tryz.prog 51 rVal:=⟨(inferInstance:TyR Tryz.prog 51 (rSlice 16 rStr)).b⟩
 (refine Fn.enterM (args:=[.slice none 0 0,.func (.func gf) #[] lb]) Tryz.func371 rfl Tryz.ntmps371 rfl ?_;intro w0)
 repeat (first|(refine Walk ?_;intros)|refine JC.block ?_)
 refine JO.eff rfl rfl rfl (JEff.box rfl rfl ?_);intro b2 hb2
 repeat (first|(refine Walk ?_;intros)|refine JC.block ?_)
 refine JC.newRow0 9 1 ?_
 refine JC.rangeFuncS (rep:=rStr) (Sx:=Sx) (fun pre S' M'=>∃ a c vs,allV rStr S' vs pre∧M'=[.row 0 9 1 (.slice a pre.length c) pre.length (flatCells vs),.blk b2 (.cells (Value.slice a pre.length c).cells 51 (0,0))]) rfl rfl hE rfl hit ⟨none,0,[],trivial,rfl⟩ ?_ ?_
 ·rintro w1 B1 K L Rc pre y v S' M' hR hp hl ⟨xs,hxs,hpx⟩ hv ⟨a,c,vs,hvs,rfl⟩
  have hpl:=hpx.length_le
  have hxl:=hlen xs hxs
  simp only [List.length_append,List.length_cons,List.length_nil] at hpl
  repeat (first|(refine Walk ?_;intros)|refine JC.block ?_)
  refine JX.begin rfl hR ?_
  refine JC.perm (List.perm_append_comm (l₁:=[_,_]) (l₂:=[_,_])) ?_
  repeat (first|(refine Walk ?_;intros)|refine JC.block ?_)
  dsimp only [List.cons_append,List.nil_append]
  obtain ⟨rfl,hys⟩:=V_str.1 hv
  refine JO.pure rfl rfl rfl (JPure.loadM (mid:=[.slice a pre.length c]) (rep:=rVal) rfl (List.mem_cons_of_mem _ List.mem_cons_self) rfl ⟨rfl,rfl⟩ (.inl rfl) rfl ?_)
  repeat (first|(refine Walk ?_;intros)|refine JC.block ?_)
  refine JO.eff rfl rfl rfl (JEff.build (rep:=rStr) (ys:=[y]) rfl rfl ⟨⟨V_str.2 ⟨rfl,hys⟩,nna⟩,trivial⟩ rfl rfl rfl rfl ?_);intro bb hbb hvv
  repeat (first|(refine Walk ?_;intros)|refine JC.block ?_)
  refine JO.eff rfl rfl rfl (JEff.appendLB (B:=0) (rep:=rStr) (Nat.zero_le _) rfl rfl rfl rfl (List.Perm.swap _ _ _) (by exact hvv.flat) (by intro c hc;exact flat_one (fun v hv=>(hvv.size v hv).2) c hc) (by first|omega|(unfold big;omega)) (by unfold big;omega) (by intro l hl;cases hl) rfl ?_);intro a2 c2
  repeat (first|(refine Walk ?_;intros)|refine JC.block ?_)
  refine JO.eff rfl rfl rfl (JEff.storeW (rep:=rVal) rfl rfl (V_val.2 ⟨rfl,rfl⟩) nna (List.Perm.swap _ _ _) rfl (by intro l hl;cases hl) ?_)
  repeat (first|(refine Walk ?_;intros)|refine JC.block ?_)
  refine JX.endRound hR hp ((List.perm_append_comm (l₁:=[_,_]) (l₂:=[_,_])).trans (List.Perm.swap _ _ _)) ?_
  refine ⟨a2,c2,vs++[.string y],allV.append (us:=[.string y]) (ys:=[y]) ⟨⟨V_str.2 ⟨rfl,hys⟩,nna⟩,trivial⟩ hvs,?_⟩
  rw [flat_append,List.length_append]
  rfl
 ·rintro K xs S' M' hl hxs ⟨a,c,vs,hvs,rfl⟩
  repeat (first|(refine Walk ?_;intros)|refine JC.block ?_)
  refine JO.pure rfl rfl rfl (JPure.loadM (mid:=[.slice a xs.length c]) (rep:=rVal) rfl (List.mem_cons_of_mem _ (List.mem_cons_of_mem _ List.mem_cons_self)) rfl ⟨rfl,rfl⟩ (.inl rfl) rfl ?_)
  repeat (first|(refine Walk ?_;intros)|refine JC.block ?_)
  refine JX.retM1 Tryz.results371 (List.Perm.refl _) (ResV.tmp rfl) (List.Sublist.cons_cons _ (List.nil_sublist _)) ?_
  exact ⟨xs,a,c,vs,hxs,rfl,hvs,rfl⟩
theorem p_Collect {S:SHeap} {gf:FuncId} {lb:Array Value} {Sx:List ByteArray→Prop} (hE:Ent Tryz.prog gf) (hit:IterS Tryz.prog gf lb rStr S Sx) (hlen:∀ xs,Sx xs→xs.length≤1000000) :
  Fn Tryz.prog 356 #[.func (.func gf) #[] lb] S [] (fun v S' M'=>∃ xs a c vs,Sx xs∧v=.slice a xs.length c∧allV rStr S' vs xs∧M'=[.row 0 9 1 v xs.length (flatCells vs)]):=by
 (refine Fn.enter (args:=[.func (.func gf) #[] lb]) Tryz.func356 rfl Tryz.ntmps356 rfl ?_;intro w0)
 repeat (first|(refine Walk ?_;intros)|refine JC.block ?_)
 refine JO.eff rfl rfl rfl (JEff.fn (Mc:=[]) (Mr:=[]) (sem_call rfl _ _ _ _ _) rfl rfl rfl (List.Perm.refl _) (by intro l hl m hm;cases hm) (p_AppendSeq hE hit hlen) ?_);rintro v S' M' hl ⟨xs,a,c,vs,hxs,rfl,hvs,rfl⟩
 repeat (first|(refine Walk ?_;intros)|refine JC.block ?_)
 refine JX.ret1 Tryz.results356 (ResV.tmp rfl) (List.Sublist.refl _) ?_
 exact ⟨xs,a,c,vs,hxs,rfl,hvs,by simp⟩
end Go.Dr
namespace Go.Proofs
open Go.Shelf
def Tryz.lays125_ren:Go.Shelf.Ren:=⟨fun|125=>124|128=>188|129=>189|n=>n,fun|46=>157|3=>3|51=>240|53=>242|4=>4|5=>5|9=>9|n=>n,fun|n=>n⟩
theorem Tryz.lays125:Go.Proofs.Lays.n125 Tryz.prog Tryz.lays125_ren:={
 mixed:=by kernel_rfl
 f125:=Tryz.func124.trans (congrArg some (by kernel_rfl))
 f128:=Tryz.func188.trans (congrArg some (by kernel_rfl))
 f129:=Tryz.func189.trans (congrArg some (by kernel_rfl))
 t3:=Tryz.underlying3
 a3:=Tryz.isAgg3
 z3:=Tryz.sizeOf3
 v3:=Tryz.zeroValue3
 t4:=Tryz.underlying4
 a4:=Tryz.isAgg4
 z4:=Tryz.sizeOf4
 v4:=Tryz.zeroValue4
 t5:=Tryz.underlying5
 a5:=Tryz.isAgg5
 z5:=Tryz.sizeOf5
 v5:=Tryz.zeroValue5
 t9:=Tryz.underlying9
 a9:=Tryz.isAgg9
 z9:=Tryz.sizeOf9
 v9:=Tryz.zeroValue9
 t46:=Tryz.underlying157
 a46:=Tryz.isAgg157
 z46:=Tryz.sizeOf157
 v46:=Tryz.zeroValue157
 t51:=Tryz.underlying240
 a51:=Tryz.isAgg240
 z51:=Tryz.sizeOf240
 v51:=Tryz.zeroValue240
 t53:=Tryz.underlying242
 a53:=Tryz.isAgg242
 z53:=Tryz.sizeOf242
 v53:=Tryz.zeroValue242 }
def Tryz.lays190_ren:Go.Shelf.Ren:=⟨fun|190=>357|125=>124|258=>372|128=>188|129=>189|302=>377|303=>378|304=>379|305=>380|306=>381|307=>382|308=>264|309=>383|310=>384|333=>386|329=>259|330=>260|334=>387|335=>388|336=>312|344=>389|n=>n,fun|31=>51|9=>9|3=>3|46=>157|0=>0|51=>240|53=>242|4=>4|183=>234|182=>233|131=>66|5=>5|218=>283|222=>287|228=>319|229=>320|n=>n,fun|n=>n⟩
theorem Tryz.lays190:Go.Proofs.Lays.n190 Tryz.prog Tryz.lays190_ren:={
 mixed:=by kernel_rfl
 f125:=Tryz.func124.trans (congrArg some (by kernel_rfl))
 f128:=Tryz.func188.trans (congrArg some (by kernel_rfl))
 f129:=Tryz.func189.trans (congrArg some (by kernel_rfl))
 f190:=Tryz.func357.trans (congrArg some (by kernel_rfl))
 f258:=Tryz.func372.trans (congrArg some (by kernel_rfl))
 f302:=Tryz.func377.trans (congrArg some (by kernel_rfl))
 f303:=Tryz.func378.trans (congrArg some (by kernel_rfl))
 f304:=Tryz.func379.trans (congrArg some (by kernel_rfl))
 f305:=Tryz.func380.trans (congrArg some (by kernel_rfl))
 f306:=Tryz.func381.trans (congrArg some (by kernel_rfl))
 f307:=Tryz.func382.trans (congrArg some (by kernel_rfl))
 f308:=Tryz.func264.trans (congrArg some (by kernel_rfl))
 f309:=Tryz.func383.trans (congrArg some (by kernel_rfl))
 f310:=Tryz.func384.trans (congrArg some (by kernel_rfl))
 f329:=Tryz.func259.trans (congrArg some (by kernel_rfl))
 f330:=Tryz.func260.trans (congrArg some (by kernel_rfl))
 f333:=Tryz.func386.trans (congrArg some (by kernel_rfl))
 f334:=Tryz.func387.trans (congrArg some (by kernel_rfl))
 f335:=Tryz.func388.trans (congrArg some (by kernel_rfl))
 f336:=Tryz.func312.trans (congrArg some (by kernel_rfl))
 f344:=Tryz.func389.trans (congrArg some (by kernel_rfl))
 t0:=Tryz.underlying0
 a0:=Tryz.isAgg0
 z0:=Tryz.sizeOf0
 v0:=Tryz.zeroValue0
 t3:=Tryz.underlying3
 a3:=Tryz.isAgg3
 z3:=Tryz.sizeOf3
 v3:=Tryz.zeroValue3
 t4:=Tryz.underlying4
 a4:=Tryz.isAgg4
 z4:=Tryz.sizeOf4
 v4:=Tryz.zeroValue4
 t5:=Tryz.underlying5
 a5:=Tryz.isAgg5
 z5:=Tryz.sizeOf5
 v5:=Tryz.zeroValue5
 t9:=Tryz.underlying9
 a9:=Tryz.isAgg9
 z9:=Tryz.sizeOf9
 v9:=Tryz.zeroValue9
 t31:=Tryz.underlying51
 a31:=Tryz.isAgg51
 z31:=Tryz.sizeOf51
 v31:=Tryz.zeroValue51
 t46:=Tryz.underlying157
 a46:=Tryz.isAgg157
 z46:=Tryz.sizeOf157
 v46:=Tryz.zeroValue157
 t51:=Tryz.underlying240
 a51:=Tryz.isAgg240
 z51:=Tryz.sizeOf240
 v51:=Tryz.zeroValue240
 t53:=Tryz.underlying242
 a53:=Tryz.isAgg242
 z53:=Tryz.sizeOf242
 v53:=Tryz.zeroValue242
 t131:=Tryz.underlying66
 a131:=Tryz.isAgg66
 z131:=Tryz.sizeOf66
 v131:=Tryz.zeroValue66
 t182:=Tryz.underlying233
 a182:=Tryz.isAgg233
 z182:=Tryz.sizeOf233
 v182:=Tryz.zeroValue233
 t183:=Tryz.underlying234
 a183:=Tryz.isAgg234
 z183:=Tryz.sizeOf234
 v183:=Tryz.zeroValue234
 t218:=Tryz.underlying283
 a218:=Tryz.isAgg283
 z218:=Tryz.sizeOf283
 v218:=Tryz.zeroValue283
 t222:=Tryz.underlying287
 a222:=Tryz.isAgg287
 z222:=Tryz.sizeOf287
 v222:=Tryz.zeroValue287
 t228:=Tryz.underlying319
 a228:=Tryz.isAgg319
 z228:=Tryz.sizeOf319
 v228:=Tryz.zeroValue319
 t229:=Tryz.underlying320
 a229:=Tryz.isAgg320
 z229:=Tryz.sizeOf320
 v229:=Tryz.zeroValue320 }
theorem Tryz.bits_Len (x:Int) (w:World) (h0:0≤x) (h1:x≤18446744073709551615) :
  Calls Tryz.prog 124 #[.int .u64 x] w fun e w'=>e=.returned (.int .i64 (Lib.bitLen x.toNat))∧w'=w:=Any.bits_Len Tryz.lays125 x w h0 h1
theorem Tryz.slices_Sort_string_none (p:Option Addr) (cap:Nat) (w:World) :
  Calls Tryz.prog 357 #[.slice p 0 cap] w fun e w'=>e=.returned (.tuple #[])∧w'=w:=Any.slices_Sort_string_none Tryz.lays190 p cap w
end Go.Proofs
namespace Go.Dr
open Go.Proofs
theorem p_bitsLen {S:SHeap} (x:Int) (h0:0≤x) (h1:x≤18446744073709551615):FnV Tryz.prog 124 #[.int .u64 x] S (.int .i64 (Lib.bitLen x.toNat)):=by
 intro w hg _ _ _
 refine (Tryz.bits_Len x w h0 h1).mono ?_
 rintro e w' ⟨rfl,rfl⟩
 exact ⟨_,S,[],rfl,Wd.start0 hg,rfl,rfl⟩
theorem p_Sort0 {S:SHeap} (p:Option Addr) (c:Nat):FnV Tryz.prog 357 #[.slice p 0 c] S (.tuple #[]):=by
 intro w hg _ _ _
 refine (Tryz.slices_Sort_string_none p c w).mono ?_
 rintro e w' ⟨rfl,rfl⟩
 exact ⟨_,S,[],rfl,Wd.start0 hg,rfl,rfl⟩
end Go.Dr
namespace Go.Dr
open Go.Proofs
set_option maxRecDepth 20000
set_option maxHeartbeats 2000000
set_option linter.unusedSimpArgs false
set_option linter.unusedVariables false
def srt (xs:List ByteArray) (i:Nat):Prop:=∀ k x y,k+1≤i→xs[k]?=some x→xs[k+1]?=some y→ltS y x=false
def insI (xs:List ByteArray) (i j:Nat):Prop:=
 j≤i∧(∀ k x y,k+1≤i→k+1≠j→xs[k]?=some x→xs[k+1]?=some y→ltS y x=false)∧(∀ x y,1≤j→j < i→xs[j - 1]?=some x→xs[j+1]?=some y→ltS y x=false)
theorem ltS_asymm {x y:ByteArray} (h:ltS y x=true):ltS x y=false:=by
 rw [ltS_total] at h
 simp only [Bool.and_eq_true,Bool.not_eq_true'] at h
 exact h.1
theorem insI_start {xs:List ByteArray} {i:Nat} (h:srt xs i):insI xs (i+1) (i+1):=
 ⟨Nat.le_refl _,fun k x y hk hne hx hy=>h k x y (by omega) hx hy,fun x y _ h2=>by omega⟩
theorem insI_zero {xs:List ByteArray} {i:Nat} (h:insI xs i 0):srt xs i:=fun k x y hk hx hy=>h.2.1 k x y hk (by omega) hx hy
theorem insI_stop {xs:List ByteArray} {i j:Nat} {x y:ByteArray} (h:insI xs i j) (hj:1≤j) (hx:xs[j - 1]?=some x) (hy:xs[j]?=some y) (hlt:ltS y x=false):srt xs i:=by
 intro k u v hk hu hv
 by_cases a:k+1=j
 ·rw [show k=j - 1 by omega] at hu
  rw [a] at hv
  rw [hx] at hu;rw [hy] at hv
  cases hu;cases hv
  exact hlt
 ·exact h.2.1 k u v hk a hu hv
theorem insI_swap {xs:List ByteArray} {i j:Nat} {x y:ByteArray} (h:insI xs i j) (hj:1≤j) (hx:xs[j - 1]?=some x) (hy:xs[j]?=some y) (hlt:ltS y x=true):insI ((xs.set j x).set (j - 1) y) i (j - 1):=by
 obtain ⟨h0,h1,h2⟩:=h
 have hjl:j < xs.length:=(List.getElem?_eq_some_iff.1 hy).1
 have g:∀ k,((xs.set j x).set (j - 1) y)[k]?=if k=j - 1 then some y else if k=j then some x else xs[k]?:=by
  intro k
  rw [List.getElem?_set,List.getElem?_set,List.length_set]
  by_cases a:j - 1=k
  ·rw [if_pos a,if_pos (by omega),if_pos a.symm]
  ·rw [if_neg a,if_neg (Ne.symm a)]
   by_cases b:j=k
   ·rw [if_pos b,if_pos (by omega),if_pos b.symm]
   ·rw [if_neg b,if_neg (Ne.symm b)]
 refine ⟨by omega,?_,?_⟩
 ·intro k u v hk hne hu hv
  rw [g] at hu hv
  by_cases a:k=j - 1
  ·rw [if_pos a] at hu
   rw [if_neg (by omega),if_pos (by omega)] at hv
   cases hu;cases hv
   exact ltS_asymm hlt
  ·rw [if_neg a] at hu
   by_cases b:k=j
   ·rw [if_pos b] at hu
    rw [if_neg (by omega),if_neg (by omega)] at hv
    cases hu
    exact h2 _ v hj (by omega) hx (by rw [← b];exact hv)
   ·rw [if_neg b] at hu
    rw [if_neg (by omega),if_neg (by omega)] at hv
    exact h1 k u v hk (by omega) hu hv
 ·intro u v h3 h4 hu hv
  rw [g] at hu hv
  rw [if_neg (by omega),if_neg (by omega)] at hu
  rw [if_neg (by omega),if_pos (by omega)] at hv
  cases hv
  exact h1 (j - 1 - 1) u _ (by omega) (by omega) hu (by rw [show j - 1 - 1+1=j - 1 by omega];exact hx)
theorem swap_perm {xs:List ByteArray} {j:Nat} {x y:ByteArray} (hj:1≤j) (hx:xs[j - 1]?=some x) (hy:xs[j]?=some y):((xs.set j x).set (j - 1) y).Perm xs:=by
 obtain ⟨A,B,rfl,hA⟩:∃ A B,xs=A++x::y::B∧A.length=j - 1:=by
  refine ⟨xs.take (j - 1),xs.drop (j+1),?_,?_⟩
  ·obtain ⟨h1,e1⟩:=List.getElem?_eq_some_iff.1 hx
   obtain ⟨h2,e2⟩:=List.getElem?_eq_some_iff.1 hy
   have d1:=List.drop_eq_getElem_cons h1
   have d2:=List.drop_eq_getElem_cons h2
   rw [show j - 1+1=j by omega,d2,e1,e2] at d1
   rw [← d1,List.take_append_drop]
  ·have:=(List.getElem?_eq_some_iff.1 hx).1
   simp;omega
 have e:((A++x::y::B).set j x).set (j - 1) y=A++y::x::B:=by
  rw [List.set_append_right _ _ (by omega),show j - A.length=1 by omega,List.set_append_right _ _ (by omega),show j - 1 - A.length=0 by omega]
  rfl
 rw [e]
 exact List.Perm.append_left _ (List.Perm.swap _ _ _)
theorem JX.blkNew {C:Cx} {x:Exit} {Q:Post} {S:SHeap} {M:List MEnt} {e:Env} {b:Nat} {o:Obj} (h0:C.B0=[]) (k:C.w0.heap.size≤b→JX C x Q S (.blk b o::M) e):JX C x Q S (.blk b o::M) e:=⟨fun a w hw=>by
 have:=(hw.wd.out (.blk b o) (by simp) b rfl).2
 rw [h0] at this
 exact (k (this.resolve_right (by simp))).run a w hw⟩
theorem JX.end0r {S S0:SHeap} {M M':List MEnt} {e:Env} {fn:Func} {w0:World} {B0:List Nat} {PP:Value→SHeap→List MEnt→Prop} {P:Program} {r:Option Nat} {N:Nat} (hr:fn.results=#[]) (hM:M'.Sublist M) (hp:PP (.tuple #[]) S M') :
  JX ⟨P,r,N,[],w0,B0,S0⟩ .ret (bodyPost P fn (EndPost w0 B0 S0 PP)) S M e:=⟨fun a w hw=>(JX.end0 hr hM hp).run a w hw⟩
theorem s377_L7m {P K:Prop} (k:K) (h:Goal K→P:=by
 intro zk
 (first|refine Walk ?_|refine JC.block ?_|refine JC.drawN 4 rfl [0,1,2,3,4,5,6,7,8,9,10,11,12,13,14] [0,1,2,3,4,5,6,7,8,9,10,11,12,14] Tryz_mixed (by decide +kernel) ?_|refine JC.drawN 6 rfl [0,1,2,3,4,5,6,7,8,9,10,11,12,13,14,15,16,17] [0,1,5,6,7,8,9,10,11,12,13,14,16] Tryz_mixed (by decide +kernel) ?_|(refine JO.eff rfl rfl rfl (JEff.callV rfl (p_Less _ _) rfl ?_);intro zqa zqb))
 (repeat (first|revert zqg|revert zqf|revert zqe|revert zqd|revert zqc|revert zqb|revert zqa))
 exact zk.k):P:=h ⟨k⟩
theorem p_insertionSort {S:SHeap} {b n c:Nat} {vs tl:List Value} {xs:List ByteArray} (hv:allV rStr S vs xs) (hn:n=xs.length) (hb:n≤1000) (hc:n≤c) :
  Fn Tryz.prog 377 #[.slice (some ⟨b,0,none⟩) n c,.int .i64 0,.int .i64 n] S [.blk b (.cells (cellsR vs tl) 9 (0,0))]
   (fun w S' M'=>w=.tuple #[]∧∃ vs' xs',allV rStr S' vs' xs'∧xs'.Perm xs∧srt xs' (n - 1)∧M'=[.blk b (.cells (cellsR vs' tl) 9 (0,0))]):=by
 (refine Fn.enter (args:=[.slice (some ⟨b,0,none⟩) n c,.int .i64 0,.int .i64 n]) Tryz.func377 rfl Tryz.ntmps377 rfl ?_;intro w0)
 repeat (refine s377_L7m ?_;intros)
 refine JC.loopF (σ:=Nat × List Value × List ByteArray) [(0,_),(1,_),(2,_)] (fun q=>[(6,.int .i64 ((q.1:Int)+1))]) (fun q=>[.blk b (.cells (cellsR q.2.1 tl) 9 (0,0))]) (fun Si q=>q.1≤n∧allV rStr Si q.2.1 q.2.2∧q.2.2.Perm xs∧srt q.2.2 q.1) (fun q=>n - q.1) ((0,vs,xs)) (by exact sba) (by exact sba) rfl (⟨Nat.zero_le _,hv.mono (by exact lea),List.Perm.refl _,fun k x y hk=>by omega⟩) ?_;rintro Si ⟨k,vs1,xs1⟩ hli hii;(try dsimp only at hii);dsimp only [List.cons_append,List.nil_append]
 obtain ⟨hk0,hv1,hp1,hs1⟩:=hii
 have hl1:=hp1.length_eq
 repeat (refine s377_L7m ?_;intros)
 refine JC.cond rfl (fun hc0=>?_) (fun hc0=>?_)
 ·have hk':k+1 < n:=by have:=of_decide_eq_true hc0;omega
  repeat (refine s377_L7m ?_;intros)
  refine JC.loopF (σ:=Nat × List Value × List ByteArray) [(0,_),(1,_),(2,_),(6,_)] (fun q=>[(7,.int .i64 (q.1:Int))]) (fun q=>[.blk b (.cells (cellsR q.2.1 tl) 9 (0,0))]) (fun Sj q=>insI q.2.2 (k+1) q.1∧allV rStr Sj q.2.1 q.2.2∧q.2.2.Perm xs) (fun q=>q.1) ((k+1,vs1,xs1)) (by exact sba) (by exact sba) rfl (⟨insI_start hs1,hv1.mono (by exact lea),hp1⟩) ?_;rintro Sj ⟨j,vs2,xs2⟩ hlj hij;(try dsimp only at hij);dsimp only [List.cons_append,List.nil_append]
  obtain ⟨hj1,hv2,hp2⟩:=hij
  have hl2:=hp2.length_eq
  have hj0:=hj1.1
  repeat (refine s377_L7m ?_;intros)
  cases hg:decide ((0:Int) < (j:Int)) with
  | true=>
   have hj':1≤j:=by have:=of_decide_eq_true hg;omega
   obtain ⟨y,hy⟩:∃ y,xs2[j]?=some y:=⟨_,List.getElem?_eq_getElem (by omega)⟩
   obtain ⟨x,hx⟩:∃ x,xs2[j - 1]?=some x:=⟨_,List.getElem?_eq_getElem (by omega)⟩
   refine JO.guard rfl rfl rfl rfl (fun _=>?_) (fun g=>Bool.noConfusion (g.symm.trans rfl))
   repeat (refine s377_L7m ?_;intros)
   refine JO.pure rfl rfl rfl (JPure.indexRR rStr rfl rfl rfl (by omega) (by omega) ?_)
   refine JO.pure rfl rfl rfl (JPure.loadRT (j:=j) rfl (by show 0+((j:Int)).toNat*1=j;omega) (by (first|exact List.mem_cons_self|exact List.mem_cons_of_mem _ List.mem_cons_self|exact List.mem_cons_of_mem _ (List.mem_cons_of_mem _ List.mem_cons_self))) (hv2.mono (by exact lea)) hy (.inl rfl) rfl ?_);intro hys
   repeat (refine s377_L7m ?_;intros)
   refine JO.pure rfl rfl rfl (JPure.indexRR rStr rfl rfl rfl (by omega) (by omega) ?_)
   refine JO.pure rfl rfl rfl (JPure.loadRT (j:=j - 1) rfl (by show 0+((j:Int) - 1).toNat*1=j - 1;omega) (by (first|exact List.mem_cons_self|exact List.mem_cons_of_mem _ List.mem_cons_self|exact List.mem_cons_of_mem _ (List.mem_cons_of_mem _ List.mem_cons_self))) (hv2.mono (by exact lea)) hx (.inl rfl) rfl ?_);intro hxs
   repeat (refine s377_L7m ?_;intros)
   cases hlt:ltS y x with
   | true=>
    repeat (refine s377_L7m ?_;intros)
    refine JO.pure rfl rfl rfl (JPure.indexRR rStr rfl rfl rfl (by omega) (by omega) ?_)
    refine JO.pure rfl rfl rfl (JPure.loadRT (j:=j - 1) rfl (by show 0+((j:Int) - 1).toNat*1=j - 1;omega) (by (first|exact List.mem_cons_self|exact List.mem_cons_of_mem _ List.mem_cons_self|exact List.mem_cons_of_mem _ (List.mem_cons_of_mem _ List.mem_cons_self))) (hv2.mono (by exact lea)) hx (.inl rfl) rfl ?_);intro hxs3
    repeat (refine s377_L7m ?_;intros)
    refine JO.pure rfl rfl rfl (JPure.indexRR rStr rfl rfl rfl (by omega) (by omega) ?_)
    refine JO.pure rfl rfl rfl (JPure.loadRT (j:=j) rfl (by show 0+((j:Int)).toNat*1=j;omega) (by (first|exact List.mem_cons_self|exact List.mem_cons_of_mem _ List.mem_cons_self|exact List.mem_cons_of_mem _ (List.mem_cons_of_mem _ List.mem_cons_self))) (hv2.mono (by exact lea)) hy (.inl rfl) rfl ?_);intro hys3
    repeat (refine s377_L7m ?_;intros)
    refine JO.pure rfl rfl rfl (JPure.indexRR rStr rfl rfl rfl (by omega) (by omega) ?_)
    repeat (refine s377_L7m ?_;intros)
    refine JO.eff rfl rfl rfl (JEff.storeRO (i:=j) rfl (by show 0+((j:Int)).toNat*1=j*1;omega) rfl (hv2.mono (by exact lea)) (V_str.2 ⟨rfl,hxs⟩) nna (List.Perm.refl _) (by omega) (by intro l hl;cases hl) ?_);intro hv3
    repeat (refine s377_L7m ?_;intros)
    refine JO.pure rfl rfl rfl (JPure.indexRR rStr rfl rfl rfl (by omega) (by omega) ?_)
    refine JO.eff rfl rfl rfl (JEff.storeRO (i:=j - 1) rfl (by show 0+((j:Int) - 1).toNat*1=(j - 1)*1;omega) rfl hv3 (V_str.2 ⟨rfl,hys⟩) nna (List.Perm.refl _) (by rw [List.length_set];omega) (by intro l hl;cases hl) ?_);intro hv4
    repeat (refine s377_L7m ?_;intros)
    exact JX.roundF (j - 1,_,_) (by exact lea) (⟨insI_swap hj1 hj' hx hy hlt,hv4.mono (by exact lea),(swap_perm hj' hx hy).trans hp2⟩) (by (try dsimp only);omega) rfl (by (try dsimp only);rw [show ((j - 1:Nat):Int)=(j:Int) - 1 by omega];exact sba) (by exact sba)
   | false=>
    have hs2:=insI_stop hj1 hj' hx hy hlt
    repeat (refine s377_L7m ?_;intros)
    exact JX.roundF (k+1,vs2,xs2) (by exact lea) (⟨by (try dsimp only);omega,hv2.mono (by exact lea),hp2,hs2⟩) (by (try dsimp only);omega) rfl (by exact sba) (by exact sba)
  | false=>
   have hj':j=0:=by have:=of_decide_eq_false hg;omega
   subst hj'
   have hs2:=insI_zero hj1
   refine JO.guard rfl rfl rfl rfl (fun g=>Bool.noConfusion (g.symm.trans rfl)) (fun _=>?_)
   repeat (refine s377_L7m ?_;intros)
   exact JX.roundF (k+1,vs2,xs2) (by exact lea) (⟨by (try dsimp only);omega,hv2.mono (by exact lea),hp2,hs2⟩) (by (try dsimp only);omega) rfl (by exact sba) (by exact sba)
 ·have hk':n≤k+1:=by have:=of_decide_eq_false hc0;omega
  repeat (refine s377_L7m ?_;intros)
  refine JX.end0 Tryz.results377 (List.Sublist.refl _) ?_
  exact ⟨rfl,vs1,xs1,hv1.mono (by exact lea),hp1,fun j x y hj hx hy=>hs1 j x y (by omega) hx hy,rfl⟩
theorem s372_L7m {P K:Prop} (k:K) (h:Goal K→P:=by
 intro zk
 (first|refine Walk ?_|refine JC.block ?_|refine JC.drawN 17 rfl [0,1,2,3,4,5,6,7,8,9,10,11,12,13,14] [0,1,2,3,4,5,6,7,8,9,10,11,13,14] Tryz_mixed (by decide +kernel) ?_|(refine JO.eff rfl rfl rfl (JEff.callV rfl (p_Less _ _) rfl ?_);intro zqa zqb))
 (repeat (first|revert zqg|revert zqf|revert zqe|revert zqd|revert zqc|revert zqb|revert zqa))
 exact zk.k):P:=h ⟨k⟩
theorem p_pdqsort {S:SHeap} {b n c:Nat} {vs tl:List Value} {xs:List ByteArray} (lim:Int) (hv:allV rStr S vs xs) (hn:n=xs.length) (hb:n≤12) (hc:n≤c) :
  Fn Tryz.prog 372 #[.slice (some ⟨b,0,none⟩) n c,.int .i64 0,.int .i64 n,.int .i64 lim] S [.blk b (.cells (cellsR vs tl) 9 (0,0))]
   (fun w S' M'=>w=.tuple #[]∧∃ vs' xs',allV rStr S' vs' xs'∧xs'.Perm xs∧srt xs' (n - 1)∧M'=[.blk b (.cells (cellsR vs' tl) 9 (0,0))]):=by
 (refine Fn.enter (args:=[.slice (some ⟨b,0,none⟩) n c,.int .i64 0,.int .i64 n,.int .i64 lim]) Tryz.func372 rfl Tryz.ntmps372 rfl ?_;intro w0)
 repeat (refine s372_L7m ?_;intros)
 refine JC.loopF (σ:=Unit) [(0,_)] (fun q=>[(1,.int .i64 0),(2,.int .i64 n),(3,.int .i64 lim),(8,.bool true),(9,.bool true)]) (fun q=>[.blk b (.cells (cellsR vs tl) 9 (0,0))]) (fun Sz q=>True) (fun q=>0) (()) (by exact sba) (by exact sba) rfl (trivial) ?_;rintro Sz z hlz hiz;(try dsimp only at hiz);dsimp only [List.cons_append,List.nil_append]
 repeat (refine s372_L7m ?_;intros)
 have h12:decide ((n:Int) - 0≤12)=true:=by simp;omega
 refine JC.cond rfl (fun hc0=>?_) (fun hc0=>?_)
 ·repeat (refine s372_L7m ?_;intros)
  refine JO.eff rfl rfl rfl (JEff.fn (Mc:=[_]) (Mr:=[]) (sem_call rfl _ _ _ _ _) rfl rfl rfl (List.Perm.refl _) (by intro l hl;cases hl) (p_insertionSort (hv.mono (by exact lea)) hn (by omega) hc) ?_);rintro v S' M' hl ⟨rfl,vs',xs',hv',hp',hs',rfl⟩
  repeat (refine s372_L7m ?_;intros)
  refine JX.end0r Tryz.results372 (List.Sublist.refl _) ?_
  exact ⟨rfl,vs',xs',hv',hp',hs',rfl⟩
 ·rw [h12] at hc0;cases hc0
theorem s357_L7m {P K:Prop} (k:K) (h:Goal K→P:=by
 intro zk
 (first|refine Walk ?_|refine JC.block ?_|(refine JO.eff rfl rfl rfl (JEff.callV rfl (p_bitsLen _ (by omega) (by omega)) rfl ?_);intro zqa zqb))
 (repeat (first|revert zqg|revert zqf|revert zqe|revert zqd|revert zqc|revert zqb|revert zqa))
 exact zk.k):P:=h ⟨k⟩
theorem p_Sort {S:SHeap} {b n c:Nat} {vs tl:List Value} {xs:List ByteArray} (hv:allV rStr S vs xs) (hn:n=xs.length) (hb:n≤12) (hc:n≤c) :
  Fn Tryz.prog 357 #[.slice (some ⟨b,0,none⟩) n c] S [.blk b (.cells (cellsR vs tl) 9 (0,0))]
   (fun w S' M'=>w=.tuple #[]∧∃ vs' xs',allV rStr S' vs' xs'∧xs'.Perm xs∧srt xs' (n - 1)∧M'=[.blk b (.cells (cellsR vs' tl) 9 (0,0))]):=by
 (refine Fn.enter (args:=[.slice (some ⟨b,0,none⟩) n c]) Tryz.func357 rfl Tryz.ntmps357 rfl ?_;intro w0)
 repeat (refine s357_L7m ?_;intros)
 have hw64:IntKind.u64.wrap (n:Int)=(n:Int):=by simp [IntKind.wrap,IntKind.bits,IntKind.signed];omega
 refine JO.pure rfl rfl rfl (JPure.conv rfl hw64 rfl ?_)
 repeat (refine s357_L7m ?_;intros)
 refine JO.eff rfl rfl rfl (JEff.fn (Mc:=[_]) (Mr:=[]) (sem_call rfl _ _ _ _ _) rfl rfl rfl (List.Perm.refl _) (by intro l hl;cases hl) (p_pdqsort _ (hv.mono (by exact lea)) hn hb hc) ?_);rintro v S' M' hl ⟨rfl,vs',xs',hv',hp',hs',rfl⟩
 repeat (refine s357_L7m ?_;intros)
 refine JX.end0 Tryz.results357 (List.Sublist.refl _) ?_
 exact ⟨rfl,vs',xs',hv',hp',hs',rfl⟩
theorem p_Sorted {S:SHeap} {gf:FuncId} {lb:Array Value} {Sx:List ByteArray→Prop} (hE:Ent Tryz.prog gf) (hit:IterS Tryz.prog gf lb rStr S Sx) (hlen:∀ xs,Sx xs→xs.length≤12) :
  FnR Tryz.prog 321 #[.func (.func gf) #[] lb] S (fun w S'=>∃ xs xs',Sx xs∧xs'.Perm xs∧srt xs' (xs.length - 1)∧(rSlice 16 rStr).V S' w xs'):=by
 (refine Fn.enter (args:=[.func (.func gf) #[] lb]) Tryz.func321 rfl Tryz.ntmps321 rfl ?_;intro w0)
 repeat (first|(refine Walk ?_;intros)|refine JC.block ?_)
 refine JO.eff rfl rfl rfl (JEff.fn (Mc:=[]) (Mr:=[]) (sem_call rfl _ _ _ _ _) rfl rfl rfl (List.Perm.refl _) (by intro l hl m hm;cases hm) (p_Collect hE hit (fun xs h=>by have:=hlen xs h;omega)) ?_);rintro v S1 M1 hl ⟨xs,a,c,vs,hxs,rfl,hvs,rfl⟩
 have hxl:=hlen xs hxs
 rw [List.append_nil]
 repeat (first|(refine Walk ?_;intros)|refine JC.block ?_)
 rcases Nat.eq_zero_or_pos xs.length with h0|h0
 ·have hx0:xs=[]:=List.length_eq_zero_iff.1 h0
  subst hx0
  refine JO.eff rfl rfl rfl (JEff.callV rfl (p_Sort0 _ _) rfl ?_);intro _ _
  repeat (first|(refine Walk ?_;intros)|refine JC.block ?_)
  refine JX.ret1 Tryz.results321 (ResV.tmp rfl) (List.nil_sublist _) ?_
  exact ⟨rfl,[],[],hxs,List.Perm.refl _,fun k x y _ hx _=>(by cases hx),V_slice.2 ⟨a,c,rfl,by simp,by simp,by simp,by simp⟩⟩
 ·refine JO.rowBlkB h0 (fun b tl hab hnc hsz=>?_)
  subst hab
  refine JO.eff rfl rfl rfl (JEff.fn (Mc:=[_]) (Mr:=[]) (sem_call rfl _ _ _ _ _) rfl rfl rfl (List.Perm.refl _) (by intro l hl;cases hl) (p_Sort (hvs.mono (by exact lea)) rfl hxl hnc) ?_);rintro v S2 M2 hl2 ⟨rfl,vs',xs',hv',hp',hs',rfl⟩
  rw [List.append_nil]
  repeat (first|(refine Walk ?_;intros)|refine JC.block ?_)
  refine JX.blkNew rfl (fun hb=>?_)
  refine JX.freezeR (bt:=16) hv' hp'.length_eq.symm hnc (by unfold big;omega) (by unfold big;omega) hb (fun S3 hl3 hV3=>?_)
  refine JX.ret1 Tryz.results321 (ResV.tmp rfl) (List.nil_sublist _) ?_
  exact ⟨rfl,xs,xs',hxs,hp',hs',hV3⟩
end Go.Dr
namespace Go.Dr
open Go.Proofs
set_option maxRecDepth 20000
set_option maxHeartbeats 1000000
set_option linter.unusedSimpArgs false
set_option linter.unusedVariables false
def ownedK (s:Snap) (p:List Int) (o:Nat) (k:Nat):List Int:=(((p.zip s.pods).take k).filter (fun x=>decide (0≤x.1)&&decide (x.2.owner=ownName s o))).map (fun x=>x.1)
theorem ownedK_all {s:Snap} {p:List Int} {o:Nat} (h:p.length=s.pods.length):ownedK s p o p.length=ownedL s p o:=by
 unfold ownedK ownedL
 rw [List.take_of_length_le (by simp [h])]
theorem ownedK_len (s:Snap) (p:List Int) (o k:Nat):(ownedK s p o k).length≤k:=by
 unfold ownedK
 rw [List.length_map]
 exact Nat.le_trans (List.length_filter_le _ _) (by simp;omega)
end Go.Dr
namespace Go.Dr
open Go.Proofs
set_option maxRecDepth 20000
set_option maxHeartbeats 1000000
set_option linter.unusedSimpArgs false
set_option linter.unusedVariables false
end Go.Dr
namespace Go.Dr
open Go.Proofs
set_option maxRecDepth 20000
set_option maxHeartbeats 1000000
set_option linter.unusedSimpArgs false
set_option linter.unusedVariables false
theorem ptr_str {S:SHeap} {p:Addr} {s:ByteArray} (h:PtrTo S p rStr s):s.size≤big:=by
 obtain ⟨cs,h,_⟩:=h;exact h.2
theorem snap_val {S:SHeap} {p:Addr} {s:Snap} (h:PtrTo S p rSnap s) (key:ByteArray):∀ x∈s.nodes,(valB x key).1.size≤big:=by
 intro x hx
 have h1:PtrTo S (p.add 0) (rSlice 112 rNode) s.nodes:=h.part (Fld.h (rep:=rSnap) (off:=0))
 obtain ⟨q,hq⟩:=ptr_slice h1 x hx
 have h2:PtrTo S (q.add 6) (rSlice 32 rLabel) x.labels:=hq.part (Fld.h (rep:=rNode) (off:=6))
 unfold valB getL
 split
 ·exact Nat.zero_le _
 ·split
  ·rename_i l hl
   obtain ⟨q2,hq2⟩:=ptr_slice h2 l (List.mem_of_find?_eq_some hl)
   have h3:PtrTo S (q2.add 1) rStr l.value:=hq2.part (Fld.h (rep:=rLabel) (off:=1))
   exact ptr_str h3
  ·exact Nat.zero_le _
def domK (s:Snap) (key:ByteArray) (i:Nat):List ByteArray:=(s.nodes.take i).foldl (domStep key) []
theorem domK_step {s:Snap} {key:ByteArray} {i:Nat} {n:Node} (h:s.nodes[i]?=some n):domK s key (i+1)=domStep key (domK s key i) n:=by
 unfold domK
 rw [List.take_add_one,h];simp [List.foldl_append]
theorem domIns_len (v:ByteArray) (l:List ByteArray):(domIns v l).length≤l.length+1:=by
 have h:l.length=(l.takeWhile (fun x=>ltS x v)).length+(l.dropWhile (fun x=>ltS x v)).length:=by
  rw [← List.length_append,List.takeWhile_append_dropWhile]
 unfold domIns
 rw [List.length_append,h]
 split
 ·rename_i h1;rw [h1];simp
 ·rename_i h1;rw [h1];split<;>simp<;>omega
theorem domK_len (s:Snap) (key:ByteArray):∀ i,(domK s key i).length≤i
 | 0=>by simp [domK]
 | i+1=>by
  have ih:=domK_len s key i
  cases h:s.nodes[i]? with
  | none=>
   have:domK s key (i+1)=domK s key i:=by
    unfold domK
    rw [List.take_add_one,h];simp
   rw [this];omega
  | some n=>
   rw [domK_step h,domStep]
   split
   ·have:=domIns_len (valB n key).1 (domK s key i);omega
   ·omega
end Go.Dr
namespace Go.Dr
theorem bytesLess_trans:∀ a b c:List UInt8,Op.bytesLess a b=true→Op.bytesLess b c=true→Op.bytesLess a c=true
 | [],[],_,h,_=>by simp [Op.bytesLess] at h
 | [],_::_,[],_,h=>by simp [Op.bytesLess] at h
 | [],_::_,_::_,_,_=>by simp [Op.bytesLess]
 | _::_,[],_,h,_=>by simp [Op.bytesLess] at h
 | _::_,_::_,[],_,h=>by simp [Op.bytesLess] at h
 | x::a,y::b,z::c,h1,h2=>by
  have ih:=bytesLess_trans a b c
  simp only [Op.bytesLess,Bool.or_eq_true,Bool.and_eq_true,decide_eq_true_eq,beq_iff_eq,UInt8.lt_iff_toNat_lt] at h1 h2 ⊢
  rcases h1 with h1|⟨rfl,h1⟩
  ·rcases h2 with h2|⟨rfl,h2⟩
   ·exact .inl (by omega)
   ·exact .inl h1
  ·rcases h2 with h2|⟨rfl,h2⟩
   ·exact .inl h2
   ·exact .inr ⟨rfl,ih h1 h2⟩
theorem ltS_trans {a b c:ByteArray} (h1:ltS a b=true) (h2:ltS b c=true):ltS a c=true:=bytesLess_trans _ _ _ h1 h2
theorem ltS_irr (a:ByteArray):ltS a a=false:=bytesLess_irr _
abbrev pwS (l:List ByteArray):Prop:=l.Pairwise (fun a b=>ltS a b=true)
theorem chain_pw:∀ {l:List ByteArray},(∀ k x y,l[k]?=some x→l[k+1]?=some y→ltS x y=true)→pwS l
 | [],_=>List.Pairwise.nil
 | [x],_=>by simp [pwS]
 | x::y::l,h=>by
  have ih:pwS (y::l):=chain_pw (fun k a b ha hb=>h (k+1) a b (by simpa using ha) (by simpa using hb))
  have hxy:=h 0 x y rfl rfl
  refine List.pairwise_cons.2 ⟨fun z hz=>?_,ih⟩
  rcases List.mem_cons.1 hz with rfl|hz
  ·exact hxy
  ·exact ltS_trans hxy ((List.pairwise_cons.1 ih).1 z hz)
theorem pw_eq:∀ {l m:List ByteArray},pwS l→pwS m→(∀ x,x∈l↔x∈m)→l=m
 | [],[],_,_,_=>rfl
 | [],y::m,_,_,h=>by have:=(h y).2 (by simp);cases this
 | x::l,[],_,_,h=>by have:=(h x).1 (by simp);cases this
 | x::l,y::m,h1,h2,h=>by
  obtain ⟨a1,a2⟩:=List.pairwise_cons.1 h1
  obtain ⟨b1,b2⟩:=List.pairwise_cons.1 h2
  have hxy:x=y:=by
   rcases List.mem_cons.1 ((h x).1 (by simp)) with e|e
   ·exact e
   ·rcases List.mem_cons.1 ((h y).2 (by simp)) with e'|e'
    ·exact e'.symm
    ·have:=ltS_trans (b1 x e) (a1 y e')
     rw [ltS_irr] at this;cases this
  subst hxy
  rw [pw_eq a2 b2 (fun z=>?_)]
  constructor
  ·intro hz
   rcases List.mem_cons.1 ((h z).1 (by simp [hz])) with rfl|hz'
   ·have:=a1 z hz;rw [ltS_irr] at this;cases this
   ·exact hz'
  ·intro hz
   rcases List.mem_cons.1 ((h z).2 (by simp [hz])) with rfl|hz'
   ·have:=b1 z hz;rw [ltS_irr] at this;cases this
   ·exact hz'
theorem lt_of_not {x v:ByteArray} (h:ltS x v=false) (hne:¬ x=v):ltS v x=true:=by
 rw [ltS_total,h];simp [hne]
theorem domIns_mem (v x:ByteArray) (out:List ByteArray):x∈domIns v out↔x=v∨x∈out:=by
 have h:out=out.takeWhile (fun x=>ltS x v)++out.dropWhile (fun x=>ltS x v):=(List.takeWhile_append_dropWhile).symm
 unfold domIns
 conv=>rhs;rw [h]
 generalize out.takeWhile (fun x=>ltS x v)=A
 generalize out.dropWhile (fun x=>ltS x v)=B
 match B with
 | []=>simp [or_comm]
 | y::r=>
  by_cases hy:y=v
  ·subst hy
   simp only [if_true,List.mem_append,List.mem_cons]
   constructor
   ·intro hh;exact .inr hh
   ·rintro (rfl|hh)
    ·exact .inr (.inl rfl)
    ·exact hh
  ·simp only [if_neg hy,List.mem_append,List.mem_cons]
   constructor
   ·rintro (hh|hh|hh|hh)
    ·exact .inr (.inl hh)
    ·exact .inl hh
    ·exact .inr (.inr (.inl hh))
    ·exact .inr (.inr (.inr hh))
   ·rintro (hh|hh|hh|hh)
    ·exact .inr (.inl hh)
    ·exact .inl hh
    ·exact .inr (.inr (.inl hh))
    ·exact .inr (.inr (.inr hh))
theorem takeWhile_all {f:ByteArray→Bool}:∀ {l:List ByteArray} {x:ByteArray},x∈l.takeWhile f→f x=true
 | [],_,h=>by cases h
 | y::l,x,h=>by
  rw [List.takeWhile_cons] at h
  split at h
  ·rename_i hy
   rcases List.mem_cons.1 h with rfl|h
   ·exact hy
   ·exact takeWhile_all h
  ·cases h
theorem dropWhile_head {f:ByteArray→Bool}:∀ {l:List ByteArray} {y:ByteArray} {r:List ByteArray},l.dropWhile f=y::r→f y=false
 | [],_,_,h=>by cases h
 | z::l,y,r,h=>by
  rw [List.dropWhile_cons] at h
  split at h
  ·exact dropWhile_head h
  ·rename_i hz
   cases h
   simpa using hz
theorem domIns_pw {v:ByteArray} {out:List ByteArray} (h:pwS out):pwS (domIns v out):=by
 have e:out=out.takeWhile (fun x=>ltS x v)++out.dropWhile (fun x=>ltS x v):=(List.takeWhile_append_dropWhile).symm
 have hA:∀ x∈out.takeWhile (fun x=>ltS x v),ltS x v=true:=fun x hx=>takeWhile_all (f:=fun x=>ltS x v) hx
 have hB:∀ y r,out.dropWhile (fun x=>ltS x v)=y::r→ltS y v=false:=fun y r hh=>dropWhile_head (f:=fun x=>ltS x v) hh
 rw [e] at h
 unfold domIns
 generalize out.takeWhile (fun x=>ltS x v)=A at *
 generalize out.dropWhile (fun x=>ltS x v)=B at *
 obtain ⟨p1,p2,p3⟩:=List.pairwise_append.1 h
 match B,hB,p2,p3 with
 | [],_,_,_=>exact List.pairwise_append.2 ⟨p1,by simp,fun a ha b hb=>by simp at hb;subst hb;exact hA a ha⟩
 | y::r,hB,p2,p3=>
  by_cases hy:y=v
  ·simp only [if_pos hy]
   exact List.pairwise_append.2 ⟨p1,p2,p3⟩
  ·simp only [if_neg hy]
   have hvy:=lt_of_not (hB y r rfl) hy
   refine List.pairwise_append.2 ⟨p1,List.pairwise_cons.2 ⟨fun z hz=>?_,p2⟩,fun a ha b hb=>?_⟩
   ·rcases List.mem_cons.1 hz with rfl|hz
    ·exact hvy
    ·exact ltS_trans hvy ((List.pairwise_cons.1 p2).1 z hz)
   ·rcases List.mem_cons.1 hb with rfl|hb
    ·exact hA a ha
    ·exact p3 a ha b hb
def dkStep (key:ByteArray) (out:List ByteArray) (n:Node):List ByteArray:=if (valB n key).2=true then (if out.any (fun x=>decide (x=(valB n key).1))=true then out else out++[(valB n key).1]) else out
def dkL (s:Snap) (key:ByteArray) (i:Nat):List ByteArray:=(s.nodes.take i).foldl (dkStep key) []
theorem dkL_step {s:Snap} {key:ByteArray} {i:Nat} {n:Node} (h:s.nodes[i]?=some n):dkL s key (i+1)=dkStep key (dkL s key i) n:=by
 unfold dkL
 rw [List.take_add_one,h];simp [List.foldl_append]
theorem dk_same (key:ByteArray):∀ (l:List Node) (a b:List ByteArray),(∀ x,x∈a↔x∈b)→∀ x,x∈l.foldl (dkStep key) a↔x∈l.foldl (domStep key) b
 | [],_,_,h,x=>h x
 | n::l,a,b,h,x=>by
  simp only [List.foldl_cons]
  refine dk_same key l _ _ (fun z=>?_) x
  unfold dkStep domStep
  split
  ·rw [domIns_mem]
   split
   ·rename_i hm
    have hm:(valB n key).1∈a:=by
     obtain ⟨w,hw,he⟩:=List.any_eq_true.1 hm
     rw [← of_decide_eq_true he];exact hw
    constructor
    ·intro hz;exact .inr ((h z).1 hz)
    ·rintro (rfl|hz)
     ·exact hm
     ·exact (h z).2 hz
   ·rw [List.mem_append,List.mem_singleton,h z,or_comm]
  ·exact h z
theorem dom_pw (key:ByteArray):∀ (l:List Node) (b:List ByteArray),pwS b→pwS (l.foldl (domStep key) b)
 | [],_,h=>h
 | n::l,b,h=>by
  simp only [List.foldl_cons]
  refine dom_pw key l _ ?_
  unfold domStep
  split
  ·exact domIns_pw h
  ·exact h
theorem dk_nodup (key:ByteArray):∀ (l:List Node) (b:List ByteArray),b.Nodup→(l.foldl (dkStep key) b).Nodup
 | [],_,h=>h
 | n::l,b,h=>by
  simp only [List.foldl_cons]
  refine dk_nodup key l _ ?_
  unfold dkStep
  split
  ·split
   ·exact h
   ·rename_i hm
    rw [List.nodup_append]
    refine ⟨h,by simp,?_⟩
    intro a ha c hc he
    simp at hc
    subst hc;subst he
    exact hm (List.any_eq_true.2 ⟨_,ha,by simp⟩)
  ·exact h
theorem dk_len (s:Snap) (key:ByteArray):∀ i,(dkL s key i).length≤i
 | 0=>by simp [dkL]
 | i+1=>by
  have ih:=dk_len s key i
  cases h:s.nodes[i]? with
  | none=>unfold dkL at *;rw [List.take_add_one,h];simpa using Nat.le_succ_of_le ih
  | some n=>
   rw [dkL_step h]
   unfold dkStep
   split
   ·split
    ·omega
    ·simp;omega
   ·omega
theorem srt_dom {s:Snap} {key:ByteArray} {xs:List ByteArray} (hp:xs.Perm (dkL s key s.nodes.length)) (hs:∀ k x y,k+1≤xs.length - 1→xs[k]?=some x→xs[k+1]?=some y→ltS y x=false):xs=domL s key:=by
 have hfull:dkL s key s.nodes.length=s.nodes.foldl (dkStep key) []:=by unfold dkL;rw [List.take_length]
 have hnd:xs.Nodup:=hp.nodup_iff.2 (by rw [hfull];exact dk_nodup key _ _ List.nodup_nil)
 refine pw_eq (chain_pw (fun k x y hx hy=>?_)) (dom_pw key _ _ List.Pairwise.nil) (fun x=>?_)
 ·have hl:=(List.getElem?_eq_some_iff.1 hy).1
  have h1:=hs k x y (by omega) hx hy
  refine lt_of_not h1 (fun he=>?_)
  subst he
  obtain ⟨l1,e1⟩:=List.getElem?_eq_some_iff.1 hx
  obtain ⟨l2,e2⟩:=List.getElem?_eq_some_iff.1 hy
  exact List.pairwise_iff_getElem.1 hnd k (k+1) l1 l2 (by omega) (by rw [e1,e2])
 ·rw [hp.mem_iff,hfull]
  exact dk_same key _ _ _ (fun _=>Iff.rfl) x
end Go.Dr
namespace Go.Dr
open Go.Proofs
set_option maxRecDepth 20000
set_option maxHeartbeats 2000000
set_option linter.unusedSimpArgs false
set_option linter.unusedVariables false
def oneV (v:ByteArray):ByteArray × Value:=(v,.int .i64 1)
theorem set_same {l:List ByteArray} {j:Nat} {p:ByteArray × Value} {v:ByteArray} (h:(l.map oneV)[j]?=some p) (hv:p.1=v):(l.map oneV).set j (v,.int .i64 1)=l.map oneV:=by
 rw [List.getElem?_map] at h
 cases hl:l[j]? with
 | none=>rw [hl] at h;cases h
 | some x=>
  rw [hl] at h
  cases h
  have hx:x=v:=hv
  subst hx
  apply List.ext_getElem?
  intro i
  rw [List.getElem?_set]
  by_cases hij:j=i
  ·subst hij
   have:=(List.getElem?_eq_some_iff.1 hl).1
   rw [if_pos rfl,if_pos (by simpa using this),List.getElem?_map,hl];rfl
  ·simp [hij]
theorem dk_big {key:ByteArray}:∀ (l:List Node) (b:List ByteArray),(∀ v∈b,v.size≤big)→(∀ x∈l,(valB x key).1.size≤big)→∀ v∈l.foldl (dkStep key) b,v.size≤big
 | [],_,h,_=>h
 | n::l,b,h,hl=>by
  simp only [List.foldl_cons]
  refine dk_big l _ ?_ (fun x hx=>hl x (by simp [hx]))
  unfold dkStep
  split
  ·split
   ·exact h
   ·intro v hv
    rcases List.mem_append.1 hv with hv|hv
    ·exact h v hv
    ·simp at hv;subst hv;exact hl n (by simp)
  ·exact h
theorem keys_one (l:List ByteArray):(l.map oneV).map Prod.fst=l:=by
 rw [List.map_map]
 exact (List.map_congr_left (fun x _=>rfl)).trans (List.map_id' l)
theorem s288_L7n {P K:Prop} (k:K) (h:Goal K→P:=by
 intro zk
 (first|refine Walk ?_|refine JC.block ?_|(refine JO.eff rfl rfl rfl (JEff.callV rfl (p5_Check (by exact vta)) rfl ?_);intro zqa zqb)|(refine JO.eff rfl rfl rfl (JEff.callV rfl (p7_value _ (by assumption) (by exact vta)) rfl ?_);intro zqa zqb)|(refine WBox ?_)|(refine WNew ?_)|(refine WPut ?_))
 (repeat (first|revert zqg|revert zqf|revert zqe|revert zqd|revert zqc|revert zqb|revert zqa))
 exact zk.k):P:=h ⟨k⟩
theorem p7_Domains {S:SHeap} {u:Value} {s:Snap} (key:ByteArray) (hk:key.size≤big) (hu:rSnap.V S u s):FnL Tryz.prog 288 #[u,.string key] S 16 rStr (if z0 (checkS s) then domL s key else []):=by
 (refine Fn.enter (args:=[u,.string key]) Tryz.func288 rfl Tryz.ntmps288 rfl ?_;intro w0)
 repeat (refine s288_L7n ?_;intros)
 cases h1:decide (checkS s=0) with
 | false=>
  repeat (refine s288_L7n ?_;intros)
  (refine JX.ret1 Tryz.results288 (ResV.tmp rfl) (List.nil_sublist _) ?_)
  refine ⟨rfl,?_⟩
  rw [z0,h1]
  exact V_nil
 | true=>
  have hc:checkS s=0:=of_decide_eq_true h1
  obtain ⟨hn,_,_⟩:=shaped_small (checkS_ok hc).1
  have hif:(if z0 (checkS s) then domL s key else [])=domL s key:=by rw [z0,h1];rfl
  rw [hif]
  repeat (refine s288_L7n ?_;intros)
  refine JO.eff rfl rfl rfl (JEff.makeMap rfl ?_);intro bm hbm
  repeat (refine s288_L7n ?_;intros)
  refine JC.loopF [(1,_),(5,_),(15,_),(16,_)] (fun (i:Nat)=>[(17,.int .i64 i)]) (fun i=>[.blk bm (mapObj ((dkL s key i).map oneV))]) (fun Si i=>i≤s.nodes.length∧(True)) (fun i=>s.nodes.length - i) 0 (by exact sba) (by exact sba) rfl ⟨Nat.zero_le _,trivial⟩ ?_;intro Si i hli hii;obtain ⟨hi,hii⟩:=hii;(try dsimp only at hi hii);dsimp only [List.cons_append,List.nil_append]
  repeat (refine s288_L7n ?_;intros)
  refine JC.cond rfl (fun hc0=>?_) (fun hc0=>?_)
  ·have hi':=dlt hc0
   obtain ⟨n,hnd,_⟩:=drop_at hi'
   have hst:=dkL_step (key:=key) hnd
   repeat (refine s288_L7n ?_;intros)
   cases hv2:(valB n key).2 with
   | true=>
    repeat (refine s288_L7n ?_;intros)
    refine JO.eff rfl rfl rfl (JEff.mapPut rfl rfl rfl (List.Perm.refl _) (by intro l hl;cases hl) (fun hno=>?_) (fun j p hj hp=>?_))
    ·have e1:(dkL s key i).map oneV++[((valB n key).1,.int .i64 1)]=(dkL s key (i+1)).map oneV:=by
      rw [hst,dkStep,if_pos hv2,if_neg]
      ·simp [oneV]
      ·intro hany
       obtain ⟨w,hw,he⟩:=List.any_eq_true.1 hany
       exact hno (oneV w) (List.mem_map.2 ⟨w,hw,rfl⟩) (of_decide_eq_true he)
     rw [e1]
     repeat (refine s288_L7n ?_;intros)
     exact JX.roundF (i+1) (by exact lea) ⟨by omega,(trivial)⟩ (by (try dsimp only);omega) rfl (by exact sba) (by exact sba)
    ·rw [set_same hj hp]
     have e2:(dkL s key i).map oneV=(dkL s key (i+1)).map oneV:=by
      rw [hst,dkStep,if_pos hv2,if_pos]
      rw [List.getElem?_map] at hj
      cases hl:(dkL s key i)[j]? with
      | none=>rw [hl] at hj;cases hj
      | some x=>
       rw [hl] at hj
       cases hj
       exact List.any_eq_true.2 ⟨x,List.mem_of_getElem? hl,decide_eq_true hp⟩
     rw [e2]
     repeat (refine s288_L7n ?_;intros)
     exact JX.roundF (i+1) (by exact lea) ⟨by omega,(trivial)⟩ (by (try dsimp only);omega) rfl (by exact sba) (by exact sba)
   | false=>
    have e2:(dkL s key i).map oneV=(dkL s key (i+1)).map oneV:=by
     rw [hst,dkStep,if_neg (by rw [hv2];simp)]
    rw [e2]
    repeat (refine s288_L7n ?_;intros)
    exact JX.roundF (i+1) (by exact lea) ⟨by omega,(trivial)⟩ (by (try dsimp only);omega) rfl (by exact sba) (by exact sba)
  ·have hi':=dnlt hc0
   obtain rfl:i=s.nodes.length:=by omega
   have hsz:=snap_val (S:=Si) (PtrTo.mono (by assumption) (by exact lea)) key
   repeat (refine s288_L7n ?_;intros)
   have hkb:∀ p∈(dkL s key s.nodes.length).map oneV,p.1.size≤big:=by
    intro p hp
    obtain ⟨v,hv,rfl⟩:=List.mem_map.1 hp
    have hfull:dkL s key s.nodes.length=s.nodes.foldl (dkStep key) []:=by unfold dkL;rw [List.take_length]
    rw [hfull] at hv
    exact dk_big s.nodes [] (by intro v hv;cases hv) hsz v hv
   refine JO.freeze hbm (by intro l hl;cases hl) (fun S2 hl2 hS2=>?_)
   (refine JO.eff rfl rfl rfl (JEff.callR rfl ((p_Keys hS2 hkb)) rfl ?_);intro w3 S3 hl3 hV3)
   obtain ⟨lb,rfl,hit⟩:=hV3
   rw [keys_one] at hit
   repeat (refine s288_L7n ?_;intros)
   (refine JO.eff rfl rfl rfl (JEff.callR rfl ((p_Sorted inferInstance hit (fun xs hp=>by have h1:=hp.length_eq;have h2:=dk_len s key s.nodes.length;omega))) rfl ?_);intro w4 S4 hl4 hV4)
   obtain ⟨xs,xs',hp,hp',hs',hV⟩:=hV4
   have hx:xs'=domL s key:=srt_dom (hp'.trans hp) (by rw [hp'.length_eq];exact hs')
   rw [hx] at hV
   repeat (refine s288_L7n ?_;intros)
   (refine JX.ret1 Tryz.results288 (ResV.tmp rfl) (List.nil_sublist _) ?_)
   exact ⟨rfl,hV⟩
end Go.Dr
namespace Go.Dr
open Go.Proofs
set_option maxRecDepth 20000
set_option maxHeartbeats 2000000
set_option linter.unusedSimpArgs false
set_option linter.unusedVariables false
def domainP (s:Snap) (node:Int) (key:ByteArray):ByteArray × Bool:=
 if z0 (checkS s)&&(decide (0≤node)&&decide (node < s.nodes.length)) then (match s.nodes[node.toNat]? with|some n=>valB n key|none=>(noS,false)) else (noS,false)
theorem s286_L7o {P K:Prop} (k:K) (h:Goal K→P:=by
 intro zk
 (first|refine Walk ?_|refine JC.block ?_|(refine JO.eff rfl rfl rfl (JEff.callV rfl (p5_Check (by exact vta)) rfl ?_);intro zqa zqb)|(refine JO.eff rfl rfl rfl (JEff.callV rfl (p7_there _ _) rfl ?_);intro zqa zqb)|(refine JO.eff rfl rfl rfl (JEff.callV rfl (p7_value _ (by assumption) (by exact vta)) rfl ?_);intro zqa zqb)|(refine WBox ?_))
 (repeat (first|revert zqg|revert zqf|revert zqe|revert zqd|revert zqc|revert zqb|revert zqa))
 exact zk.k):P:=h ⟨k⟩
theorem p7_Domain {S:SHeap} {u:Value} {s:Snap} (node:Int) (key:ByteArray) (hk:key.size≤big) (hu:rSnap.V S u s):FnV Tryz.prog 286 #[u,.int .i64 node,.string key] S (.tuple #[.string (domainP s node key).1,.bool (domainP s node key).2]):=by
 (refine Fn.enter (args:=[u,.int .i64 node,.string key]) Tryz.func286 rfl Tryz.ntmps286 rfl ?_;intro w0)
 repeat (refine s286_L7o ?_;intros)
 cases h1:decide (checkS s=0) with
 | false=>
  refine JO.guard rfl rfl rfl rfl (fun _=>?_) (fun g=>Bool.noConfusion (g.symm.trans rfl))
  repeat (refine s286_L7o ?_;intros)
  (refine JX.ret2 Tryz.results286 (ResV.tmp rfl) (ResV.tmp rfl) (List.nil_sublist _) ?_)
  exact ⟨rfl,by rw [domainP,z0,h1];rfl⟩
 | true=>
  refine JO.guard rfl rfl rfl rfl (fun g=>Bool.noConfusion (g.symm.trans rfl)) (fun _=>?_)
  repeat (refine s286_L7o ?_;intros)
  cases h2:(decide (0≤node)&&decide (node < s.nodes.length)) with
  | false=>
   repeat (refine s286_L7o ?_;intros)
   (refine JX.ret2 Tryz.results286 (ResV.tmp rfl) (ResV.tmp rfl) (List.nil_sublist _) ?_)
   exact ⟨rfl,by rw [domainP,z0,h1,h2];rfl⟩
  | true=>
   have h3:=h2
   simp only [Bool.and_eq_true,decide_eq_true_eq] at h3
   obtain ⟨h4,h5⟩:=h3
   obtain ⟨n,hnd,_⟩:=drop_at (l:=s.nodes) (show node.toNat < s.nodes.length by omega)
   repeat (refine s286_L7o ?_;intros)
   (refine JX.ret2 Tryz.results286 (ResV.tmp rfl) (ResV.tmp rfl) (List.nil_sublist _) ?_)
   exact ⟨rfl,by rw [domainP,z0,h1,h2,hnd];rfl⟩
end Go.Dr
namespace Go.Dr
open Go.Proofs
set_option maxRecDepth 20000
set_option maxHeartbeats 2000000
set_option linter.unusedSimpArgs false
set_option linter.unusedVariables false
theorem doms_at {s:Snap} {key:ByteArray} {a:Nat} {x:Node} (h:s.nodes[a]?=some x):(doms s key)[((a:Int)).toNat]?=some (valB x key):=by
 have e:((a:Int)).toNat=a:=by omega
 rw [e,doms,List.getElem?_map,h];rfl
def dmK (s:Snap) (key:ByteArray) (k:Nat):List (ByteArray × Bool):=(doms s key).take k
theorem domainP_doms {s:Snap} {key:ByteArray} {k:Nat} {x:Node} (hok:checkS s=0) (hx:s.nodes[k]?=some x):domainP s k key=valB x key:=by
 have hk:=(List.getElem?_eq_some_iff.1 hx).1
 have e:((k:Int)).toNat=k:=by omega
 unfold domainP
 rw [e,hx]
 simp [z0,hok,hk]
theorem dmK_step {s:Snap} {key:ByteArray} {k:Nat} {x:Node} (hok:checkS s=0) (hx:s.nodes[k]?=some x):dmK s key (k+1)=dmK s key k++[domainP s k key]:=by
 unfold dmK
 rw [domainP_doms hok hx,List.take_add_one]
 simp [doms,hx]
theorem dmK_len (s:Snap) (key:ByteArray) (k:Nat):(dmK s key k).length≤k:=by unfold dmK;rw [List.length_take];omega
theorem dmK_all (s:Snap) (key:ByteArray):dmK s key s.nodes.length=doms s key:=by unfold dmK;rw [List.take_of_length_le (by simp [doms])]
theorem s366_L8a {P K:Prop} (k:K) (h:Goal K→P:=by
 intro zk
 (first|refine Walk ?_|refine JC.block ?_|refine JC.drawN 10 rfl [0,1,2,3,4,5,6,7,8,9,10,11,12,13,14,15,16,17,18,19,20,21,22,23,24,25] [0,1,2,3,4,5,6,7,8,9,10,11,12,13,14,15,16,17,18,19,20,21,22,23,24,25] Tryz_mixed (by decide +kernel) ?_|(refine JO.eff rfl rfl rfl (JEff.callV rfl (p7_Domain _ _ (by assumption) (by exact vta)) rfl ?_);intro zqa zqb))
 (repeat (first|revert zqg|revert zqf|revert zqe|revert zqd|revert zqc|revert zqb|revert zqa))
 exact zk.k):P:=h ⟨k⟩
theorem p8_near {S:SHeap} {kp:Addr} {s:Snap} {p:List Int} {us:List (List Int)} {mb:Nat} {l:List (ByteArray × Value)} (a b:Nat) (key:ByteArray) (hkey:key.size≤big) (hok:checkS s=0) (ha:a < s.nodes.length) (hb:b < s.nodes.length)
  (hL:PtrTo S kp rLook ⟨s,p,us,.map (some mb)⟩) (hco:Cache s S l) :
  FnC Tryz.prog 366 #[.pointer (some kp),.int .i64 a,.int .i64 b,.string key] S Value.string mb (Cache s) l (fun w _=>w=.bool (near8 s a b key)):=by
 obtain ⟨xa,hxa⟩:∃ x,s.nodes[a]?=some x:=⟨_,List.getElem?_eq_getElem ha⟩
 obtain ⟨xb,hxb⟩:∃ x,s.nodes[b]?=some x:=⟨_,List.getElem?_eq_getElem hb⟩
 have hda:=doms_at (key:=key) hxa
 have hdb:=doms_at (key:=key) hxb
 have hn8:=(shaped_small (checkS_ok hok).1).1
 have hsz:=snap_val (PtrTo.part hL (Part.map Part.first)) key
 (refine Fn.enter (args:=[.pointer (some kp),.int .i64 a,.int .i64 b,.string key]) Tryz.func366 rfl Tryz.ntmps366 rfl ?_;intro w0)
 repeat (refine s366_L8a ?_;intros)
 refine JO.pure rfl rfl rfl (JPure.lookM (s:=key) rfl rfl (by (first|exact List.mem_cons_self|exact List.mem_cons_of_mem _ List.mem_cons_self|exact List.mem_cons_of_mem _ (List.mem_cons_of_mem _ List.mem_cons_self))) hco.1 (.inl rfl) rfl (fun hno=>?_) (fun j q hj hq=>?_))
 ·repeat (refine s366_L8a ?_;intros)
  (first|refine JC.newRow 359 2 ?_|refine JO.newRow 359 2 ?_|refine JX.newRow 359 2 ?_)
  refine JC.loopF (σ:=Nat × Option Addr × Nat × List Value) [(0,_),(1,_),(2,_),(3,_),(30,_)] (fun q=>[(9,.slice q.2.1 ((fun k=>dmK s key k) q.1).length q.2.2.1),(31,((fun k=>.int .i64 k) q.1))]) (fun q=>[.row w0.heap.size 359 (Rp.sz rDom) (.slice q.2.1 ((fun k=>dmK s key k) q.1).length q.2.2.1) ((fun k=>dmK s key k) q.1).length (flatCells q.2.2.2),((fun k=>.blk mb (mapK Value.string l)) q.1)]) (fun Sk q=>q.1≤s.nodes.length∧allV rDom Sk q.2.2.2 ((fun k=>dmK s key k) q.1)∧((fun k=>True) q.1)) (fun q=>s.nodes.length - q.1) (0,none,0,[]) (by exact sba) (by exact sba) (by first|rfl|simp) (⟨Nat.zero_le _,trivial,trivial⟩) ?_;rintro Sk ⟨k,rak,rck,vsk⟩ hlk ⟨hk,hvk,hik⟩;(try dsimp only at hk hvk hik);dsimp only [List.cons_append,List.nil_append]
  have hfl:=dmK_len s key k
  repeat (refine s366_L8a ?_;intros)
  refine JC.cond rfl (fun hc=>?_) (fun hc=>?_)
  ·have hk':=dlt hc
   obtain ⟨x,hx,_⟩:=drop_at hk'
   have hst:=dmK_step (key:=key) hok hx
   have hvs:(domainP s k key).1.size≤big:=by rw [domainP_doms hok hx];exact hsz x (List.mem_of_getElem? hx)
   have hDV:∀ S,rDom.V S (.agg (flatCells [.string (domainP s k key).1,.bool (domainP s k key).2]).toArray) (domainP s k key):=fun S=>⟨_,⟨_,_,by simp [flatCells,Value.cells];rfl,⟨rfl,hvs⟩,rfl⟩,by rfl⟩
   repeat (refine s366_L8a ?_;intros)
   (refine JO.eff rfl rfl rfl (JEff.build (rep:=rDom) (ys:=[domainP s k key]) rfl rfl ⟨⟨(hDV _),nna⟩,trivial⟩ rfl rfl rfl rfl ?_);intro bb hbb hvv);(repeat (first|(refine Walk ?_;intros)|refine JC.block ?_));(refine JO.eff rfl rfl rfl (JEff.appendL (rep:=rDom) rfl rfl rfl rfl (List.Perm.swap _ _ _) (by exact hvv.flat) (by intro c hc;exact flat_one (fun v hv=>(hvv.size v hv).2) c hc) (by first|omega|(unfold big;omega)) (by unfold big;omega) (by first|exact rowT_ok|(intro l hl;cases hl)) rfl ?_);intro a2 c2;clear hvv hbb)
   repeat (refine s366_L8a ?_;intros)
   exact JX.roundF (k+1,a2,c2,vsk++[((.agg (flatCells [.string (domainP s k key).1,.bool (domainP s k key).2]).toArray))]) (by exact lea) ⟨by omega,by (try dsimp only);rw [hst];exact allV_add (by exact lea) hvk (hDV _) nna,(trivial)⟩ (by (try dsimp only);omega) (by (try dsimp only);rw [hst];(simp [flat_append]<;>omega)) (by (try dsimp only);rw [hst];simp only [List.length_append,List.length_cons,List.length_nil];exact sba) (by exact sba)
  ·have hk':=dnlt hc
   obtain rfl:k=s.nodes.length:=by omega
   rw [dmK_all] at hvk hfl
   rw [dmK_all]
   refine JC.freezeRow (rep:=rDom) (bt:=24) hvk rfl (by unfold big;omega) (by unfold big;omega) (fun S9 hl9 hV9=>?_)
   repeat (refine s366_L8a ?_;intros)
   refine JO.eff rfl rfl rfl (JEff.putK (kv:=Value.string) (s:=key) rfl rfl rfl (List.Perm.refl _) (by intro l hl;cases hl) (fun _=>?_) (fun j q hj hq=>absurd hq (hno q (List.mem_of_getElem? hj))))
   have hcoF:Cache s S9 (l++[(key,.slice rak (doms s key).length rck)]):=⟨hco.1.snoc hno,fun q hq=>by
    rcases List.mem_append.1 hq with h|h
    ·exact (hco.2 q h).mono (by exact lea)
    ·rw [List.mem_singleton] at h
     subst h
     exact hV9⟩
   repeat' (first|(refine s366_L8a ?_;intros)|(refine JO.guard rfl rfl rfl rfl ?_ ?_<;>intro _)|(refine JC.cond rfl ?_ ?_<;>intro _))
   all_goals
    refine JX.ret1 Tryz.results366 (ResV.tmp rfl) (List.Sublist.refl _) ?_
    refine ⟨?_,_,rfl,hcoF.mono (by exact lea)⟩
    simp only [near8,hxa,hxb]
    simp [*]
 ·obtain ⟨qk,qv⟩:=q
  dsimp only at hq
  subst hq
  have hV:=hco.2 _ (List.mem_of_getElem? hj)
  obtain ⟨a1,c1,hq2,_⟩:=V_slice.1 hV
  dsimp only at hq2
  subst hq2
  have hcoF:=hco
  repeat' (first|(refine s366_L8a ?_;intros)|(refine JO.guard rfl rfl rfl rfl ?_ ?_<;>intro _)|(refine JC.cond rfl ?_ ?_<;>intro _))
  all_goals
   refine JX.ret1 Tryz.results366 (ResV.tmp rfl) (List.Sublist.refl _) ?_
   refine ⟨?_,_,rfl,hcoF.mono (by exact lea)⟩
   simp only [near8,hxa,hxb]
   simp [*]
end Go.Dr
namespace Go.Dr
open Go.Proofs
set_option maxRecDepth 20000
set_option maxHeartbeats 2000000
set_option linter.unusedSimpArgs false
set_option linter.unusedVariables false
def thereB (p:List Int) (F:Nat→Bool) (j:Nat):Bool:=decide (0≤at0 p j)&&F j
theorem p8_many {S:SHeap} {kp:Addr} {s:Snap} {p:List Int} {us:List (List Int)} {mb:Nat} {l:List (ByteArray × Value)} {f:FuncId} {fs cs:Array Value} (F:Nat→Bool) (hE:Ent Tryz.prog f) (hp:p.length≤1000)
  (hL:PtrTo S kp rLook ⟨s,p,us,.map (some mb)⟩) (hco:Cache s S l)
  (hf:∀ (S':SHeap) (l':List (ByteArray × Value)) (j:Nat) (n:Int),S.le S'→Cache s S' l'→p[j]?=some n→0≤n→FnC Tryz.prog f (fs.toList++[Value.int .i64 j]++cs.toList).toArray S' Value.string mb (Cache s) l' (fun w _=>w=.bool (F j))) :
  FnC Tryz.prog 344 #[.pointer (some kp),.func (.func f) fs cs] S Value.string mb (Cache s) l (fun w _=>w=.int .i64 (cntI p.length (thereB p F))):=by
 (refine Fn.enter (args:=[.pointer (some kp),.func (.func f) fs cs]) Tryz.func344 rfl Tryz.ntmps344 rfl ?_;intro w0)
 repeat (first|(refine Walk ?_;intros)|refine JC.block ?_)
 refine JC.loopF (σ:=Nat × List (ByteArray × Value)) [(1,_),(10,_),(11,_)] (fun q=>[(4,.int .i64 (cntI q.1 (thereB p F))),(12,.int .i64 q.1)]) (fun q=>[.blk mb (mapK Value.string q.2)]) (fun Sk q=>q.1≤p.length∧Cache s Sk q.2) (fun q=>p.length - q.1) ((0,l)) (by exact sba) (by exact sba) rfl (⟨Nat.zero_le _,hco⟩) ?_;rintro Sk ⟨k,l1⟩ hlk hik;(try dsimp only at hik);dsimp only [List.cons_append,List.nil_append]
 obtain ⟨hk,hco1⟩:=hik
 have hrg:=cntI_rng k (thereB p F)
 repeat (first|(refine Walk ?_;intros)|refine JC.block ?_)
 refine JC.cond rfl (fun hc=>?_) (fun hc=>?_)
 ·have hk':=dlt hc
  obtain ⟨n,hn,_⟩:=drop_at hk'
  have hst:=cntI_step k (thereB p F)
  have hG:thereB p F k=(decide (0≤n)&&F k):=by simp [thereB,at0_some hn]
  rw [hG] at hst
  repeat (first|(refine Walk ?_;intros)|refine JC.block ?_)
  refine JO.guard rfl rfl rfl rfl (fun h1=>?_) (fun h1=>?_)
  ·have h1':0≤n:=by simpa using h1
   repeat (first|(refine Walk ?_;intros)|refine JC.block ?_)
   refine JO.eff rfl rfl rfl (JEff.dynC (kv:=Value.string) rfl hE rfl (List.Perm.refl _) (by intro l hl;cases hl) (hf _ _ k n (by exact lea) hco1 hn h1') rfl ?_);intro w S2 l2 hl2 hw hco2;subst hw
   repeat (first|(refine Walk ?_;intros)|refine JC.block ?_)
   refine JC.cond rfl (fun h2=>?_) (fun h2=>?_)
   ·have hst1:cntI (k+1) (thereB p F)=cntI k (thereB p F)+1:=by rw [hst];simp [h1',h2]
    repeat (first|(refine Walk ?_;intros)|refine JC.block ?_)
    exact JX.roundF ((k+1,l2)) (by exact lea) (⟨by omega,hco2⟩) (by (try dsimp only);omega) rfl (by (try dsimp only);rw [hst1];exact sba) (by exact sba)
   ·have hst1:cntI (k+1) (thereB p F)=cntI k (thereB p F):=by rw [hst];simp [h2]
    repeat (first|(refine Walk ?_;intros)|refine JC.block ?_)
    exact JX.roundF ((k+1,l2)) (by exact lea) (⟨by omega,hco2⟩) (by (try dsimp only);omega) rfl (by (try dsimp only);rw [hst1];exact sba) (by exact sba)
  ·have h1':¬ 0≤n:=by simpa using h1
   have hst1:cntI (k+1) (thereB p F)=cntI k (thereB p F):=by rw [hst];simp [h1']
   repeat (first|(refine Walk ?_;intros)|refine JC.block ?_)
   exact JX.roundF ((k+1,l1)) (by exact lea) (⟨by omega,hco1⟩) (by (try dsimp only);omega) rfl (by (try dsimp only);rw [hst1];exact sba) (by exact sba)
 ·have hk':=dnlt hc
  obtain rfl:k=p.length:=by omega
  repeat (first|(refine Walk ?_;intros)|refine JC.block ?_)
  refine JX.ret1 Tryz.results344 (ResV.tmp rfl) (List.Sublist.refl _) ?_
  exact ⟨rfl,_,rfl,hco1⟩
def aroundF (s:Snap) (p:List Int) (i:Nat) (x:Near) (self:Bool) (j:Nat):Bool:=
 match p[j]?,s.pods[j]?,p[i]? with
 | some n,some q,some m=>(self||!decide (j=i))&&near8 s n.toNat m.toNat x.topo&&holdsB x.terms q.labels
 | _,_,_=>false
theorem around_about {s:Snap} {p:List Int} {i:Nat} {x:Near} {self:Bool} (hlen:p.length=s.pods.length):cntI p.length (thereB p (aroundF s p i x self))=about8 s p i x (!self):=by
 unfold about8
 refine cntI_congr fun j hj=>?_
 obtain ⟨n,hn⟩:∃ n,p[j]?=some n:=⟨_,List.getElem?_eq_getElem hj⟩
 unfold thereB aroundF aboutF
 rw [at0_some hn,hn]
 cases s.pods[j]?<;>cases p[i]?<;>simp
 cases self<;>cases decide (j=i)<;>simp [Bool.and_assoc]
theorem s365_L8b {P K:Prop} (k:K) (h:Goal K→P:=by
 intro zk
 (first|refine Walk ?_|refine JC.block ?_|refine JC.drawN 1 rfl [0,1,2,3,4,5,6,7,8,9,10,11,12,13,14,15,16,17,18,19,20,21,22,23,24,25,26,27,28,29,30,31,32,33,34,35,36,37,38,39,40] [0,1,2,3,4,5,6,7,8,9,10,11,12,13,14,15,16,17,18,19,20,21,22,23,25,26,27,28,29,30,31,32,33,34,35,36,37,39,40] Tryz_mixed (by decide +kernel) ?_|(refine JO.eff rfl rfl rfl (JEff.callV rfl (p3_Holds (by exact vta) (by exact vta)) rfl ?_);intro zqa zqb))
 (repeat (first|revert zqg|revert zqf|revert zqe|revert zqd|revert zqc|revert zqb|revert zqa))
 exact zk.k):P:=h ⟨k⟩
theorem p8_around1 {S:SHeap} {kp:Addr} {s:Snap} {p:List Int} {us:List (List Int)} {mb:Nat} {l:List (ByteArray × Value)} {qs qi qk qx:Addr} {self:Bool} {i:Nat} {x:Near} {j:Nat} {n m:Int} (hok:checkP s p=0)
  (hL:PtrTo S kp rLook ⟨s,p,us,.map (some mb)⟩) (hco:Cache s S l) (h1:PtrTo S qs rBool self) (h2:PtrTo S qi rI64 (i:Int)) (h3:PtrTo S qk rVal (.pointer (some kp))) (h4:PtrTo S qx rNear x)
  (hj:p[j]?=some n) (hn:0≤n) (hi:p[i]?=some m) (hm:0≤m) :
  FnC Tryz.prog 365 #[.int .i64 j,.pointer (some qs),.pointer (some qi),.pointer (some qk),.pointer (some qx)] S Value.string mb (Cache s) l (fun w _=>w=.bool (aroundF s p i x self j)):=by
 obtain ⟨hs,hlen,hp24,hn8,ho8,hpr,hprn⟩:=placed_hyps hok
 have hj':=(List.getElem?_eq_some_iff.1 hj).1
 have hi':=(List.getElem?_eq_some_iff.1 hi).1
 obtain ⟨q,hq⟩:∃ q,s.pods[j]?=some q:=⟨_,List.getElem?_eq_getElem (by omega)⟩
 have hnr:=hpr n (List.mem_of_getElem? hj)
 have hmr:=hpr m (List.mem_of_getElem? hi)
 obtain ⟨n,rfl⟩:=Int.eq_ofNat_of_zero_le hn
 obtain ⟨m,rfl⟩:=Int.eq_ofNat_of_zero_le hm
 have haf:aroundF s p i x self j=((self||!decide (j=i))&&near8 s n m x.topo&&holdsB x.terms q.labels):=by simp [aroundF,hj,hq,hi]
 have hij:decide ((j:Int)=(i:Int))=decide (j=i):=by rw [Bool.eq_iff_iff];simp;omega
 have hjr:Rng (j:Int):=by unfold Rng;omega
 (refine Fn.enter (args:=[.int .i64 j,.pointer (some qs),.pointer (some qi),.pointer (some qk),.pointer (some qx)]) Tryz.func365 rfl Tryz.ntmps365 rfl ?_;intro w0)
 cases self with
 | true=>
  repeat (refine s365_L8b ?_;intros)
  refine JO.eff rfl rfl rfl (JEff.callC (kv:=Value.string) rfl (List.Perm.refl _) (by intro l hl;cases hl) (p8_near n m x.topo (by assumption) hs (by omega) (by omega) (by exact pta) (hco.mono (by exact lea))) rfl ?_);intro w S2 l2 hl2 hw hco2;subst hw
  repeat' (first|(refine s365_L8b ?_;intros)|(refine JO.guard rfl rfl rfl rfl ?_ ?_<;>intro _)|(refine JC.cond rfl ?_ ?_<;>intro _))
  all_goals
   refine JX.ret1 Tryz.results365 (ResV.tmp rfl) (List.Sublist.refl _) ?_
   refine ⟨?_,_,rfl,by first|assumption|(exact Cache.mono (by assumption) (by exact lea))⟩
   rw [haf]
   simp_all
 | false=>
  repeat (refine s365_L8b ?_;intros)
  refine JO.guard rfl rfl rfl rfl (fun g1=>?_) (fun g1=>?_)
  ·repeat (refine s365_L8b ?_;intros)
   refine JO.eff rfl rfl rfl (JEff.callC (kv:=Value.string) rfl (List.Perm.refl _) (by intro l hl;cases hl) (p8_near n m x.topo (by assumption) hs (by omega) (by omega) (by exact pta) (hco.mono (by exact lea))) rfl ?_);intro w S2 l2 hl2 hw hco2;subst hw
   repeat' (first|(refine s365_L8b ?_;intros)|(refine JO.guard rfl rfl rfl rfl ?_ ?_<;>intro _)|(refine JC.cond rfl ?_ ?_<;>intro _))
   all_goals
    refine JX.ret1 Tryz.results365 (ResV.tmp rfl) (List.Sublist.refl _) ?_
    refine ⟨?_,_,rfl,by first|assumption|(exact Cache.mono (by assumption) (by exact lea))⟩
    rw [haf]
    simp_all
  ·repeat' (first|(refine s365_L8b ?_;intros)|(refine JO.guard rfl rfl rfl rfl ?_ ?_<;>intro _)|(refine JC.cond rfl ?_ ?_<;>intro _))
   all_goals
    refine JX.ret1 Tryz.results365 (ResV.tmp rfl) (List.Sublist.refl _) ?_
    refine ⟨?_,_,rfl,by first|assumption|(exact Cache.mono (by assumption) (by exact lea))⟩
    rw [haf]
    simp_all
end Go.Dr
namespace Go.Dr
open Go.Proofs
set_option maxRecDepth 20000
set_option maxHeartbeats 1000000
set_option linter.unusedSimpArgs false
set_option linter.unusedVariables false
end Go.Dr
namespace Go.Dr
open Go.Proofs
set_option maxRecDepth 20000
set_option maxHeartbeats 1000000
set_option linter.unusedSimpArgs false
set_option linter.unusedVariables false
def domSum (s:Snap) (key:ByteArray) (c:List Int) (v:ByteArray) (k:Nat):Int:=((List.range k).map (fun n=>if inDom s key v n=true then at0 c n else 0)).sum
theorem domSum_step (s:Snap) (key:ByteArray) (c:List Int) (v:ByteArray) (k:Nat):domSum s key c v (k+1)=domSum s key c v k+(if inDom s key v k=true then at0 c k else 0):=by
 unfold domSum
 rw [List.range_succ,List.map_append,List.sum_append];simp
theorem domSum_rng {s:Snap} {key:ByteArray} {c:List Int} {v:ByteArray} (h:∀ x∈c,0≤x∧x≤1000):∀ k,0≤domSum s key c v k∧domSum s key c v k≤1000*k
 | 0=>by simp [domSum]
 | k+1=>by
  have ih:=domSum_rng (s:=s) (key:=key) (v:=v) h k
  rw [domSum_step]
  have hk:0≤at0 c k∧at0 c k≤1000:=by
   unfold at0
   rw [List.getD_eq_getElem?_getD]
   cases hc:c[k]? with
   | none=>simp
   | some x=>exact h x (List.mem_of_getElem? hc)
  split<;>omega
theorem counts_rng {s:Snap} {p:List Int} {o:Nat} (h:p.length≤1000) (hlen:p.length=s.pods.length):∀ x∈countsL s p o,0≤x∧x≤1000:=by
 intro x hx
 obtain ⟨n,_,rfl⟩:=List.mem_map.1 hx
 have h1:=List.length_filter_le (fun x=>decide (x=(n:Int))) (ownedL s p o)
 have h2:(ownedL s p o).length≤p.length:=by rw [← ownedK_all hlen];exact ownedK_len _ _ _ _
 omega
end Go.Dr
namespace Go.Dr
open Go.Proofs
set_option maxRecDepth 20000
set_option maxHeartbeats 1000000
set_option linter.unusedSimpArgs false
set_option linter.unusedVariables false
end Go.Dr
namespace Go.Dr
open Go.Proofs
set_option maxRecDepth 20000
set_option maxHeartbeats 1000000
set_option linter.unusedSimpArgs false
set_option linter.unusedVariables false
end Go.Dr
namespace Go.Dr
open Go.Proofs
set_option maxRecDepth 20000
set_option maxHeartbeats 1000000
set_option linter.unusedSimpArgs false
set_option linter.unusedVariables false
theorem spread_rng {s:Snap} {p:List Int} {o:Nat} (h:p.length≤1000) (hlen:p.length=s.pods.length) (hn:s.nodes.length≤1000):∀ x∈spreadL s p o,0≤x∧x≤1000000:=by
 intro x hx
 obtain ⟨v,_,rfl⟩:=List.mem_map.1 hx
 have:=domSum_rng (s:=s) (key:=topoOf s o) (v:=v) (counts_rng (o:=o) h hlen) s.nodes.length
 unfold domCount
 unfold domSum at this
 omega
theorem shaped_owner {s:Snap} (h:shapedB s=true):∀ o∈s.owners,0≤o.min∧o.min≤24∧0≤o.skew∧o.skew≤24:=by
 intro o ho
 unfold shapedB at h
 simp only [Bool.and_eq_true,List.all_eq_true] at h
 have h1:=h.2.2 o ho
 unfold ownerB at h1
 simp only [Bool.and_eq_true,decide_eq_true_eq] at h1
 obtain ⟨⟨h1,h2⟩,h3⟩:=h1
 split at h1
 ·have:=of_decide_eq_true h1;omega
 ·simp only [Bool.and_eq_true,decide_eq_true_eq] at h1;omega
theorem alike_step {α:Type} {xs ys:List α} {k:Nat} {x y:α} (hx:xs[k]?=some x) (hy:ys[k]?=some y) (h:xs.take k=ys.take k) (hxy:x=y):xs.take (k+1)=ys.take (k+1):=by
 rw [List.take_add_one,List.take_add_one,hx,hy,h,hxy]
theorem alike_not {α:Type} {xs ys:List α} {k:Nat} {x y:α} (hx:xs[k]?=some x) (hy:ys[k]?=some y) (hxy:¬ x=y):¬ xs=ys:=by
 rintro rfl;rw [hx] at hy;exact hxy (Option.some.inj hy)
theorem s23_L8u {P K:Prop} (k:K) (h:Goal K→P:=by
 intro zk
 (first|refine Walk ?_|refine JC.block ?_|refine JC.drawN 6 rfl [0,1,2,3,4,5,6,7,8] [0,1,2,3,4,5,6,7,8] Tryz_mixed (by decide +kernel) ?_)
 (repeat (first|revert zqg|revert zqf|revert zqe|revert zqd|revert zqc|revert zqb|revert zqa))
 exact zk.k):P:=h ⟨k⟩
theorem r0_EqInts {S:SHeap} {u v:Value} {xs ys:List Int} (hu:(rSlice 8 rI64).V S u xs) (hv:(rSlice 8 rI64).V S v ys):FnV Tryz.prog 23 #[u,v] S (.bool (decide (xs=ys))):=by
 obtain ⟨a,c,rfl,_,_,hb,_⟩:=V_slice.1 hu
 obtain ⟨a2,c2,rfl,_,_,hb2,_⟩:=V_slice.1 hv
 unfold big at hb hb2
 (refine Fn.enter (args:=[.slice a xs.length c,.slice a2 ys.length c2]) Tryz.func23 rfl Tryz.ntmps23 rfl ?_;intro w0)
 repeat (refine s23_L8u ?_;intros)
 refine JC.cond rfl (fun h0=>?_) (fun h0=>?_)
 ·have h0:¬ xs.length=ys.length:=by simp at h0;omega
  repeat (refine s23_L8u ?_;intros)
  (refine JX.ret1 Tryz.results23 (ResV.tmp rfl) (List.nil_sublist _) ?_)
  refine ⟨rfl,?_⟩
  congr 1
  exact (decide_eq_false (fun h=>h0 (by rw [h]))).symm
 ·have h0:xs.length=ys.length:=by simp at h0;omega
  repeat (refine s23_L8u ?_;intros)
  refine JC.loopF0 [(0,_),(1,_)] (fun (k:Nat)=>[(5,.int .i64 k)]) (fun Sk k=>k≤xs.length∧(xs.take k=ys.take k)) (fun k=>xs.length - k) 0 (by exact sba) (by exact sba) ⟨Nat.zero_le _,by simp⟩ ?_;intro Sk k hlk hik;obtain ⟨hk,hik⟩:=hik;(try dsimp only at hk hik);dsimp only [List.cons_append,List.nil_append]
  repeat (refine s23_L8u ?_;intros)
  refine JC.cond rfl (fun hc=>?_) (fun hc=>?_)
  ·have hk':=dlt hc
   obtain ⟨x,hx,_⟩:=drop_at hk'
   obtain ⟨y,hy,_⟩:=drop_at (l:=ys) (show k < ys.length by omega)
   repeat (refine s23_L8u ?_;intros)
   refine JC.cond rfl (fun hxy=>?_) (fun hxy=>?_)
   ·have hxy:¬ x=y:=by simpa using hxy
    repeat (refine s23_L8u ?_;intros)
    (refine JX.ret1 Tryz.results23 (ResV.tmp rfl) (List.nil_sublist _) ?_)
    refine ⟨rfl,?_⟩
    congr 1
    exact (decide_eq_false (alike_not hx hy hxy)).symm
   ·have hxy:x=y:=by simpa using hxy
    repeat (refine s23_L8u ?_;intros)
    exact JX.roundF (k+1) (by exact lea) ⟨by omega,(alike_step hx hy hik hxy)⟩ (by (try dsimp only);omega) rfl (by exact sba) (by exact sba)
  ·have hk':=dnlt hc
   rw [List.take_of_length_le hk',List.take_of_length_le (by omega)] at hik
   repeat (refine s23_L8u ?_;intros)
   (refine JX.ret1 Tryz.results23 (ResV.tmp rfl) (List.nil_sublist _) ?_)
   refine ⟨rfl,?_⟩
   congr 1
   exact (decide_eq_true hik).symm
end Go.Dr
namespace Go.Dr
open Go.Proofs
set_option maxRecDepth 20000
set_option maxHeartbeats 1000000
set_option linter.unusedSimpArgs false
set_option linter.unusedVariables false
theorem used_fine {s:Snap} (h:checkS s=0) {p:List Int} (hlen:p.length=s.pods.length) (n:Int):(usedV s p n).length=5∧(∀ x∈usedV s p n,0≤x∧x≤Qty):=by
 refine ⟨by simp [usedV],fun z hz=>?_⟩
 obtain ⟨j,hj,rfl⟩:=List.mem_map.1 hz
 have:=used_bound h p n p.length j (by simpa using hj)
 rwa [onK_all hlen] at this
theorem check_vec {v:List Int} (h:z0 (checkV v)=true):∀ x∈v,0≤x∧x≤Qty:=by
 intro x hx
 unfold z0 checkV at h
 split at h
 ·cases h
 ·rename_i h1
  split at h
  ·cases h
  ·rename_i h2
   have h1:=(List.any_eq_false.1 (by simpa using h1)) x hx
   have h2:=(List.any_eq_false.1 (by simpa using h2)) x hx
   simp only [negB,overB,decide_eq_true_eq] at h1 h2
   omega
theorem shaped_cap {s:Snap} (h:shapedB s=true):∀ n∈s.nodes,∀ x∈n.cap,0≤x∧x≤Qty:=by
 intro n hn
 unfold shapedB at h
 simp only [Bool.and_eq_true,List.all_eq_true] at h
 have h1:=h.2.1.1 n hn
 unfold nodeB at h1
 simp only [Bool.and_eq_true] at h1
 exact check_vec h1.1.1
end Go.Dr
namespace Go.Dr
open Go.Proofs
set_option maxRecDepth 20000
set_option maxHeartbeats 1000000
set_option linter.unusedSimpArgs false
set_option linter.unusedVariables false
end Go.Dr
namespace Go.Dr
open Go.Proofs
set_option maxRecDepth 20000
set_option maxHeartbeats 2000000
set_option linter.unusedSimpArgs false
set_option linter.unusedVariables false
theorem of8_rng {s:Snap} {p:List Int} (hp:p.length≤1000) (hw:∀ x∈s.pods,x.wher.length≤1000) (ht:∀ x∈s.nodes,x.taints.length≤1000) (kind:Int) (i:Nat):0≤(of8 s p kind i).1∧(of8 s p kind i).1≤1000:=by
 unfold of8
 cases hm:p[i]? with
 | none=>simp
 | some m=>
  cases hx:s.pods[i]? with
  | none=>simp
  | some x=>
   dsimp only
   split
   ·simp
   ·cases hn:s.nodes[m.toNat]? with
    | none=>simp
    | some n=>
     dsimp only
     have h1:=hw x (List.mem_of_getElem? hx)
     have h2:=ht n (List.mem_of_getElem? hn)
     have h3:=List.length_filter_le (fun t=>!holdsB [t] n.labels) x.wher
     have h4:=List.length_filter_le (fun t=>!bearsB x.bears [t]) n.taints
     have h5:=cntI_rng p.length (aboutF s p i x.with_ false)
     have h6:=cntI_rng p.length (aboutF s p i x.apart true)
     have h7:=cntI_rng p.length (doubleF s p i)
     unfold termsN taintsN about8 double8
     repeat' split
     all_goals dsimp only
     all_goals omega
theorem shaped_lists {s:Snap} (h:shapedB s=true):(∀ x∈s.pods,x.wher.length≤1000)∧(∀ x∈s.nodes,x.taints.length≤1000):=by
 unfold shapedB at h
 simp only [Bool.and_eq_true,List.all_eq_true] at h
 refine ⟨fun x hx=>?_,fun x hx=>?_⟩
 ·have h1:=h.2.1.2 x hx
  unfold podB at h1
  simp only [Bool.and_eq_true] at h1
  have h2:=h1.1.1.2.1.2
  unfold z0 checkT at h2
  split at h2
  ·rename_i h3
   simp only [Bool.and_eq_true,decide_eq_true_eq] at h3
   omega
  ·simp at h2
 ·have h1:=h.2.1.1 x hx
  unfold nodeB at h1
  simp only [Bool.and_eq_true] at h1
  have h2:=h1.2
  unfold z0 checkL at h2
  split at h2
  ·rename_i h3
   simp only [Bool.and_eq_true,decide_eq_true_eq] at h3
   omega
  ·simp at h2
theorem skewV_rng {s:Snap} {p:List Int} {o:Nat} (h:p.length≤1000) (hlen:p.length=s.pods.length) (hn:s.nodes.length≤1000) (hs:0≤skewOf s o):0≤skewV s p o∧skewV s p o≤1000000:=by
 unfold skewV
 have hr:=spread_rng (o:=o) h hlen hn
 generalize spreadL s p o=L at *
 cases L with
 | nil=>simp
 | cons x L=>
  have r1:=fold_rng min_or (lo:=0) (hi:=1000000) (l:=L) (z:=x) (hr x (by simp)).1 (hr x (by simp)).2 (fun y hy=>hr y (by simp [hy]))
  have r2:=fold_rng max_or (lo:=0) (hi:=1000000) (l:=L) (z:=x) (hr x (by simp)).1 (hr x (by simp)).2 (fun y hy=>hr y (by simp [hy]))
  simp only [minL,maxL]
  split<;>omega
theorem placed_rng {s:Snap} {p:List Int} {o:Nat} (hlen:p.length=s.pods.length):0≤placedN s p o∧placedN s p o≤p.length:=by
 have:(ownedL s p o).length≤p.length:=by rw [← ownedK_all hlen];exact ownedK_len _ _ _ _
 unfold placedN;omega
end Go.Dr
namespace Go.Dr
open Go.Proofs
set_option maxRecDepth 20000
set_option maxHeartbeats 2000000
set_option linter.unusedSimpArgs false
set_option linter.unusedVariables false
theorem p8_around {S:SHeap} {kp:Addr} {s:Snap} {p:List Int} {us:List (List Int)} {mb:Nat} {l:List (ByteArray × Value)} {xv:Value} {i:Nat} {x:Near} {m:Int} (self:Bool) (hok:checkP s p=0)
  (hL:PtrTo S kp rLook ⟨s,p,us,.map (some mb)⟩) (hco:Cache s S l) (hx:rNear.V S xv x) (hi:p[i]?=some m) (hm:0≤m) :
  FnC Tryz.prog 340 #[.pointer (some kp),.int .i64 i,xv,.bool self] S Value.string mb (Cache s) l (fun w _=>w=.int .i64 (about8 s p i x (!self))):=by
 obtain ⟨hs,hlen,hp24,hn8,ho8,hpr,hprn⟩:=placed_hyps hok
 have hi':=(List.getElem?_eq_some_iff.1 hi).1
 have hir:Rng (i:Int):=by unfold Rng;omega
 (refine Fn.enter (args:=[.pointer (some kp),.int .i64 i,xv,.bool self]) Tryz.func340 rfl Tryz.ntmps340 rfl ?_;intro w0)
 repeat (first|(refine Walk ?_;intros)|refine JC.block ?_|(refine WBox ?_;intros))
 refine JO.eff rfl rfl rfl (JEff.callC (kv:=Value.string) rfl (List.Perm.refl _) (by intro l hl;cases hl) (p8_many (aroundF s p i x self) inferInstance (by omega) (by exact pta) (hco.mono (by exact lea)) (fun S' l' j n hl hc hj hn=>p8_around1 hok (by exact pta) hc (by exact pta) (by exact pta) (by exact pta) (by exact pta) hj hn hi hm)) rfl ?_);intro w S2 l2 hl2 hw hco2;subst hw
 rw [around_about hlen]
 repeat (first|(refine Walk ?_;intros)|refine JC.block ?_|(refine WBox ?_;intros))
 refine JX.ret1 Tryz.results340 (ResV.tmp rfl) (List.Sublist.refl _) ?_
 exact ⟨rfl,_,rfl,hco2⟩
theorem p8_single1 {S:SHeap} {u:Value} {o:Owner} {q:Addr} {name:ByteArray} (hu:rOwner.V S u o) (hq:PtrTo S q rStr name):FnV Tryz.prog 367 #[u,.pointer (some q)] S (.bool (decide (o.name=name))):=by
 (refine Fn.enter (args:=[u,.pointer (some q)]) Tryz.func367 rfl Tryz.ntmps367 rfl ?_;intro w0)
 repeat (first|(refine Walk ?_;intros)|refine JC.block ?_|(refine WBox ?_;intros))
 (refine JX.ret1 Tryz.results367 (ResV.tmp rfl) (List.nil_sublist _) ?_)
 exact ⟨rfl,rfl⟩
theorem idx_find {α:Type} {f:α→Bool} {xs:List α}:(∃ (i:Nat) (x:α),idxF f xs=i∧xs[i]?=some x∧xs.find? f=some x)∨(idxF f xs=-1∧xs.find? f=none):=by
 unfold idxF
 cases h:xs.findIdx? f with
 | none=>
  right
  refine ⟨rfl,?_⟩
  rw [List.find?_eq_none]
  intro x hx
  have:=List.findIdx?_eq_none_iff.1 h x hx
  simpa using this
 | some i=>
  left
  obtain ⟨hi,h1,h2⟩:=List.findIdx?_eq_some_iff_getElem.1 h
  refine ⟨i,xs[i],rfl,List.getElem?_eq_getElem hi,?_⟩
  rw [List.find?_eq_some_iff_getElem]
  exact ⟨h1,i,hi,rfl,fun j hj=>by simpa using h2 j hj⟩
theorem p8_single {S:SHeap} {kp:Addr} {s:Snap} {p:List Int} {us:List (List Int)} {d:Value} (name:ByteArray) (hn:name.size≤big) (hL:PtrTo S kp rLook ⟨s,p,us,d⟩):FnV Tryz.prog 343 #[.pointer (some kp),.string name] S (.bool (single8 s name)):=by
 (refine Fn.enter (args:=[.pointer (some kp),.string name]) Tryz.func343 rfl Tryz.ntmps343 rfl ?_;intro w0)
 repeat (first|(refine Walk ?_;intros)|refine JC.block ?_|(refine WBox ?_;intros))
 (refine JO.eff rfl rfl rfl (JEff.callV rfl (p_IndexFunc_Owner (fun o=>decide (o.name=name)) (by exact vta) inferInstance (fun S' hl u x hx=>p8_single1 hx (by exact pta))) rfl ?_);intro _ _)
 rcases idx_find (f:=fun o:Owner=>decide (o.name=name)) (xs:=s.owners) with ⟨i,o,h1,h2,h3⟩|⟨h1,h3⟩
 ·rw [h1]
  repeat' (first|(refine Walk ?_;intros)|refine JC.block ?_|(refine WBox ?_;intros)|(refine JO.guard rfl rfl rfl rfl ?_ ?_<;>intro _)|(refine JC.cond rfl ?_ ?_<;>intro _))
  all_goals first
   | ((refine JX.ret1 Tryz.results343 (ResV.tmp rfl) (List.nil_sublist _) ?_);exact ⟨rfl,by simp [single8,h3, *]⟩)
   | (exfalso;first|(simp only [decide_eq_true_eq,decide_eq_false_iff_not,Bool.not_eq_true',Bool.not_eq_false',Bool.and_eq_true,Bool.or_eq_true,Bool.and_eq_false_iff,Bool.or_eq_false_iff] at *;omega)|(simp_all;done)|(simp_all;omega))
 ·rw [h1]
  repeat' (first|(refine Walk ?_;intros)|refine JC.block ?_|(refine WBox ?_;intros)|(refine JO.guard rfl rfl rfl rfl ?_ ?_<;>intro _)|(refine JC.cond rfl ?_ ?_<;>intro _))
  all_goals first
   | ((refine JX.ret1 Tryz.results343 (ResV.tmp rfl) (List.nil_sublist _) ?_);exact ⟨rfl,by simp [single8,h3]⟩)
   | (exfalso;first|(simp only [decide_eq_true_eq,decide_eq_false_iff_not,Bool.not_eq_true',Bool.not_eq_false',Bool.and_eq_true,Bool.or_eq_true,Bool.and_eq_false_iff,Bool.or_eq_false_iff] at *;omega)|(simp_all;done)|(simp_all;omega))
theorem p8_withoutT {S:SHeap} {u:Value} {l:List Term} {f:FuncId} {fs cs:Array Value} (F:Term→Bool) (hu:(rSlice 40 rTerm).V S u l) (hE:Ent Tryz.prog f)
  (hf:∀ (S':SHeap) (v:Value) (x:Term),S.le S'→(rSlice 40 rTerm).V S' v [x]→FnV Tryz.prog f (fs.toList++[v]++cs.toList).toArray S' (.bool (F x))):FnV Tryz.prog 332 #[u,.func (.func f) fs cs] S (.int .i64 ((l.filter (fun t=>!F t)).length:Int)):=by
 obtain ⟨a,c,rfl,_,_,hb,_⟩:=V_slice.1 hu
 unfold big at hb
 (refine Fn.enter (args:=[.slice a l.length c,.func (.func f) fs cs]) Tryz.func332 rfl Tryz.ntmps332 rfl ?_;intro w0)
 repeat (first|(refine Walk ?_;intros)|refine JC.block ?_)
 refine JC.loopF0 [(0,_),(1,_),(7,_)] (fun (k:Nat)=>[(4,.int .i64 (((l.take k).filter (fun t=>!F t)).length:Int)),(8,.int .i64 k)]) (fun Sk k=>k≤l.length∧(True)) (fun k=>l.length - k) 0 (by exact sba) (by exact sba) ⟨Nat.zero_le _,trivial⟩ ?_;intro Sk k hlk hik;obtain ⟨hk,hik⟩:=hik;(try dsimp only at hk hik);dsimp only [List.cons_append,List.nil_append]
 repeat (first|(refine Walk ?_;intros)|refine JC.block ?_)
 refine JC.cond rfl (fun hc=>?_) (fun hc=>?_)
 ·have hk':=dlt hc
  obtain ⟨x,hx,hd⟩:=drop_at hk'
  have hst:=filt_take (f:=fun t=>!F t) hx
  have hle:=filt_le l (fun t=>!F t) k
  repeat (first|(refine Walk ?_;intros)|refine JC.block ?_)
  refine JO.pure rfl rfl rfl (JPure.sliceS (xs:=l) (rep:=rTerm) (bt:=40) rfl (by exact vta) rfl rfl rfl (by omega) (by omega) (by omega) ?_);intro a1 c1 ys hys hV hyl hyb
  rw [cut1 hx] at hys
  subst hys
  repeat (first|(refine Walk ?_;intros)|refine JC.block ?_)
  (refine JO.eff rfl rfl rfl (JEff.dynV rfl (by assumption) rfl (hf _ _ x (by exact lea) (by exact vta)) rfl ?_);intro _ _)
  repeat (first|(refine Walk ?_;intros)|refine JC.block ?_)
  refine JC.cond rfl (fun h1=>?_) (fun h1=>?_)
  ·rw [h1,if_pos rfl] at hst
   repeat (first|(refine Walk ?_;intros)|refine JC.block ?_)
   (refine JX.roundF (k+1) (by exact lea) ⟨by omega,(trivial)⟩ (by (try dsimp only);omega) rfl ?_ (by exact sba);(try dsimp only);rw [hst];exact sba;done)
  ·rw [h1,if_neg (by simp),Int.add_zero] at hst
   repeat (first|(refine Walk ?_;intros)|refine JC.block ?_)
   (refine JX.roundF (k+1) (by exact lea) ⟨by omega,(trivial)⟩ (by (try dsimp only);omega) rfl ?_ (by exact sba);(try dsimp only);rw [hst];exact sba;done)
 ·have hk':=dnlt hc
  rw [List.take_of_length_le hk']
  repeat (first|(refine Walk ?_;intros)|refine JC.block ?_)
  (refine JX.ret1 Tryz.results332 (ResV.tmp rfl) (List.nil_sublist _) ?_)
  exact ⟨rfl,rfl⟩
theorem p8_withoutL {S:SHeap} {u:Value} {l:List Label} {f:FuncId} {fs cs:Array Value} (F:Label→Bool) (hu:(rSlice 32 rLabel).V S u l) (hE:Ent Tryz.prog f)
  (hf:∀ (S':SHeap) (v:Value) (x:Label),S.le S'→(rSlice 32 rLabel).V S' v [x]→FnV Tryz.prog f (fs.toList++[v]++cs.toList).toArray S' (.bool (F x))):FnV Tryz.prog 336 #[u,.func (.func f) fs cs] S (.int .i64 ((l.filter (fun t=>!F t)).length:Int)):=by
 obtain ⟨a,c,rfl,_,_,hb,_⟩:=V_slice.1 hu
 unfold big at hb
 (refine Fn.enter (args:=[.slice a l.length c,.func (.func f) fs cs]) Tryz.func336 rfl Tryz.ntmps336 rfl ?_;intro w0)
 repeat (first|(refine Walk ?_;intros)|refine JC.block ?_)
 refine JC.loopF0 [(0,_),(1,_),(7,_)] (fun (k:Nat)=>[(4,.int .i64 (((l.take k).filter (fun t=>!F t)).length:Int)),(8,.int .i64 k)]) (fun Sk k=>k≤l.length∧(True)) (fun k=>l.length - k) 0 (by exact sba) (by exact sba) ⟨Nat.zero_le _,trivial⟩ ?_;intro Sk k hlk hik;obtain ⟨hk,hik⟩:=hik;(try dsimp only at hk hik);dsimp only [List.cons_append,List.nil_append]
 repeat (first|(refine Walk ?_;intros)|refine JC.block ?_)
 refine JC.cond rfl (fun hc=>?_) (fun hc=>?_)
 ·have hk':=dlt hc
  obtain ⟨x,hx,hd⟩:=drop_at hk'
  have hst:=filt_take (f:=fun t=>!F t) hx
  have hle:=filt_le l (fun t=>!F t) k
  repeat (first|(refine Walk ?_;intros)|refine JC.block ?_)
  refine JO.pure rfl rfl rfl (JPure.sliceS (xs:=l) (rep:=rLabel) (bt:=32) rfl (by exact vta) rfl rfl rfl (by omega) (by omega) (by omega) ?_);intro a1 c1 ys hys hV hyl hyb
  rw [cut1 hx] at hys
  subst hys
  repeat (first|(refine Walk ?_;intros)|refine JC.block ?_)
  (refine JO.eff rfl rfl rfl (JEff.dynV rfl (by assumption) rfl (hf _ _ x (by exact lea) (by exact vta)) rfl ?_);intro _ _)
  repeat (first|(refine Walk ?_;intros)|refine JC.block ?_)
  refine JC.cond rfl (fun h1=>?_) (fun h1=>?_)
  ·rw [h1,if_pos rfl] at hst
   repeat (first|(refine Walk ?_;intros)|refine JC.block ?_)
   (refine JX.roundF (k+1) (by exact lea) ⟨by omega,(trivial)⟩ (by (try dsimp only);omega) rfl ?_ (by exact sba);(try dsimp only);rw [hst];exact sba;done)
  ·rw [h1,if_neg (by simp),Int.add_zero] at hst
   repeat (first|(refine Walk ?_;intros)|refine JC.block ?_)
   (refine JX.roundF (k+1) (by exact lea) ⟨by omega,(trivial)⟩ (by (try dsimp only);omega) rfl ?_ (by exact sba);(try dsimp only);rw [hst];exact sba;done)
 ·have hk':=dnlt hc
  rw [List.take_of_length_le hk']
  repeat (first|(refine Walk ?_;intros)|refine JC.block ?_)
  (refine JX.ret1 Tryz.results336 (ResV.tmp rfl) (List.nil_sublist _) ?_)
  exact ⟨rfl,rfl⟩
end Go.Dr
namespace Go.Dr
open Go.Proofs
set_option maxRecDepth 20000
set_option maxHeartbeats 2000000
set_option linter.unusedSimpArgs false
set_option linter.unusedVariables false
structure PodAt (s:Snap) (p:List Int) (i m:Nat) (x:Pod) (n:Node):Prop where
 ok:checkP s p=0
 hm:p[i]?=some (m:Int)
 hx:s.pods[i]?=some x
 hn:s.nodes[m]?=some n
theorem of8_at {s:Snap} {p:List Int} {i m:Nat} {x:Pod} {n:Node} (h:PodAt s p i m x n) (kind:Int):of8 s p kind i =
   if kind=2 then (termsN x.wher n.labels,true)
   else if kind=3 then (taintsN n.taints x.bears,true)
   else if kind=4 then (if x.with_.topo=noS then (0,false) else (max 0 (1 - about8 s p i x.with_ false),true))
   else if kind=5 then (if x.apart.topo=noS then (0,false) else (about8 s p i x.apart true,true))
   else if x.owner=noS then (0,false) else if !single8 s x.owner then (0,false) else (double8 s p i,true):=by
 unfold of8
 rw [h.hm,h.hx]
 have e:((m:Int)).toNat=m:=by omega
 have e2:¬ (m:Int) < 0:=by omega
 simp only [e,h.hn,if_neg e2]
def KindAns (f:FuncId) (kind:Int):Prop:=
 ∀ {S:SHeap} {kp:Addr} {s:Snap} {p:List Int} {us:List (List Int)} {mb:Nat} {l:List (ByteArray × Value)} {i m:Nat} {x:Pod} {n:Node},PodAt s p i m x n →
  PtrTo S kp rLook ⟨s,p,us,.map (some mb)⟩→Cache s S l→FnC Tryz.prog f #[.pointer (some kp),.int .i64 i] S Value.string mb (Cache s) l (fun w _=>w=.tuple #[.int .i64 (of8 s p kind i).1,.bool (of8 s p kind i).2])
theorem p8_kinds11 {S:SHeap} {u:Value} {t:Term} {ls:List Label} {q:Addr} (hu:(rSlice 40 rTerm).V S u [t]) (hq:PtrTo S q (rSlice 32 rLabel) ls):FnV Tryz.prog 333 #[u,.pointer (some q)] S (.bool (holdsB [t] ls)):=by
 (refine Fn.enter (args:=[u,.pointer (some q)]) Tryz.func333 rfl Tryz.ntmps333 rfl ?_;intro w0)
 repeat (first|(refine Walk ?_;intros)|refine JC.block ?_|(refine JO.eff rfl rfl rfl (JEff.callV rfl (p3_Holds (by exact vta) (by exact vta)) rfl ?_);intro _ _))
 (refine JX.ret1 Tryz.results333 (ResV.tmp rfl) (List.nil_sublist _) ?_)
 exact ⟨rfl,rfl⟩
theorem p8_kinds21 {S:SHeap} {u:Value} {t:Label} {ls:List Label} {q:Addr} (hu:(rSlice 32 rLabel).V S u [t]) (hq:PtrTo S q (rSlice 32 rLabel) ls):FnV Tryz.prog 337 #[u,.pointer (some q)] S (.bool (bearsB ls [t])):=by
 (refine Fn.enter (args:=[u,.pointer (some q)]) Tryz.func337 rfl Tryz.ntmps337 rfl ?_;intro w0)
 repeat (first|(refine Walk ?_;intros)|refine JC.block ?_|(refine JO.eff rfl rfl rfl (JEff.callV rfl (p3_Bears (by exact vta) (by exact vta)) rfl ?_);intro _ _))
 (refine JX.ret1 Tryz.results337 (ResV.tmp rfl) (List.nil_sublist _) ?_)
 exact ⟨rfl,rfl⟩
theorem s331_L8d {P K:Prop} (k:K) (h:Goal K→P:=by
 intro zk
 (first|refine Walk ?_|refine JC.block ?_|refine JC.drawN 1 rfl [0,1,2,3,4,5,6,7,8,9,10,11,12,13,14,15,16] [] Tryz_mixed (by decide +kernel) ?_|(refine WNew ?_)|(refine WPut ?_))
 (repeat (first|revert zqg|revert zqf|revert zqe|revert zqd|revert zqc|revert zqb|revert zqa))
 exact zk.k):P:=h ⟨k⟩
theorem p8_kinds1:KindAns 331 2:=by
 intro S kp s p us mb l i m x n h hL hco
 rw [of8_at h]
 have hm:=h.hm
 have hx:=h.hx
 have hn:=h.hn
 refine FnR.toC ?_ (fun S' hl=>hco.mono hl)
 (refine Fn.enter (args:=[.pointer (some kp),.int .i64 i]) Tryz.func331 rfl Tryz.ntmps331 rfl ?_;intro w0)
 repeat (refine s331_L8d ?_;intros)
 (refine JO.eff rfl rfl rfl (JEff.callV rfl (p8_withoutT (fun t=>holdsB [t] n.labels) (by exact vta) inferInstance (fun S' v t hl hv=>p8_kinds11 hv (by exact pta))) rfl ?_);intro _ _)
 repeat (refine s331_L8d ?_;intros)
 (refine JX.ret2 Tryz.results331 (ResV.tmp rfl) (ResV.tmp rfl) (List.nil_sublist _) ?_)
 exact ⟨rfl,rfl⟩
theorem s335_L8d {P K:Prop} (k:K) (h:Goal K→P:=by
 intro zk
 (first|refine Walk ?_|refine JC.block ?_|refine JC.drawN 2 rfl [0,1,2,3,4,5,6,7,8,9,10,11,12,13,14,15,16,17,18] [0,1,2,3,4,5,6,7,8,9,10,11,12,13,14,15,17,18] Tryz_mixed (by decide +kernel) ?_|(refine WNew ?_)|(refine WPut ?_))
 (repeat (first|revert zqg|revert zqf|revert zqe|revert zqd|revert zqc|revert zqb|revert zqa))
 exact zk.k):P:=h ⟨k⟩
theorem p8_kinds2:KindAns 335 3:=by
 intro S kp s p us mb l i m x n h hL hco
 rw [of8_at h]
 have hm:=h.hm
 have hx:=h.hx
 have hn:=h.hn
 refine FnR.toC ?_ (fun S' hl=>hco.mono hl)
 (refine Fn.enter (args:=[.pointer (some kp),.int .i64 i]) Tryz.func335 rfl Tryz.ntmps335 rfl ?_;intro w0)
 repeat (refine s335_L8d ?_;intros)
 (refine JO.eff rfl rfl rfl (JEff.callV rfl (p8_withoutL (fun t=>bearsB x.bears [t]) (by exact vta) inferInstance (fun S' v t hl hv=>p8_kinds21 hv (by exact pta))) rfl ?_);intro _ _)
 repeat (refine s335_L8d ?_;intros)
 (refine JX.ret2 Tryz.results335 (ResV.tmp rfl) (ResV.tmp rfl) (List.nil_sublist _) ?_)
 exact ⟨rfl,rfl⟩
theorem p8_kinds3:KindAns 339 4:=by
 intro S kp s p us mb l i m x n h hL hco
 rw [of8_at h]
 have hm:=h.hm
 have hx:=h.hx
 obtain ⟨hs,hlen,hp24,hn8,ho8,hpr,hprn⟩:=placed_hyps h.ok
 have hab:=cntI_rng p.length (aboutF s p i x.with_ false)
 (refine Fn.enter (args:=[.pointer (some kp),.int .i64 i]) Tryz.func339 rfl Tryz.ntmps339 rfl ?_;intro w0)
 repeat (first|(refine Walk ?_;intros)|refine JC.block ?_|(refine WNew ?_;intros)|(refine WPut ?_;intros))
 refine JC.cond rfl (fun h1=>?_) (fun h1=>?_)
 ·have h1:x.with_.topo=noS:=by simpa [noS] using h1
  repeat (first|(refine Walk ?_;intros)|refine JC.block ?_|(refine WNew ?_;intros)|(refine WPut ?_;intros))
  refine JX.ret2 Tryz.results339 (ResV.tmp rfl) (ResV.tmp rfl) (List.Sublist.refl _) ?_
  exact ⟨by simp [h1],_,rfl,hco.mono (by exact lea)⟩
 ·have h1:¬ x.with_.topo=noS:=by simpa [noS] using h1
  repeat (first|(refine Walk ?_;intros)|refine JC.block ?_|(refine WNew ?_;intros)|(refine WPut ?_;intros))
  refine JO.eff rfl rfl rfl (JEff.callC (kv:=Value.string) rfl (List.Perm.refl _) (by intro l hl;cases hl) (p8_around true h.ok (by exact pta) (hco.mono (by exact lea)) (by exact vta) hm (by omega)) rfl ?_);intro w S2 l2 hl2 hw hco2;subst hw
  have e:about8 s p i x.with_ (!true)=about8 s p i x.with_ false:=rfl
  have hab2:0≤about8 s p i x.with_ (!true)∧about8 s p i x.with_ (!true)≤p.length:=hab
  repeat (first|(refine Walk ?_;intros)|refine JC.block ?_|(refine WNew ?_;intros)|(refine WPut ?_;intros))
  refine JX.ret2 Tryz.results339 (ResV.tmp rfl) (ResV.tmp rfl) (List.Sublist.refl _) ?_
  exact ⟨by simp [h1],_,rfl,hco2⟩
theorem p8_kinds4:KindAns 341 5:=by
 intro S kp s p us mb l i m x n h hL hco
 rw [of8_at h]
 have hm:=h.hm
 have hx:=h.hx
 obtain ⟨hs,hlen,hp24,hn8,ho8,hpr,hprn⟩:=placed_hyps h.ok
 (refine Fn.enter (args:=[.pointer (some kp),.int .i64 i]) Tryz.func341 rfl Tryz.ntmps341 rfl ?_;intro w0)
 repeat (first|(refine Walk ?_;intros)|refine JC.block ?_|(refine WNew ?_;intros)|(refine WPut ?_;intros))
 refine JC.cond rfl (fun h1=>?_) (fun h1=>?_)
 ·have h1:x.apart.topo=noS:=by simpa [noS] using h1
  repeat (first|(refine Walk ?_;intros)|refine JC.block ?_|(refine WNew ?_;intros)|(refine WPut ?_;intros))
  refine JX.ret2 Tryz.results341 (ResV.tmp rfl) (ResV.tmp rfl) (List.Sublist.refl _) ?_
  exact ⟨by simp [h1],_,rfl,hco.mono (by exact lea)⟩
 ·have h1:¬ x.apart.topo=noS:=by simpa [noS] using h1
  repeat (first|(refine Walk ?_;intros)|refine JC.block ?_|(refine WNew ?_;intros)|(refine WPut ?_;intros))
  refine JO.eff rfl rfl rfl (JEff.callC (kv:=Value.string) rfl (List.Perm.refl _) (by intro l hl;cases hl) (p8_around false h.ok (by exact pta) (hco.mono (by exact lea)) (by exact vta) hm (by omega)) rfl ?_);intro w S2 l2 hl2 hw hco2;subst hw
  repeat (first|(refine Walk ?_;intros)|refine JC.block ?_|(refine WNew ?_;intros)|(refine WPut ?_;intros))
  refine JX.ret2 Tryz.results341 (ResV.tmp rfl) (ResV.tmp rfl) (List.Sublist.refl _) ?_
  exact ⟨by simp [h1],_,rfl,hco2⟩
def dblF (s:Snap) (p:List Int) (i m:Nat) (x:Pod) (j:Nat):Bool:=
 match p[j]?,s.pods[j]? with
 | some n,some q=>!decide (j=i)&&decide (n=(m:Int))&&decide (q.owner=x.owner)
 | _,_=>false
theorem dbl_double {s:Snap} {p:List Int} {i m:Nat} {x:Pod} {n:Node} (h:PodAt s p i m x n):cntI p.length (thereB p (dblF s p i m x))=double8 s p i:=by
 unfold double8
 refine cntI_congr fun j hj=>?_
 obtain ⟨n,hn⟩:∃ n,p[j]?=some n:=⟨_,List.getElem?_eq_getElem hj⟩
 unfold thereB dblF doubleF
 rw [at0_some hn,hn,h.hm,h.hx]
 cases s.pods[j]?<;>simp
 intro _ h1 _
 omega
theorem p8_kinds51 {S:SHeap} {kp:Addr} {s:Snap} {p:List Int} {us:List (List Int)} {d:Value} {qi qk qn:Addr} {i m j:Nat} {x:Pod} {n:Node} {nj:Int} (h:PodAt s p i m x n)
  (hL:PtrTo S kp rLook ⟨s,p,us,d⟩) (h2:PtrTo S qi rI64 (i:Int)) (h3:PtrTo S qk rVal (.pointer (some kp))) (h4:PtrTo S qn rStr x.owner) (hj:p[j]?=some nj) :
  FnV Tryz.prog 345 #[.int .i64 j,.pointer (some qi),.pointer (some qk),.pointer (some qn)] S (.bool (dblF s p i m x j)):=by
 obtain ⟨hs,hlen,hp24,hn8,ho8,hpr,hprn⟩:=placed_hyps h.ok
 have hm:=h.hm
 have hj':=(List.getElem?_eq_some_iff.1 hj).1
 have hi':=(List.getElem?_eq_some_iff.1 hm).1
 obtain ⟨q,hq⟩:∃ q,s.pods[j]?=some q:=⟨_,List.getElem?_eq_getElem (by omega)⟩
 have haf:dblF s p i m x j=(!decide (j=i)&&decide (nj=(m:Int))&&decide (q.owner=x.owner)):=by simp [dblF,hj,hq]
 have hij:decide ((j:Int)=(i:Int))=decide (j=i):=by rw [Bool.eq_iff_iff];simp;omega
 have hjr:Rng (j:Int):=by unfold Rng;omega
 rw [haf]
 clear haf
 (refine Fn.enter (args:=[.int .i64 j,.pointer (some qi),.pointer (some qk),.pointer (some qn)]) Tryz.func345 rfl Tryz.ntmps345 rfl ?_;intro w0)
 repeat' (first|(refine Walk ?_;intros)|refine JC.block ?_|refine JC.drawN 1 rfl [0,1,2,3,4,5,6,7,8,9,10,11,12,13,14,15,16,17,18,19,20,21,22,23,24,25,26,27,28,29,30,31,32,33] [0,1,2,3,4,5,6,7,8,9,10,11,12,13,14,15,16,17,18,19,20,21,22,23,24,25,26,27,28,29,30,31,32,33] Tryz_mixed (by decide +kernel) ?_|(refine JO.guard rfl rfl rfl rfl ?_ ?_<;>intro _)|(refine JC.cond rfl ?_ ?_<;>intro _))
 all_goals ((refine JX.ret1 Tryz.results345 (ResV.tmp rfl) (List.nil_sublist _) ?_);refine ⟨rfl,?_⟩;simp_all)
theorem single_no {s:Snap} (h:shapedB s=true):single8 s noS=false:=by
 unfold single8
 cases hf:s.owners.find? (fun o=>decide (o.name=noS)) with
 | none=>rfl
 | some o=>
  exfalso
  have h1:=List.find?_some hf
  have h2:=List.mem_of_find?_eq_some hf
  have h1:o.name=noS:=by simpa using h1
  unfold shapedB at h
  simp only [Bool.and_eq_true] at h
  have h3:=h.1.2.2
  have h4:nameB o.name=true:=by
   have:∀ (l:List ByteArray) (a:Option ByteArray),riseN a l=true→∀ x∈l,nameB x=true:=by
    intro l
    induction l with
    | nil=>intro a _ x hx;cases hx
    | cons y l ih=>
     intro a hr x hx
     simp only [riseN,Bool.and_eq_true] at hr
     rcases List.mem_cons.1 hx with rfl|hx
     ·exact hr.1.1
     ·exact ih _ hr.2 x hx
   exact this _ _ h3 _ (List.mem_map.2 ⟨o,h2,rfl⟩)
  rw [h1] at h4
  exact absurd h4 (by decide)
theorem s342_L8d {P K:Prop} (k:K) (h:Goal K→P:=by
 intro zk
 (first|refine Walk ?_|refine JC.block ?_|refine JC.drawN 1 rfl [0,1,2,3,4,5,6,7,8,9,10] [] Tryz_mixed (by decide +kernel) ?_|(refine WBox ?_)|(refine WNew ?_)|(refine WPut ?_))
 (repeat (first|revert zqg|revert zqf|revert zqe|revert zqd|revert zqc|revert zqb|revert zqa))
 exact zk.k):P:=h ⟨k⟩
theorem p8_kinds5:KindAns 342 6:=by
 intro S kp s p us mb l i m x n h hL hco
 have hm:=h.hm
 have hx:=h.hx
 obtain ⟨hs,hlen,hp24,hn8,ho8,hpr,hprn⟩:=placed_hyps h.ok
 have hi':=(List.getElem?_eq_some_iff.1 hm).1
 have hir:Rng (i:Int):=by unfold Rng;omega
 have hno:=single_no (checkS_ok hs).1
 have hval:(if x.owner=noS then ((0:Int),false) else if !single8 s x.owner then (0,false) else (double8 s p i,true))=if single8 s x.owner then (double8 s p i,true) else (0,false):=by
  by_cases h1:x.owner=noS
  ·rw [if_pos h1,h1,hno];rfl
  ·rw [if_neg h1];cases single8 s x.owner<;>rfl
 have hv6:of8 s p 6 i=if single8 s x.owner then (double8 s p i,true) else (0,false):=by rw [of8_at h,if_neg (by decide),if_neg (by decide),if_neg (by decide),if_neg (by decide)];exact hval
 rw [hv6]
 (refine Fn.enter (args:=[.pointer (some kp),.int .i64 i]) Tryz.func342 rfl Tryz.ntmps342 rfl ?_;intro w0)
 repeat (refine s342_L8d ?_;intros)
 (refine JO.eff rfl rfl rfl (JEff.callV rfl (p8_single x.owner (by assumption) (by exact pta)) rfl ?_);intro _ _)
 repeat (refine s342_L8d ?_;intros)
 cases h1:single8 s x.owner with
 | false=>
  repeat (refine s342_L8d ?_;intros)
  refine JX.ret2 Tryz.results342 (ResV.tmp rfl) (ResV.tmp rfl) (List.Sublist.refl _) ?_
  exact ⟨by simp [h1],_,rfl,hco.mono (by exact lea)⟩
 | true=>
  repeat (refine s342_L8d ?_;intros)
  refine JO.eff rfl rfl rfl (JEff.callC (kv:=Value.string) rfl (List.Perm.refl _) (by intro l hl;cases hl) (p8_many (dblF s p i m x) inferInstance (by omega) (by exact pta) (hco.mono (by exact lea)) (fun S' l' j n hl hc hj hn=>FnR.toC (p8_kinds51 h (by exact pta) (by exact pta) (by exact pta) (by exact pta) hj) (fun _ hl=>hc.mono hl))) rfl ?_);intro w S2 l2 hl2 hw hco2;subst hw
  rw [dbl_double h]
  repeat (refine s342_L8d ?_;intros)
  refine JX.ret2 Tryz.results342 (ResV.tmp rfl) (ResV.tmp rfl) (List.Sublist.refl _) ?_
  exact ⟨by simp [h1],_,rfl,hco2⟩
end Go.Dr
namespace Go.Dr
def spCnt (s:Snap) (key:ByteArray) (xs:List Int) (v:ByteArray):Int:=((xs.filter (fun x=>inDom s key v x.toNat)).length:Int)
theorem sum_add2 (f g:Nat→Int):∀ N,((List.range N).map (fun n=>f n+g n)).sum=((List.range N).map f).sum+((List.range N).map g).sum
 | 0=>rfl
 | N+1=>by
  simp only [List.range_succ,List.map_append,List.sum_append,List.map_cons,List.map_nil,List.sum_cons,List.sum_nil,sum_add2 f g N];omega
theorem sum_one (c:Int) (i:Nat):∀ N,((List.range N).map (fun n=>if n=i then c else 0)).sum=if i < N then c else 0
 | 0=>rfl
 | N+1=>by
  simp only [List.range_succ,List.map_append,List.sum_append,List.map_cons,List.map_nil,List.sum_cons,List.sum_nil,sum_one c i N]
  by_cases h:i < N
  ·rw [if_pos h,if_neg (by omega),if_pos (by omega)];omega
  ·by_cases h2:N=i
   ·rw [if_neg h,if_pos h2,if_pos (by omega)];omega
   ·rw [if_neg h,if_neg h2,if_neg (by omega)];rfl
theorem spCnt_sum (s:Snap) (key v:ByteArray) (N:Nat):∀ (xs:List Int),(∀ x∈xs,0≤x∧x < N) →
  ((List.range N).map (fun n=>if inDom s key v n=true then ((xs.filter (fun x=>decide (x=(n:Int)))).length:Int) else 0)).sum=spCnt s key xs v
 | [],_=>by
  unfold spCnt
  simp [List.map_const',List.sum_replicate_int]
 | x::xs,h=>by
  have ih:=spCnt_sum s key v N xs (fun y hy=>h y (by simp [hy]))
  obtain ⟨h0,h1⟩:=h x (by simp)
  obtain ⟨i,rfl⟩:=Int.eq_ofNat_of_zero_le h0
  have e1:(fun n:Nat=>if inDom s key v n=true then ((((i:Int)::xs).filter (fun x=>decide (x=(n:Int)))).length:Int) else 0) =
    fun n=>(if inDom s key v n=true then ((xs.filter (fun x=>decide (x=(n:Int)))).length:Int) else 0)+(if n=i then (if inDom s key v i=true then 1 else 0) else 0):=by
   funext n
   by_cases hn:n=i
   ·subst hn
    rw [List.filter_cons_of_pos (by simp)]
    cases inDom s key v n<;>simp
   ·rw [List.filter_cons_of_neg (by simp;omega),if_neg hn];simp
  rw [e1,sum_add2,ih,sum_one,if_pos (by omega)]
  unfold spCnt
  cases hd:inDom s key v i with
  | true=>rw [List.filter_cons_of_pos (by simpa using hd)];simp
  | false=>rw [List.filter_cons_of_neg (by simpa using hd)];simp
theorem spread_cnt {s:Snap} {p:List Int} {o:Nat} (h:∀ x∈ownedL s p o,0≤x∧x < s.nodes.length):spreadL s p o=(domL s (topoOf s o)).map (spCnt s (topoOf s o) (ownedL s p o)):=by
 unfold spreadL
 apply List.map_congr_left
 intro v _
 rw [← spCnt_sum s (topoOf s o) v s.nodes.length _ h]
 unfold domCount
 congr 1
 apply List.map_congr_left
 intro n hn
 have hn:=List.mem_range.1 hn
 have:at0 (countsL s p o) n=(((ownedL s p o).filter (fun x=>decide (x=(n:Int)))).length:Int):=by
  simp [at0,countsL,hn]
 rw [this]
theorem spCnt_step {s:Snap} {key:ByteArray} {xs:List Int} {k:Nat} {y:Int} (h:xs[k]?=some y) (v:ByteArray):spCnt s key (xs.take (k+1)) v=spCnt s key (xs.take k) v+if inDom s key v y.toNat=true then 1 else 0:=by
 unfold spCnt
 rw [List.take_add_one,h]
 cases hd:inDom s key v y.toNat<;>simp [hd]
theorem map_set1 {D:List ByteArray} {j:Nat} {v:ByteArray} (f:ByteArray→Int) (hn:pwS D) (hj:D[j]?=some v):D.map (fun d=>f d+if d=v then 1 else 0)=(D.map f).set j (f v+1):=by
 obtain ⟨l1,e1⟩:=List.getElem?_eq_some_iff.1 hj
 apply List.ext_getElem?
 intro i
 rw [List.getElem?_set,List.getElem?_map,List.getElem?_map,List.length_map]
 by_cases hi:j=i
 ·subst hi
  rw [if_pos rfl,if_pos l1,hj];simp
 ·rw [if_neg hi]
  cases hd:D[i]? with
  | none=>rfl
  | some d=>
   obtain ⟨l2,e2⟩:=List.getElem?_eq_some_iff.1 hd
   have hne:¬ d=v:=by
    intro he
    have hp:=List.pairwise_iff_getElem.1 hn
    rcases Nat.lt_or_ge i j with hl|hl
    ·have:=hp i j l2 l1 hl
     rw [e1,e2,he,ltS_irr] at this;cases this
    ·have:=hp j i l1 l2 (by omega)
     rw [e1,e2,he,ltS_irr] at this;cases this
   simp [hne]
theorem dom_has (key:ByteArray):∀ (l:List Node) (b:List ByteArray) (v:ByteArray),(v∈b∨∃ x∈l,(valB x key).2=true∧(valB x key).1=v)→v∈l.foldl (domStep key) b
 | [],b,v,h=>by
  rcases h with h|⟨x,hx,_⟩
  ·exact h
  ·cases hx
 | n::l,b,v,h=>by
  simp only [List.foldl_cons]
  refine dom_has key l _ v ?_
  rcases h with h|⟨x,hx,h1,h2⟩
  ·left
   unfold domStep
   split
   ·rw [domIns_mem];exact .inr h
   ·exact h
  ·rcases List.mem_cons.1 hx with rfl|hx
   ·left
    unfold domStep
    rw [if_pos h1,domIns_mem];exact .inl h2.symm
   ·exact .inr ⟨x,hx,h1,h2⟩
end Go.Dr
