/- Part 6 of the rules and of the walks that the proofs of this seat rest on; no condition. -/
import Derived.Test.YtlckpojpnfidoaaGreatA04
import Derived.Shelf.Small.Bits
import Derived.Shelf.Sort.Plain
import Derived.Shelf.Slices.In.SortNone
set_option linter.unusedVariables false
set_option linter.unusedSimpArgs false
namespace Go.Dr
open Go.Proofs
set_option maxRecDepth 20000
set_option maxHeartbeats 2000000
set_option linter.unusedSimpArgs false
set_option linter.unusedVariables false
theorem many_small {s:Snap} (h:manyB s=false):s.nodes.length≤8∧s.pods.length≤24∧s.owners.length≤8:=by
 simp only [manyB,Bool.or_eq_false_iff,decide_eq_false_iff_not] at h;omega
theorem any_not {α:Type} (p:α→Bool):∀ l:List α,(l.any fun x=>!p x)=!l.all p
 | []=>rfl
 | x::l=>by rw [List.any_cons,List.all_cons,any_not p l];cases p x<;>simp
theorem node_cap {S:SHeap} {v:Value} {x:Node} (h:rNode.V S v x):(rArr 5).V S (.agg (ints x.cap)) x.cap:=by
 obtain ⟨cs,h,_⟩:=h
 obtain ⟨c1,c2,_,_,⟨d1,d2,_,h1,_⟩⟩:=h
 exact V_arr.2 ⟨rfl,h1.1,h1.2.2⟩
theorem pod_req {S:SHeap} {v:Value} {x:Pod} (h:rPod.V S v x):(rArr 5).V S (.agg (ints x.req)) x.req:=by
 obtain ⟨cs,h,_⟩:=h
 obtain ⟨c1,c2,_,_,⟨d1,d2,_,_,⟨e1,e2,_,h1,_⟩⟩⟩:=h
 exact V_arr.2 ⟨rfl,h1.1,h1.2.2⟩
theorem plusV_rng2 (l:List (List Int)):Rng (plusV l).2:=by
 unfold plusV
 split
 ·rename_i i _
  rcases (addQ_rng (l.map (fun v=>at0 v i))).2 with h|h|h<;>(show Rng (addQ _).2)<;>rw [h]<;>unfold Rng<;>omega
 ·show Rng 0
  unfold Rng;omega
theorem p5_Check1 {S:SHeap} {u:Value} {x:Node} (hu:rNode.V S u x):FnV Tryz.prog 131 #[u] S (.bool (!nodeB x)):=by
 (refine Fn.enter (args:=[u]) Tryz.func131 rfl Tryz.ntmps131 rfl ?_;intro w0)
 repeat (first|(refine Walk ?_;intros)|refine JC.block ?_|(refine JO.eff rfl rfl rfl (JEff.callV rfl (p5_node (by exact vta)) rfl ?_);intro _ _)|(refine WBox ?_;intros))
 (refine JX.ret1 Tryz.results131 (ResV.tmp rfl) (List.nil_sublist _) ?_)
 exact ⟨rfl,rfl⟩
theorem p5_Check2 {S:SHeap} {u:Value} {x:Owner} (hu:rOwner.V S u x):FnV Tryz.prog 134 #[u] S (.bool (!ownerB x)):=by
 (refine Fn.enter (args:=[u]) Tryz.func134 rfl Tryz.ntmps134 rfl ?_;intro w0)
 repeat (first|(refine Walk ?_;intros)|refine JC.block ?_|(refine JO.eff rfl rfl rfl (JEff.callV rfl (p5_owner (by exact vta)) rfl ?_);intro _ _)|(refine WBox ?_;intros))
 (refine JX.ret1 Tryz.results134 (ResV.tmp rfl) (List.nil_sublist _) ?_)
 exact ⟨rfl,rfl⟩
theorem p5_Check3 {S:SHeap} {u:Value} {x:Pod} {s:Snap} {q:Addr} (hu:rPod.V S u x) (hq:PtrTo S q rSnap s) (hn:s.nodes.length≤1000000) (ho:s.owners.length≤1000000):FnV Tryz.prog 137 #[u,.pointer (some q)] S (.bool (!podB s x)):=by
 (refine Fn.enter (args:=[u,.pointer (some q)]) Tryz.func137 rfl Tryz.ntmps137 rfl ?_;intro w0)
 repeat (first|(refine Walk ?_;intros)|refine JC.block ?_|(refine JO.eff rfl rfl rfl (JEff.callV rfl (p5_pod (by exact vta) (by exact vta) (by assumption) (by assumption)) rfl ?_);intro _ _)|(refine WBox ?_;intros))
 (refine JX.ret1 Tryz.results137 (ResV.tmp rfl) (List.nil_sublist _) ?_)
 exact ⟨rfl,rfl⟩
theorem p5_Check4 {S:SHeap} {u:Value} {x:Node} (hu:rNode.V S u x):FnV Tryz.prog 141 #[u] S (.agg (ints x.cap)):=by
 (refine Fn.enter (args:=[u]) Tryz.func141 rfl Tryz.ntmps141 rfl ?_;intro w0)
 repeat (first|(refine Walk ?_;intros)|refine JC.block ?_|(refine WBox ?_;intros))
 (refine JO.eff rfl rfl rfl (JEff.alloc rfl ?_);intro b2 hb2)
 repeat (first|(refine Walk ?_;intros)|refine JC.block ?_|(refine WBox ?_;intros))
 obtain ⟨rfl,h5,hr5⟩:=V_arr.1 ‹(rArr 5).V _ _ x.cap›
 refine JO.eff rfl rfl rfl (JEff.storeA (n:=5) (xs:=[0,0,0,0,0]) rfl rfl h5 hr5 (List.Perm.refl _) rfl (by intro l hl;cases hl) ?_)
 repeat (first|(refine Walk ?_;intros)|refine JC.block ?_|(refine WBox ?_;intros))
 refine JX.ret1 Tryz.results141 (ResV.cellA (n:=5) rfl (by (first|exact List.mem_cons_self|exact List.mem_cons_of_mem _ List.mem_cons_self|exact List.mem_cons_of_mem _ (List.mem_cons_of_mem _ List.mem_cons_self))) h5) (List.nil_sublist _) ?_
 exact ⟨rfl,rfl⟩
theorem p5_Check5 {S:SHeap} {u:Value} {x:Pod} (hu:rPod.V S u x):FnV Tryz.prog 143 #[u] S (.agg (ints x.req)):=by
 (refine Fn.enter (args:=[u]) Tryz.func143 rfl Tryz.ntmps143 rfl ?_;intro w0)
 repeat (first|(refine Walk ?_;intros)|refine JC.block ?_|(refine WBox ?_;intros))
 (refine JO.eff rfl rfl rfl (JEff.alloc rfl ?_);intro b2 hb2)
 repeat (first|(refine Walk ?_;intros)|refine JC.block ?_|(refine WBox ?_;intros))
 obtain ⟨rfl,h5,hr5⟩:=V_arr.1 ‹(rArr 5).V _ _ x.req›
 refine JO.eff rfl rfl rfl (JEff.storeA (n:=5) (xs:=[0,0,0,0,0]) rfl rfl h5 hr5 (List.Perm.refl _) rfl (by intro l hl;cases hl) ?_)
 repeat (first|(refine Walk ?_;intros)|refine JC.block ?_|(refine WBox ?_;intros))
 refine JX.ret1 Tryz.results143 (ResV.cellA (n:=5) rfl (by (first|exact List.mem_cons_self|exact List.mem_cons_of_mem _ List.mem_cons_self|exact List.mem_cons_of_mem _ (List.mem_cons_of_mem _ List.mem_cons_self))) h5) (List.nil_sublist _) ?_
 exact ⟨rfl,rfl⟩
theorem s61_L5y {P K:Prop} (k:K) (h:Goal K→P:=by
 intro zk
 (first|refine Walk ?_|refine JC.block ?_|(refine JO.eff rfl rfl rfl (JEff.callV rfl (p5_many (by exact vta)) rfl ?_);intro zqa zqb)|(refine JO.eff rfl rfl rfl (JEff.callV rfl (p5_rise (by exact vta) (by first|omega|(simp [nNames,pNames,oNames];omega))) rfl ?_);intro zqa zqb)|(refine JO.eff rfl rfl rfl (JEff.callL rfl (p5_nodes (by exact vta) (by omega)) rfl ?_);intro zqa zqb zqc zqd zqe zqf)|(refine JO.eff rfl rfl rfl (JEff.callL rfl (p5_pods (by exact vta) (by omega)) rfl ?_);intro zqa zqb zqc zqd zqe zqf)|(refine JO.eff rfl rfl rfl (JEff.callL rfl (p5_owners (by exact vta) (by omega)) rfl ?_);intro zqa zqb zqc zqd zqe zqf)|(refine JO.eff rfl rfl rfl (JEff.callV rfl (p2_Plus (by exact vta)) rfl ?_);intro zqa zqb)|(refine JO.eff rfl rfl rfl (JEff.callV rfl (p5_fine (by exact vta)) rfl ?_);intro zqa zqb)|(refine WBox ?_)|(refine WNew ?_)|(refine WPut ?_))
 (repeat (first|revert zqg|revert zqf|revert zqe|revert zqd|revert zqc|revert zqb|revert zqa))
 exact zk.k):P:=h ⟨k⟩
theorem p5_Check {S:SHeap} {u:Value} {s:Snap} (hu:rSnap.V S u s):FnV Tryz.prog 61 #[u] S (.int .i64 (checkS s)):=by
 (refine Fn.enter (args:=[u]) Tryz.func61 rfl Tryz.ntmps61 rfl ?_;intro w0)
 repeat (refine s61_L5y ?_;intros)
 cases m1:manyB s with
 | true=>
  refine JO.guard rfl rfl rfl rfl (fun _=>?_) (fun g=>Bool.noConfusion (g.symm.trans rfl))
  repeat (refine s61_L5y ?_;intros)
  (refine JX.ret1 Tryz.results61 (ResV.tmp rfl) (List.nil_sublist _) ?_)
  exact ⟨rfl,by rw [checkS,shapedB,m1];rfl⟩
 | false=>
  obtain ⟨hn,hpn,ho⟩:=many_small m1
  refine JO.guard rfl rfl rfl rfl (fun g=>Bool.noConfusion (g.symm.trans rfl)) (fun _=>?_)
  repeat (refine s61_L5y ?_;intros)
  cases r1:riseN none (nNames s) with
  | false=>
   refine JO.guard rfl rfl rfl rfl (fun _=>?_) (fun g=>Bool.noConfusion (g.symm.trans rfl))
   repeat (refine s61_L5y ?_;intros)
   (refine JX.ret1 Tryz.results61 (ResV.tmp rfl) (List.nil_sublist _) ?_)
   exact ⟨rfl,by rw [checkS,shapedB,m1,r1];rfl⟩
  | true=>
   refine JO.guard rfl rfl rfl rfl (fun g=>Bool.noConfusion (g.symm.trans rfl)) (fun _=>?_)
   repeat (refine s61_L5y ?_;intros)
   cases r2:riseN none (pNames s) with
   | false=>
    refine JO.guard rfl rfl rfl rfl (fun _=>?_) (fun g=>Bool.noConfusion (g.symm.trans rfl))
    repeat (refine s61_L5y ?_;intros)
    (refine JX.ret1 Tryz.results61 (ResV.tmp rfl) (List.nil_sublist _) ?_)
    exact ⟨rfl,by rw [checkS,shapedB,m1,r1,r2];rfl⟩
   | true=>
    refine JO.guard rfl rfl rfl rfl (fun g=>Bool.noConfusion (g.symm.trans rfl)) (fun _=>?_)
    repeat (refine s61_L5y ?_;intros)
    cases r3:riseN none (oNames s) with
    | false=>
     repeat (refine s61_L5y ?_;intros)
     (refine JX.ret1 Tryz.results61 (ResV.tmp rfl) (List.nil_sublist _) ?_)
     exact ⟨rfl,by rw [checkS,shapedB,m1,r1,r2,r3];rfl⟩
    | true=>
     repeat (refine s61_L5y ?_;intros)
     (refine JO.eff rfl rfl rfl (JEff.callV rfl ((p_ContainsFunc_Node (fun x=>!nodeB x) (by exact vta) inferInstance (fun S' h u x hx=>p5_Check1 hx))) rfl ?_);intro _ _)
     rw [any_not]
     repeat (refine s61_L5y ?_;intros)
     cases a1:s.nodes.all nodeB with
     | false=>
      refine JO.guard rfl rfl rfl rfl (fun _=>?_) (fun g=>Bool.noConfusion (g.symm.trans rfl))
      repeat (refine s61_L5y ?_;intros)
      (refine JX.ret1 Tryz.results61 (ResV.tmp rfl) (List.nil_sublist _) ?_)
      exact ⟨rfl,by rw [checkS,shapedB,m1,r1,r2,r3,a1];rfl⟩
     | true=>
      refine JO.guard rfl rfl rfl rfl (fun g=>Bool.noConfusion (g.symm.trans rfl)) (fun _=>?_)
      repeat (refine s61_L5y ?_;intros)
      (refine JO.eff rfl rfl rfl (JEff.callV rfl ((p_ContainsFunc_Owner (fun x=>!ownerB x) (by exact vta) inferInstance (fun S' h u x hx=>p5_Check2 hx))) rfl ?_);intro _ _)
      rw [any_not]
      repeat (refine s61_L5y ?_;intros)
      cases a2:s.owners.all ownerB with
      | false=>
       refine JO.guard rfl rfl rfl rfl (fun _=>?_) (fun g=>Bool.noConfusion (g.symm.trans rfl))
       repeat (refine s61_L5y ?_;intros)
       (refine JX.ret1 Tryz.results61 (ResV.tmp rfl) (List.nil_sublist _) ?_)
       exact ⟨rfl,by rw [checkS,shapedB,m1,r1,r2,r3,a1,a2,Bool.and_false];rfl⟩
      | true=>
       refine JO.guard rfl rfl rfl rfl (fun g=>Bool.noConfusion (g.symm.trans rfl)) (fun _=>?_)
       repeat (refine s61_L5y ?_;intros)
       (refine JO.eff rfl rfl rfl (JEff.callV rfl ((p_ContainsFunc_Pod (fs:=#[]) (cs:=#[.pointer (some _)]) (fun x=>!podB s x) (by exact vta) inferInstance (fun S' h u x hx=>p5_Check3 hx (PtrTo.mono (by assumption) (by exact lea)) (by omega) (by omega)))) rfl ?_);intro _ _)
       rw [any_not]
       repeat (refine s61_L5y ?_;intros)
       cases a3:s.pods.all (podB s) with
       | false=>
        repeat (refine s61_L5y ?_;intros)
        (refine JX.ret1 Tryz.results61 (ResV.tmp rfl) (List.nil_sublist _) ?_)
        exact ⟨rfl,by rw [checkS,shapedB,m1,r1,r2,r3,a1,a2,a3];rfl⟩
       | true=>
        have hsh:shapedB s=true:=by rw [shapedB,m1,r1,r2,r3,a1,a2,a3];rfl
        repeat (refine s61_L5y ?_;intros)
        (refine JO.eff rfl rfl rfl (JEff.callR rfl (p5_each_NV (l:=s.nodes) Node.cap (by omega) (by exact vta) inferInstance (fun S v x h=>node_cap h) (fun S' h u x hx=>p5_Check4 hx)) rfl ?_);intro w4 S4 hl4 hV4)
        repeat (refine s61_L5y ?_;intros)
        refine JO.eff rfl rfl rfl (JEff.storeW (rep:=rArr 5) rfl rfl (V_arr.2 ⟨rfl,plusV_fine _⟩) (fun h=>by cases h) (List.Perm.refl _) rfl (by intro l hl;cases hl) ?_)
        repeat (refine s61_L5y ?_;intros)
        (refine JO.eff rfl rfl rfl (JEff.callR rfl (p5_each_PV (l:=s.pods) Pod.req (by omega) (by exact vta) inferInstance (fun S v x h=>pod_req h) (fun S' h u x hx=>p5_Check5 hx)) rfl ?_);intro w5 S5 hl5 hV5)
        repeat (refine s61_L5y ?_;intros)
        refine JO.eff rfl rfl rfl (JEff.storeW (rep:=rArr 5) rfl rfl (V_arr.2 ⟨rfl,plusV_fine _⟩) (fun h=>by cases h) (List.Perm.refl _) rfl (by intro l hl;cases hl) ?_)
        repeat (refine s61_L5y ?_;intros)
        (refine JO.eff rfl rfl rfl (JEff.buildS (bt:=8) (rep:=rI64) (ys:=[(plusV (caps s)).2,(plusV (reqs s)).2]) rfl rfl (⟨⟨V_i64.2 ⟨rfl,plusV_rng2 _⟩,nna⟩,⟨V_i64.2 ⟨rfl,plusV_rng2 _⟩,nna⟩,trivial⟩) rfl rfl rfl (by decide) rfl ?_);intro S6 sa l6 hs)
        repeat (refine s61_L5y ?_;intros)
        cases f1:[(plusV (caps s)).2,(plusV (reqs s)).2].all z0 with
        | false=>
         repeat (refine s61_L5y ?_;intros)
         (refine JX.ret1 Tryz.results61 (ResV.tmp rfl) (List.nil_sublist _) ?_)
         refine ⟨rfl,?_⟩
         rw [checkS,hsh,if_pos rfl,if_neg]
         simpa using f1
        | true=>
         repeat (refine s61_L5y ?_;intros)
         (refine JX.ret1 Tryz.results61 (ResV.tmp rfl) (List.nil_sublist _) ?_)
         refine ⟨rfl,?_⟩
         rw [checkS,hsh,if_pos rfl,if_pos]
         simpa using f1
end Go.Dr
namespace Go.Dr
open Go.Proofs
set_option maxRecDepth 20000
set_option maxHeartbeats 2000000
set_option linter.unusedSimpArgs false
set_option linter.unusedVariables false
theorem p7_Check1 {S:SHeap} {s:Snap} {q:Addr} (x:Int) (hx:Rng x) (hq:PtrTo S q rSnap s):FnV Tryz.prog 62 #[.int .i64 x,.pointer (some q)] S (.bool (oddP s x)):=by
 (refine Fn.enter (args:=[.int .i64 x,.pointer (some q)]) Tryz.func62 rfl Tryz.ntmps62 rfl ?_;intro w0)
 repeat (first|(refine Walk ?_;intros)|refine JC.block ?_)
 cases e1:decide (x < -1) with
 | true=>
  refine JO.guard rfl rfl rfl rfl (fun _=>?_) (fun g=>Bool.noConfusion (g.symm.trans rfl))
  repeat (first|(refine Walk ?_;intros)|refine JC.block ?_)
  (refine JX.ret1 Tryz.results62 (ResV.tmp rfl) (List.nil_sublist _) ?_)
  exact ⟨rfl,by simp [oddP,e1]⟩
 | false=>
  refine JO.guard rfl rfl rfl rfl (fun g=>Bool.noConfusion (g.symm.trans rfl)) (fun _=>?_)
  repeat (first|(refine Walk ?_;intros)|refine JC.block ?_)
  cases e2:decide ((s.nodes.length:Int)≤x) with
  | true=>
   refine JO.guard rfl rfl rfl rfl (fun _=>?_) (fun g=>Bool.noConfusion (g.symm.trans rfl))
   repeat (first|(refine Walk ?_;intros)|refine JC.block ?_)
   (refine JX.ret1 Tryz.results62 (ResV.tmp rfl) (List.nil_sublist _) ?_)
   exact ⟨rfl,by simp [oddP,e1,e2]⟩
  | false=>
   refine JO.guard rfl rfl rfl rfl (fun g=>Bool.noConfusion (g.symm.trans rfl)) (fun _=>?_)
   repeat (first|(refine Walk ?_;intros)|refine JC.block ?_)
   cases e3:decide (0≤x) with
   | true=>
    have h0:0≤x:=of_decide_eq_true e3
    have hlt:x < s.nodes.length:=by have:=of_decide_eq_false e2;omega
    obtain ⟨nd,hnd,_⟩:=drop_at (l:=s.nodes) (show x.toNat < s.nodes.length by omega)
    have hlo:lostAt s x=nd.lost:=by simp [lostAt,hnd]
    refine JO.guard rfl rfl rfl rfl (fun _=>?_) (fun g=>Bool.noConfusion (g.symm.trans rfl))
    repeat (first|(refine Walk ?_;intros)|refine JC.block ?_)
    (refine JX.ret1 Tryz.results62 (ResV.tmp rfl) (List.nil_sublist _) ?_)
    exact ⟨rfl,by simp [oddP,e1,e2,e3,hlo]⟩
   | false=>
    refine JO.guard rfl rfl rfl rfl (fun g=>Bool.noConfusion (g.symm.trans rfl)) (fun _=>?_)
    repeat (first|(refine Walk ?_;intros)|refine JC.block ?_)
    (refine JX.ret1 Tryz.results62 (ResV.tmp rfl) (List.nil_sublist _) ?_)
    exact ⟨rfl,by simp [oddP,e1,e2,e3]⟩
theorem s17_L7p {P K:Prop} (k:K) (h:Goal K→P:=by
 intro zk
 (first|refine Walk ?_|refine JC.block ?_|(refine JO.eff rfl rfl rfl (JEff.callV rfl (p5_Check (by exact vta)) rfl ?_);intro zqa zqb)|(refine WBox ?_))
 (repeat (first|revert zqg|revert zqf|revert zqe|revert zqd|revert zqc|revert zqb|revert zqa))
 exact zk.k):P:=h ⟨k⟩
theorem p7_Check {S:SHeap} {u v:Value} {s:Snap} {p:List Int} (hu:rSnap.V S u s) (hv:(rSlice 8 rI64).V S v p):FnV Tryz.prog 17 #[u,v] S (.int .i64 (checkP s p)):=by
 obtain ⟨a,c,rfl,_,_,hb,_⟩:=V_slice.1 hv
 unfold big at hb
 (refine Fn.enter (args:=[u,.slice a p.length c]) Tryz.func17 rfl Tryz.ntmps17 rfl ?_;intro w0)
 repeat (refine s17_L7p ?_;intros)
 refine JC.cond rfl (fun h1=>?_) (fun h1=>?_)
 ·have h1:z0 (checkS s)=false:=by simpa [z0] using h1
  repeat (refine s17_L7p ?_;intros)
  (refine JX.ret1 Tryz.results17 (ResV.tmp rfl) (List.nil_sublist _) ?_)
  exact ⟨rfl,by rw [checkP,h1];rfl⟩
 have h1:z0 (checkS s)=true:=by simpa [z0] using h1
 repeat (refine s17_L7p ?_;intros)
 refine JO.guard rfl rfl rfl rfl (fun h2=>?_) (fun h2=>?_)
 ·have h2:decide (p.length=s.pods.length)=false:=by simp at h2;simp;omega
  repeat (refine s17_L7p ?_;intros)
  (refine JX.ret1 Tryz.results17 (ResV.tmp rfl) (List.nil_sublist _) ?_)
  exact ⟨rfl,by rw [checkP,h1,h2];rfl⟩
 have h2:decide (p.length=s.pods.length)=true:=by simp at h2;simp;omega
 have hodd:checkP s p=if p.any (oddP s) then 2 else 0:=by rw [checkP,h1,h2];rfl
 rw [hodd]
 repeat (refine s17_L7p ?_;intros)
 (refine JO.eff rfl rfl rfl (JEff.callV rfl ((p_ContainsFunc_int (fs:=#[]) (cs:=#[.pointer (some _)]) (oddP s) (by exact vta) inferInstance (fun S' h u x hx=>by obtain ⟨rfl,hr⟩:=V_i64.1 hx;exact p7_Check1 x hr (PtrTo.mono (by assumption) (by exact lea))))) rfl ?_);intro _ _)
 repeat (refine s17_L7p ?_;intros)
 cases h3:p.any (oddP s) with
 | true=>
  repeat (refine s17_L7p ?_;intros)
  (refine JX.ret1 Tryz.results17 (ResV.tmp rfl) (List.nil_sublist _) ?_)
  exact ⟨rfl,rfl⟩
 | false=>
  repeat (refine s17_L7p ?_;intros)
  (refine JX.ret1 Tryz.results17 (ResV.tmp rfl) (List.nil_sublist _) ?_)
  exact ⟨rfl,rfl⟩
theorem p7_there {S:SHeap} (i n:Int):FnV Tryz.prog 177 #[.int .i64 i,.int .i64 n] S (.bool (decide (0≤i)&&decide (i < n))):=by
 (refine Fn.enter (args:=[.int .i64 i,.int .i64 n]) Tryz.func177 rfl Tryz.ntmps177 rfl ?_;intro w0)
 repeat' (first|(refine Walk ?_;intros)|refine JC.block ?_|(refine JO.guard rfl rfl rfl rfl ?_ ?_<;>intro _)|(refine JC.cond rfl ?_ ?_<;>intro _))
 all_goals ((refine JX.ret1 Tryz.results177 (ResV.tmp rfl) (List.nil_sublist _) ?_);exact ⟨rfl,by (first|((simp only [z0, *,Bool.and_true,Bool.true_and,Bool.false_and,Bool.and_false,Bool.or_true,Bool.true_or,Bool.false_or,Bool.or_false,Bool.not_true,Bool.not_false])<;>rfl)|(simp only [z0, *,Bool.and_true,Bool.true_and,Bool.false_and,Bool.and_false,Bool.or_true,Bool.true_or,Bool.false_or,Bool.or_false,Bool.not_true,Bool.not_false];done)|(simp [z0, *];done)|(simp_all [z0];done)|(simp_all [z0];intros;omega)|(simp_all [z0];omega))⟩)
theorem p7_asked {S:SHeap} {u v:Value} {s:Snap} {p:List Int} (o:Int) (hu:rSnap.V S u s) (hv:(rSlice 8 rI64).V S v p):FnV Tryz.prog 319 #[u,v,.int .i64 o] S (.bool (z0 (checkP s p)&&(decide (0≤o)&&decide (o < s.owners.length)))):=by
 obtain ⟨a,c,rfl,_,_,hb,_⟩:=V_slice.1 hv
 unfold big at hb
 (refine Fn.enter (args:=[u,.slice a p.length c,.int .i64 o]) Tryz.func319 rfl Tryz.ntmps319 rfl ?_;intro w0)
 repeat' (first|(refine Walk ?_;intros)|refine JC.block ?_|(refine JO.eff rfl rfl rfl (JEff.callV rfl (p7_Check (by exact vta) (by exact vta)) rfl ?_);intro _ _)|(refine JO.eff rfl rfl rfl (JEff.callV rfl (p7_there _ _) rfl ?_);intro _ _)|(refine WBox ?_;intros)|(refine JO.guard rfl rfl rfl rfl ?_ ?_<;>intro _)|(refine JC.cond rfl ?_ ?_<;>intro _))
 all_goals ((refine JX.ret1 Tryz.results319 (ResV.tmp rfl) (List.nil_sublist _) ?_);exact ⟨rfl,by (first|((simp only [z0, *,Bool.and_true,Bool.true_and,Bool.false_and,Bool.and_false,Bool.or_true,Bool.true_or,Bool.false_or,Bool.or_false,Bool.not_true,Bool.not_false])<;>rfl)|(simp only [z0, *,Bool.and_true,Bool.true_and,Bool.false_and,Bool.and_false,Bool.or_true,Bool.true_or,Bool.false_or,Bool.or_false,Bool.not_true,Bool.not_false];done)|(simp [z0, *];done)|(simp_all [z0];done)|(simp_all [z0];intros;omega)|(simp_all [z0];omega))⟩)
theorem p7_value1 {S:SHeap} {u:Value} {x:Label} {q:Addr} {key:ByteArray} (hu:rLabel.V S u x) (hq:PtrTo S q rStr key):FnV Tryz.prog 354 #[u,.pointer (some q)] S (.bool (keyIs key x)):=by
 (refine Fn.enter (args:=[u,.pointer (some q)]) Tryz.func354 rfl Tryz.ntmps354 rfl ?_;intro w0)
 repeat (first|(refine Walk ?_;intros)|refine JC.block ?_|(refine WBox ?_;intros))
 (refine JX.ret1 Tryz.results354 (ResV.tmp rfl) (List.nil_sublist _) ?_)
 exact ⟨rfl,rfl⟩
theorem p7_value {S:SHeap} {u:Value} {n:Node} (key:ByteArray) (hk:key.size≤big) (hu:rNode.V S u n):FnV Tryz.prog 318 #[u,.string key] S (.tuple #[.string (valB n key).1,.bool (valB n key).2]):=by
 (refine Fn.enter (args:=[u,.string key]) Tryz.func318 rfl Tryz.ntmps318 rfl ?_;intro w0)
 repeat (first|(refine Walk ?_;intros)|refine JC.block ?_|(refine WBox ?_;intros))
 (refine JO.eff rfl rfl rfl (JEff.callV rfl ((p_IndexFunc_Label (fs:=#[]) (cs:=#[.pointer (some _)]) (keyIs key) (by exact vta) inferInstance (fun S' h u x hx=>p7_value1 hx (PtrTo.mono (by assumption) (by exact lea))))) rfl ?_);intro _ _)
 repeat (first|(refine Walk ?_;intros)|refine JC.block ?_|(refine WBox ?_;intros))
 obtain ⟨g1,g2⟩:=getL_idx n.labels key
 generalize idxF (keyIs key) n.labels=I at *
 cases lo:n.lost with
 | true=>
  refine JO.guard rfl rfl rfl rfl (fun _=>?_) (fun g=>Bool.noConfusion (g.symm.trans rfl))
  repeat (first|(refine Walk ?_;intros)|refine JC.block ?_|(refine WBox ?_;intros))
  (refine JX.ret2 Tryz.results318 (ResV.tmp rfl) (ResV.tmp rfl) (List.nil_sublist _) ?_)
  exact ⟨rfl,by rw [valB,lo];rfl⟩
 | false=>
  refine JO.guard rfl rfl rfl rfl (fun g=>Bool.noConfusion (g.symm.trans rfl)) (fun _=>?_)
  repeat (first|(refine Walk ?_;intros)|refine JC.block ?_|(refine WBox ?_;intros))
  refine JC.cond rfl (fun h1=>?_) (fun h1=>?_)
  ·have h1:I < 0:=of_decide_eq_true h1
   repeat (first|(refine Walk ?_;intros)|refine JC.block ?_|(refine WBox ?_;intros))
   (refine JX.ret2 Tryz.results318 (ResV.tmp rfl) (ResV.tmp rfl) (List.nil_sublist _) ?_)
   exact ⟨rfl,by rw [valB,lo,g1 h1];rfl⟩
  ·have h1:¬ I < 0:=of_decide_eq_false h1
   obtain ⟨x,hx,hg,h0,hlt⟩:=g2 h1
   repeat (first|(refine Walk ?_;intros)|refine JC.block ?_|(refine WBox ?_;intros))
   (refine JX.ret2 Tryz.results318 (ResV.tmp rfl) (ResV.tmp rfl) (List.nil_sublist _) ?_)
   exact ⟨rfl,by rw [valB,lo,hg];rfl⟩
end Go.Dr
namespace Go.Dr
open Go.Proofs
set_option maxRecDepth 20000
set_option maxHeartbeats 2000000
set_option linter.unusedSimpArgs false
set_option linter.unusedVariables false
theorem filt_step {β γ:Type} {l:List β} {f:β→Bool} {g:β→γ} {i:Nat} {y:β} (h:l[i]?=some y) :
  (f y=true→((l.filter f).map g)[((l.take i).filter f).length]?=some (g y)∧((l.take (i+1)).filter f).length=((l.take i).filter f).length+1) ∧
  (f y=false→((l.take (i+1)).filter f).length=((l.take i).filter f).length):=by
 have ht:l.take (i+1)=l.take i++[y]:=by rw [List.take_add_one,h];rfl
 have hd:l=l.take i++y::l.drop (i+1):=by
  obtain ⟨hi,rfl⟩:=List.getElem?_eq_some_iff.1 h
  rw [← List.drop_eq_getElem_cons hi,List.take_append_drop]
 refine ⟨fun hy=>⟨?_,?_⟩,fun hy=>?_⟩
 ·conv=>lhs;arg 1;rw [hd]
  rw [List.filter_append,List.filter_cons_of_pos hy,List.map_append,List.getElem?_append_right (by simp)]
  simp
 ·rw [ht,List.filter_append,List.length_append,List.filter_cons_of_pos hy];rfl
 ·rw [ht,List.filter_append,List.length_append,List.filter_cons_of_neg (by simp [hy])];rfl
theorem p7_on1 {S:SHeap} {s:Snap} {p:List Int} {node:Int} {qp qn qs:Addr} (hlen:p.length=s.pods.length) (hp:PtrTo S qp (rSlice 8 rI64) p) (hn:PtrTo S qn rI64 node) (hs:PtrTo S qs rSnap s) (hb:p.length≤1000000) :
  Iter Tryz.prog 257 #[.pointer (some qp),.pointer (some qn),.pointer (some qs)] rPod S (onN s p node):=by
 intro L J S1 M1 hl h0 hy
 have hp1:=hp.mono hl
 have hn1:=hn.mono hl
 have hs1:=hs.mono hl
 clear hp hn hs
 rw [show (#[.func (.yield L) #[] #[]]++#[.pointer (some qp),.pointer (some qn),.pointer (some qs)]:Array Value)=#[.func (.yield L) #[] #[],.pointer (some qp),.pointer (some qn),.pointer (some qs)] from rfl]
 (refine Fn.enter (args:=[.func (.yield L) #[] #[],.pointer (some qp),.pointer (some qn),.pointer (some qs)]) Tryz.func257 rfl Tryz.ntmps257 rfl ?_;intro w0)
 repeat (first|(refine Walk ?_;intros)|refine JC.block ?_)
 refine JC.loopF (σ:=Nat × List MEnt) [(0,_),(2,_),(3,_),(7,_),(8,_)] (fun q=>[(9,.int .i64 q.1)]) (fun q=>q.2) (fun Si q=>q.1≤p.length∧J (((p.zip s.pods).take q.1).filter (fun x=>decide (x.1=node))).length Si q.2) (fun q=>p.length - q.1) ((0,M1)) (by exact sba) (by exact sba) rfl (⟨Nat.zero_le _,h0⟩) ?_;rintro Si ⟨i,Mi⟩ hli hii;(try dsimp only at hii);dsimp only [List.cons_append,List.nil_append]
 obtain ⟨hi1,hi2⟩:=hii
 repeat (first|(refine Walk ?_;intros)|refine JC.block ?_)
 refine JC.cond rfl (fun hc=>?_) (fun hc=>?_)
 ·have hk':=dlt hc
  obtain ⟨x,hx,hd⟩:=drop_at hk'
  obtain ⟨y,hy',hd2⟩:=drop_at (l:=s.pods) (show i < s.pods.length by omega)
  have hz:(p.zip s.pods)[i]?=some (x,y):=by rw [List.getElem?_zip_eq_some];exact ⟨hx,hy'⟩
  obtain ⟨f1,f2⟩:=filt_step (f:=fun x=>decide (x.1=node)) (g:=fun x=>x.2) hz
  dsimp only at f1 f2
  repeat (first|(refine Walk ?_;intros)|refine JC.block ?_)
  cases hm:decide (x=node) with
  | true=>
   obtain ⟨f3,f4⟩:=f1 hm
   refine JO.guard rfl rfl rfl rfl (fun _=>?_) (fun g=>Bool.noConfusion (g.symm.trans rfl))
   repeat (first|(refine Walk ?_;intros)|refine JC.block ?_)
   refine JO.eff rfl rfl rfl (JEff.yield (Mc:=Mi) (Mr:=[]) rfl rfl rfl (by rw [List.append_nil]) (by intro l hl;cases hl) (hy _ y _ _ _ (by exact lea) f3 (by exact vta) hi2) rfl ?_);intro S' M' hl' hJ'
   rw [List.append_nil]
   repeat (first|(refine Walk ?_;intros)|refine JC.block ?_)
   exact JX.roundF (i+1,M') (by exact lea) (⟨hk',by rw [f4];exact hJ'⟩) (by (try dsimp only);omega) rfl (by exact sba) (by exact sba)
  | false=>
   have f4:=f2 hm
   refine JO.guard rfl rfl rfl rfl (fun g=>Bool.noConfusion (g.symm.trans rfl)) (fun _=>?_)
   repeat (first|(refine Walk ?_;intros)|refine JC.block ?_)
   exact JX.roundF (i+1,Mi) (by exact lea) (⟨hk',by rw [f4];exact hi2⟩) (by (try dsimp only);omega) rfl (by exact sba) (by exact sba)
 ·have hk':=dnlt hc
  repeat (first|(refine Walk ?_;intros)|refine JC.block ?_)
  refine JX.end0 Tryz.results257 (List.Sublist.refl _) ?_
  rw [List.take_of_length_le (by simp;omega)] at hi2
  simpa [onN] using hi2
theorem s355_L7q {P K:Prop} (k:K) (h:Goal K→P:=by
 intro zk
 (first|refine Walk ?_|refine JC.block ?_|refine JC.drawN 3 rfl [0,1,2,3,4,5,6,7,8,9,10,11,12,13,14,15,16,17,18,19,20,21,22] [0,1,2,3,4,5,6,7,8,9,10,11,12,13,14,15,16,17,18,19,21,22] Tryz_mixed (by decide +kernel) ?_)
 (repeat (first|revert zqg|revert zqf|revert zqe|revert zqd|revert zqc|revert zqb|revert zqa))
 exact zk.k):P:=h ⟨k⟩
theorem p7_owned1 {S:SHeap} {s:Snap} {p:List Int} {o:Nat} {qp qs qo:Addr} (hlen:p.length=s.pods.length) (ho:o < s.owners.length) (hp:PtrTo S qp (rSlice 8 rI64) p) (hs:PtrTo S qs rSnap s) (hn:PtrTo S qo rI64 (o:Int)) (hb:p.length≤1000000) (hrg:∀ x∈p,Rng x) :
  Iter Tryz.prog 355 #[.pointer (some qp),.pointer (some qs),.pointer (some qo)] rI64 S (ownedL s p o):=by
 intro L J S1 M1 hl h0 hy
 have hp1:=hp.mono hl
 have hn1:=hn.mono hl
 have hs1:=hs.mono hl
 clear hp hn hs
 obtain ⟨ow,how,_⟩:=drop_at ho
 have hon:ownName s o=ow.name:=by rw [ownName,how]
 rw [show (#[.func (.yield L) #[] #[]]++#[.pointer (some qp),.pointer (some qs),.pointer (some qo)]:Array Value)=#[.func (.yield L) #[] #[],.pointer (some qp),.pointer (some qs),.pointer (some qo)] from rfl]
 (refine Fn.enter (args:=[.func (.yield L) #[] #[],.pointer (some qp),.pointer (some qs),.pointer (some qo)]) Tryz.func355 rfl Tryz.ntmps355 rfl ?_;intro w0)
 repeat (refine s355_L7q ?_;intros)
 refine JC.loopF (σ:=Nat × List MEnt) [(0,_),(2,_),(3,_),(7,_),(8,_)] (fun q=>[(9,.int .i64 q.1)]) (fun q=>q.2) (fun Si q=>q.1≤p.length∧J (((p.zip s.pods).take q.1).filter (fun x=>decide (0≤x.1)&&decide (x.2.owner=ownName s o))).length Si q.2) (fun q=>p.length - q.1) ((0,M1)) (by exact sba) (by exact sba) rfl (⟨Nat.zero_le _,h0⟩) ?_;rintro Si ⟨i,Mi⟩ hli hii;(try dsimp only at hii);dsimp only [List.cons_append,List.nil_append]
 obtain ⟨hi1,hi2⟩:=hii
 repeat (refine s355_L7q ?_;intros)
 refine JC.cond rfl (fun hc=>?_) (fun hc=>?_)
 ·have hk':=dlt hc
  obtain ⟨x,hx,hd⟩:=drop_at hk'
  obtain ⟨y,hy',hd2⟩:=drop_at (l:=s.pods) (show i < s.pods.length by omega)
  have hz:(p.zip s.pods)[i]?=some (x,y):=by rw [List.getElem?_zip_eq_some];exact ⟨hx,hy'⟩
  obtain ⟨f1,f2⟩:=filt_step (f:=fun x:Int × Pod=>decide (0≤x.1)&&decide (x.2.owner=ownName s o)) (g:=fun x:Int × Pod=>x.1) hz
  dsimp only at f1 f2
  repeat (refine s355_L7q ?_;intros)
  cases g0:decide (0≤x) with
  | true=>
   refine JO.guard rfl rfl rfl rfl (fun _=>?_) (fun g=>Bool.noConfusion (g.symm.trans rfl))
   repeat (refine s355_L7q ?_;intros)
   cases g1:decide (y.owner=ow.name) with
   | true=>
    obtain ⟨f3,f4⟩:=f1 (by rw [hon,g0,g1];rfl)
    refine JO.guard rfl rfl rfl rfl (fun _=>?_) (fun g=>Bool.noConfusion (g.symm.trans rfl))
    repeat (refine s355_L7q ?_;intros)
    refine JO.eff rfl rfl rfl (JEff.yield (Mc:=Mi) (Mr:=[]) rfl rfl rfl (by rw [List.append_nil]) (by intro l hl;cases hl) (hy _ x _ _ _ (by exact lea) f3 (V_i64.2 ⟨rfl,hrg x (List.mem_of_getElem? hx)⟩) hi2) rfl ?_);intro S' M' hl' hJ'
    rw [List.append_nil]
    repeat (refine s355_L7q ?_;intros)
    exact JX.roundF (i+1,M') (by exact lea) (⟨hk',by rw [f4];exact hJ'⟩) (by (try dsimp only);omega) rfl (by exact sba) (by exact sba)
   | false=>
    have f4:=f2 (by rw [hon,g0,g1];rfl)
    refine JO.guard rfl rfl rfl rfl (fun g=>Bool.noConfusion (g.symm.trans rfl)) (fun _=>?_)
    repeat (refine s355_L7q ?_;intros)
    exact JX.roundF (i+1,Mi) (by exact lea) (⟨hk',by rw [f4];exact hi2⟩) (by (try dsimp only);omega) rfl (by exact sba) (by exact sba)
  | false=>
   have f4:=f2 (by rw [g0];rfl)
   refine JO.guard rfl rfl rfl rfl (fun g=>Bool.noConfusion (g.symm.trans rfl)) (fun _=>?_)
   repeat (refine s355_L7q ?_;intros)
   exact JX.roundF (i+1,Mi) (by exact lea) (⟨hk',by rw [f4];exact hi2⟩) (by (try dsimp only);omega) rfl (by exact sba) (by exact sba)
 ·have hk':=dnlt hc
  repeat (refine s355_L7q ?_;intros)
  refine JX.end0 Tryz.results355 (List.Sublist.refl _) ?_
  rw [List.take_of_length_le (by simp;omega)] at hi2
  simpa [ownedL] using hi2
end Go.Dr
namespace Go.Dr
open Go.Proofs
set_option maxRecDepth 20000
set_option linter.unusedSimpArgs false
set_option linter.unusedVariables false
end Go.Dr
namespace Go.Dr
open Go.Proofs
set_option maxRecDepth 20000
set_option linter.unusedSimpArgs false
set_option linter.unusedVariables false
end Go.Dr
namespace Go.Dr
open Go.Proofs
set_option maxRecDepth 20000
set_option linter.unusedSimpArgs false
set_option linter.unusedVariables false
end Go.Dr
namespace Go.Dr
open Go.Proofs
set_option maxRecDepth 20000
set_option linter.unusedSimpArgs false
set_option linter.unusedVariables false
end Go.Dr
namespace Go.Dr
open Go.Proofs
set_option maxRecDepth 20000
set_option maxHeartbeats 1000000
set_option linter.unusedSimpArgs false
set_option linter.unusedVariables false
end Go.Dr
namespace Go.Dr
open Go.Proofs
set_option maxRecDepth 20000
set_option maxHeartbeats 1000000
set_option linter.unusedSimpArgs false
set_option linter.unusedVariables false
end Go.Dr
namespace Go.Dr
open Go.Proofs
set_option maxRecDepth 20000
set_option maxHeartbeats 1000000
set_option linter.unusedSimpArgs false
set_option linter.unusedVariables false
theorem shaped_small {s:Snap} (h:shapedB s=true):s.nodes.length≤8∧s.pods.length≤24∧s.owners.length≤8:=by
 have hm:manyB s=false:=by
  cases hm:manyB s with
  | false=>rfl
  | true=>rw [shapedB,hm] at h;simp at h
 simp only [manyB,Bool.or_eq_false_iff,decide_eq_false_iff_not] at hm;omega
end Go.Dr
namespace Go.Dr
open Go.Proofs
set_option maxRecDepth 20000
set_option maxHeartbeats 1000000
set_option linter.unusedSimpArgs false
set_option linter.unusedVariables false
end Go.Dr
namespace Go.Dr
open Go.Proofs
set_option maxRecDepth 20000
set_option maxHeartbeats 1000000
set_option linter.unusedSimpArgs false
set_option linter.unusedVariables false
theorem ptr_arr {S:SHeap} {p:Addr} {n:Nat} {xs:List Int} (h:PtrTo S p (rArr n) xs):xs.length=n∧∀ x∈xs,Rng x:=by
 obtain ⟨cs,h,_⟩:=h;exact ⟨h.1,h.2.2⟩
theorem ptr_slice {α:Type} {S:SHeap} {p:Addr} {bt:Nat} {rep:Rp α} {xs:List α} (h:PtrTo S p (rSlice bt rep) xs):∀ x∈xs,∃ q,PtrTo S q rep x:=by
 obtain ⟨cs,⟨a,n,c,_,_,_,_,_,hh⟩,_⟩:=h
 intro x hx
 obtain ⟨i,hi⟩:=List.getElem?_of_mem hx
 obtain ⟨ad,_,hp⟩:=hh i x hi
 exact ⟨_,hp⟩
theorem snap_caps {S:SHeap} {p:Addr} {s:Snap} (h:PtrTo S p rSnap s):∀ x∈s.nodes,x.cap.length=5∧∀ y∈x.cap,Rng y:=by
 intro x hx
 have h1:PtrTo S (p.add 0) (rSlice 112 rNode) s.nodes:=h.part (Fld.h (rep:=rSnap) (off:=0))
 obtain ⟨q,hq⟩:=ptr_slice h1 x hx
 have h2:PtrTo S (q.add 1) (rArr 5) x.cap:=hq.part (Fld.h (rep:=rNode) (off:=1))
 exact ptr_arr h2
theorem plus_ok {l:List (List Int)} (h:(plusV l).2=0) (j:Nat) (hj:j < 5):(l.map (fun v=>at0 v j)).any negB=false∧(l.map (fun v=>at0 v j)).sum≤Qty:=by
 have hc:(colQ l j).2=0:=by
  unfold plusV at h
  split at h
  ·rename_i i hi
   rw [List.find?_range_eq_some] at hi
   have:=hi.1
   simp only [Bool.not_eq_true',decide_eq_false_iff_not] at this
   exact absurd h this
  ·rename_i hi
   rw [List.find?_range_eq_none] at hi
   have:=hi j hj
   simpa using this
 unfold colQ addQ at hc
 cases hn:(l.map (fun v=>at0 v j)).any negB with
 | true=>rw [hn] at hc;simp at hc
 | false=>
  rw [hn] at hc
  refine ⟨rfl,?_⟩
  simp only [Bool.false_eq_true,if_false] at hc
  split at hc
  ·simp at hc
  ·rename_i h;omega
theorem checkS_ok {s:Snap} (h:checkS s=0):shapedB s=true∧(plusV (caps s)).2=0∧(plusV (reqs s)).2=0:=by
 unfold checkS at h
 cases h1:shapedB s with
 | false=>rw [h1] at h;simp at h
 | true=>
  rw [h1] at h
  simp only [if_true] at h
  split at h
  ·rename_i h2
   simp only [Bool.and_eq_true,z0,decide_eq_true_eq] at h2
   exact ⟨rfl,h2⟩
  ·cases h
def colsOf (l:List Pod) (x:List Int) (j:Nat):List Int:=(List.range 5).map (fun i=>(l.map (fun y=>at0 y.req i)).sum+if i < j then at0 x i else 0)
theorem colsOf_len (l:List Pod) (x:List Int) (j:Nat):(colsOf l x j).length=5:=by simp [colsOf]
theorem colsOf_at (l:List Pod) (x:List Int) (j:Nat) (hj:j < 5):(colsOf l x j)[j]?=some ((l.map (fun y=>at0 y.req j)).sum):=by
 simp [colsOf,hj]
theorem colsOf_set (l:List Pod) (x:List Int) (j:Nat) (hj:j < 5):(colsOf l x j).set j ((l.map (fun y=>at0 y.req j)).sum+at0 x j)=colsOf l x (j+1):=by
 apply List.ext_getElem?
 intro i
 rw [List.getElem?_set]
 simp only [colsOf,List.length_map,List.length_range,List.getElem?_map]
 by_cases h:j=i
 ·subst h;simp [hj]
 ·rw [if_neg h]
  cases hr:(List.range 5)[i]? with
  | none=>rfl
  | some i'=>
   have:i'=i:=by
    rw [List.getElem?_range] at hr
    ·simpa using hr.symm
    ·exact Nat.lt_of_not_le fun hle=>by rw [List.getElem?_eq_none (by simpa using hle)] at hr;cases hr
   subst this
   simp only [Option.map_some]
   have:(i' < j)=(i' < j+1):=by simp;omega
   simp [this]
theorem colsOf_full (l:List Pod) (x:Pod) (y:List Int):colsOf l x.req 5=colsOf (l++[x]) y 0:=by
 unfold colsOf
 apply List.map_congr_left
 intro i hi
 have:i < 5:=by simpa using hi
 simp [this]
def onK (s:Snap) (p:List Int) (node:Int) (k:Nat):List Pod:=(((p.zip s.pods).take k).filter (fun x=>decide (x.1=node))).map (fun x=>x.2)
theorem onK_all {s:Snap} {p:List Int} {node:Int} (h:p.length=s.pods.length):onK s p node p.length=onN s p node:=by
 unfold onK onN
 rw [List.take_of_length_le (by simp [h])]
theorem filt_sum {l:List Pod} {f:Pod→Int} (h:∀ x∈l,0≤f x):∀ {m:List Pod},m.Sublist l→(m.map f).sum≤(l.map f).sum∧0≤(m.map f).sum:=by
 intro m hm
 induction hm with
 | slnil=>simp
 | cons a hs ih=>
  have:=ih (fun x hx=>h x (by simp [hx]))
  have:=h a (by simp)
  simp only [List.map_cons,List.sum_cons];omega
 | cons_cons a hs ih=>
  have:=ih (fun x hx=>h x (by simp [hx]))
  have:=h a (by simp)
  simp only [List.map_cons,List.sum_cons];omega
theorem zip_snd_sub:∀ (p:List Int) (l:List Pod),((p.zip l).map (fun x=>x.2)).Sublist l
 | [],l=>by simp
 | _::_,[]=>by simp
 | a::p,x::l=>by
  rw [List.zip_cons_cons,List.map_cons]
  exact (zip_snd_sub p l).cons_cons x
theorem onK_sub (s:Snap) (p:List Int) (node:Int) (k:Nat):(onK s p node k).Sublist s.pods:=by
 have h1:=zip_snd_sub p s.pods
 exact (((List.filter_sublist).trans (List.take_sublist _ _)).map _).trans h1
theorem used_bound {s:Snap} (h:checkS s=0) (p:List Int) (node:Int) (k j:Nat) (hj:j < 5):0≤((onK s p node k).map (fun y=>at0 y.req j)).sum∧((onK s p node k).map (fun y=>at0 y.req j)).sum≤Qty:=by
 obtain ⟨_,_,h3⟩:=checkS_ok h
 obtain ⟨h4,h5⟩:=plus_ok h3 j hj
 have hnn:∀ x∈s.pods,0≤at0 x.req j:=by
  intro x hx
  rw [List.any_eq_false] at h4
  have:=h4 (at0 x.req j) (by simp only [reqs,List.map_map,List.mem_map];exact ⟨x,hx,rfl⟩)
  simpa [negB] using this
 have h6:=filt_sum (f:=fun y=>at0 y.req j) hnn (onK_sub s p node k)
 have h7:(s.pods.map (fun y=>at0 y.req j)).sum≤Qty:=by
  simpa [reqs,List.map_map,Function.comp_def] using h5
 omega
end Go.Dr
namespace Go.Dr
open Go.Proofs
set_option maxRecDepth 20000
set_option maxHeartbeats 2000000
set_option linter.unusedSimpArgs false
set_option linter.unusedVariables false
theorem p7_on {S:SHeap} {u v:Value} {s:Snap} {p:List Int} (node:Int) (hu:rSnap.V S u s) (hv:(rSlice 8 rI64).V S v p) (hr:Rng node) (hlen:p.length=s.pods.length) (hb:p.length≤1000000) :
  FnR Tryz.prog 178 #[u,v,.int .i64 node] S (fun w S'=>∃ lb,w=.func (.func 257) #[] lb∧Iter Tryz.prog 257 lb rPod S' (onN s p node)):=by
 have hn:rI64.V S (.int .i64 node) node:=V_i64.2 ⟨rfl,hr⟩
 obtain ⟨a,c,rfl,_⟩:=V_slice.1 hv
 (refine Fn.enter (args:=[u,.slice a p.length c,.int .i64 node]) Tryz.func178 rfl Tryz.ntmps178 rfl ?_;intro w0)
 repeat (first|(refine Walk ?_;intros)|refine JC.block ?_|(refine WBox ?_;intros))
 (refine JX.ret1 Tryz.results178 (ResV.tmp rfl) (List.nil_sublist _) ?_)
 exact ⟨rfl,_,rfl,p7_on1 hlen (by exact pta) (by exact pta) (by exact pta) hb⟩
theorem p7_owned {S:SHeap} {u v:Value} {s:Snap} {p:List Int} (o:Nat) (hu:rSnap.V S u s) (hv:(rSlice 8 rI64).V S v p) (ho:o < s.owners.length) (hos:s.owners.length≤1000000) (hlen:p.length=s.pods.length) (hb:p.length≤1000000) (hrg:∀ x∈p,Rng x) :
  FnR Tryz.prog 320 #[u,v,.int .i64 o] S (fun w S'=>∃ lb,w=.func (.func 355) #[] lb∧Iter Tryz.prog 355 lb rI64 S' (ownedL s p o)):=by
 have hn:rI64.V S (.int .i64 (o:Int)) (o:Int):=V_i64.2 ⟨rfl,by unfold Rng;omega⟩
 obtain ⟨a,c,rfl,_⟩:=V_slice.1 hv
 (refine Fn.enter (args:=[u,.slice a p.length c,.int .i64 o]) Tryz.func320 rfl Tryz.ntmps320 rfl ?_;intro w0)
 repeat (first|(refine Walk ?_;intros)|refine JC.block ?_|(refine WBox ?_;intros))
 (refine JX.ret1 Tryz.results320 (ResV.tmp rfl) (List.nil_sublist _) ?_)
 exact ⟨rfl,_,rfl,p7_owned1 hlen ho (by exact pta) (by exact pta) (by exact pta) hb hrg⟩
theorem owned_len (s:Snap) (p:List Int) (o:Nat):(ownedL s p o).length≤p.length:=by
 unfold ownedL
 rw [List.length_map]
 refine Nat.le_trans (List.length_filter_le _ _) ?_
 rw [List.length_zip]
 exact Nat.min_le_left _ _
theorem ResV.cellI {C:Cx} {S:SHeap} {M:List MEnt} {e:Env} {p b:Nat} {T t:TypeId} {fr:Nat × Nat} {n:Int} (h:Env.get? e p=some (.pointer (some ⟨b,0,none⟩))) (hM:MEnt.blk b (.cells (ints [n]) t fr)∈M) [ht:TyR C.P T rI64]:ResV C S M e (.cell p T) (.int .i64 n):=
 ResV.cellM (rep:=rI64) (mid:=[.int .i64 n]) h hM rfl rfl
theorem placed_hyps {s:Snap} {p:List Int} (h:checkP s p=0):checkS s=0∧p.length=s.pods.length∧p.length≤24∧s.nodes.length≤8∧s.owners.length≤8∧(∀ x∈p,-1≤x∧x < s.nodes.length)∧∀ x∈p,Rng x:=by
 obtain ⟨h1,h2,h3⟩:=checkP_ok h
 obtain ⟨h4,h5,h6⟩:=shaped_small (checkS_ok h1).1
 have h7:∀ x∈p,-1≤x∧x < s.nodes.length:=by
  intro x hx
  have:=h3 x hx
  simp only [oddP,Bool.or_eq_false_iff,decide_eq_false_iff_not] at this
  omega
 exact ⟨h1,h2,by omega,h4,h6,h7,fun x hx=>by have:=h7 x hx;unfold Rng;omega⟩
theorem s303_L7y {P K:Prop} (k:K) (h:Goal K→P:=by
 intro zk
 (first|refine Walk ?_|refine JC.block ?_|(refine JO.eff rfl rfl rfl (JEff.callV rfl (p7_asked _ (by exact vta) (by exact vta)) rfl ?_);intro zqa zqb)|(refine WBox ?_))
 (repeat (first|revert zqg|revert zqf|revert zqe|revert zqd|revert zqc|revert zqb|revert zqa))
 exact zk.k):P:=h ⟨k⟩
theorem p7_Placed {S:SHeap} {u v:Value} {s:Snap} {p:List Int} (o:Int) (hu:rSnap.V S u s) (hv:(rSlice 8 rI64).V S v p) :
  FnV Tryz.prog 303 #[u,v,.int .i64 o] S (.int .i64 (if z0 (checkP s p)&&(decide (0≤o)&&decide (o < s.owners.length)) then placedN s p o.toNat else 0)):=by
 obtain ⟨a,c,rfl,_⟩:=V_slice.1 hv
 (refine Fn.enterM (args:=[u,.slice a p.length c,.int .i64 o]) Tryz.func303 rfl Tryz.ntmps303 rfl ?_;intro w0)
 repeat (refine s303_L7y ?_;intros)
 (refine JO.eff rfl rfl rfl (JEff.alloc rfl ?_);intro b6 hb6)
 repeat (refine s303_L7y ?_;intros)
 cases hc:(z0 (checkP s p)&&(decide (0≤o)&&decide (o < s.owners.length))) with
 | false=>
  repeat (refine s303_L7y ?_;intros)
  refine JO.eff rfl rfl rfl (JEff.storeI (i:=0) (xs:=[0]) rfl rfl (by unfold Rng;omega) (List.Perm.refl _) (by decide) (by intro l hl;cases hl) ?_)
  repeat (refine s303_L7y ?_;intros)
  refine JX.retM0 Tryz.results303 (ResV.cellI (n:=0) rfl (by (first|exact List.mem_cons_self|exact List.mem_cons_of_mem _ List.mem_cons_self|exact List.mem_cons_of_mem _ (List.mem_cons_of_mem _ List.mem_cons_self)))) (List.nil_sublist _) ?_
  exact ⟨rfl,rfl⟩
 | true=>
  have hol:=owned_len s p o.toNat
  simp only [Bool.and_eq_true,decide_eq_true_eq] at hc
  obtain ⟨c1,c2,c3⟩:=hc
  obtain ⟨o,rfl⟩:=Int.eq_ofNat_of_zero_le c2
  rw [Int.toNat_natCast] at hol
  obtain ⟨h1,h2,h3,h4,h5,h6,h7⟩:=placed_hyps (s:=s) (p:=p) (by simpa [z0] using c1)
  repeat (refine s303_L7y ?_;intros)
  (refine JO.eff rfl rfl rfl (JEff.callR rfl ((p7_owned o (by exact vta) (by exact vta) (by omega) (by omega) h2 (by omega) h7)) rfl ?_);intro w S2 hl2 hV)
  obtain ⟨lb,rfl,hit⟩:=hV
  repeat (refine s303_L7y ?_;intros)
  refine JC.rangeFunc (rep:=rI64) (xs:=ownedL s p o) (fun k S' M'=>M'=[.blk b6 (.cells (ints [(k:Int)]) 3 (0,0))]) rfl rfl inferInstance rfl hit rfl ?_ ?_
  ·rintro w1 B1 K L Rc k y v S' M' hR hp hl hy hv rfl
   repeat (refine s303_L7y ?_;intros)
   have hk:=(List.getElem?_eq_some_iff.1 hy).1
   have hkr:Rng (k:Int):=by unfold Rng;omega
   refine JX.begin rfl hR ?_
   repeat (refine s303_L7y ?_;intros)
   refine JO.pure rfl rfl rfl (JPure.loadMI (xs:=[(k:Int)]) rfl (by (first|exact List.mem_cons_self|exact List.mem_cons_of_mem _ List.mem_cons_self|exact List.mem_cons_of_mem _ (List.mem_cons_of_mem _ List.mem_cons_self))) rfl hkr (.inl rfl) rfl ?_)
   repeat (refine s303_L7y ?_;intros)
   refine JO.eff rfl rfl rfl (JEff.storeI (i:=0) (xs:=[(k:Int)]) (Mr:=[.blk L (.loop { Rc with state:=.busy }),.blk K (.deferred (some []))]) rfl rfl (by unfold Rng;omega) (List.perm_append_comm (l₁:=[_]) (l₂:=[_,_])) (by simp) (by intro l hl;cases hl) ?_)
   repeat (refine s303_L7y ?_;intros)
   refine JX.endRound hR hp (List.perm_append_comm (l₁:=[_,_]) (l₂:=[_])) ?_
   simp
  ·rintro K S' M' hl rfl
   repeat (refine s303_L7y ?_;intros)
   have hkr:Rng (((ownedL s p o).length:Nat):Int):=by unfold Rng;omega
   refine JO.pure rfl rfl rfl (JPure.loadMI (xs:=[((ownedL s p o).length:Int)]) rfl (by (first|exact List.mem_cons_self|exact List.mem_cons_of_mem _ List.mem_cons_self|exact List.mem_cons_of_mem _ (List.mem_cons_of_mem _ List.mem_cons_self))) rfl hkr (.inl rfl) rfl ?_)
   repeat (refine s303_L7y ?_;intros)
   refine JO.eff rfl rfl rfl (JEff.storeI (i:=0) (xs:=[((ownedL s p o).length:Int)]) (Mr:=[.blk K (.deferred (some []))]) rfl rfl hkr (List.perm_append_comm (l₁:=[_]) (l₂:=[_])) (by simp) (by intro l hl;cases hl) ?_)
   repeat (refine s303_L7y ?_;intros)
   refine JX.retM1 Tryz.results303 (List.perm_append_comm (l₁:=[_]) (l₂:=[_])) (ResV.cellI (n:=((ownedL s p o).length:Int)) rfl (by (first|exact List.mem_cons_self|exact List.mem_cons_of_mem _ List.mem_cons_self|exact List.mem_cons_of_mem _ (List.mem_cons_of_mem _ List.mem_cons_self)))) (List.nil_sublist _) ?_
   exact ⟨rfl,rfl⟩
end Go.Dr
namespace Go.Dr
open Go.Proofs
set_option maxRecDepth 20000
set_option maxHeartbeats 2000000
set_option linter.unusedSimpArgs false
set_option linter.unusedVariables false
theorem onT_bound {s:Snap} {p:List Int} (h:checkS s=0) (hl:p.length=s.pods.length) (node:Int) (k j:Nat) (hj:j < 5) :
  0≤(((onN s p node).take k).map (fun y=>at0 y.req j)).sum∧(((onN s p node).take k).map (fun y=>at0 y.req j)).sum≤Qty:=by
 obtain ⟨_,_,h3⟩:=checkS_ok h
 obtain ⟨h4,h5⟩:=plus_ok h3 j hj
 have hnn:∀ x∈s.pods,0≤at0 x.req j:=by
  intro x hx
  rw [List.any_eq_false] at h4
  have:=h4 (at0 x.req j) (by simp only [reqs,List.map_map,List.mem_map];exact ⟨x,hx,rfl⟩)
  simpa [negB] using this
 have hsub:((onN s p node).take k).Sublist s.pods:=by
  rw [← onK_all hl]
  exact (List.take_sublist _ _).trans (onK_sub s p node p.length)
 have h6:=filt_sum (f:=fun y=>at0 y.req j) hnn hsub
 have h7:(s.pods.map (fun y=>at0 y.req j)).sum≤Qty:=by
  simpa [reqs,List.map_map,Function.comp_def] using h5
 omega
def usedP (s:Snap) (p:List Int) (node:Int):List Int:=if z0 (checkP s p)&&(decide (0≤node)&&decide (node < s.nodes.length)) then usedV s p node else [0,0,0,0,0]
theorem s121_L7z {P K:Prop} (k:K) (h:Goal K→P:=by
 intro zk
 (first|refine Walk ?_|refine JC.block ?_|(refine JO.eff rfl rfl rfl (JEff.callV rfl (p7_Check (by exact vta) (by exact vta)) rfl ?_);intro zqa zqb)|(refine JO.eff rfl rfl rfl (JEff.callV rfl (p7_there _ _) rfl ?_);intro zqa zqb)|(refine WBox ?_))
 (repeat (first|revert zqg|revert zqf|revert zqe|revert zqd|revert zqc|revert zqb|revert zqa))
 exact zk.k):P:=h ⟨k⟩
theorem p7_Used {S:SHeap} {u v:Value} {s:Snap} {p:List Int} (node:Int) (hu:rSnap.V S u s) (hv:(rSlice 8 rI64).V S v p) :
  FnV Tryz.prog 121 #[u,v,.int .i64 node] S (.agg (ints (usedP s p node))):=by
 obtain ⟨a,c,rfl,_⟩:=V_slice.1 hv
 (refine Fn.enterM (args:=[u,.slice a p.length c,.int .i64 node]) Tryz.func121 rfl Tryz.ntmps121 rfl ?_;intro w0)
 repeat (refine s121_L7z ?_;intros)
 (refine JO.eff rfl rfl rfl (JEff.alloc rfl ?_);intro b6 hb6)
 repeat (refine s121_L7z ?_;intros)
 cases g1:decide (checkP s p=0) with
 | false=>
  refine JO.guard rfl rfl rfl rfl (fun _=>?_) (fun g=>Bool.noConfusion (g.symm.trans rfl))
  repeat (refine s121_L7z ?_;intros)
  refine JO.eff rfl rfl rfl (JEff.storeA (n:=5) (xs:=[0,0,0,0,0]) (ys:=[0,0,0,0,0]) rfl rfl rfl (by intro z hz;simp at hz;subst hz;unfold Rng;omega) (List.Perm.refl _) rfl (by intro l hl;cases hl) ?_)
  repeat (refine s121_L7z ?_;intros)
  refine JX.retM0 Tryz.results121 (ResV.cellA (n:=5) (xs:=[0,0,0,0,0]) rfl (by (first|exact List.mem_cons_self|exact List.mem_cons_of_mem _ List.mem_cons_self|exact List.mem_cons_of_mem _ (List.mem_cons_of_mem _ List.mem_cons_self))) rfl) (List.nil_sublist _) ?_
  exact ⟨rfl,by rw [usedP,z0,g1];rfl⟩
 | true=>
  refine JO.guard rfl rfl rfl rfl (fun g=>Bool.noConfusion (g.symm.trans rfl)) (fun _=>?_)
  repeat (refine s121_L7z ?_;intros)
  cases g2:(decide (0≤node)&&decide (node < s.nodes.length)) with
  | false=>
   repeat (refine s121_L7z ?_;intros)
   refine JO.eff rfl rfl rfl (JEff.storeA (n:=5) (xs:=[0,0,0,0,0]) (ys:=[0,0,0,0,0]) rfl rfl rfl (by intro z hz;simp at hz;subst hz;unfold Rng;omega) (List.Perm.refl _) rfl (by intro l hl;cases hl) ?_)
   repeat (refine s121_L7z ?_;intros)
   refine JX.retM0 Tryz.results121 (ResV.cellA (n:=5) (xs:=[0,0,0,0,0]) rfl (by (first|exact List.mem_cons_self|exact List.mem_cons_of_mem _ List.mem_cons_self|exact List.mem_cons_of_mem _ (List.mem_cons_of_mem _ List.mem_cons_self))) rfl) (List.nil_sublist _) ?_
   exact ⟨rfl,by rw [usedP,z0,g1,g2];rfl⟩
  | true=>
   have hus:usedP s p node=usedV s p node:=by rw [usedP,z0,g1,g2];rfl
   rw [hus]
   obtain ⟨h1,h2,h3,h4,h5,h6,h7⟩:=placed_hyps (s:=s) (p:=p) (of_decide_eq_true g1)
   simp only [Bool.and_eq_true,decide_eq_true_eq] at g2
   repeat (refine s121_L7z ?_;intros)
   (refine JO.eff rfl rfl rfl (JEff.callR rfl ((p7_on node (by exact vta) (by exact vta) (by unfold Rng;omega) h2 (by omega))) rfl ?_);intro w S2 hl2 hV)
   obtain ⟨lb,rfl,hit⟩:=hV
   repeat (refine s121_L7z ?_;intros)
   refine JC.rangeFunc (rep:=rPod) (xs:=onN s p node) (fun k S' M'=>M'=[.blk b6 (.cells (ints (colsOf ((onN s p node).take k) [] 0)) 91 (0,0))]) rfl rfl inferInstance rfl hit rfl ?_ ?_
   ·rintro w1 B1 K L Rc k y v S' M' hR hp hl hy hv rfl
    repeat (refine s121_L7z ?_;intros)
    (refine JO.eff rfl rfl rfl (JEff.alloc rfl ?_);intro b7 hb7);(repeat (first|(refine Walk ?_;intros)|refine JC.block ?_));(refine JO.eff rfl rfl rfl (JEff.storeW rfl rfl (by exact vta) nna pma rfl (by intro l hl;cases hl) ?_));(refine JO.freezeV (by exact vta) nna hb7 (by intro l hl;cases hl) ?_;intro S3 l3 hp7)
    repeat (refine s121_L7z ?_;intros)
    refine JX.begin rfl hR ?_
    repeat (refine s121_L7z ?_;intros)
    obtain ⟨hk,hky⟩:=List.getElem?_eq_some_iff.1 hy
    have htk:(onN s p node).take (k+1)=(onN s p node).take k++[y]:=by rw [List.take_add_one,hy];rfl
    have hyl:=(V_arr.1 (pod_req hv)).2
    obtain ⟨rfl,_,_⟩:=V_arr.1 ‹(rArr 5).V _ _ y.req›
    refine JC.loopF [(6,_),(29,_)] (fun (j:Nat)=>[(30,.int .i64 j)]) (fun j=>[.blk L (.loop { Rc with state:=.busy }),.blk K (.deferred (some [])),.blk b6 (.cells (ints (colsOf ((onN s p node).take k) y.req j)) 91 (0,0))]) (fun Sj j=>j≤5∧(True)) (fun j=>5 - j) 0 (by exact sba) (by exact sba) rfl ⟨Nat.zero_le _,trivial⟩ ?_;intro Sj j hlj hij;obtain ⟨hj,hij⟩:=hij;(try dsimp only at hj hij);dsimp only [List.cons_append,List.nil_append]
    repeat (refine s121_L7z ?_;intros)
    refine JC.cond rfl (fun hc=>?_) (fun hc=>?_)
    ·have hj':=dlt5 hc
     obtain ⟨z,hz⟩:∃ z,y.req[j]?=some z:=⟨_,List.getElem?_eq_getElem (by omega)⟩
     have hatz:=at0_some hz
     have hub:=onT_bound h1 h2 node k j hj'
     have hub2:=onT_bound h1 h2 node (k+1) j hj'
     rw [htk] at hub2
     simp only [List.map_append,List.sum_append,List.map_cons,List.map_nil,List.sum_cons,List.sum_nil,hatz] at hub2
     unfold Qty at hub hub2
     repeat (refine s121_L7z ?_;intros)
     refine JO.pure rfl rfl rfl (JPure.indexV rfl rfl rfl (by omega) hyl.1 (by simpa using hz) ?_)
     repeat (refine s121_L7z ?_;intros)
     refine JO.pure rfl rfl rfl (JPure.indexBI rfl rfl rfl (by omega) (by omega) ?_)
     refine JO.pure rfl rfl rfl (JPure.loadMI rfl (by (first|exact List.mem_cons_self|exact List.mem_cons_of_mem _ List.mem_cons_self|exact List.mem_cons_of_mem _ (List.mem_cons_of_mem _ List.mem_cons_self))) (colsOf_at _ _ j hj') (by unfold Rng;omega) (.inl rfl) rfl ?_)
     repeat (refine s121_L7z ?_;intros)
     refine JO.pure rfl rfl rfl (JPure.indexBI rfl rfl rfl (by omega) (by omega) ?_)
     refine JO.eff rfl rfl rfl (JEff.storeI (i:=j) (Mr:=[.blk L (.loop { Rc with state:=.busy }),.blk K (.deferred (some []))]) rfl rfl (by unfold Rng;omega) (List.perm_append_comm (l₁:=[_]) (l₂:=[_,_])) (by rw [colsOf_len];omega) (by intro l hl;cases hl) ?_)
     rw [← hatz,colsOf_set _ _ j hj',hatz]
     repeat (refine s121_L7z ?_;intros)
     refine JX.perm (List.perm_append_comm (l₁:=[_,_]) (l₂:=[_])) ?_
     exact JX.roundF (j+1) (by exact lea) ⟨by omega,(trivial)⟩ (by (try dsimp only);omega) rfl (by exact sba) (by exact sba)
    ·have hj':=dnlt5 hc
     obtain rfl:j=5:=by omega
     rw [colsOf_full _ _ [],← htk]
     repeat (refine s121_L7z ?_;intros)
     refine JX.endRound hR hp (List.Perm.refl _) ?_
     rfl
   ·rintro K S' M' hl rfl
    have hfin:colsOf ((onN s p node).take (onN s p node).length) [] 0=usedV s p node:=by rw [List.take_length];simp [colsOf,usedV]
    have hrng:∀ z∈usedV s p node,Rng z:=by
     intro z hz
     obtain ⟨j,hj,rfl⟩:=List.mem_map.1 hz
     have:=onT_bound h1 h2 node (onN s p node).length j (by simpa using hj)
     rw [List.take_length] at this
     unfold Qty at this;unfold Rng;omega
    rw [hfin]
    repeat (refine s121_L7z ?_;intros)
    refine JO.pure rfl rfl rfl (JPure.loadMA (n:=5) rfl (by (first|exact List.mem_cons_self|exact List.mem_cons_of_mem _ List.mem_cons_self|exact List.mem_cons_of_mem _ (List.mem_cons_of_mem _ List.mem_cons_self))) (by simp [usedV]) hrng (.inl rfl) rfl ?_)
    refine JO.eff rfl rfl rfl (JEff.storeA (n:=5) (Mr:=[.blk K (.deferred (some []))]) rfl rfl (by simp [usedV]) hrng (List.Perm.swap _ _ _) (by simp [usedV]) (by intro l hl;cases hl) ?_)
    repeat (refine s121_L7z ?_;intros)
    refine JX.retM1 Tryz.results121 (List.Perm.swap _ _ _) (ResV.cellA (n:=5) rfl (by (first|exact List.mem_cons_self|exact List.mem_cons_of_mem _ List.mem_cons_self|exact List.mem_cons_of_mem _ (List.mem_cons_of_mem _ List.mem_cons_self))) (by simp [usedV])) (List.nil_sublist _) ?_
    exact ⟨rfl,rfl⟩
end Go.Dr
namespace Go.Dr
open Go.Proofs
set_option maxRecDepth 20000
set_option maxHeartbeats 2000000
set_option linter.unusedSimpArgs false
set_option linter.unusedVariables false
theorem nd_more {l:List Nat} {n:Nat} (hn:l.Nodup) (hb:∀ i∈l,i < n):∃ t,(l++t).Perm (List.range n):=by
 refine ⟨(List.range n).filter (fun i=>!decide (i∈l)),?_⟩
 have h1:(l++(List.range n).filter (fun i=>!decide (i∈l))).Nodup:=by
  rw [List.nodup_append]
  refine ⟨hn,List.nodup_range.filter _,?_⟩
  intro a ha b hb he
  subst he
  simp at hb
  exact hb.2 ha
 rw [List.perm_ext_iff_of_nodup h1 List.nodup_range]
 intro a
 by_cases ha:a∈l
 ·simp [ha,hb a ha]
 ·simp [ha]
theorem nd_len {l:List Nat} {n:Nat} (hn:l.Nodup) (hb:∀ i∈l,i < n):l.length≤n:=by
 obtain ⟨t,ht⟩:=nd_more hn hb
 have:=ht.length_eq
 simp at this
 omega
def keyAt (l:List (ByteArray × Value)) (i:Nat):ByteArray:=((l[i]?).map Prod.fst).getD noS
theorem keyAt_range (l:List (ByteArray × Value)):(List.range l.length).map (keyAt l)=l.map Prod.fst:=by
 apply List.ext_getElem?
 intro i
 rw [List.getElem?_map,List.getElem?_map]
 by_cases hi:i < l.length
 ·rw [List.getElem?_range hi]
  simp [keyAt,List.getElem?_eq_getElem hi]
 ·rw [List.getElem?_eq_none (by simpa using hi),List.getElem?_eq_none (by omega)]
  rfl
theorem p_Keys1 {S:SHeap} {b:Nat} {l:List (ByteArray × Value)} {q:Addr} (hq:PtrTo S q rVal (.map (some b))) (hS:S b=some (mapObj l)) (hk:∀ p∈l,p.1.size≤big) :
  IterS Tryz.prog 358 #[.pointer (some q)] rStr S (fun xs=>xs.Perm (l.map Prod.fst)):=by
 intro L J S1 M1 hl h0 hy
 have hq1:=hq.mono hl
 have hS1:=hl _ _ hS
 clear hq hS
 rw [show (#[.func (.yield L) #[] #[]]++#[.pointer (some q)]:Array Value)=#[.func (.yield L) #[] #[],.pointer (some q)] from rfl]
 (refine Fn.enter (args:=[.func (.yield L) #[] #[],.pointer (some q)]) Tryz.func358 rfl Tryz.ntmps358 rfl ?_;intro w0)
 repeat (first|(refine Walk ?_;intros)|refine JC.block ?_)
 refine JO.eff rfl rfl rfl (JEff.rangeM rfl hS1 rfl ?_);intro r hr
 repeat (first|(refine Walk ?_;intros)|refine JC.block ?_)
 refine JC.loopF (σ:=Array Nat × List MEnt) [(0,_),(5,_)] (fun q=>[]) (fun q=>.blk r (.mapIter (some b) l.length q.1 l.length)::q.2) (fun Si q=>q.1.toList.Nodup∧(∀ j∈q.1.toList,j < l.length)∧J (q.1.toList.map (keyAt l)) Si q.2) (fun q=>l.length - q.1.size) ((#[],M1)) (by exact sba) (by exact sba) rfl (⟨List.nodup_nil,(by intro j hj;cases hj),h0⟩) ?_;rintro Si ⟨seen,Mi⟩ hli hii;(try dsimp only at hii);dsimp only [List.cons_append,List.nil_append]
 obtain ⟨hi1,hi2,hi3⟩:=hii
 have hSi:=hli _ _ hS1
 have hlen:=nd_len hi1 hi2
 repeat (first|(refine Walk ?_;intros)|refine JC.block ?_)
 refine JO.eff rfl rfl rfl (JEff.nextM rfl hSi (List.Perm.refl _) (by intro l hl;cases hl) rfl (fun j p hj hjn=>?_) (fun hall=>?_))
 ·have hjl:=(List.getElem?_eq_some_iff.1 hj).1
  have hn2:(seen.toList++[j]).Nodup:=by
   rw [List.nodup_append]
   refine ⟨hi1,by simp,?_⟩
   intro a ha c hc he
   simp at hc
   subst hc;subst he
   exact hjn (by simpa using ha)
  have hb2:∀ i∈seen.toList++[j],i < l.length:=by
   intro i hi
   rcases List.mem_append.1 hi with h|h
   ·exact hi2 i h
   ·simp at h;subst h;exact hjl
  have hlen2:=nd_len hn2 hb2
  have hsz:(seen.push j).size=seen.size+1:=by simp
  have hsl:seen.size+1≤l.length:=by simpa using hlen2
  have hkj:keyAt l j=p.1:=by simp [keyAt,hj]
  have hpk:=hk p (List.mem_of_getElem? hj)
  obtain ⟨t,ht⟩:=nd_more hn2 hb2
  repeat (first|(refine Walk ?_;intros)|refine JC.block ?_)
  refine JO.eff rfl rfl rfl (JEff.entryM rfl hSi (by (first|exact List.mem_cons_self|exact List.mem_cons_of_mem _ List.mem_cons_self|exact List.mem_cons_of_mem _ (List.mem_cons_of_mem _ List.mem_cons_self))) hj rfl ?_)
  repeat (first|(refine Walk ?_;intros)|refine JC.block ?_)
  have hpre:∃ xs:List ByteArray,xs.Perm (l.map Prod.fst)∧seen.toList.map (keyAt l)++[p.1] <+: xs:=by
   refine ⟨(seen.toList++[j]++t).map (keyAt l),?_,?_⟩
   ·rw [← keyAt_range];exact ht.map _
   ·rw [List.map_append,List.map_append,List.map_singleton,hkj];exact List.prefix_append _ _
  refine JO.eff rfl rfl rfl (JEff.yield (Mc:=Mi) (Mr:=[.blk r (.mapIter (some b) l.length (seen.push j) l.length)]) rfl rfl rfl List.perm_append_comm (by intro l hl;cases hl) (hy _ p.1 _ _ _ (by exact lea) hpre (V_str.2 ⟨rfl,hpk⟩) hi3) rfl ?_);intro S' M' hl' hJ'
  repeat (first|(refine Walk ?_;intros)|refine JC.block ?_)
  refine JX.perm List.perm_append_comm ?_
  exact JX.roundF (seen.push j,M') (by exact lea) (⟨by simpa using hn2,by simpa using hb2,by simpa [hkj] using hJ'⟩) (by (try dsimp only);omega) rfl (by exact sba) (by exact sba)
 ·repeat (first|(refine Walk ?_;intros)|refine JC.block ?_)
  refine JX.end0 Tryz.results358 (List.sublist_cons_self _ _) ?_
  refine ⟨_,?_,hi3⟩
  rw [← keyAt_range]
  refine List.Perm.map _ ((List.perm_ext_iff_of_nodup hi1 List.nodup_range).2 (fun a=>⟨fun h=>by simpa using hi2 a h,fun h=>by simpa using hall a (by simpa using h)⟩))
theorem p_Keys {S:SHeap} {b:Nat} {l:List (ByteArray × Value)} (hS:S b=some (mapObj l)) (hk:∀ p∈l,p.1.size≤big) :
  FnR Tryz.prog 322 #[.map (some b)] S (fun w S'=>∃ lb,w=.func (.func 358) #[] lb∧IterS Tryz.prog 358 lb rStr S' (fun xs=>xs.Perm (l.map Prod.fst))):=by
 (refine Fn.enter (args:=[.map (some b)]) Tryz.func322 rfl Tryz.ntmps322 rfl ?_;intro w0)
 repeat (first|(refine Walk ?_;intros)|refine JC.block ?_|(refine WBox ?_;intros))
 (refine JX.ret1 Tryz.results322 (ResV.tmp rfl) (List.nil_sublist _) ?_)
 exact ⟨rfl,_,rfl,p_Keys1 (by exact pta) (by first|exact hS|exact (by assumption:SHeap.le _ _) _ _ hS) hk⟩
end Go.Dr
namespace Go.Dr
open Go.RowKit
set_option linter.unusedSimpArgs false
set_option linter.unusedVariables false
theorem Wd.rowTurnB {B:Nat} {w0 w w':World} {B0:List Nat} {S0 S:SHeap} {M:List MEnt} {e:TypeId} {sz:Nat} {v v':Value} {n n':Nat} {xs xs':List Value} (h:Wd w0 B0 S0 S (.row B e sz v n xs::M) w)
  (hg:w.grownBy w' v.ownBlock) (hd:w.drawn≤w'.drawn) (hr:w'.ownsRow B e sz v' n' xs') (ho:v'.ownBlock=v.ownBlock∨v'.ownBlock=some w.heap.size):Wd w0 B0 S0 S (.row B e sz v' n' xs'::M) w' where
 os:=hg.os.trans h.os
 tape:=hg.tape.trans h.tape
 output:=hg.output.trans h.output
 size:=Nat.le_trans h.size hg.size
 drawn:=Nat.le_trans h.drawn hd
 keep:=fun k hk hb=>by
  refine (hg.block k (Nat.lt_of_lt_of_le hk h.size) fun e1=>?_).trans (h.keep k hk hb)
  rcases (h.out (.row B e sz v n xs) (by simp) k e1.symm).2 with h1|h1
  ·omega
  ·exact hb h1
 le:=h.le
 new:=h.new
 agree:=fun k o hk=>by
  have h1:=h.agree k o hk
  rw [hg.block k (Array.getElem?_eq_some_iff.1 h1).1 fun e1=>?_]
  ·exact h1
  ·have:=(h.out (.row B e sz v n xs) (by simp) k e1.symm).1
   rw [this] at hk;cases hk
 ok:=fun m hm=>by
  rcases List.mem_cons.1 hm with rfl|hm
  ·exact hr
  ·have h1:=h.ok m (List.mem_cons_of_mem _ hm)
   exact h1.keep fun k hk=>hg.block k (h1.lt k hk) fun e1=>(List.pairwise_cons.1 h.sep).1 m hm k e1.symm hk
 sep:=List.pairwise_cons.2 ⟨fun m hm k hk hk'=>by
  rcases ho with ho|ho
  ·exact (List.pairwise_cons.1 h.sep).1 m hm k ((show v.ownBlock=some k from ho.symm.trans hk)) hk'
  ·have h1:=(h.ok m (List.mem_cons_of_mem _ hm)).lt k hk'
   have h2:some w.heap.size=some k:=ho.symm.trans hk
   cases h2;omega,(List.pairwise_cons.1 h.sep).2⟩
 out:=fun m hm k hk=>by
  rcases List.mem_cons.1 hm with rfl|hm
  ·rcases ho with ho|ho
   ·exact h.out (.row B e sz v n xs) (by simp) k ((show v.ownBlock=some k from ho.symm.trans hk))
   ·have h2:some w.heap.size=some k:=ho.symm.trans hk
    cases h2
    exact ⟨h.fresh,.inl h.size⟩
  ·exact h.out m (List.mem_cons_of_mem _ hm) k hk
section
variable {C:Cx} {R:Rg} {Q:Post} {S S' S1:SHeap} {M M':List MEnt} {e e':Env} {rest:List Nat}
variable {d:Nat} {ty:TypeId} {pos:String} {aft:Array Edge} {g:Option (Nat × Bool)}
theorem JEff.appendLB {B:Nat} {α:Type} {T E:TypeId} {x y:Operand} {b n m bt:Nat} {v:Value} {xs:List Value} {cs:Array Value} {fr:Nat × Nat} {rep:Rp α} {z:Value} {Mr:List MEnt} (hB:B≤C.w0.heap.size) (hx:ev e x=some v) (hy:ev e y=some (.slice (some ⟨b,0,none⟩) m m))
  [hu:Und C.P T (.slice E)] [ht:TyR C.P E rep] [hz:Zero C.P E z] (hzs:z.cells.size=rep.sz) [hby:Byt C.P E bt] (hsz:Nat.ble 1 rep.sz=true)
  (hM:(MEnt.row B E rep.sz v n xs::.blk b (.cells cs E fr)::Mr).Perm M) (hcs:cs.size=m*rep.sz) (h1:∀ c∈cs.toList,c.oneCell'=true) (hbig:(n+m)*bt≤big) (hbig1:n+m≤big)
  (hT:∀ l,R.T=some l→∀ b,v.ownBlock=some b→b∈l) (hdN:Nat.blt d C.N=true)
  (k:∀ a c,JO C R rest Q S (.row B E rep.sz (.slice a (n+m) c) (n+m) (xs++cs.toList)::Mr) ((d,.slice a (n+m) c)::e)) :
  JEff C R ⟨some d,.call { callee:=.builtin .append,args:=#[x,y],argTypes:=#[T,T] },ty,pos,aft,g⟩ rest Q S M e:=
 JEff.ofRun rfl rfl hdN fun a w hw=>by
  have hwd:=hw.wd.perm hM
  have hrow:w.ownsRow B E rep.sz v n xs:=hwd.ok (.row B E rep.sz v n xs) (by simp)
  have hblk:w.heap[b]?=some (.cells cs E fr):=hwd.ok (.blk b (.cells cs E fr)) (by simp)
  obtain ⟨i,hi,hsi⟩:=ht.i
  obtain ⟨i',hi',hz'⟩:=Option.map_eq_some_iff.1 hz.h
  have e1:i=i':=by rw [hi] at hi';exact Option.some.inj hi'
  subst e1
  have hbt:i.bytes=bt:=by have hby:=hby.h;rw [hi] at hby;simpa using hby
  obtain ⟨v',w',hrun,hown,hg,_,ho,hdr⟩:=run_append_d (P:=C.P) w B T ty E i z rep.sz bt hu.h hi hz' hsi hbt hzs (Nat.le_of_ble_eq_true hsz) v n xs hrow ⟨b,0,none⟩ m m cs.toList (by simpa using hcs)
   (fun j u hj=>by rw [add_plain];simp only [World.cell?,hblk];simpa using hj) h1 (by unfold big at hbig1;simp only [maxLen];omega) hbig (Nat.le_trans hB hwd.size)
  obtain ⟨a',c',rfl⟩:=ownsRow_form hown
  refine ⟨_,w',?_,subX_grown hg hT,hg.size,S,_,(hwd.rowTurnB hg hdr hown ho).sub (List.Sublist.cons_cons _ (List.sublist_cons_self _ _)),SHeap.le.refl _,k a' c'⟩
  simp only [execOp,resolve,invoke,builtin,Sem.run_bind,Sem.run_pure,Result.andThen_ok,List.map_toArray,List.map_cons,List.map_nil,hw.env.eval hx,hw.env.eval hy,hrun]
theorem Wd.rowBase {w0 w:World} {B0:List Nat} {S0 S:SHeap} {M:List MEnt} {B B' E sz n:Nat} {v:Value} {xs:List Value} (h:Wd w0 B0 S0 S (.row B E sz v n xs::M) w) (hb:B'≤B):Wd w0 B0 S0 S (.row B' E sz v n xs::M) w:=
 { h with
  ok:=fun m hm=>by
   rcases List.mem_cons.1 hm with rfl|hm
   ·have h1:w.ownsRow B E sz v n xs:=h.ok (.row B E sz v n xs) (by simp)
    refine ⟨h1.1,?_⟩
    rcases h1.2 with h2|⟨g,cap,cur,hv,hg,hr⟩
    ·exact .inl h2
    ·exact .inr ⟨g,cap,cur,hv,Nat.le_trans hb hg,hr⟩
   ·exact h.ok m (List.mem_cons_of_mem _ hm)
  sep:=List.pairwise_cons.2 ⟨fun m hm k hk=>(List.pairwise_cons.1 h.sep).1 m hm k hk,(List.pairwise_cons.1 h.sep).2⟩
  out:=fun m hm k hk=>by
   rcases List.mem_cons.1 hm with rfl|hm
   ·exact h.out (.row B E sz v n xs) (by simp) k hk
   ·exact h.out m (List.mem_cons_of_mem _ hm) k hk }
theorem JC.newRow0 {c:Code} (E:TypeId) (sz:Nat) (k:JC C c Q S (.row 0 E sz (.slice none 0 0) 0 []::M) e):JC C c Q S M e:=⟨fun a w hw=>k.run a w ⟨hw.env,hw.defers,(hw.wd.newRow E sz).rowBase (Nat.zero_le _)⟩⟩
end
end Go.Dr
namespace Go.Dr
open Go.Proofs
set_option maxRecDepth 20000
set_option maxHeartbeats 2000000
set_option linter.unusedSimpArgs false
set_option linter.unusedVariables false
theorem p_AppendSeq {S:SHeap} {gf:FuncId} {lb:Array Value} {Sx:List ByteArray→Prop} (hE:Ent Tryz.prog gf) (hit:IterS Tryz.prog gf lb rStr S Sx) (hlen:∀ xs,Sx xs→xs.length≤1000000) :
  Fn Tryz.prog 371 #[.slice none 0 0,.func (.func gf) #[] lb] S [] (fun v S' M'=>∃ xs a c vs,Sx xs∧v=.slice a xs.length c∧allV rStr S' vs xs∧M'=[.row 0 9 1 v xs.length (flatCells vs)]):=by
 haveI:TyR Tryz.prog 51 rVal:=⟨(inferInstance:TyR Tryz.prog 51 (rSlice 16 rStr)).b⟩
 (refine Fn.enterM (args:=[.slice none 0 0,.func (.func gf) #[] lb]) Tryz.func371 rfl Tryz.ntmps371 rfl ?_;intro w0)
 repeat (first|(refine Walk ?_;intros)|refine JC.block ?_)
 refine JO.eff rfl rfl rfl (JEff.box rfl rfl ?_);intro b2 hb2
 repeat (first|(refine Walk ?_;intros)|refine JC.block ?_)
 refine JC.newRow0 9 1 ?_
 refine JC.rangeFuncS (rep:=rStr) (Sx:=Sx) (fun pre S' M'=>∃ a c vs,allV rStr S' vs pre∧M'=[.row 0 9 1 (.slice a pre.length c) pre.length (flatCells vs),.blk b2 (.cells (Value.slice a pre.length c).cells 51 (0,0))]) rfl rfl hE rfl hit ⟨none,0,[],trivial,rfl⟩ ?_ ?_
 ·rintro w1 B1 K L Rc pre y v S' M' hR hp hl ⟨xs,hxs,hpx⟩ hv ⟨a,c,vs,hvs,rfl⟩
  have hpl:=hpx.length_le
  have hxl:=hlen xs hxs
  simp only [List.length_append,List.length_cons,List.length_nil] at hpl
  repeat (first|(refine Walk ?_;intros)|refine JC.block ?_)
  refine JX.begin rfl hR ?_
  refine JC.perm (List.perm_append_comm (l₁:=[_,_]) (l₂:=[_,_])) ?_
  repeat (first|(refine Walk ?_;intros)|refine JC.block ?_)
  dsimp only [List.cons_append,List.nil_append]
  obtain ⟨rfl,hys⟩:=V_str.1 hv
  refine JO.pure rfl rfl rfl (JPure.loadM (mid:=[.slice a pre.length c]) (rep:=rVal) rfl (List.mem_cons_of_mem _ List.mem_cons_self) rfl ⟨rfl,rfl⟩ (.inl rfl) rfl ?_)
  repeat (first|(refine Walk ?_;intros)|refine JC.block ?_)
  refine JO.eff rfl rfl rfl (JEff.build (rep:=rStr) (ys:=[y]) rfl rfl ⟨⟨V_str.2 ⟨rfl,hys⟩,nna⟩,trivial⟩ rfl rfl rfl rfl ?_);intro bb hbb hvv
  repeat (first|(refine Walk ?_;intros)|refine JC.block ?_)
  refine JO.eff rfl rfl rfl (JEff.appendLB (B:=0) (rep:=rStr) (Nat.zero_le _) rfl rfl rfl rfl (List.Perm.swap _ _ _) (by exact hvv.flat) (by intro c hc;exact flat_one (fun v hv=>(hvv.size v hv).2) c hc) (by first|omega|(unfold big;omega)) (by unfold big;omega) (by intro l hl;cases hl) rfl ?_);intro a2 c2
  repeat (first|(refine Walk ?_;intros)|refine JC.block ?_)
  refine JO.eff rfl rfl rfl (JEff.storeW (rep:=rVal) rfl rfl (V_val.2 ⟨rfl,rfl⟩) nna (List.Perm.swap _ _ _) rfl (by intro l hl;cases hl) ?_)
  repeat (first|(refine Walk ?_;intros)|refine JC.block ?_)
  refine JX.endRound hR hp ((List.perm_append_comm (l₁:=[_,_]) (l₂:=[_,_])).trans (List.Perm.swap _ _ _)) ?_
  refine ⟨a2,c2,vs++[.string y],allV.append (us:=[.string y]) (ys:=[y]) ⟨⟨V_str.2 ⟨rfl,hys⟩,nna⟩,trivial⟩ hvs,?_⟩
  rw [flat_append,List.length_append]
  rfl
 ·rintro K xs S' M' hl hxs ⟨a,c,vs,hvs,rfl⟩
  repeat (first|(refine Walk ?_;intros)|refine JC.block ?_)
  refine JO.pure rfl rfl rfl (JPure.loadM (mid:=[.slice a xs.length c]) (rep:=rVal) rfl (List.mem_cons_of_mem _ (List.mem_cons_of_mem _ List.mem_cons_self)) rfl ⟨rfl,rfl⟩ (.inl rfl) rfl ?_)
  repeat (first|(refine Walk ?_;intros)|refine JC.block ?_)
  refine JX.retM1 Tryz.results371 (List.Perm.refl _) (ResV.tmp rfl) (List.Sublist.cons_cons _ (List.nil_sublist _)) ?_
  exact ⟨xs,a,c,vs,hxs,rfl,hvs,rfl⟩
theorem p_Collect {S:SHeap} {gf:FuncId} {lb:Array Value} {Sx:List ByteArray→Prop} (hE:Ent Tryz.prog gf) (hit:IterS Tryz.prog gf lb rStr S Sx) (hlen:∀ xs,Sx xs→xs.length≤1000000) :
  Fn Tryz.prog 356 #[.func (.func gf) #[] lb] S [] (fun v S' M'=>∃ xs a c vs,Sx xs∧v=.slice a xs.length c∧allV rStr S' vs xs∧M'=[.row 0 9 1 v xs.length (flatCells vs)]):=by
 (refine Fn.enter (args:=[.func (.func gf) #[] lb]) Tryz.func356 rfl Tryz.ntmps356 rfl ?_;intro w0)
 repeat (first|(refine Walk ?_;intros)|refine JC.block ?_)
 refine JO.eff rfl rfl rfl (JEff.fn (Mc:=[]) (Mr:=[]) (sem_call rfl _ _ _ _ _) rfl rfl rfl (List.Perm.refl _) (by intro l hl m hm;cases hm) (p_AppendSeq hE hit hlen) ?_);rintro v S' M' hl ⟨xs,a,c,vs,hxs,rfl,hvs,rfl⟩
 repeat (first|(refine Walk ?_;intros)|refine JC.block ?_)
 refine JX.ret1 Tryz.results356 (ResV.tmp rfl) (List.Sublist.refl _) ?_
 exact ⟨xs,a,c,vs,hxs,rfl,hvs,by simp⟩
end Go.Dr
namespace Go.Proofs
open Go.Shelf
def Tryz.lays125_ren:Go.Shelf.Ren:=⟨fun|125=>124|128=>188|129=>189|n=>n,fun|46=>157|3=>3|51=>240|53=>242|4=>4|5=>5|9=>9|n=>n,fun|n=>n⟩
theorem Tryz.lays125:Go.Proofs.Lays.n125 Tryz.prog Tryz.lays125_ren:={
 mixed:=by kernel_rfl
 f125:=Tryz.func124.trans (congrArg some (by kernel_rfl))
 f128:=Tryz.func188.trans (congrArg some (by kernel_rfl))
 f129:=Tryz.func189.trans (congrArg some (by kernel_rfl))
 t3:=Tryz.underlying3
 a3:=Tryz.isAgg3
 z3:=Tryz.sizeOf3
 v3:=Tryz.zeroValue3
 t4:=Tryz.underlying4
 a4:=Tryz.isAgg4
 z4:=Tryz.sizeOf4
 v4:=Tryz.zeroValue4
 t5:=Tryz.underlying5
 a5:=Tryz.isAgg5
 z5:=Tryz.sizeOf5
 v5:=Tryz.zeroValue5
 t9:=Tryz.underlying9
 a9:=Tryz.isAgg9
 z9:=Tryz.sizeOf9
 v9:=Tryz.zeroValue9
 t46:=Tryz.underlying157
 a46:=Tryz.isAgg157
 z46:=Tryz.sizeOf157
 v46:=Tryz.zeroValue157
 t51:=Tryz.underlying240
 a51:=Tryz.isAgg240
 z51:=Tryz.sizeOf240
 v51:=Tryz.zeroValue240
 t53:=Tryz.underlying242
 a53:=Tryz.isAgg242
 z53:=Tryz.sizeOf242
 v53:=Tryz.zeroValue242 }
def Tryz.lays190_ren:Go.Shelf.Ren:=⟨fun|190=>357|125=>124|258=>372|128=>188|129=>189|302=>377|303=>378|304=>379|305=>380|306=>381|307=>382|308=>264|309=>383|310=>384|333=>386|329=>259|330=>260|334=>387|335=>388|336=>312|344=>389|n=>n,fun|31=>51|9=>9|3=>3|46=>157|0=>0|51=>240|53=>242|4=>4|183=>234|182=>233|131=>66|5=>5|218=>283|222=>287|228=>319|229=>320|n=>n,fun|n=>n⟩
theorem Tryz.lays190:Go.Proofs.Lays.n190 Tryz.prog Tryz.lays190_ren:={
 mixed:=by kernel_rfl
 f125:=Tryz.func124.trans (congrArg some (by kernel_rfl))
 f128:=Tryz.func188.trans (congrArg some (by kernel_rfl))
 f129:=Tryz.func189.trans (congrArg some (by kernel_rfl))
 f190:=Tryz.func357.trans (congrArg some (by kernel_rfl))
 f258:=Tryz.func372.trans (congrArg some (by kernel_rfl))
 f302:=Tryz.func377.trans (congrArg some (by kernel_rfl))
 f303:=Tryz.func378.trans (congrArg some (by kernel_rfl))
 f304:=Tryz.func379.trans (congrArg some (by kernel_rfl))
 f305:=Tryz.func380.trans (congrArg some (by kernel_rfl))
 f306:=Tryz.func381.trans (congrArg some (by kernel_rfl))
 f307:=Tryz.func382.trans (congrArg some (by kernel_rfl))
 f308:=Tryz.func264.trans (congrArg some (by kernel_rfl))
 f309:=Tryz.func383.trans (congrArg some (by kernel_rfl))
 f310:=Tryz.func384.trans (congrArg some (by kernel_rfl))
 f329:=Tryz.func259.trans (congrArg some (by kernel_rfl))
 f330:=Tryz.func260.trans (congrArg some (by kernel_rfl))
 f333:=Tryz.func386.trans (congrArg some (by kernel_rfl))
 f334:=Tryz.func387.trans (congrArg some (by kernel_rfl))
 f335:=Tryz.func388.trans (congrArg some (by kernel_rfl))
 f336:=Tryz.func312.trans (congrArg some (by kernel_rfl))
 f344:=Tryz.func389.trans (congrArg some (by kernel_rfl))
 t0:=Tryz.underlying0
 a0:=Tryz.isAgg0
 z0:=Tryz.sizeOf0
 v0:=Tryz.zeroValue0
 t3:=Tryz.underlying3
 a3:=Tryz.isAgg3
 z3:=Tryz.sizeOf3
 v3:=Tryz.zeroValue3
 t4:=Tryz.underlying4
 a4:=Tryz.isAgg4
 z4:=Tryz.sizeOf4
 v4:=Tryz.zeroValue4
 t5:=Tryz.underlying5
 a5:=Tryz.isAgg5
 z5:=Tryz.sizeOf5
 v5:=Tryz.zeroValue5
 t9:=Tryz.underlying9
 a9:=Tryz.isAgg9
 z9:=Tryz.sizeOf9
 v9:=Tryz.zeroValue9
 t31:=Tryz.underlying51
 a31:=Tryz.isAgg51
 z31:=Tryz.sizeOf51
 v31:=Tryz.zeroValue51
 t46:=Tryz.underlying157
 a46:=Tryz.isAgg157
 z46:=Tryz.sizeOf157
 v46:=Tryz.zeroValue157
 t51:=Tryz.underlying240
 a51:=Tryz.isAgg240
 z51:=Tryz.sizeOf240
 v51:=Tryz.zeroValue240
 t53:=Tryz.underlying242
 a53:=Tryz.isAgg242
 z53:=Tryz.sizeOf242
 v53:=Tryz.zeroValue242
 t131:=Tryz.underlying66
 a131:=Tryz.isAgg66
 z131:=Tryz.sizeOf66
 v131:=Tryz.zeroValue66
 t182:=Tryz.underlying233
 a182:=Tryz.isAgg233
 z182:=Tryz.sizeOf233
 v182:=Tryz.zeroValue233
 t183:=Tryz.underlying234
 a183:=Tryz.isAgg234
 z183:=Tryz.sizeOf234
 v183:=Tryz.zeroValue234
 t218:=Tryz.underlying283
 a218:=Tryz.isAgg283
 z218:=Tryz.sizeOf283
 v218:=Tryz.zeroValue283
 t222:=Tryz.underlying287
 a222:=Tryz.isAgg287
 z222:=Tryz.sizeOf287
 v222:=Tryz.zeroValue287
 t228:=Tryz.underlying319
 a228:=Tryz.isAgg319
 z228:=Tryz.sizeOf319
 v228:=Tryz.zeroValue319
 t229:=Tryz.underlying320
 a229:=Tryz.isAgg320
 z229:=Tryz.sizeOf320
 v229:=Tryz.zeroValue320 }
theorem Tryz.bits_Len (x:Int) (w:World) (h0:0≤x) (h1:x≤18446744073709551615) :
  Calls Tryz.prog 124 #[.int .u64 x] w fun e w'=>e=.returned (.int .i64 (Lib.bitLen x.toNat))∧w'=w:=Any.bits_Len Tryz.lays125 x w h0 h1
theorem Tryz.slices_Sort_string_none (p:Option Addr) (cap:Nat) (w:World) :
  Calls Tryz.prog 357 #[.slice p 0 cap] w fun e w'=>e=.returned (.tuple #[])∧w'=w:=Any.slices_Sort_string_none Tryz.lays190 p cap w
end Go.Proofs
namespace Go.Dr
open Go.Proofs
theorem p_bitsLen {S:SHeap} (x:Int) (h0:0≤x) (h1:x≤18446744073709551615):FnV Tryz.prog 124 #[.int .u64 x] S (.int .i64 (Lib.bitLen x.toNat)):=by
 intro w hg _ _ _
 refine (Tryz.bits_Len x w h0 h1).mono ?_
 rintro e w' ⟨rfl,rfl⟩
 exact ⟨_,S,[],rfl,Wd.start0 hg,rfl,rfl⟩
theorem p_Sort0 {S:SHeap} (p:Option Addr) (c:Nat):FnV Tryz.prog 357 #[.slice p 0 c] S (.tuple #[]):=by
 intro w hg _ _ _
 refine (Tryz.slices_Sort_string_none p c w).mono ?_
 rintro e w' ⟨rfl,rfl⟩
 exact ⟨_,S,[],rfl,Wd.start0 hg,rfl,rfl⟩
end Go.Dr
namespace Go.Dr
open Go.Proofs
set_option maxRecDepth 20000
set_option maxHeartbeats 2000000
set_option linter.unusedSimpArgs false
set_option linter.unusedVariables false
def srt (xs:List ByteArray) (i:Nat):Prop:=∀ k x y,k+1≤i→xs[k]?=some x→xs[k+1]?=some y→ltS y x=false
def insI (xs:List ByteArray) (i j:Nat):Prop:=
 j≤i∧(∀ k x y,k+1≤i→k+1≠j→xs[k]?=some x→xs[k+1]?=some y→ltS y x=false)∧(∀ x y,1≤j→j < i→xs[j - 1]?=some x→xs[j+1]?=some y→ltS y x=false)
theorem ltS_asymm {x y:ByteArray} (h:ltS y x=true):ltS x y=false:=by
 rw [ltS_total] at h
 simp only [Bool.and_eq_true,Bool.not_eq_true'] at h
 exact h.1
theorem insI_start {xs:List ByteArray} {i:Nat} (h:srt xs i):insI xs (i+1) (i+1):=
 ⟨Nat.le_refl _,fun k x y hk hne hx hy=>h k x y (by omega) hx hy,fun x y _ h2=>by omega⟩
theorem insI_zero {xs:List ByteArray} {i:Nat} (h:insI xs i 0):srt xs i:=fun k x y hk hx hy=>h.2.1 k x y hk (by omega) hx hy
theorem insI_stop {xs:List ByteArray} {i j:Nat} {x y:ByteArray} (h:insI xs i j) (hj:1≤j) (hx:xs[j - 1]?=some x) (hy:xs[j]?=some y) (hlt:ltS y x=false):srt xs i:=by
 intro k u v hk hu hv
 by_cases a:k+1=j
 ·rw [show k=j - 1 by omega] at hu
  rw [a] at hv
  rw [hx] at hu;rw [hy] at hv
  cases hu;cases hv
  exact hlt
 ·exact h.2.1 k u v hk a hu hv
theorem insI_swap {xs:List ByteArray} {i j:Nat} {x y:ByteArray} (h:insI xs i j) (hj:1≤j) (hx:xs[j - 1]?=some x) (hy:xs[j]?=some y) (hlt:ltS y x=true):insI ((xs.set j x).set (j - 1) y) i (j - 1):=by
 obtain ⟨h0,h1,h2⟩:=h
 have hjl:j < xs.length:=(List.getElem?_eq_some_iff.1 hy).1
 have g:∀ k,((xs.set j x).set (j - 1) y)[k]?=if k=j - 1 then some y else if k=j then some x else xs[k]?:=by
  intro k
  rw [List.getElem?_set,List.getElem?_set,List.length_set]
  by_cases a:j - 1=k
  ·rw [if_pos a,if_pos (by omega),if_pos a.symm]
  ·rw [if_neg a,if_neg (Ne.symm a)]
   by_cases b:j=k
   ·rw [if_pos b,if_pos (by omega),if_pos b.symm]
   ·rw [if_neg b,if_neg (Ne.symm b)]
 refine ⟨by omega,?_,?_⟩
 ·intro k u v hk hne hu hv
  rw [g] at hu hv
  by_cases a:k=j - 1
  ·rw [if_pos a] at hu
   rw [if_neg (by omega),if_pos (by omega)] at hv
   cases hu;cases hv
   exact ltS_asymm hlt
  ·rw [if_neg a] at hu
   by_cases b:k=j
   ·rw [if_pos b] at hu
    rw [if_neg (by omega),if_neg (by omega)] at hv
    cases hu
    exact h2 _ v hj (by omega) hx (by rw [← b];exact hv)
   ·rw [if_neg b] at hu
    rw [if_neg (by omega),if_neg (by omega)] at hv
    exact h1 k u v hk (by omega) hu hv
 ·intro u v h3 h4 hu hv
  rw [g] at hu hv
  rw [if_neg (by omega),if_neg (by omega)] at hu
  rw [if_neg (by omega),if_pos (by omega)] at hv
  cases hv
  exact h1 (j - 1 - 1) u _ (by omega) (by omega) hu (by rw [show j - 1 - 1+1=j - 1 by omega];exact hx)
theorem swap_perm {xs:List ByteArray} {j:Nat} {x y:ByteArray} (hj:1≤j) (hx:xs[j - 1]?=some x) (hy:xs[j]?=some y):((xs.set j x).set (j - 1) y).Perm xs:=by
 obtain ⟨A,B,rfl,hA⟩:∃ A B,xs=A++x::y::B∧A.length=j - 1:=by
  refine ⟨xs.take (j - 1),xs.drop (j+1),?_,?_⟩
  ·obtain ⟨h1,e1⟩:=List.getElem?_eq_some_iff.1 hx
   obtain ⟨h2,e2⟩:=List.getElem?_eq_some_iff.1 hy
   have d1:=List.drop_eq_getElem_cons h1
   have d2:=List.drop_eq_getElem_cons h2
   rw [show j - 1+1=j by omega,d2,e1,e2] at d1
   rw [← d1,List.take_append_drop]
  ·have:=(List.getElem?_eq_some_iff.1 hx).1
   simp;omega
 have e:((A++x::y::B).set j x).set (j - 1) y=A++y::x::B:=by
  rw [List.set_append_right _ _ (by omega),show j - A.length=1 by omega,List.set_append_right _ _ (by omega),show j - 1 - A.length=0 by omega]
  rfl
 rw [e]
 exact List.Perm.append_left _ (List.Perm.swap _ _ _)
theorem JX.blkNew {C:Cx} {x:Exit} {Q:Post} {S:SHeap} {M:List MEnt} {e:Env} {b:Nat} {o:Obj} (h0:C.B0=[]) (k:C.w0.heap.size≤b→JX C x Q S (.blk b o::M) e):JX C x Q S (.blk b o::M) e:=⟨fun a w hw=>by
 have:=(hw.wd.out (.blk b o) (by simp) b rfl).2
 rw [h0] at this
 exact (k (this.resolve_right (by simp))).run a w hw⟩
theorem JX.end0r {S S0:SHeap} {M M':List MEnt} {e:Env} {fn:Func} {w0:World} {B0:List Nat} {PP:Value→SHeap→List MEnt→Prop} {P:Program} {r:Option Nat} {N:Nat} (hr:fn.results=#[]) (hM:M'.Sublist M) (hp:PP (.tuple #[]) S M') :
  JX ⟨P,r,N,[],w0,B0,S0⟩ .ret (bodyPost P fn (EndPost w0 B0 S0 PP)) S M e:=⟨fun a w hw=>(JX.end0 hr hM hp).run a w hw⟩
theorem s377_L7m {P K:Prop} (k:K) (h:Goal K→P:=by
 intro zk
 (first|refine Walk ?_|refine JC.block ?_|refine JC.drawN 4 rfl [0,1,2,3,4,5,6,7,8,9,10,11,12,13,14] [0,1,2,3,4,5,6,7,8,9,10,11,12,14] Tryz_mixed (by decide +kernel) ?_|refine JC.drawN 6 rfl [0,1,2,3,4,5,6,7,8,9,10,11,12,13,14,15,16,17] [0,1,5,6,7,8,9,10,11,12,13,14,16] Tryz_mixed (by decide +kernel) ?_|(refine JO.eff rfl rfl rfl (JEff.callV rfl (p_Less _ _) rfl ?_);intro zqa zqb))
 (repeat (first|revert zqg|revert zqf|revert zqe|revert zqd|revert zqc|revert zqb|revert zqa))
 exact zk.k):P:=h ⟨k⟩
theorem p_insertionSort {S:SHeap} {b n c:Nat} {vs tl:List Value} {xs:List ByteArray} (hv:allV rStr S vs xs) (hn:n=xs.length) (hb:n≤1000) (hc:n≤c) :
  Fn Tryz.prog 377 #[.slice (some ⟨b,0,none⟩) n c,.int .i64 0,.int .i64 n] S [.blk b (.cells (cellsR vs tl) 9 (0,0))]
   (fun w S' M'=>w=.tuple #[]∧∃ vs' xs',allV rStr S' vs' xs'∧xs'.Perm xs∧srt xs' (n - 1)∧M'=[.blk b (.cells (cellsR vs' tl) 9 (0,0))]):=by
 (refine Fn.enter (args:=[.slice (some ⟨b,0,none⟩) n c,.int .i64 0,.int .i64 n]) Tryz.func377 rfl Tryz.ntmps377 rfl ?_;intro w0)
 repeat (refine s377_L7m ?_;intros)
 refine JC.loopF (σ:=Nat × List Value × List ByteArray) [(0,_),(1,_),(2,_)] (fun q=>[(6,.int .i64 ((q.1:Int)+1))]) (fun q=>[.blk b (.cells (cellsR q.2.1 tl) 9 (0,0))]) (fun Si q=>q.1≤n∧allV rStr Si q.2.1 q.2.2∧q.2.2.Perm xs∧srt q.2.2 q.1) (fun q=>n - q.1) ((0,vs,xs)) (by exact sba) (by exact sba) rfl (⟨Nat.zero_le _,hv.mono (by exact lea),List.Perm.refl _,fun k x y hk=>by omega⟩) ?_;rintro Si ⟨k,vs1,xs1⟩ hli hii;(try dsimp only at hii);dsimp only [List.cons_append,List.nil_append]
 obtain ⟨hk0,hv1,hp1,hs1⟩:=hii
 have hl1:=hp1.length_eq
 repeat (refine s377_L7m ?_;intros)
 refine JC.cond rfl (fun hc0=>?_) (fun hc0=>?_)
 ·have hk':k+1 < n:=by have:=of_decide_eq_true hc0;omega
  repeat (refine s377_L7m ?_;intros)
  refine JC.loopF (σ:=Nat × List Value × List ByteArray) [(0,_),(1,_),(2,_),(6,_)] (fun q=>[(7,.int .i64 (q.1:Int))]) (fun q=>[.blk b (.cells (cellsR q.2.1 tl) 9 (0,0))]) (fun Sj q=>insI q.2.2 (k+1) q.1∧allV rStr Sj q.2.1 q.2.2∧q.2.2.Perm xs) (fun q=>q.1) ((k+1,vs1,xs1)) (by exact sba) (by exact sba) rfl (⟨insI_start hs1,hv1.mono (by exact lea),hp1⟩) ?_;rintro Sj ⟨j,vs2,xs2⟩ hlj hij;(try dsimp only at hij);dsimp only [List.cons_append,List.nil_append]
  obtain ⟨hj1,hv2,hp2⟩:=hij
  have hl2:=hp2.length_eq
  have hj0:=hj1.1
  repeat (refine s377_L7m ?_;intros)
  cases hg:decide ((0:Int) < (j:Int)) with
  | true=>
   have hj':1≤j:=by have:=of_decide_eq_true hg;omega
   obtain ⟨y,hy⟩:∃ y,xs2[j]?=some y:=⟨_,List.getElem?_eq_getElem (by omega)⟩
   obtain ⟨x,hx⟩:∃ x,xs2[j - 1]?=some x:=⟨_,List.getElem?_eq_getElem (by omega)⟩
   refine JO.guard rfl rfl rfl rfl (fun _=>?_) (fun g=>Bool.noConfusion (g.symm.trans rfl))
   repeat (refine s377_L7m ?_;intros)
   refine JO.pure rfl rfl rfl (JPure.indexRR rStr rfl rfl rfl (by omega) (by omega) ?_)
   refine JO.pure rfl rfl rfl (JPure.loadRT (j:=j) rfl (by show 0+((j:Int)).toNat*1=j;omega) (by (first|exact List.mem_cons_self|exact List.mem_cons_of_mem _ List.mem_cons_self|exact List.mem_cons_of_mem _ (List.mem_cons_of_mem _ List.mem_cons_self))) (hv2.mono (by exact lea)) hy (.inl rfl) rfl ?_);intro hys
   repeat (refine s377_L7m ?_;intros)
   refine JO.pure rfl rfl rfl (JPure.indexRR rStr rfl rfl rfl (by omega) (by omega) ?_)
   refine JO.pure rfl rfl rfl (JPure.loadRT (j:=j - 1) rfl (by show 0+((j:Int) - 1).toNat*1=j - 1;omega) (by (first|exact List.mem_cons_self|exact List.mem_cons_of_mem _ List.mem_cons_self|exact List.mem_cons_of_mem _ (List.mem_cons_of_mem _ List.mem_cons_self))) (hv2.mono (by exact lea)) hx (.inl rfl) rfl ?_);intro hxs
   repeat (refine s377_L7m ?_;intros)
   cases hlt:ltS y x with
   | true=>
    repeat (refine s377_L7m ?_;intros)
    refine JO.pure rfl rfl rfl (JPure.indexRR rStr rfl rfl rfl (by omega) (by omega) ?_)
    refine JO.pure rfl rfl rfl (JPure.loadRT (j:=j - 1) rfl (by show 0+((j:Int) - 1).toNat*1=j - 1;omega) (by (first|exact List.mem_cons_self|exact List.mem_cons_of_mem _ List.mem_cons_self|exact List.mem_cons_of_mem _ (List.mem_cons_of_mem _ List.mem_cons_self))) (hv2.mono (by exact lea)) hx (.inl rfl) rfl ?_);intro hxs3
    repeat (refine s377_L7m ?_;intros)
    refine JO.pure rfl rfl rfl (JPure.indexRR rStr rfl rfl rfl (by omega) (by omega) ?_)
    refine JO.pure rfl rfl rfl (JPure.loadRT (j:=j) rfl (by show 0+((j:Int)).toNat*1=j;omega) (by (first|exact List.mem_cons_self|exact List.mem_cons_of_mem _ List.mem_cons_self|exact List.mem_cons_of_mem _ (List.mem_cons_of_mem _ List.mem_cons_self))) (hv2.mono (by exact lea)) hy (.inl rfl) rfl ?_);intro hys3
    repeat (refine s377_L7m ?_;intros)
    refine JO.pure rfl rfl rfl (JPure.indexRR rStr rfl rfl rfl (by omega) (by omega) ?_)
    repeat (refine s377_L7m ?_;intros)
    refine JO.eff rfl rfl rfl (JEff.storeRO (i:=j) rfl (by show 0+((j:Int)).toNat*1=j*1;omega) rfl (hv2.mono (by exact lea)) (V_str.2 ⟨rfl,hxs⟩) nna (List.Perm.refl _) (by omega) (by intro l hl;cases hl) ?_);intro hv3
    repeat (refine s377_L7m ?_;intros)
    refine JO.pure rfl rfl rfl (JPure.indexRR rStr rfl rfl rfl (by omega) (by omega) ?_)
    refine JO.eff rfl rfl rfl (JEff.storeRO (i:=j - 1) rfl (by show 0+((j:Int) - 1).toNat*1=(j - 1)*1;omega) rfl hv3 (V_str.2 ⟨rfl,hys⟩) nna (List.Perm.refl _) (by rw [List.length_set];omega) (by intro l hl;cases hl) ?_);intro hv4
    repeat (refine s377_L7m ?_;intros)
    exact JX.roundF (j - 1,_,_) (by exact lea) (⟨insI_swap hj1 hj' hx hy hlt,hv4.mono (by exact lea),(swap_perm hj' hx hy).trans hp2⟩) (by (try dsimp only);omega) rfl (by (try dsimp only);rw [show ((j - 1:Nat):Int)=(j:Int) - 1 by omega];exact sba) (by exact sba)
   | false=>
    have hs2:=insI_stop hj1 hj' hx hy hlt
    repeat (refine s377_L7m ?_;intros)
    exact JX.roundF (k+1,vs2,xs2) (by exact lea) (⟨by (try dsimp only);omega,hv2.mono (by exact lea),hp2,hs2⟩) (by (try dsimp only);omega) rfl (by exact sba) (by exact sba)
  | false=>
   have hj':j=0:=by have:=of_decide_eq_false hg;omega
   subst hj'
   have hs2:=insI_zero hj1
   refine JO.guard rfl rfl rfl rfl (fun g=>Bool.noConfusion (g.symm.trans rfl)) (fun _=>?_)
   repeat (refine s377_L7m ?_;intros)
   exact JX.roundF (k+1,vs2,xs2) (by exact lea) (⟨by (try dsimp only);omega,hv2.mono (by exact lea),hp2,hs2⟩) (by (try dsimp only);omega) rfl (by exact sba) (by exact sba)
 ·have hk':n≤k+1:=by have:=of_decide_eq_false hc0;omega
  repeat (refine s377_L7m ?_;intros)
  refine JX.end0 Tryz.results377 (List.Sublist.refl _) ?_
  exact ⟨rfl,vs1,xs1,hv1.mono (by exact lea),hp1,fun j x y hj hx hy=>hs1 j x y (by omega) hx hy,rfl⟩
theorem s372_L7m {P K:Prop} (k:K) (h:Goal K→P:=by
 intro zk
 (first|refine Walk ?_|refine JC.block ?_|refine JC.drawN 17 rfl [0,1,2,3,4,5,6,7,8,9,10,11,12,13,14] [0,1,2,3,4,5,6,7,8,9,10,11,13,14] Tryz_mixed (by decide +kernel) ?_|(refine JO.eff rfl rfl rfl (JEff.callV rfl (p_Less _ _) rfl ?_);intro zqa zqb))
 (repeat (first|revert zqg|revert zqf|revert zqe|revert zqd|revert zqc|revert zqb|revert zqa))
 exact zk.k):P:=h ⟨k⟩
theorem p_pdqsort {S:SHeap} {b n c:Nat} {vs tl:List Value} {xs:List ByteArray} (lim:Int) (hv:allV rStr S vs xs) (hn:n=xs.length) (hb:n≤12) (hc:n≤c) :
  Fn Tryz.prog 372 #[.slice (some ⟨b,0,none⟩) n c,.int .i64 0,.int .i64 n,.int .i64 lim] S [.blk b (.cells (cellsR vs tl) 9 (0,0))]
   (fun w S' M'=>w=.tuple #[]∧∃ vs' xs',allV rStr S' vs' xs'∧xs'.Perm xs∧srt xs' (n - 1)∧M'=[.blk b (.cells (cellsR vs' tl) 9 (0,0))]):=by
 (refine Fn.enter (args:=[.slice (some ⟨b,0,none⟩) n c,.int .i64 0,.int .i64 n,.int .i64 lim]) Tryz.func372 rfl Tryz.ntmps372 rfl ?_;intro w0)
 repeat (refine s372_L7m ?_;intros)
 refine JC.loopF (σ:=Unit) [(0,_)] (fun q=>[(1,.int .i64 0),(2,.int .i64 n),(3,.int .i64 lim),(8,.bool true),(9,.bool true)]) (fun q=>[.blk b (.cells (cellsR vs tl) 9 (0,0))]) (fun Sz q=>True) (fun q=>0) (()) (by exact sba) (by exact sba) rfl (trivial) ?_;rintro Sz z hlz hiz;(try dsimp only at hiz);dsimp only [List.cons_append,List.nil_append]
 repeat (refine s372_L7m ?_;intros)
 have h12:decide ((n:Int) - 0≤12)=true:=by simp;omega
 refine JC.cond rfl (fun hc0=>?_) (fun hc0=>?_)
 ·repeat (refine s372_L7m ?_;intros)
  refine JO.eff rfl rfl rfl (JEff.fn (Mc:=[_]) (Mr:=[]) (sem_call rfl _ _ _ _ _) rfl rfl rfl (List.Perm.refl _) (by intro l hl;cases hl) (p_insertionSort (hv.mono (by exact lea)) hn (by omega) hc) ?_);rintro v S' M' hl ⟨rfl,vs',xs',hv',hp',hs',rfl⟩
  repeat (refine s372_L7m ?_;intros)
  refine JX.end0r Tryz.results372 (List.Sublist.refl _) ?_
  exact ⟨rfl,vs',xs',hv',hp',hs',rfl⟩
 ·rw [h12] at hc0;cases hc0
theorem s357_L7m {P K:Prop} (k:K) (h:Goal K→P:=by
 intro zk
 (first|refine Walk ?_|refine JC.block ?_|(refine JO.eff rfl rfl rfl (JEff.callV rfl (p_bitsLen _ (by omega) (by omega)) rfl ?_);intro zqa zqb))
 (repeat (first|revert zqg|revert zqf|revert zqe|revert zqd|revert zqc|revert zqb|revert zqa))
 exact zk.k):P:=h ⟨k⟩
theorem p_Sort {S:SHeap} {b n c:Nat} {vs tl:List Value} {xs:List ByteArray} (hv:allV rStr S vs xs) (hn:n=xs.length) (hb:n≤12) (hc:n≤c) :
  Fn Tryz.prog 357 #[.slice (some ⟨b,0,none⟩) n c] S [.blk b (.cells (cellsR vs tl) 9 (0,0))]
   (fun w S' M'=>w=.tuple #[]∧∃ vs' xs',allV rStr S' vs' xs'∧xs'.Perm xs∧srt xs' (n - 1)∧M'=[.blk b (.cells (cellsR vs' tl) 9 (0,0))]):=by
 (refine Fn.enter (args:=[.slice (some ⟨b,0,none⟩) n c]) Tryz.func357 rfl Tryz.ntmps357 rfl ?_;intro w0)
 repeat (refine s357_L7m ?_;intros)
 have hw64:IntKind.u64.wrap (n:Int)=(n:Int):=by simp [IntKind.wrap,IntKind.bits,IntKind.signed];omega
 refine JO.pure rfl rfl rfl (JPure.conv rfl hw64 rfl ?_)
 repeat (refine s357_L7m ?_;intros)
 refine JO.eff rfl rfl rfl (JEff.fn (Mc:=[_]) (Mr:=[]) (sem_call rfl _ _ _ _ _) rfl rfl rfl (List.Perm.refl _) (by intro l hl;cases hl) (p_pdqsort _ (hv.mono (by exact lea)) hn hb hc) ?_);rintro v S' M' hl ⟨rfl,vs',xs',hv',hp',hs',rfl⟩
 repeat (refine s357_L7m ?_;intros)
 refine JX.end0 Tryz.results357 (List.Sublist.refl _) ?_
 exact ⟨rfl,vs',xs',hv',hp',hs',rfl⟩
theorem p_Sorted {S:SHeap} {gf:FuncId} {lb:Array Value} {Sx:List ByteArray→Prop} (hE:Ent Tryz.prog gf) (hit:IterS Tryz.prog gf lb rStr S Sx) (hlen:∀ xs,Sx xs→xs.length≤12) :
  FnR Tryz.prog 321 #[.func (.func gf) #[] lb] S (fun w S'=>∃ xs xs',Sx xs∧xs'.Perm xs∧srt xs' (xs.length - 1)∧(rSlice 16 rStr).V S' w xs'):=by
 (refine Fn.enter (args:=[.func (.func gf) #[] lb]) Tryz.func321 rfl Tryz.ntmps321 rfl ?_;intro w0)
 repeat (first|(refine Walk ?_;intros)|refine JC.block ?_)
 refine JO.eff rfl rfl rfl (JEff.fn (Mc:=[]) (Mr:=[]) (sem_call rfl _ _ _ _ _) rfl rfl rfl (List.Perm.refl _) (by intro l hl m hm;cases hm) (p_Collect hE hit (fun xs h=>by have:=hlen xs h;omega)) ?_);rintro v S1 M1 hl ⟨xs,a,c,vs,hxs,rfl,hvs,rfl⟩
 have hxl:=hlen xs hxs
 rw [List.append_nil]
 repeat (first|(refine Walk ?_;intros)|refine JC.block ?_)
 rcases Nat.eq_zero_or_pos xs.length with h0|h0
 ·have hx0:xs=[]:=List.length_eq_zero_iff.1 h0
  subst hx0
  refine JO.eff rfl rfl rfl (JEff.callV rfl (p_Sort0 _ _) rfl ?_);intro _ _
  repeat (first|(refine Walk ?_;intros)|refine JC.block ?_)
  refine JX.ret1 Tryz.results321 (ResV.tmp rfl) (List.nil_sublist _) ?_
  exact ⟨rfl,[],[],hxs,List.Perm.refl _,fun k x y _ hx _=>(by cases hx),V_slice.2 ⟨a,c,rfl,by simp,by simp,by simp,by simp⟩⟩
 ·refine JO.rowBlkB h0 (fun b tl hab hnc hsz=>?_)
  subst hab
  refine JO.eff rfl rfl rfl (JEff.fn (Mc:=[_]) (Mr:=[]) (sem_call rfl _ _ _ _ _) rfl rfl rfl (List.Perm.refl _) (by intro l hl;cases hl) (p_Sort (hvs.mono (by exact lea)) rfl hxl hnc) ?_);rintro v S2 M2 hl2 ⟨rfl,vs',xs',hv',hp',hs',rfl⟩
  rw [List.append_nil]
  repeat (first|(refine Walk ?_;intros)|refine JC.block ?_)
  refine JX.blkNew rfl (fun hb=>?_)
  refine JX.freezeR (bt:=16) hv' hp'.length_eq.symm hnc (by unfold big;omega) (by unfold big;omega) hb (fun S3 hl3 hV3=>?_)
  refine JX.ret1 Tryz.results321 (ResV.tmp rfl) (List.nil_sublist _) ?_
  exact ⟨rfl,xs,xs',hxs,hp',hs',hV3⟩
end Go.Dr
namespace Go.Dr
open Go.Proofs
set_option maxRecDepth 20000
set_option maxHeartbeats 1000000
set_option linter.unusedSimpArgs false
set_option linter.unusedVariables false
def ownedK (s:Snap) (p:List Int) (o:Nat) (k:Nat):List Int:=(((p.zip s.pods).take k).filter (fun x=>decide (0≤x.1)&&decide (x.2.owner=ownName s o))).map (fun x=>x.1)
theorem ownedK_all {s:Snap} {p:List Int} {o:Nat} (h:p.length=s.pods.length):ownedK s p o p.length=ownedL s p o:=by
 unfold ownedK ownedL
 rw [List.take_of_length_le (by simp [h])]
theorem ownedK_len (s:Snap) (p:List Int) (o k:Nat):(ownedK s p o k).length≤k:=by
 unfold ownedK
 rw [List.length_map]
 exact Nat.le_trans (List.length_filter_le _ _) (by simp;omega)
end Go.Dr
namespace Go.Dr
open Go.Proofs
set_option maxRecDepth 20000
set_option maxHeartbeats 1000000
set_option linter.unusedSimpArgs false
set_option linter.unusedVariables false
end Go.Dr
namespace Go.Dr
open Go.Proofs
set_option maxRecDepth 20000
set_option maxHeartbeats 1000000
set_option linter.unusedSimpArgs false
set_option linter.unusedVariables false
theorem ptr_str {S:SHeap} {p:Addr} {s:ByteArray} (h:PtrTo S p rStr s):s.size≤big:=by
 obtain ⟨cs,h,_⟩:=h;exact h.2
theorem snap_val {S:SHeap} {p:Addr} {s:Snap} (h:PtrTo S p rSnap s) (key:ByteArray):∀ x∈s.nodes,(valB x key).1.size≤big:=by
 intro x hx
 have h1:PtrTo S (p.add 0) (rSlice 112 rNode) s.nodes:=h.part (Fld.h (rep:=rSnap) (off:=0))
 obtain ⟨q,hq⟩:=ptr_slice h1 x hx
 have h2:PtrTo S (q.add 6) (rSlice 32 rLabel) x.labels:=hq.part (Fld.h (rep:=rNode) (off:=6))
 unfold valB getL
 split
 ·exact Nat.zero_le _
 ·split
  ·rename_i l hl
   obtain ⟨q2,hq2⟩:=ptr_slice h2 l (List.mem_of_find?_eq_some hl)
   have h3:PtrTo S (q2.add 1) rStr l.value:=hq2.part (Fld.h (rep:=rLabel) (off:=1))
   exact ptr_str h3
  ·exact Nat.zero_le _
def domK (s:Snap) (key:ByteArray) (i:Nat):List ByteArray:=(s.nodes.take i).foldl (domStep key) []
theorem domK_step {s:Snap} {key:ByteArray} {i:Nat} {n:Node} (h:s.nodes[i]?=some n):domK s key (i+1)=domStep key (domK s key i) n:=by
 unfold domK
 rw [List.take_add_one,h];simp [List.foldl_append]
theorem domIns_len (v:ByteArray) (l:List ByteArray):(domIns v l).length≤l.length+1:=by
 have h:l.length=(l.takeWhile (fun x=>ltS x v)).length+(l.dropWhile (fun x=>ltS x v)).length:=by
  rw [← List.length_append,List.takeWhile_append_dropWhile]
 unfold domIns
 rw [List.length_append,h]
 split
 ·rename_i h1;rw [h1];simp
 ·rename_i h1;rw [h1];split<;>simp<;>omega
theorem domK_len (s:Snap) (key:ByteArray):∀ i,(domK s key i).length≤i
 | 0=>by simp [domK]
 | i+1=>by
  have ih:=domK_len s key i
  cases h:s.nodes[i]? with
  | none=>
   have:domK s key (i+1)=domK s key i:=by
    unfold domK
    rw [List.take_add_one,h];simp
   rw [this];omega
  | some n=>
   rw [domK_step h,domStep]
   split
   ·have:=domIns_len (valB n key).1 (domK s key i);omega
   ·omega
end Go.Dr
namespace Go.Dr
open Go.Proofs
set_option maxRecDepth 20000
set_option maxHeartbeats 2000000
set_option linter.unusedSimpArgs false
set_option linter.unusedVariables false
def oneV (v:ByteArray):ByteArray × Value:=(v,.int .i64 1)
theorem set_same {l:List ByteArray} {j:Nat} {p:ByteArray × Value} {v:ByteArray} (h:(l.map oneV)[j]?=some p) (hv:p.1=v):(l.map oneV).set j (v,.int .i64 1)=l.map oneV:=by
 rw [List.getElem?_map] at h
 cases hl:l[j]? with
 | none=>rw [hl] at h;cases h
 | some x=>
  rw [hl] at h
  cases h
  have hx:x=v:=hv
  subst hx
  apply List.ext_getElem?
  intro i
  rw [List.getElem?_set]
  by_cases hij:j=i
  ·subst hij
   have:=(List.getElem?_eq_some_iff.1 hl).1
   rw [if_pos rfl,if_pos (by simpa using this),List.getElem?_map,hl];rfl
  ·simp [hij]
theorem dk_big {key:ByteArray}:∀ (l:List Node) (b:List ByteArray),(∀ v∈b,v.size≤big)→(∀ x∈l,(valB x key).1.size≤big)→∀ v∈l.foldl (dkStep key) b,v.size≤big
 | [],_,h,_=>h
 | n::l,b,h,hl=>by
  simp only [List.foldl_cons]
  refine dk_big l _ ?_ (fun x hx=>hl x (by simp [hx]))
  unfold dkStep
  split
  ·split
   ·exact h
   ·intro v hv
    rcases List.mem_append.1 hv with hv|hv
    ·exact h v hv
    ·simp at hv;subst hv;exact hl n (by simp)
  ·exact h
theorem keys_one (l:List ByteArray):(l.map oneV).map Prod.fst=l:=by
 rw [List.map_map]
 exact (List.map_congr_left (fun x _=>rfl)).trans (List.map_id' l)
theorem s288_L7n {P K:Prop} (k:K) (h:Goal K→P:=by
 intro zk
 (first|refine Walk ?_|refine JC.block ?_|(refine JO.eff rfl rfl rfl (JEff.callV rfl (p5_Check (by exact vta)) rfl ?_);intro zqa zqb)|(refine JO.eff rfl rfl rfl (JEff.callV rfl (p7_value _ (by assumption) (by exact vta)) rfl ?_);intro zqa zqb)|(refine WBox ?_)|(refine WNew ?_)|(refine WPut ?_))
 (repeat (first|revert zqg|revert zqf|revert zqe|revert zqd|revert zqc|revert zqb|revert zqa))
 exact zk.k):P:=h ⟨k⟩
theorem p7_Domains {S:SHeap} {u:Value} {s:Snap} (key:ByteArray) (hk:key.size≤big) (hu:rSnap.V S u s):FnL Tryz.prog 288 #[u,.string key] S 16 rStr (if z0 (checkS s) then domL s key else []):=by
 (refine Fn.enter (args:=[u,.string key]) Tryz.func288 rfl Tryz.ntmps288 rfl ?_;intro w0)
 repeat (refine s288_L7n ?_;intros)
 cases h1:decide (checkS s=0) with
 | false=>
  repeat (refine s288_L7n ?_;intros)
  (refine JX.ret1 Tryz.results288 (ResV.tmp rfl) (List.nil_sublist _) ?_)
  refine ⟨rfl,?_⟩
  rw [z0,h1]
  exact V_nil
 | true=>
  have hc:checkS s=0:=of_decide_eq_true h1
  obtain ⟨hn,_,_⟩:=shaped_small (checkS_ok hc).1
  have hif:(if z0 (checkS s) then domL s key else [])=domL s key:=by rw [z0,h1];rfl
  rw [hif]
  repeat (refine s288_L7n ?_;intros)
  refine JO.eff rfl rfl rfl (JEff.makeMap rfl ?_);intro bm hbm
  repeat (refine s288_L7n ?_;intros)
  refine JC.loopF [(1,_),(5,_),(15,_),(16,_)] (fun (i:Nat)=>[(17,.int .i64 i)]) (fun i=>[.blk bm (mapObj ((dkL s key i).map oneV))]) (fun Si i=>i≤s.nodes.length∧(True)) (fun i=>s.nodes.length - i) 0 (by exact sba) (by exact sba) rfl ⟨Nat.zero_le _,trivial⟩ ?_;intro Si i hli hii;obtain ⟨hi,hii⟩:=hii;(try dsimp only at hi hii);dsimp only [List.cons_append,List.nil_append]
  repeat (refine s288_L7n ?_;intros)
  refine JC.cond rfl (fun hc0=>?_) (fun hc0=>?_)
  ·have hi':=dlt hc0
   obtain ⟨n,hnd,_⟩:=drop_at hi'
   have hst:=dkL_step (key:=key) hnd
   repeat (refine s288_L7n ?_;intros)
   cases hv2:(valB n key).2 with
   | true=>
    repeat (refine s288_L7n ?_;intros)
    refine JO.eff rfl rfl rfl (JEff.mapPut rfl rfl rfl (List.Perm.refl _) (by intro l hl;cases hl) (fun hno=>?_) (fun j p hj hp=>?_))
    ·have e1:(dkL s key i).map oneV++[((valB n key).1,.int .i64 1)]=(dkL s key (i+1)).map oneV:=by
      rw [hst,dkStep,if_pos hv2,if_neg]
      ·simp [oneV]
      ·intro hany
       obtain ⟨w,hw,he⟩:=List.any_eq_true.1 hany
       exact hno (oneV w) (List.mem_map.2 ⟨w,hw,rfl⟩) (of_decide_eq_true he)
     rw [e1]
     repeat (refine s288_L7n ?_;intros)
     exact JX.roundF (i+1) (by exact lea) ⟨by omega,(trivial)⟩ (by (try dsimp only);omega) rfl (by exact sba) (by exact sba)
    ·rw [set_same hj hp]
     have e2:(dkL s key i).map oneV=(dkL s key (i+1)).map oneV:=by
      rw [hst,dkStep,if_pos hv2,if_pos]
      rw [List.getElem?_map] at hj
      cases hl:(dkL s key i)[j]? with
      | none=>rw [hl] at hj;cases hj
      | some x=>
       rw [hl] at hj
       cases hj
       exact List.any_eq_true.2 ⟨x,List.mem_of_getElem? hl,decide_eq_true hp⟩
     rw [e2]
     repeat (refine s288_L7n ?_;intros)
     exact JX.roundF (i+1) (by exact lea) ⟨by omega,(trivial)⟩ (by (try dsimp only);omega) rfl (by exact sba) (by exact sba)
   | false=>
    have e2:(dkL s key i).map oneV=(dkL s key (i+1)).map oneV:=by
     rw [hst,dkStep,if_neg (by rw [hv2];simp)]
    rw [e2]
    repeat (refine s288_L7n ?_;intros)
    exact JX.roundF (i+1) (by exact lea) ⟨by omega,(trivial)⟩ (by (try dsimp only);omega) rfl (by exact sba) (by exact sba)
  ·have hi':=dnlt hc0
   obtain rfl:i=s.nodes.length:=by omega
   have hsz:=snap_val (S:=Si) (PtrTo.mono (by assumption) (by exact lea)) key
   repeat (refine s288_L7n ?_;intros)
   have hkb:∀ p∈(dkL s key s.nodes.length).map oneV,p.1.size≤big:=by
    intro p hp
    obtain ⟨v,hv,rfl⟩:=List.mem_map.1 hp
    have hfull:dkL s key s.nodes.length=s.nodes.foldl (dkStep key) []:=by unfold dkL;rw [List.take_length]
    rw [hfull] at hv
    exact dk_big s.nodes [] (by intro v hv;cases hv) hsz v hv
   refine JO.freeze hbm (by intro l hl;cases hl) (fun S2 hl2 hS2=>?_)
   (refine JO.eff rfl rfl rfl (JEff.callR rfl ((p_Keys hS2 hkb)) rfl ?_);intro w3 S3 hl3 hV3)
   obtain ⟨lb,rfl,hit⟩:=hV3
   rw [keys_one] at hit
   repeat (refine s288_L7n ?_;intros)
   (refine JO.eff rfl rfl rfl (JEff.callR rfl ((p_Sorted inferInstance hit (fun xs hp=>by have h1:=hp.length_eq;have h2:=dk_len s key s.nodes.length;omega))) rfl ?_);intro w4 S4 hl4 hV4)
   obtain ⟨xs,xs',hp,hp',hs',hV⟩:=hV4
   have hx:xs'=domL s key:=srt_dom (hp'.trans hp) (by rw [hp'.length_eq];exact hs')
   rw [hx] at hV
   repeat (refine s288_L7n ?_;intros)
   (refine JX.ret1 Tryz.results288 (ResV.tmp rfl) (List.nil_sublist _) ?_)
   exact ⟨rfl,hV⟩
end Go.Dr
namespace Go.Dr
open Go.Proofs
set_option maxRecDepth 20000
set_option maxHeartbeats 2000000
set_option linter.unusedSimpArgs false
set_option linter.unusedVariables false
def domainP (s:Snap) (node:Int) (key:ByteArray):ByteArray × Bool:=
 if z0 (checkS s)&&(decide (0≤node)&&decide (node < s.nodes.length)) then (match s.nodes[node.toNat]? with|some n=>valB n key|none=>(noS,false)) else (noS,false)
theorem s286_L7o {P K:Prop} (k:K) (h:Goal K→P:=by
 intro zk
 (first|refine Walk ?_|refine JC.block ?_|(refine JO.eff rfl rfl rfl (JEff.callV rfl (p5_Check (by exact vta)) rfl ?_);intro zqa zqb)|(refine JO.eff rfl rfl rfl (JEff.callV rfl (p7_there _ _) rfl ?_);intro zqa zqb)|(refine JO.eff rfl rfl rfl (JEff.callV rfl (p7_value _ (by assumption) (by exact vta)) rfl ?_);intro zqa zqb)|(refine WBox ?_))
 (repeat (first|revert zqg|revert zqf|revert zqe|revert zqd|revert zqc|revert zqb|revert zqa))
 exact zk.k):P:=h ⟨k⟩
theorem p7_Domain {S:SHeap} {u:Value} {s:Snap} (node:Int) (key:ByteArray) (hk:key.size≤big) (hu:rSnap.V S u s):FnV Tryz.prog 286 #[u,.int .i64 node,.string key] S (.tuple #[.string (domainP s node key).1,.bool (domainP s node key).2]):=by
 (refine Fn.enter (args:=[u,.int .i64 node,.string key]) Tryz.func286 rfl Tryz.ntmps286 rfl ?_;intro w0)
 repeat (refine s286_L7o ?_;intros)
 cases h1:decide (checkS s=0) with
 | false=>
  refine JO.guard rfl rfl rfl rfl (fun _=>?_) (fun g=>Bool.noConfusion (g.symm.trans rfl))
  repeat (refine s286_L7o ?_;intros)
  (refine JX.ret2 Tryz.results286 (ResV.tmp rfl) (ResV.tmp rfl) (List.nil_sublist _) ?_)
  exact ⟨rfl,by rw [domainP,z0,h1];rfl⟩
 | true=>
  refine JO.guard rfl rfl rfl rfl (fun g=>Bool.noConfusion (g.symm.trans rfl)) (fun _=>?_)
  repeat (refine s286_L7o ?_;intros)
  cases h2:(decide (0≤node)&&decide (node < s.nodes.length)) with
  | false=>
   repeat (refine s286_L7o ?_;intros)
   (refine JX.ret2 Tryz.results286 (ResV.tmp rfl) (ResV.tmp rfl) (List.nil_sublist _) ?_)
   exact ⟨rfl,by rw [domainP,z0,h1,h2];rfl⟩
  | true=>
   have h3:=h2
   simp only [Bool.and_eq_true,decide_eq_true_eq] at h3
   obtain ⟨h4,h5⟩:=h3
   obtain ⟨n,hnd,_⟩:=drop_at (l:=s.nodes) (show node.toNat < s.nodes.length by omega)
   repeat (refine s286_L7o ?_;intros)
   (refine JX.ret2 Tryz.results286 (ResV.tmp rfl) (ResV.tmp rfl) (List.nil_sublist _) ?_)
   exact ⟨rfl,by rw [domainP,z0,h1,h2,hnd];rfl⟩
end Go.Dr
namespace Go.Dr
open Go.Proofs
set_option maxRecDepth 20000
set_option maxHeartbeats 2000000
set_option linter.unusedSimpArgs false
set_option linter.unusedVariables false
def spreadP (s:Snap) (p:List Int) (o:Int):List Int:=if z0 (checkP s p)&&(decide (0≤o)&&decide (o < s.owners.length)) then spreadL s p o.toNat else []
theorem idxS_mem {l:List ByteArray} {v:ByteArray} (h:v∈l):∃ j:Nat,idxS l v=(j:Int)∧l[j]?=some v:=by
 unfold idxS idxF
 cases hf:l.findIdx? (fun x=>decide (x=v)) with
 | none=>
  have:=List.findIdx?_eq_none_iff.1 hf v h
  simp at this
 | some j=>
  obtain ⟨h1,h2,_⟩:=List.findIdx?_eq_some_iff_getElem.1 hf
  refine ⟨j,rfl,?_⟩
  rw [List.getElem?_eq_getElem h1,of_decide_eq_true h2]
theorem s287_L7i {P K:Prop} (k:K) (h:Goal K→P:=by
 intro zk
 (first|refine Walk ?_|refine JC.block ?_|refine JC.drawN 8 rfl [0,1,2,3,4,5,6,7,8,9,10,11] [0,1,2,3,4,5,7,8,9,10,11] Tryz_mixed (by decide +kernel) ?_|refine JC.drawN 10 rfl [0,1,2,3,4,5,6,7,8] [1,2,4,5,6,7] Tryz_mixed (by decide +kernel) ?_|(refine JO.eff rfl rfl rfl (JEff.callV rfl (p_Index_string _ (by exact vta)) rfl ?_);intro zqa zqb)|(refine JO.eff rfl rfl rfl (JEff.callL rfl (p7_Domains _ (by assumption) (by exact vta)) rfl ?_);intro zqa zqb zqc zqd zqe zqf)|(refine JO.eff rfl rfl rfl (JEff.callV rfl (p7_value _ (by assumption) (by exact vta)) rfl ?_);intro zqa zqb)|(refine JO.eff rfl rfl rfl (JEff.callV rfl (p7_asked _ (by exact vta) (by exact vta)) rfl ?_);intro zqa zqb)|(refine WBox ?_)|(refine WNew ?_)|(refine WPut ?_))
 (repeat (first|revert zqg|revert zqf|revert zqe|revert zqd|revert zqc|revert zqb|revert zqa))
 exact zk.k):P:=h ⟨k⟩
theorem p7_Spread {S:SHeap} {u v:Value} {s:Snap} {p:List Int} (o:Int) (hu:rSnap.V S u s) (hv:(rSlice 8 rI64).V S v p) :
  FnL Tryz.prog 287 #[u,v,.int .i64 o] S 8 rI64 (spreadP s p o):=by
 haveI:TyR Tryz.prog 27 rVal:=⟨(inferInstance:TyR Tryz.prog 27 (rSlice 8 rI64)).b⟩
 obtain ⟨a,c,rfl,_⟩:=V_slice.1 hv
 (refine Fn.enterM (args:=[u,.slice a p.length c,.int .i64 o]) Tryz.func287 rfl Tryz.ntmps287 rfl ?_;intro w0)
 repeat (refine s287_L7i ?_;intros)
 cases hc:(z0 (checkP s p)&&(decide (0≤o)&&decide (o < s.owners.length))) with
 | false=>
  repeat (refine s287_L7i ?_;intros)
  refine JX.retM0 Tryz.results287 (ResV.tmp rfl) (List.nil_sublist _) ?_
  refine ⟨rfl,?_⟩
  rw [spreadP,hc]
  exact V_nil
 | true=>
  have hol:=owned_len s p o.toNat
  have hsp:spreadP s p o=spreadL s p o.toNat:=by rw [spreadP,hc];rfl
  rw [hsp]
  simp only [Bool.and_eq_true,decide_eq_true_eq] at hc
  obtain ⟨c1,c2,c3⟩:=hc
  obtain ⟨o,rfl⟩:=Int.eq_ofNat_of_zero_le c2
  rw [Int.toNat_natCast] at hol ⊢
  obtain ⟨h1,h2,h3,h4,h5,h6,h7⟩:=placed_hyps (s:=s) (p:=p) (by simpa [z0] using c1)
  obtain ⟨ow,how,_⟩:=drop_at (l:=s.owners) (show o < s.owners.length by omega)
  have htp:topoOf s o=ow.topo:=by rw [topoOf,how]
  repeat (refine s287_L7i ?_;intros)
  have hif:(if z0 (checkS s)=true then domL s ow.topo else [])=domL s ow.topo:=by rw [h1];rfl
  have hdl:=domK_len s ow.topo s.nodes.length
  have hdf:domK s ow.topo s.nodes.length=domL s ow.topo:=by unfold domK domL;rw [List.take_length]
  rw [hdf] at hdl
  generalize (if z0 (checkS s)=true then domL s ow.topo else [])=D at *
  subst hif
  refine JO.eff rfl rfl rfl (JEff.makeInts (n:=(domL s ow.topo).length) rfl rfl (by unfold big;omega) rfl ?_);intro bo hbo
  repeat (refine s287_L7i ?_;intros)
  (refine JO.eff rfl rfl rfl (JEff.callR rfl ((p7_owned o (by exact vta) (by exact vta) (by omega) (by omega) h2 (by omega) h7)) rfl ?_);intro w S2 hl2 hV)
  obtain ⟨lb,rfl,hit⟩:=hV
  repeat (refine s287_L7i ?_;intros)
  have hz:(domL s ow.topo).map (spCnt s ow.topo ((ownedL s p o).take 0))=List.replicate (domL s ow.topo).length 0:=by
   rw [List.take_zero,← List.map_const']
   apply List.map_congr_left
   intro v _
   simp [spCnt]
  have hown:∀ x∈ownedL s p o,0≤x∧x < s.nodes.length:=by
   intro x hx
   unfold ownedL at hx
   obtain ⟨z,hz,rfl⟩:=List.mem_map.1 hx
   rw [List.mem_filter] at hz
   simp only [Bool.and_eq_true,decide_eq_true_eq] at hz
   have:=h6 z.1 (List.of_mem_zip hz.1).1
   exact ⟨hz.2.1,this.2⟩
  refine JC.rangeFunc (rep:=rI64) (xs:=ownedL s p o) (fun k S' M'=>M'=[.blk bo (.cells (ints ((domL s ow.topo).map (spCnt s ow.topo ((ownedL s p o).take k)))) 3 (0,0))]) rfl rfl inferInstance rfl hit (by rw [hz]) ?_ ?_
  ·rintro w1 B1 K L Rc k y v S' M' hR hp hl hy hv rfl
   obtain ⟨rfl,hyr⟩:=V_i64.1 hv
   obtain ⟨y0,y1⟩:=hown y (List.mem_of_getElem? hy)
   obtain ⟨n,hn,_⟩:=drop_at (l:=s.nodes) (show y.toNat < s.nodes.length by omega)
   repeat (refine s287_L7i ?_;intros)
   refine JX.begin rfl hR ?_
   repeat (refine s287_L7i ?_;intros)
   have hkl:=(List.getElem?_eq_some_iff.1 hy).1
   cases hv2:(valB n ow.topo).2 with
   | true=>
    obtain ⟨j,hj,hjd⟩:=idxS_mem (dom_has ow.topo s.nodes [] (valB n ow.topo).1 (.inr ⟨n,List.mem_of_getElem? hn,hv2,rfl⟩))
    have hjd:(domL s ow.topo)[j]?=some (valB n ow.topo).1:=hjd
    have hj:idxS (domL s ow.topo) (valB n ow.topo).1=(j:Int):=hj
    have hjl:=(List.getElem?_eq_some_iff.1 hjd).1
    have hset:((domL s ow.topo).map (spCnt s ow.topo ((ownedL s p o).take k))).set j (spCnt s ow.topo ((ownedL s p o).take k) (valB n ow.topo).1+1)=(domL s ow.topo).map (spCnt s ow.topo ((ownedL s p o).take (k+1))):=by
     rw [← map_set1 (D:=domL s ow.topo) _ (show pwS (domL s ow.topo) from dom_pw ow.topo s.nodes [] List.Pairwise.nil) hjd]
     apply List.map_congr_left
     intro d _
     rw [spCnt_step hy,inDom,hn]
     simp [hv2,eq_comm]
    have hcn:0≤spCnt s ow.topo ((ownedL s p o).take k) (valB n ow.topo).1∧spCnt s ow.topo ((ownedL s p o).take k) (valB n ow.topo).1≤1000:=by
     unfold spCnt
     have e1:=List.length_filter_le (fun x=>inDom s ow.topo (valB n ow.topo).1 x.toNat) ((ownedL s p o).take k)
     rw [List.length_take] at e1
     omega
    have hxj:((domL s ow.topo).map (spCnt s ow.topo ((ownedL s p o).take k)))[j]?=some (spCnt s ow.topo ((ownedL s p o).take k) (valB n ow.topo).1):=by rw [List.getElem?_map,hjd];rfl
    repeat (refine s287_L7i ?_;intros)
    rw [hj]
    repeat (refine s287_L7i ?_;intros)
    refine JO.pure rfl rfl rfl (JPure.indexRI rfl rfl rfl (by omega) (by omega) ?_)
    refine JO.pure rfl rfl rfl (JPure.loadMI (off:=j) rfl (by (first|exact List.mem_cons_self|exact List.mem_cons_of_mem _ List.mem_cons_self|exact List.mem_cons_of_mem _ (List.mem_cons_of_mem _ List.mem_cons_self))) hxj (by unfold Rng;omega) (.inl rfl) rfl ?_)
    repeat (refine s287_L7i ?_;intros)
    refine JO.pure rfl rfl rfl (JPure.indexRI rfl rfl rfl (by omega) (by omega) ?_)
    refine JO.eff rfl rfl rfl (JEff.storeI (i:=j) (Mr:=[.blk L (.loop { Rc with state:=.busy }),.blk K (.deferred (some []))]) rfl rfl (by unfold Rng;omega) (List.perm_append_comm (l₁:=[_]) (l₂:=[_,_])) (by rw [List.length_map];exact hjl) (by intro l hl;cases hl) ?_)
    rw [hset]
    repeat (refine s287_L7i ?_;intros)
    refine JX.endRound hR hp (List.perm_append_comm (l₁:=[_,_]) (l₂:=[_])) ?_
    rfl
   | false=>
    have hset:(domL s ow.topo).map (spCnt s ow.topo ((ownedL s p o).take k))=(domL s ow.topo).map (spCnt s ow.topo ((ownedL s p o).take (k+1))):=by
     apply List.map_congr_left
     intro d _
     rw [spCnt_step hy,inDom,hn]
     simp [hv2]
    rw [hset]
    repeat (refine s287_L7i ?_;intros)
    refine JX.endRound hR hp (List.Perm.refl _) ?_
    rfl
  ·rintro K S' M' hl rfl
   have hfin:(domL s ow.topo).map (spCnt s ow.topo ((ownedL s p o).take (ownedL s p o).length))=spreadL s p o:=by
    rw [List.take_length,spread_cnt hown,htp]
   rw [hfin]
   have hln:(spreadL s p o).length=(domL s ow.topo).length:=by rw [← hfin,List.length_map]
   repeat (refine s287_L7i ?_;intros)
   have hrg:∀ x∈spreadL s p o,Rng x:=by
    intro x hx
    rw [← hfin,List.take_length] at hx
    obtain ⟨d,_,rfl⟩:=List.mem_map.1 hx
    have e1:=List.length_filter_le (fun x=>inDom s ow.topo d x.toNat) (ownedL s p o)
    unfold spCnt Rng
    omega
   refine JX.perm (List.Perm.swap _ _ _) ?_
   refine JX.freezeInts hln.symm (Nat.le_refl _) (by unfold big;omega) hrg hbo (fun S3 hl3 hV3=>?_)
   refine JX.retM1 Tryz.results287 (List.Perm.refl _) (ResV.tmp rfl) (List.nil_sublist _) ?_
   exact ⟨rfl,hV3⟩
end Go.Dr
namespace Go.Dr
def mayD (s:Snap) (p:List Int) (g:Pol):Bool:=decide (checkP s p=0)&&decide (checkG g=0)
def brk (s:Snap) (p:List Int) (kind a:Int):Bool:=decide (0 < (ofC s p kind a 0).1)
def podOwner (s:Snap) (i:Int):ByteArray:=match s.pods[i.toNat]? with|some x=>x.owner|none=>noS
def nodeName (s:Snap) (i:Int):ByteArray:=match s.nodes[i.toNat]? with|some x=>x.name|none=>noS
def ownerOf (s:Snap) (i:Int):Int:=idxS (oNames s) (podOwner s i)
def crowdB (s:Snap) (p:List Int) (i:Int):Bool:=
 decide (0≤ownerOf s i)&&brk s p 7 (ownerOf s i)&&(domainP s (at0 p i.toNat) (topoOf s (ownerOf s i).toNat)).2 &&
 (decide (0≤idxS (domL s (topoOf s (ownerOf s i).toNat)) (domainP s (at0 p i.toNat) (topoOf s (ownerOf s i).toNat)).1) &&
 decide (at0 (spreadL s p (ownerOf s i).toNat) (idxS (domL s (topoOf s (ownerOf s i).toNat)) (domainP s (at0 p i.toNat) (topoOf s (ownerOf s i).toNat)).1).toNat=maxL (spreadL s p (ownerOf s i).toNat)))
def bitB (n:Int) (b:Nat):Bool:=n.toNat.testBit b
def whyL (s:Snap) (p:List Int) (g:Pol) (i:Int):List (Bool × Int):=
 [(drainsB g (nodeName s (at0 p i.toNat)),1),(brk s p 2 i,2),(bitB g.on 2&&brk s p 3 i,2),(bitB g.on 1&&(brk s p 4 i||brk s p 5 i),3),(bitB g.on 0&&brk s p 6 i,4),(bitB g.on 3&&crowdB s p i,5),
  (decide (at0 p i.toNat∈highV s p g),6),(bitB g.on 4&&decide (at0 p i.toNat∈lowV s p g),7)]
def firstW (l:List (Bool × Int)):Int:=match l.find? (fun x=>x.1) with|some x=>x.2|none=>0
def whyV (s:Snap) (p:List Int) (g:Pol) (i:Int):Int:=if mayD s p g=true∧0≤i∧i < p.length∧¬ at0 p i.toNat=-1 then firstW (whyL s p g i) else 0
theorem firstW_rng {l:List (Bool × Int)} (h:∀ x∈l,1≤x.2∧x.2≤7):0≤firstW l∧firstW l≤7:=by
 unfold firstW
 cases hf:l.find? (fun x=>x.1) with
 | none=>simp
 | some x=>have:=h x (List.mem_of_find?_eq_some hf);dsimp only;omega
theorem whyL_rng (s:Snap) (p:List Int) (g:Pol) (i:Int):∀ x∈whyL s p g i,1≤x.2∧x.2≤7:=by
 intro x hx
 simp only [whyL,List.mem_cons,List.not_mem_nil,or_false] at hx
 rcases hx with rfl|rfl|rfl|rfl|rfl|rfl|rfl|rfl<;>simp
theorem whyV_rng (s:Snap) (p:List Int) (g:Pol) (i:Int):0≤whyV s p g i∧whyV s p g i≤7:=by
 unfold whyV
 split
 ·exact firstW_rng (whyL_rng s p g i)
 ·simp
theorem firstW_cons (b:Bool) (n:Int) (l:List (Bool × Int)):firstW ((b,n)::l)=if b=true then n else firstW l:=by
 unfold firstW
 cases b<;>simp [List.find?_cons]
def goK (s:Snap) (p:List Int) (g:Pol) (k:Nat):List Wrong:=((List.range k).filter (fun (i:Nat)=>!decide (whyV s p g i=0))).map (fun (i:Nat)=>⟨whyV s p g i,i,at0 p i⟩)
def ltW (a b:Wrong):Bool:=decide (a.why < b.why)||(decide (a.why=b.why)&&(decide (a.node < b.node)||(decide (a.node=b.node)&&decide (a.pod < b.pod))))
def sortW (l:List Wrong):List Wrong:=l.mergeSort (fun a b=>!ltW b a)
def wrongsV (s:Snap) (p:List Int) (g:Pol):List Wrong:=if mayD s p g=true then sortW (goK s p g p.length) else []
def fineV (s:Snap) (p:List Int) (g:Pol):Bool:=mayD s p g&&decide ((wrongsV s p g).length=0)
theorem ltW_irr (a:Wrong):ltW a a=false:=by simp [ltW]
theorem ltW_trans {a b c:Wrong} (h1:ltW a b=true) (h2:ltW b c=true):ltW a c=true:=by
 simp only [ltW,Bool.or_eq_true,Bool.and_eq_true,decide_eq_true_eq] at *;omega
theorem ltW_ntrans {a b c:Wrong} (h1:ltW a b=false) (h2:ltW b c=false):ltW a c=false:=by
 simp only [ltW,Bool.or_eq_false_iff,Bool.and_eq_false_iff,decide_eq_false_iff_not] at *;omega
theorem ltW_total {a b:Wrong} (h1:ltW a b=false) (h2:ltW b a=false):a=b:=by
 cases a;cases b
 simp only [ltW,Bool.or_eq_false_iff,Bool.and_eq_false_iff,decide_eq_false_iff_not,Wrong.mk.injEq] at *;omega
theorem sortW_eq {l m:List Wrong} (hp:m.Perm l) (hs:m.Pairwise (fun a b=>ltW b a=false)):m=sortW l:=by
 refine List.Perm.eq_of_pairwise (le:=fun a b=>ltW b a=false) (fun a b _ _ h1 h2=>ltW_total h2 h1) hs ?_ (hp.trans (List.mergeSort_perm l _).symm)
 have h:=List.pairwise_mergeSort (le:=fun a b=>!ltW b a) (fun a b c h1 h2=>by
  simp only [Bool.not_eq_true'] at *;exact ltW_ntrans h2 h1) (fun a b=>by
  simp only [Bool.or_eq_true,Bool.not_eq_true']
  by_cases h:ltW b a=true
  ·right
   simp only [ltW,Bool.or_eq_true,Bool.and_eq_true,decide_eq_true_eq,Bool.or_eq_false_iff,Bool.and_eq_false_iff,decide_eq_false_iff_not] at *;omega
  ·left;simpa using h) l
 exact h.imp fun h1=>by simpa using h1
theorem goK_step (s:Snap) (p:List Int) (g:Pol) (k:Nat):goK s p g (k+1)=goK s p g k++(if whyV s p g k=0 then [] else [⟨whyV s p g k,k,at0 p k⟩]):=by
 unfold goK
 rw [List.range_succ,List.filter_append,List.map_append]
 congr 1
 by_cases h:whyV s p g k=0<;>simp [h]
theorem goK_len (s:Snap) (p:List Int) (g:Pol) (k:Nat):(goK s p g k).length≤k:=by
 unfold goK
 rw [List.length_map]
 have:=List.length_filter_le (fun (i:Nat)=>!decide (whyV s p g i=0)) (List.range k)
 simpa using this
theorem goK_mem {s:Snap} {p:List Int} {g:Pol} {k:Nat} {x:Wrong}:x∈goK s p g k↔0≤x.pod∧x.pod < k∧¬ x.why=0∧x.why=whyV s p g x.pod∧x.node=at0 p x.pod.toNat:=by
 unfold goK
 simp only [List.mem_map,List.mem_filter,List.mem_range,Bool.not_eq_true',decide_eq_false_iff_not]
 constructor
 ·rintro ⟨i,⟨h1,h2⟩,rfl⟩
  exact ⟨by dsimp only;omega,by dsimp only;omega,h2,rfl,by dsimp only;rw [Int.toNat_natCast]⟩
 ·rintro ⟨h1,h2,h3,h4,h5⟩
  have e:((x.pod.toNat:Nat):Int)=x.pod:=by omega
  refine ⟨x.pod.toNat,⟨by omega,by rw [e,← h4];exact h3⟩,?_⟩
  cases x
  simp_all
theorem sortW_perm (l:List Wrong):(sortW l).Perm l:=List.mergeSort_perm _ _
theorem wrongs_mem {s:Snap} {p:List Int} {g:Pol} (hm:mayD s p g=true) {x:Wrong}:x∈wrongsV s p g↔0≤x.pod∧x.pod < p.length∧¬ x.why=0∧x.why=whyV s p g x.pod∧x.node=at0 p x.pod.toNat:=by
 unfold wrongsV
 rw [if_pos hm,(sortW_perm _).mem_iff,goK_mem]
end Go.Dr
namespace Go.Dr
section
variable {C:Cx} {R:Rg} {Q:Post} {S S':SHeap} {M M':List MEnt} {e:Env} {rest:List Nat} {L:List Nat}
variable {d:Nat} {ty:TypeId} {pos:String} {aft:Array Edge} {g:Option (Nat × Bool)}
theorem JO.perm (hM:M'.Perm M) (k:JO C R L Q S M' e):JO C R L Q S M e:=⟨fun a w hw=>k.run a w ⟨hw.env,hw.defers,hw.wd.perm hM⟩⟩
theorem JPure.loadCl {i:Nat} {T t:TypeId} {x:Operand} {b:Nat} {xs:List Int} {fr:Nat × Nat} {c:Clause} (hx:ev e x=some (.pointer (some ⟨b,0,none⟩))) (hM:MEnt.blk b (.cells (ints xs) t fr)∈M)
  (hc:xs=[c.kind,c.a,c.b,c.by_]) (hr:Rng c.kind∧Rng c.a∧Rng c.b∧Rng c.by_) [ht:TyR C.P T rClause] (hst:R.isAnch i=true∨∃ l,R.T=some l∧b∉l) (hdN:Nat.blt d C.N=true)
  (k:rClause.V S (clV c) c→JO C R rest Q S M ((d,clV c)::e)):JPure C R (R.isAnch i) ⟨some d,.load T x,ty,pos,aft,g⟩ rest Q S M e:=by
 subst hc
 exact JPure.loadM (rep:=rClause) (x0:=c) (mid:=[.int .i64 c.kind,.int .i64 c.a,.int .i64 c.b,.int .i64 c.by_]) hx hM rfl (R_clause.2 ⟨rfl,hr⟩) hst hdN (k (V_clV hr))
end
/-! ### A result that is a variable -/
theorem JX.retCell {α:Type} {P:Program} {r:Option Nat} {N:Nat} {fn:Func} {w0:World} {B0:List Nat} {S S0:SHeap} {M M':List MEnt} {e:Env} {PP:Value→SHeap→List MEnt→Prop} {p:Nat} {T:TypeId} {q:Addr} {rep:Rp α} {x:α}
  (hr:fn.results=#[.cell p T]) (h:Env.get? e p=some (.pointer (some q))) (hq:PtrTo S q rep x) [ht:TyR P T rep] (hM:M'.Sublist M) (hp:∀ w,rep.V S w x→PP w S M') :
  JX ⟨P,r,N,[],w0,B0,S0⟩ .ret (bodyPost P fn (EndPost w0 B0 S0 PP)) S M e:=by
 obtain ⟨w,hw,hrv⟩:=ResV.cell (C:=⟨P,r,N,[],w0,B0,S0⟩) (M:=M) (T:=T) h hq
 exact JX.ret1 hr hrv hM (hp w hw)
/-! ### Structs,written out -/
theorem map_R {α γ:Type} {f:γ→α} {a:Rp α} {S:SHeap} {cs:List Value} {x:γ} (h:a.R S cs (f x)):(rMap f a).R S cs x:=h
theorem seq1 {α β:Type} {a:Rp α} {b:Rp β} {S:SHeap} {c:Value} {cs:List Value} {x:α × β} (h1:a.R S [c] x.1) (h2:b.R S cs x.2):(rSeq a b).R S (c::cs) x:=⟨[c],cs,rfl,h1,h2⟩
theorem seq2 {α β:Type} {a:Rp α} {b:Rp β} {S:SHeap} {c d:Value} {cs:List Value} {x:α × β} (h1:a.R S [c,d] x.1) (h2:b.R S cs x.2):(rSeq a b).R S (c::d::cs) x:=⟨[c,d],cs,rfl,h1,h2⟩
theorem seq5 {α β:Type} {a:Rp α} {b:Rp β} {S:SHeap} {c1 c2 c3 c4 c5:Value} {cs:List Value} {x:α × β} (h1:a.R S [c1,c2,c3,c4,c5] x.1) (h2:b.R S cs x.2):(rSeq a b).R S (c1::c2::c3::c4::c5::cs) x:=⟨[c1,c2,c3,c4,c5],cs,rfl,h1,h2⟩
theorem R_str {S:SHeap} {s:ByteArray} (h:s.size≤big):rStr.R S [.string s] s:=⟨rfl,h⟩
theorem R_bool {S:SHeap} {b:Bool}:rBool.R S [.bool b] b:=rfl
theorem Rp.V.one {α:Type} {rep:Rp α} {S:SHeap} {v:Value} {x:α} (ha:rep.agg=false) (h:rep.V S v x):rep.R S [v] x:=by
 obtain ⟨cs,h1,h2⟩:=h
 rw [if_neg (by rw [ha];simp)] at h2
 rw [h2] at h1;exact h1
theorem V_snap {S:SHeap} {u v w:Value} {x:Snap} (h1:(rSlice 112 rNode).V S u x.nodes) (h2:(rSlice 240 rPod).V S v x.pods) (h3:(rSlice 56 rOwner).V S w x.owners):rSnap.V S (.agg (flatCells [u,v,w]).toArray) x:=by
 obtain ⟨a1,c1,rfl,_⟩:=V_slice.1 h1
 obtain ⟨a2,c2,rfl,_⟩:=V_slice.1 h2
 obtain ⟨a3,c3,rfl,_⟩:=V_slice.1 h3
 exact ⟨[_,_,_],map_R (seq1 (h1.one rfl) (seq1 (h2.one rfl) (h3.one rfl))),rfl⟩
end Go.Dr
namespace Go.Dr
set_option linter.unusedSimpArgs false
set_option linter.unusedVariables false
section
variable {C:Cx} {R:Rg} {Q:Post} {S S':SHeap} {M M':List MEnt} {e:Env} {rest:List Nat} {L:List Nat}
variable {d:Nat} {ty:TypeId} {pos:String} {aft:Array Edge} {g:Option (Nat × Bool)}
theorem JO.out (k:(∀ m∈M,∀ b,m.own=some b→S b=none)→JO C R L Q S M e):JO C R L Q S M e:=⟨fun a w hw=>(k fun m hm b hb=>(hw.wd.out m hm b hb).1).run a w hw⟩
theorem JO.blkNew {b:Nat} {o:Obj} (h0:C.B0=[]) (k:C.S0 b=none→C.w0.heap.size≤b→JO C R L Q S (.blk b o::M) e):JO C R L Q S (.blk b o::M) e:=⟨fun a w hw=>by
 have h1:=hw.wd.out (.blk b o) (by simp) b rfl
 have h2:=h1.2
 rw [h0] at h2
 refine (k ?_ (h2.resolve_right (by simp))).run a w hw
 cases h:C.S0 b with
 | none=>rfl
 | some o'=>have:=hw.wd.le b o' h;rw [h1.1] at this;cases this⟩
theorem JC.blkNew {x:Code} {b:Nat} {o:Obj} (h0:C.B0=[]) (k:C.S0 b=none→C.w0.heap.size≤b→JC C x Q S (.blk b o::M) e):JC C x Q S (.blk b o::M) e:=⟨fun a w hw=>by
 have h1:=hw.wd.out (.blk b o) (by simp) b rfl
 have h2:=h1.2
 rw [h0] at h2
 refine (k ?_ (h2.resolve_right (by simp))).run a w hw
 cases h:C.S0 b with
 | none=>rfl
 | some o'=>have:=hw.wd.le b o' h;rw [h1.1] at this;cases this⟩
class IfaceT (P:Program) (T:TypeId):Prop where
 h:P.underlying T=some (.interface (P.methodsAt T))
end
end Go.Dr
namespace Go.Dr
section
variable {C:Cx} {R:Rg} {Q:Post} {S:SHeap} {M:List MEnt} {e:Env} {rest:List Nat}
variable {d:Nat} {ty:TypeId} {pos:String} {aft:Array Edge} {g:Option (Nat × Bool)} {an:Bool}
theorem JPure.quo {t t':TypeId} {x y:Operand} {a b:Int} (hx:ev e x=some (.int .i64 a)) (hy:ev e y=some (.int .i64 b)) (hb:b≠0) (hr:Rng (a.tdiv b)) (hdN:Nat.blt d C.N=true) (k:JO C R rest Q S M ((d,.int .i64 (a.tdiv b))::e)) :
  JPure C R an ⟨some d,.binOp .quo t x y t',ty,pos,aft,g⟩ rest Q S M e:=
 JPure.of rfl hdN (fun a' w' h=>by
  have hwr:IntKind.i64.wrap (a.tdiv b)=a.tdiv b:=by rw [IntKind.wrap_i64];unfold Rng at hr;omega
  simp [execOp,h.eval hx,h.eval hy,eqGuard,binOp,Op.intDiv,hb,Sem.run_bind,Sem.run_pure,Result.andThen,hwr]) k
end
end Go.Dr
namespace Go.Dr
open Go.Proofs
set_option maxRecDepth 20000
set_option maxHeartbeats 2000000
set_option linter.unusedSimpArgs false
set_option linter.unusedVariables false
instance:TyR Tryz.prog 50 (rArr 2):=⟨by kernel_rfl⟩
theorem idxS_nn (l:List ByteArray) (n:ByteArray):decide (0≤idxS l n)=l.any (fun x=>decide (x=n)):=by
 unfold idxS
 rw [idxF_nn]
theorem p_Contains_string {S:SHeap} {u:Value} {l:List ByteArray} (n:ByteArray) (hu:(rSlice 16 rStr).V S u l):FnV Tryz.prog 284 #[u,.string n] S (.bool (l.any (fun x=>decide (x=n)))):=by
 (refine Fn.enter (args:=[u,.string n]) Tryz.func284 rfl Tryz.ntmps284 rfl ?_;intro w0)
 repeat (first|(refine Walk ?_;intros)|refine JC.block ?_|(refine JO.eff rfl rfl rfl (JEff.callV rfl (p_Index_string _ (by exact vta)) rfl ?_);intro _ _))
 (refine JX.ret1 Tryz.results284 (ResV.tmp rfl) (List.nil_sublist _) ?_)
 exact ⟨rfl,by rw [← idxS_nn]⟩
theorem p6_within {S:SHeap} (n a b:Int):FnV Tryz.prog 106 #[.int .i64 n,.int .i64 a,.int .i64 b] S (.bool (withinB n a b)):=by
 (refine Fn.enter (args:=[.int .i64 n,.int .i64 a,.int .i64 b]) Tryz.func106 rfl Tryz.ntmps106 rfl ?_;intro w0)
 repeat (first|(refine Walk ?_;intros)|refine JC.block ?_)
 by_cases h:a≤n
 ·rw [decide_eq_true h]
  repeat (first|(refine Walk ?_;intros)|refine JC.block ?_)
  (refine JX.ret1 Tryz.results106 (ResV.tmp rfl) (List.nil_sublist _) ?_)
  exact ⟨rfl,by unfold withinB;rw [decide_eq_true h];rfl⟩
 ·rw [decide_eq_false h]
  repeat (first|(refine Walk ?_;intros)|refine JC.block ?_)
  (refine JX.ret1 Tryz.results106 (ResV.tmp rfl) (List.nil_sublist _) ?_)
  exact ⟨rfl,by unfold withinB;rw [decide_eq_false h];rfl⟩
theorem p6_Drains {S:SHeap} {u:Value} {g:Pol} (name:ByteArray) (hu:rPol.V S u g):FnV Tryz.prog 219 #[u,.string name] S (.bool (drainsB g name)):=by
 (refine Fn.enter (args:=[u,.string name]) Tryz.func219 rfl Tryz.ntmps219 rfl ?_;intro w0)
 repeat (first|(refine Walk ?_;intros)|refine JC.block ?_|(refine JO.eff rfl rfl rfl (JEff.callV rfl (p_Contains_string _ (by exact vta)) rfl ?_);intro _ _)|(refine WBox ?_;intros))
 (refine JX.ret1 Tryz.results219 (ResV.tmp rfl) (List.nil_sublist _) ?_)
 exact ⟨rfl,rfl⟩
theorem lo_step (g:Pol) (k:Nat) (b:Bool):(loTo g (k+1)&&b)=(loTo g k&&b&&loHi g k):=by
 simp only [loTo]
 cases loTo g k<;>cases loHi g k<;>cases b<;>rfl
theorem dr_step (l:List ByteArray) (k:Nat) (b:Bool):(drTo l (k+1)&&b)=(drTo l k&&b&&dr1 l k):=by
 simp only [drTo]
 cases drTo l k<;>cases dr1 l k<;>cases b<;>rfl
theorem pol_all (g:Pol):polB g=(drTo g.drain g.drain.length&&(loTo g 2&&polB0 g)):=by
 unfold polB
 cases polB0 g<;>cases loTo g 2<;>cases drTo g.drain g.drain.length<;>rfl
theorem drain_size {S:SHeap} {v:Value} {g:Pol} (h:rPol.V S v g):g.low.length=2∧g.high.length=2∧(∀ z∈g.low,Rng z)∧(∀ z∈g.high,Rng z)∧Rng g.on∧Rng g.maxMoves∧Rng g.tries:=by
 obtain ⟨cs,h,_⟩:=h
 obtain ⟨c1,r1,_,⟨h1,_,h1r⟩,c2,r2,_,⟨h2,_,h2r⟩,c3,r3,_,⟨_,h3⟩,c4,r4,_,_,c5,r5,_,⟨_,h5⟩,c6,r6,_,⟨_,h6⟩,_⟩:=h
 exact ⟨h1,h2,h1r,h2r,h3,h5,h6⟩
theorem s39_L12p {P K:Prop} (k:K) (h:Goal K→P:=by
 intro zk
 (first|refine Walk ?_|refine JC.block ?_|(refine JO.eff rfl rfl rfl (JEff.callV rfl (p6_within _ _ _) rfl ?_);intro zqa zqb)|(refine JO.eff rfl rfl rfl (JEff.callV rfl (p3_Name _ (by assumption)) rfl ?_);intro zqa zqb)|(refine WBox ?_))
 (repeat (first|revert zqg|revert zqf|revert zqe|revert zqd|revert zqc|revert zqb|revert zqa))
 exact zk.k):P:=h ⟨k⟩
theorem p6_Check {S:SHeap} {u:Value} {g:Pol} (hu:rPol.V S u g):FnV Tryz.prog 39 #[u] S (.int .i64 (checkG g)):=by
 obtain ⟨hl2,hh2,hlr,hhr,hr1,hr2,hr3⟩:=drain_size hu
 (refine Fn.enter (args:=[u]) Tryz.func39 rfl Tryz.ntmps39 rfl ?_;intro w0)
 refine JC.seq ?_
 refine JC.region rfl ?_
 repeat (first|(refine WBox ?_;intros)|(refine WOps ?_;intros))
 refine JX.then_ ?_
 refine JC.seq ?_
 refine JC.partF0 (σ:=Bool) [(1,_)] (fun z=>[(3,.bool z)]) (fun SA z=>z=polB0 g) ?_ (by exact sba) ?_;rotate_left;rintro SA m hlA hiA;(try dsimp only at hiA);dsimp only [List.cons_append,List.nil_append];rotate_left
 ·repeat (refine s39_L12p ?_;intros)
  cases h1:withinB g.on 0 31
  ·repeat (refine s39_L12p ?_;intros)
   exact JX.partF ((false)) (by exact lea) (by simp [polB0,h1]) rfl (by exact sba) (by exact sba)
  ·repeat (refine s39_L12p ?_;intros)
   cases h2:withinB g.maxMoves 0 48
   ·repeat (refine s39_L12p ?_;intros)
    exact JX.partF ((false)) (by exact lea) (by simp [polB0,h2]) rfl (by exact sba) (by exact sba)
   ·repeat (refine s39_L12p ?_;intros)
    cases h3:withinB g.tries 0 8
    ·repeat (refine s39_L12p ?_;intros)
     exact JX.partF ((false)) (by exact lea) (by simp [polB0,h3]) rfl (by exact sba) (by exact sba)
    ·repeat (refine s39_L12p ?_;intros)
     exact JX.partF ((decide ((g.drain.length:Int)≤8))) (by exact lea) (by simp [polB0,h1,h2,h3];omega) rfl (by exact sba) (by exact sba)
 subst hiA
 repeat (refine s39_L12p ?_;intros)
 obtain ⟨rfl,_,_⟩:=V_arr.1 (by assumption:(rArr 2).V _ _ g.low)
 refine JC.loopF0 (σ:=Nat) [(1,_),(28,_)] (fun z=>[(3,.bool (loTo g z&&polB0 g)),(29,.int .i64 z)]) (fun Si z=>z≤2) (fun z=>2 - z) (0) (by exact sba) (by exact sba) (Nat.zero_le _) ?_;rintro Si k hli hii;(try dsimp only at hii);dsimp only [List.cons_append,List.nil_append]
 repeat (refine s39_L12p ?_;intros)
 refine JC.cond rfl (fun hc=>?_) (fun hc=>?_)
 ·have hk':k < 2:=by have:=of_decide_eq_true hc;omega
  obtain ⟨x,hx⟩:∃ x,g.low[k]?=some x:=⟨_,List.getElem?_eq_getElem (by omega)⟩
  obtain ⟨y,hy⟩:∃ y,g.high[k]?=some y:=⟨_,List.getElem?_eq_getElem (by omega)⟩
  have hst:=lo_step g k (polB0 g)
  have hlh:loHi g k=(withinB x 0 1000&&withinB y x 1000):=by unfold loHi;rw [at0_some hx,at0_some hy]
  rw [hlh] at hst
  have hxr:=hlr x (List.mem_of_getElem? hx)
  have hyr:=hhr y (List.mem_of_getElem? hy)
  have hy':g.high[((k:Int)).toNat]?=some y:=by rw [Int.toNat_natCast];exact hy
  repeat (refine s39_L12p ?_;intros)
  refine JO.pure rfl rfl rfl (JPure.indexV rfl rfl rfl (by omega) (by omega) (by simpa using hx) ?_)
  cases hb:(loTo g k&&polB0 g)
  ·rw [hb,Bool.false_and] at hst
   repeat (refine s39_L12p ?_;intros)
   exact JX.roundF (k+1) (by exact lea) (by omega) (by (try dsimp only);omega) rfl (by (try dsimp only);rw [hst];exact sba) (by exact sba)
  ·rw [hb,Bool.true_and] at hst
   repeat (refine s39_L12p ?_;intros)
   cases h1:withinB x 0 1000
   ·rw [h1,Bool.false_and] at hst
    repeat (refine s39_L12p ?_;intros)
    exact JX.roundF (k+1) (by exact lea) (by omega) (by (try dsimp only);omega) rfl (by (try dsimp only);rw [hst];exact sba) (by exact sba)
   ·rw [h1,Bool.true_and] at hst
    repeat (refine s39_L12p ?_;intros)
    exact JX.roundF (k+1) (by exact lea) (by omega) (by (try dsimp only);omega) rfl (by (try dsimp only);rw [hst];exact sba) (by exact sba)
 ·have hk':k=2:=by have:=of_decide_eq_false hc;omega
  subst hk'
  repeat (refine s39_L12p ?_;intros)
  refine JC.loopF0 (σ:=Nat) [(1,_),(48,_),(49,_)] (fun z=>[(3,.bool (drTo g.drain z&&(loTo g 2&&polB0 g))),(50,.int .i64 z)]) (fun Sj z=>z≤g.drain.length) (fun z=>g.drain.length - z) (0) (by exact sba) (by exact sba) (Nat.zero_le _) ?_;rintro Sj k hlj hij;(try dsimp only at hij);dsimp only [List.cons_append,List.nil_append]
  repeat (refine s39_L12p ?_;intros)
  refine JC.cond rfl (fun hc2=>?_) (fun hc2=>?_)
  ·have hk':=dlt hc2
   obtain ⟨x,hx,_⟩:=drop_at hk'
   have hst:=dr_step g.drain k (loTo g 2&&polB0 g)
   repeat (refine s39_L12p ?_;intros)
   cases hb:(drTo g.drain k&&(loTo g 2&&polB0 g))
   ·rw [hb,Bool.false_and] at hst
    repeat (refine s39_L12p ?_;intros)
    exact JX.roundF (k+1) (by exact lea) (by omega) (by (try dsimp only);omega) rfl (by (try dsimp only);rw [hst];exact sba) (by exact sba)
   ·rw [hb,Bool.true_and] at hst
    repeat (refine s39_L12p ?_;intros)
    cases hN:nameB x
    ·have hd1:dr1 g.drain k=false:=by unfold dr1;rw [hx];simp [hN]
     rw [hd1] at hst
     repeat (refine s39_L12p ?_;intros)
     exact JX.roundF (k+1) (by exact lea) (by omega) (by (try dsimp only);omega) rfl (by (try dsimp only);rw [hst];exact sba) (by exact sba)
    ·repeat (refine s39_L12p ?_;intros)
     by_cases hk0:k=0
     ·have hd1:dr1 g.drain k=true:=by unfold dr1;rw [hx];simp [hN,hk0]
      rw [hd1] at hst
      rw [decide_eq_true (show (k:Int)=0 by omega)]
      repeat (refine s39_L12p ?_;intros)
      exact JX.roundF (k+1) (by exact lea) (by omega) (by (try dsimp only);omega) rfl (by (try dsimp only);rw [hst];exact sba) (by exact sba)
     ·obtain ⟨y,hy,_⟩:=drop_at (l:=g.drain) (show k - 1 < g.drain.length by omega)
      have hd1:dr1 g.drain k=ltS y x:=by unfold dr1;rw [hx,hy];simp [hN,hk0]
      rw [hd1] at hst
      rw [decide_eq_false (show ¬ (k:Int)=0 by omega)]
      have hy':g.drain[((k:Int) - 1).toNat]?=some y:=by rw [show ((k:Int) - 1).toNat=k - 1 by omega];exact hy
      repeat (refine s39_L12p ?_;intros)
      exact JX.roundF (k+1) (by exact lea) (by omega) (by (try dsimp only);omega) rfl (by (try dsimp only);rw [hst];exact sba) (by exact sba)
  ·have hk':=dnlt hc2
   obtain rfl:k=g.drain.length:=by omega
   rw [← pol_all]
   repeat (refine s39_L12p ?_;intros)
   cases hP:polB g
   ·repeat (refine s39_L12p ?_;intros)
    (refine JX.ret1 Tryz.results39 (ResV.tmp rfl) (List.nil_sublist _) ?_)
    exact ⟨rfl,by unfold checkG;rw [hP];rfl⟩
   ·repeat (refine s39_L12p ?_;intros)
    (refine JX.ret1 Tryz.results39 (ResV.tmp rfl) (List.nil_sublist _) ?_)
    exact ⟨rfl,by unfold checkG;rw [hP];rfl⟩
/-! ### Shares -/
theorem share1_max {u c:Int} (hc:0≤c) (h:¬ (c=0∧0 < u)) (hu:0≤u):(u*1000).tdiv (max c 1)=share1 u c:=by
 unfold share1
 by_cases h0:c=0
 ·have hu0:u=0:=by omega
  subst h0;subst hu0
  simp
 ·rw [if_neg h0,show max c 1=c by omega]
theorem checked_two {u c:Int} (hu:0≤u∧u≤Qty) (hc:0≤c∧c≤Qty):checkV [u,c]=0:=by
 unfold checkV
 have h1:[u,c].any negB=false:=by simp [negB];omega
 have h2:[u,c].any overB=false:=by simp [overB];omega
 rw [h1,h2];rfl
theorem p1_Share {S:SHeap} (u c:Int) (hu:0≤u∧u≤Qty) (hc:0≤c∧c≤Qty) (h:¬ (c=0∧0 < u)):FnV Tryz.prog 330 #[.int .i64 u,.int .i64 c] S (.tuple #[.int .i64 (share1 u c),.int .i64 0]):=by
 have hck:=checked_two hu hc
 have hsm:=share1_max hc.1 h hu.1
 have hsr:=share1_rng hu hc.1
 have hur:Rng u:=by unfold Qty at hu;unfold Rng;omega
 have hcr:Rng c:=by unfold Qty at hc;unfold Rng;omega
 unfold Qty at hu hc hsr
 (refine Fn.enter (args:=[.int .i64 u,.int .i64 c]) Tryz.func330 rfl Tryz.ntmps330 rfl ?_;intro w0)
 repeat (first|(refine Walk ?_;intros)|refine JC.block ?_|(refine JO.eff rfl rfl rfl (JEff.callV rfl (p1_checked (by exact vta)) rfl ?_);intro _ _))
 by_cases hc0:c=0
 ·rw [decide_eq_true hc0]
  repeat (first|(refine Walk ?_;intros)|refine JC.block ?_|(refine JO.eff rfl rfl rfl (JEff.callV rfl (p1_checked (by exact vta)) rfl ?_);intro _ _))
  rw [decide_eq_false (show ¬ 0 < u from fun h'=>h ⟨hc0,h'⟩)]
  repeat (first|(refine Walk ?_;intros)|refine JC.block ?_|(refine JO.eff rfl rfl rfl (JEff.callV rfl (p1_checked (by exact vta)) rfl ?_);intro _ _))
  (refine JO.eff rfl rfl rfl (JEff.buildS (bt:=8) (rep:=rI64) (ys:=[u,c]) rfl rfl (⟨⟨V_i64.2 ⟨rfl,hur⟩,nna⟩,⟨V_i64.2 ⟨rfl,hcr⟩,nna⟩,trivial⟩) rfl rfl rfl (by decide) rfl ?_);intro S2 a2 hl2 hV2)
  repeat (first|(refine Walk ?_;intros)|refine JC.block ?_|(refine JO.eff rfl rfl rfl (JEff.callV rfl (p1_checked hV2) rfl ?_);intro _ _)|(refine JO.eff rfl rfl rfl (JEff.callV rfl (p1_checked (by exact vta)) rfl ?_);intro _ _))
  rw [hck]
  repeat (first|(refine Walk ?_;intros)|refine JC.block ?_|(refine JO.eff rfl rfl rfl (JEff.callV rfl (p1_checked (by exact vta)) rfl ?_);intro _ _))
  refine JO.pure rfl rfl rfl (JPure.quo rfl rfl (by omega) (by rw [hsm];unfold Rng;omega) rfl ?_)
  rw [hsm]
  repeat (first|(refine Walk ?_;intros)|refine JC.block ?_|(refine JO.eff rfl rfl rfl (JEff.callV rfl (p1_checked (by exact vta)) rfl ?_);intro _ _))
  (refine JX.ret2 Tryz.results330 (ResV.tmp rfl) (ResV.tmp rfl) (List.nil_sublist _) ?_)
  exact ⟨rfl,rfl⟩
 ·rw [decide_eq_false hc0]
  repeat (first|(refine Walk ?_;intros)|refine JC.block ?_|(refine JO.eff rfl rfl rfl (JEff.callV rfl (p1_checked (by exact vta)) rfl ?_);intro _ _))
  (refine JO.eff rfl rfl rfl (JEff.buildS (bt:=8) (rep:=rI64) (ys:=[u,c]) rfl rfl (⟨⟨V_i64.2 ⟨rfl,hur⟩,nna⟩,⟨V_i64.2 ⟨rfl,hcr⟩,nna⟩,trivial⟩) rfl rfl rfl (by decide) rfl ?_);intro S2 a2 hl2 hV2)
  repeat (first|(refine Walk ?_;intros)|refine JC.block ?_|(refine JO.eff rfl rfl rfl (JEff.callV rfl (p1_checked hV2) rfl ?_);intro _ _)|(refine JO.eff rfl rfl rfl (JEff.callV rfl (p1_checked (by exact vta)) rfl ?_);intro _ _))
  rw [hck]
  repeat (first|(refine Walk ?_;intros)|refine JC.block ?_|(refine JO.eff rfl rfl rfl (JEff.callV rfl (p1_checked (by exact vta)) rfl ?_);intro _ _))
  refine JO.pure rfl rfl rfl (JPure.quo rfl rfl (by omega) (by rw [hsm];unfold Rng;omega) rfl ?_)
  rw [hsm]
  repeat (first|(refine Walk ?_;intros)|refine JC.block ?_|(refine JO.eff rfl rfl rfl (JEff.callV rfl (p1_checked (by exact vta)) rfl ?_);intro _ _))
  (refine JX.ret2 Tryz.results330 (ResV.tmp rfl) (ResV.tmp rfl) (List.nil_sublist _) ?_)
  exact ⟨rfl,rfl⟩
theorem p12_share {S:SHeap} (u c:Int) (hu:0≤u∧u≤Qty) (hc:0≤c∧c≤Qty):FnV Tryz.prog 301 #[.int .i64 u,.int .i64 c] S (.int .i64 (share1 u c)):=by
 (refine Fn.enter (args:=[.int .i64 u,.int .i64 c]) Tryz.func301 rfl Tryz.ntmps301 rfl ?_;intro w0)
 repeat (first|(refine Walk ?_;intros)|refine JC.block ?_)
 by_cases hc0:c=0
 ·rw [decide_eq_true hc0]
  repeat (first|(refine Walk ?_;intros)|refine JC.block ?_)
  by_cases hu0:0 < u
  ·rw [decide_eq_true hu0]
   repeat (first|(refine Walk ?_;intros)|refine JC.block ?_)
   (refine JX.ret1 Tryz.results301 (ResV.tmp rfl) (List.nil_sublist _) ?_)
   exact ⟨rfl,by unfold share1;rw [if_pos hc0,if_pos hu0]⟩
  ·rw [decide_eq_false hu0]
   repeat (first|(refine Walk ?_;intros)|refine JC.block ?_|(refine JO.eff rfl rfl rfl (JEff.callV rfl (p1_Share u c hu hc (fun h=>hu0 h.2)) rfl ?_);intro _ _))
   (refine JX.ret1 Tryz.results301 (ResV.tmp rfl) (List.nil_sublist _) ?_)
   exact ⟨rfl,rfl⟩
 ·rw [decide_eq_false hc0]
  repeat (first|(refine Walk ?_;intros)|refine JC.block ?_|(refine JO.eff rfl rfl rfl (JEff.callV rfl (p1_Share u c hu hc (fun h=>hc0 h.1)) rfl ?_);intro _ _))
  (refine JX.ret1 Tryz.results301 (ResV.tmp rfl) (List.nil_sublist _) ?_)
  exact ⟨rfl,rfl⟩
end Go.Dr
namespace Go.Dr
open Go.Proofs
set_option maxRecDepth 20000
set_option maxHeartbeats 1000000
set_option linter.unusedSimpArgs false
set_option linter.unusedVariables false
def domSum (s:Snap) (key:ByteArray) (c:List Int) (v:ByteArray) (k:Nat):Int:=((List.range k).map (fun n=>if inDom s key v n=true then at0 c n else 0)).sum
theorem domSum_step (s:Snap) (key:ByteArray) (c:List Int) (v:ByteArray) (k:Nat):domSum s key c v (k+1)=domSum s key c v k+(if inDom s key v k=true then at0 c k else 0):=by
 unfold domSum
 rw [List.range_succ,List.map_append,List.sum_append];simp
theorem domSum_rng {s:Snap} {key:ByteArray} {c:List Int} {v:ByteArray} (h:∀ x∈c,0≤x∧x≤1000):∀ k,0≤domSum s key c v k∧domSum s key c v k≤1000*k
 | 0=>by simp [domSum]
 | k+1=>by
  have ih:=domSum_rng (s:=s) (key:=key) (v:=v) h k
  rw [domSum_step]
  have hk:0≤at0 c k∧at0 c k≤1000:=by
   unfold at0
   rw [List.getD_eq_getElem?_getD]
   cases hc:c[k]? with
   | none=>simp
   | some x=>exact h x (List.mem_of_getElem? hc)
  split<;>omega
theorem counts_rng {s:Snap} {p:List Int} {o:Nat} (h:p.length≤1000) (hlen:p.length=s.pods.length):∀ x∈countsL s p o,0≤x∧x≤1000:=by
 intro x hx
 obtain ⟨n,_,rfl⟩:=List.mem_map.1 hx
 have h1:=List.length_filter_le (fun x=>decide (x=(n:Int))) (ownedL s p o)
 have h2:(ownedL s p o).length≤p.length:=by rw [← ownedK_all hlen];exact ownedK_len _ _ _ _
 omega
end Go.Dr
namespace Go.Dr
open Go.Proofs
set_option maxRecDepth 20000
set_option maxHeartbeats 1000000
set_option linter.unusedSimpArgs false
set_option linter.unusedVariables false
end Go.Dr
namespace Go.Dr
open Go.Proofs
set_option maxRecDepth 20000
set_option maxHeartbeats 1000000
set_option linter.unusedSimpArgs false
set_option linter.unusedVariables false
end Go.Dr
namespace Go.Dr
open Go.Proofs
set_option maxRecDepth 20000
set_option maxHeartbeats 1000000
set_option linter.unusedSimpArgs false
set_option linter.unusedVariables false
end Go.Dr
