/- Part 9 of the rules and of the walks that the proofs of this seat rest on; no condition. -/
import Derived.Test.YtlckpojpnfidoaaGreatA07
import Derived.ControlIn
import Derived.Scope
import Derived.Deep.Slices
import Derived.OpenShut
import Derived.SizedLaws
import Derived.Carry
import Derived.Below
set_option linter.unusedVariables false
set_option linter.unusedSimpArgs false
namespace Go.Dr
open Go.Proofs
set_option maxRecDepth 20000
set_option maxHeartbeats 2000000
set_option linter.unusedSimpArgs false
set_option linter.unusedVariables false
theorem p14_Rank {S:SHeap} {u v:Value} {s:Snap} {p:List Int} (pod:Int) (hu:rSnap.V S u s) (hv:(rSlice 8 rI64).V S v p) (hn:s.nodes.length≤1000) (hpr:Rng pod):FnL Tryz.prog 58 #[u,v,.int .i64 pod] S 8 rI64 (rankV s p pod):=by
 have hv0:=hv
 obtain ⟨va,vc,rfl,_,hb8,hb1,_⟩:=V_slice.1 hv0
 (refine Fn.enter (args:=[u,.slice va p.length vc,.int .i64 pod]) Tryz.func58 rfl Tryz.ntmps58 rfl ?_;intro w0)
 repeat (first|(refine Walk ?_;intros)|refine JC.block ?_|refine JC.drawN 1 rfl [0,1,2,4,5,6,7,8,3,9,10] [0,1,2,10] Tryz_mixed (by decide +kernel) ?_|(refine JO.eff rfl rfl rfl (JEff.callRow rfl (p10_WaysR pod (by exact vta) (by exact vta) hn hpr) rfl ?_);intro _ _ _ _ _ _)|(refine JO.eff rfl rfl rfl (JEff.callL rfl (p10_Ways _ (by exact vta) (by exact vta) (by first|assumption|omega) (by first|assumption|(unfold Rng;omega))) rfl ?_);intro _ _ _ _ _ _)|(refine WBox ?_;intros))
 have hwl:=ways_len s p pod
 rw [flat_int (by assumption)]
 by_cases hw0:waysV s p pod=[]
 ·have hr0:rankV s p pod=[]:=by unfold rankV;rw [hw0];simp [sortBy]
  rw [hw0,hr0]
  repeat (first|(refine Walk ?_;intros)|refine JC.block ?_|refine JC.drawN 1 rfl [0,1,2,4,5,6,7,8,3,9,10] [0,1,2,10] Tryz_mixed (by decide +kernel) ?_|(refine JO.eff rfl rfl rfl (JEff.callV rfl (p14_by0) rfl ?_);intro _ _)|(refine JO.eff rfl rfl rfl (JEff.callL rfl (p10_Ways _ (by exact vta) (by exact vta) (by first|assumption|omega) (by first|assumption|(unfold Rng;omega))) rfl ?_);intro _ _ _ _ _ _)|(refine WBox ?_;intros))
  (refine JX.ret1 Tryz.results58 (ResV.tmp rfl) (List.nil_sublist _) ?_)
  exact ⟨rfl,V_slice.2 ⟨_,_,rfl,by simp,by simp,by simp,by simp⟩⟩
 ·have hpos:=List.length_pos_iff.2 hw0
  refine JO.rowBlk (by omega) (fun b tl hab hbb hnc=>?_)
  subst hab
  obtain ⟨n0,hn0⟩:=List.exists_mem_of_ne_nil _ hw0
  obtain ⟨_,_,hp0,hp1,_⟩:=ways_mem hn0
  obtain ⟨zs,hzs⟩:∃ z,rSnap.V S z s:=⟨_,hu⟩
  have hof:∀ (S':SHeap) (zv:Value),rSnap.V S' zv s→(rSlice 8 rI64).V S' (.slice va p.length vc) p→rOffer.V S' (.agg (flatCells [zv,.slice va p.length vc,.int .i64 pod]).toArray) ⟨s,p,pod⟩:=fun S' zv h1 h2=>by
   obtain ⟨cs,rfl,hcs⟩:=V_agg rfl h1
   refine ⟨_,⟨cs,[.slice va p.length vc,.int .i64 pod],?_,hcs,[_],[_],rfl,h2.one rfl,rfl,hpr⟩,rfl⟩
   simp [flatCells,Value.cells]
  have hD:∀ x∈waysV s p pod,0≤x∧x < s.nodes.length:=fun x hx=>⟨(ways_mem hx).1,(ways_mem hx).2.1⟩
  refine JO.eff rfl rfl rfl (JEff.callM (Mc:=[.blk b (.cells (intsT (waysV s p pod) tl) 3 (0,0))]) (Mr:=[]) rfl (List.Perm.refl _) (mayAll rfl) (p14_by (D:=fun x=>0≤x∧x < s.nodes.length) (key:=leftAt s p pod) inferInstance rfl (by omega) hw0 hD (fun x hx S' h=>p14_left x (hof S' _ (by exact vta) (by exact vta)) hp0 hp1 (by unfold Rng;omega))) rfl ?_)
  intro w S3 M3 hl3 hw
  obtain ⟨rfl,rfl⟩:=hw
  dsimp only [List.cons_append,List.nil_append]
  refine JO.freeze hbb (by intro l hl;cases hl) (fun S9 hl9 hS9=>?_)
  repeat (first|(refine Walk ?_;intros)|refine JC.block ?_|refine JC.drawN 1 rfl [0,1,2,4,5,6,7,8,3,9,10] [0,1,2,10] Tryz_mixed (by decide +kernel) ?_|(refine JO.eff rfl rfl rfl (JEff.callL rfl (p10_Ways _ (by exact vta) (by exact vta) (by first|assumption|omega) (by first|assumption|(unfold Rng;omega))) rfl ?_);intro _ _ _ _ _ _)|(refine WBox ?_;intros))
  (refine JX.ret1 Tryz.results58 (ResV.tmp rfl) (List.nil_sublist _) ?_)
  exact ⟨rfl,blk_slice (SHeap.le.refl S9) hS9 (rank_len s p pod).symm hnc (by unfold big;omega) (fun z hz=>by have:=hD z ((rank_perm s p pod).mem_iff.1 hz);unfold Rng;omega)⟩
theorem p14_Rank_eq {S:SHeap} {u v:Value} {s:Snap} {p l:List Int} {pod:Int} (h:rankV s p pod=l) (hu:rSnap.V S u s) (hv:(rSlice 8 rI64).V S v p) (hn:s.nodes.length≤1000) (hpr:Rng pod):FnL Tryz.prog 58 #[u,v,.int .i64 pod] S 8 rI64 l:=by
 have hh:=p14_Rank pod hu hv hn hpr
 rw [h] at hh;exact hh
theorem p14_Best {S:SHeap} {u v:Value} {s:Snap} {p:List Int} (pod:Int) (hu:rSnap.V S u s) (hv:(rSlice 8 rI64).V S v p) (hn:s.nodes.length≤1000) (hpr:Rng pod):FnV Tryz.prog 56 #[u,v,.int .i64 pod] S (.tuple #[.int .i64 (bestV s p pod).1,.bool (bestV s p pod).2]):=by
 (refine Fn.enter (args:=[u,v,.int .i64 pod]) Tryz.func56 rfl Tryz.ntmps56 rfl ?_;intro w0)
 cases hr:rankV s p pod with
 | nil=>
  have hb:bestV s p pod=(0,false):=by unfold bestV;rw [hr]
  rw [hb]
  repeat (first|(refine Walk ?_;intros)|refine JC.block ?_|(refine JO.eff rfl rfl rfl (JEff.callL rfl (p14_Rank_eq hr (by exact vta) (by exact vta) hn hpr) rfl ?_);intro _ _ _ _ _ _)|(refine JO.eff rfl rfl rfl (JEff.callL rfl (p14_Rank _ (by exact vta) (by exact vta) (by first|assumption|omega) (by first|assumption|(unfold Rng;omega))) rfl ?_);intro _ _ _ _ _ _)|(refine WBox ?_;intros))
  (refine JX.ret2 Tryz.results56 (ResV.tmp rfl) (ResV.tmp rfl) (List.nil_sublist _) ?_)
  exact ⟨rfl,rfl⟩
 | cons n l=>
  have hb:bestV s p pod=(n,true):=by unfold bestV;rw [hr]
  have hz:(n::l)[(0:Int).toNat]?=some n:=rfl
  have hl0:(0:Int) < ((n::l).length:Int):=by first|(simp;done)|(simp;omega)
  rw [hb]
  repeat (first|(refine Walk ?_;intros)|refine JC.block ?_|(refine JO.eff rfl rfl rfl (JEff.callL rfl (p14_Rank_eq hr (by exact vta) (by exact vta) hn hpr) rfl ?_);intro _ _ _ _ _ _)|(refine JO.eff rfl rfl rfl (JEff.callL rfl (p14_Rank _ (by exact vta) (by exact vta) (by first|assumption|omega) (by first|assumption|(unfold Rng;omega))) rfl ?_);intro _ _ _ _ _ _)|(refine WBox ?_;intros))
  rw [decide_eq_false (show ¬ ((n::l).length:Int)=0 by omega)]
  repeat (first|(refine Walk ?_;intros)|refine JC.block ?_|(refine JO.eff rfl rfl rfl (JEff.callL rfl (p14_Rank _ (by exact vta) (by exact vta) (by first|assumption|omega) (by first|assumption|(unfold Rng;omega))) rfl ?_);intro _ _ _ _ _ _)|(refine WBox ?_;intros))
  (refine JX.ret2 Tryz.results56 (ResV.tmp rfl) (ResV.tmp rfl) (List.nil_sublist _) ?_)
  exact ⟨rfl,rfl⟩
end Go.Dr
namespace Go.Dr
theorem JC.label {C:Cx} {Q:Post} {S:SHeap} {M:List MEnt} {e:Env} {l:Nat} (h:JX C .normal Q S M e):JC C (.label l) Q S M e:=⟨fun a w hw=>wpIn_label (h.run a w hw)⟩
section
variable {P:Program} {b:Frame} {a:Act} {k:List Item} {cs:List Frame} {w:World}
theorem stepR_scope {c:Code}:step P (lone (b.atR a (.code (.scope c)::k)) cs w)=.next (lone (b.atR a (.code c::.inScope c::k)) cs w):=
 step_lone_go (by simp [stepG,stepG.exec,Frame.atR])
theorem stepR_inScope {c:Code}:step P (lone (b.atR a (.inScope c::k)) cs w)=.next (lone (b.atR a k) cs w):=
 step_lone_go (by simp [stepG,stepG.exec,Frame.atR])
end
theorem wpIn_scope {F:Fence} {n:Nat} {P:Program} {Q:Exit→Act→World→Prop} {a:Act} {w:World} {c:Code} (hg:∀ l a w,¬ Q (.goto l) a w) (h:c.wpIn F n P Q a w):(Code.scope c).wpIn F n P Q a w:=by
 intro b k cs hro hb hr
 have h0:(lone (b.atR a (.code (.scope c)::k)) cs w).fenced P F:=fenced_calm hb hr rfl
 obtain ⟨e,a₁,w₁,hq,harr⟩:=h b (.inScope c::k) cs hro hb hr
 cases e with
 | normal=>exact ⟨.normal,a₁,w₁,hq,.head h0 stepR_scope (StepsIn.trans harr (.one (fenced_calm hb hr rfl) stepR_inScope))⟩
 | exit id=>
  have hx:exitTo id (.inScope c::k)=exitTo id k:=by simp [exitTo]
  exact ⟨.exit id,a₁,w₁,hq,fun k' hk=>.head h0 stepR_scope (harr.1 k' (by rw [hx];exact hk)),
    fun hr' hk=>let ⟨k₁,h1,h2⟩:=harr.2 hr' (by rw [hx];exact hk);⟨k₁,h1,.head h0 stepR_scope h2⟩⟩
 | goto l=>exact absurd hq (hg _ _ _)
 | ret=>exact ⟨_,a₁,w₁,hq,.of_steps (.one h0 stepR_scope) harr⟩
 | panic ch=>exact ⟨_,a₁,w₁,hq,.of_steps (.one h0 stepR_scope) harr⟩
 | outgrown=>exact ⟨_,a₁,w₁,hq,.of_steps (.one h0 stepR_scope) harr⟩
theorem JC.scope {C:Cx} {Q:Post} {S:SHeap} {M:List MEnt} {e:Env} {c:Code} (hg:∀ l a w,¬ Q (.goto l) a w) (h:JC C c Q S M e):JC C (.scope c) Q S M e:=⟨fun a w hw=>wpIn_scope hg (h.run a w hw)⟩
end Go.Dr
namespace Go.Dr
abbrev FnLL {α β:Type} (P:Program) (f:FuncId) (args:Array Value) (S:SHeap) (bt:Nat) (rep:Rp α) (xs:List α) (bt2:Nat) (rep2:Rp β) (ys:List β) (zs:List Value):Prop:=
 FnR P f args S fun w S'=>∃ u v,w=.tuple (u::v::zs).toArray∧(rSlice bt rep).V S' u xs∧(rSlice bt2 rep2).V S' v ys
section
variable {C:Cx} {R:Rg} {Q:Post} {S:SHeap} {M:List MEnt} {e:Env} {rest:List Nat}
variable {d:Nat} {ty:TypeId} {pos:String} {aft:Array Edge} {g:Option (Nat × Bool)}
theorem JEff.callLL {α β:Type} {f:FuncId} [Ent C.P f] {args:Array Operand} {ts:Array TypeId} {vs:List Value} {bt bt2:Nat} {rep:Rp α} {rep2:Rp β} {xs:List α} {ys:List β} {zs:List Value} (hargs:evs e args.toList=some vs) (hf:FnLL C.P f vs.toArray S bt rep xs bt2 rep2 ys zs) (hdN:Nat.blt d C.N=true)
  (k:∀ a c a2 c2 S',S.le S'→(rSlice bt rep).V S' (.slice a xs.length c) xs→xs.length≤140737488355328→(rSlice bt2 rep2).V S' (.slice a2 ys.length c2) ys→ys.length≤140737488355328→JO C R rest Q S' M ((d,.tuple (.slice a xs.length c::.slice a2 ys.length c2::zs).toArray)::e)):JEff C R ⟨some d,.call { callee:=.value (.func f),args,argTypes:=ts },ty,pos,aft,g⟩ rest Q S M e:=
 JEff.callR hargs hf hdN fun v S' hl hp=>by
  obtain ⟨u,v,rfl,hp,hq⟩:=hp
  obtain ⟨a,c,rfl,_,_,hb,_⟩:=V_slice.1 hp
  obtain ⟨a2,c2,rfl,_,_,hb2,_⟩:=V_slice.1 hq
  exact k a c a2 c2 S' hl hp hb hq hb2
end
end Go.Dr
namespace Go.Dr
open Go.Proofs
set_option maxRecDepth 20000
set_option maxHeartbeats 2000000
set_option linter.unusedSimpArgs false
set_option linter.unusedVariables false
def PackAns (S0:SHeap) (q ws:List Int) (e:Int) (w:Value) (S':SHeap):Prop:=
 ∃ a c a2 c2,w=.tuple #[.slice a q.length c,.slice a2 ws.length c2,.int .i64 e]∧(rSlice 8 rI64).V S' (.slice a q.length c) q∧(rSlice 8 rI64).V S' (.slice a2 ws.length c2) ws∧(q=[]∨∃ b tl E,a=some ⟨b,0,none⟩∧S0 b=none∧S' b=some (.cells (intsT q tl) E (0,0))∧q.length≤c)
theorem s16_L14i {P K:Prop} (k:K) (h:Goal K→P:=by
 intro zk
 (first|refine Walk ?_|refine JC.block ?_|(refine JO.eff rfl rfl rfl (JEff.callV rfl (p7_Check (by exact vta) (by exact vta)) rfl ?_);intro zqa zqb)|(refine JO.eff rfl rfl rfl (JEff.callL rfl (p14_Order (by exact vta) (by exact vta) (by first|assumption|omega)) rfl ?_);intro zqa zqb zqc zqd zqe zqf)|(refine JO.eff rfl rfl rfl (JEff.callV rfl (p14_Best _ (by exact vta) (by exact vta) (by first|assumption|omega) (by first|assumption|(unfold Rng;omega))) rfl ?_);intro zqa zqb)|(refine JO.eff rfl rfl rfl (JEff.callRow rfl (p_Clone_int (by exact vta)) rfl ?_);intro zqa zqb zqc zqd zqe zqf)|(refine WBox ?_))
 (repeat (first|revert zqg|revert zqf|revert zqe|revert zqd|revert zqc|revert zqb|revert zqa))
 exact zk.k):P:=h ⟨k⟩
theorem p14_Pack {S:SHeap} {u v w:Value} {s:Snap} {p pods:List Int} (hu:rSnap.V S u s) (hv:(rSlice 8 rI64).V S v p) (hw:(rSlice 8 rI64).V S w pods) (hpl:pods.length≤1000):FnR Tryz.prog 16 #[u,v,w] S (PackAns S (packV s p pods).1 (packV s p pods).2.1 (packV s p pods).2.2):=by
 have hv0:=hv
 obtain ⟨va,vc,rfl,_,hb8,hb,hpr⟩:=V_slice.1 hv0
 obtain ⟨oa,oc,rfl,_⟩:=V_slice.1 hw
 (refine Fn.enter (args:=[u,.slice va p.length vc,.slice oa pods.length oc]) Tryz.func16 rfl Tryz.ntmps16 rfl ?_;intro w0)
 repeat (refine s16_L14i ?_;intros)
 refine JC.scope (fun _ _ _ h=>h) ?_
 repeat (refine s16_L14i ?_;intros)
 by_cases hc:checkP s p=0
 ·rw [decide_eq_true hc]
  obtain ⟨hs,hlen,hp24,_,_,_,hqr⟩:=placed_hyps hc
  have hpk:packV s p pods=((packGo s p [] (orderV s pods)).1,(packGo s p [] (orderV s pods)).2.mergeSort (fun x y=>decide (x≤y)),0):=by unfold packV;rw [if_neg (by simpa using hc)]
  rw [hpk]
  repeat (first|(refine Walk ?_;intros)|refine JC.block ?_|refine JC.label ?_|(refine JO.eff rfl rfl rfl (JEff.callV rfl (p7_Check (by exact vta) (by exact vta)) rfl ?_);intro _ _)|(refine JO.eff rfl rfl rfl (JEff.callL rfl (p14_Order (by exact vta) (by exact vta) (by first|assumption|omega)) rfl ?_);intro _ _ _ _ _ _)|(refine JO.eff rfl rfl rfl (JEff.callV rfl (p14_Best _ (by exact vta) (by exact vta) (by first|assumption|omega) (by first|assumption|(unfold Rng;omega))) rfl ?_);intro _ _)|(refine JO.eff rfl rfl rfl (JEff.callRow rfl (p_Clone_int (by exact vta)) rfl ?_);intro _ _ _ _ _ _)|(refine WBox ?_;intros))
  rename_i a2 c2 S3 us hl3 hus _ _ _ _ _ _ _ _
  by_cases hp0:p=[]
  ·have ho0:orderV s pods=[]:=by
    have:=order_len s pods
    rw [hp0] at hlen
    exact List.eq_nil_of_length_eq_zero (by simp at hlen;omega)
   rw [ho0,hp0]
   refine JC.freezeRow (rep:=rI64) (bt:=8) (xs:=([]:List Int)) (by rw [← hp0];exact hus.mono (by exact lea)) rfl (by simp) (by simp) (fun S9 hl9 hV9=>?_)
   refine JC.loopF0 (σ:=Nat) [(3,_),(6,_),(24,_),(25,_)] (fun q=>[(7,.slice none 0 0),(26,.int .i64 q)]) (fun Si q=>q=0) (fun q=>0) (0) (by exact sba) (by exact sba) (rfl) ?_;rintro Si i hli hii;(try dsimp only at hii);dsimp only [List.cons_append,List.nil_append]
   subst hii
   repeat (first|(refine Walk ?_;intros)|refine JC.block ?_|(refine JO.eff rfl rfl rfl (JEff.callV rfl (p_SortInts0 _ _) rfl ?_);intro _ _)|(refine JO.eff rfl rfl rfl (JEff.callV rfl (p7_Check (by exact vta) (by exact vta)) rfl ?_);intro _ _)|(refine JO.eff rfl rfl rfl (JEff.callL rfl (p14_Order (by exact vta) (by exact vta) (by first|assumption|omega)) rfl ?_);intro _ _ _ _ _ _)|(refine JO.eff rfl rfl rfl (JEff.callV rfl (p14_Best _ (by exact vta) (by exact vta) (by first|assumption|omega) (by first|assumption|(unfold Rng;omega))) rfl ?_);intro _ _)|(refine JO.eff rfl rfl rfl (JEff.callRow rfl (p_Clone_int (by exact vta)) rfl ?_);intro _ _ _ _ _ _)|(refine WBox ?_;intros))
   (refine JX.ret3 Tryz.results16 (ResV.tmp rfl) (ResV.tmp rfl) (ResV.tmp rfl) (List.nil_sublist _) ?_)
   have e1:packGo s [] [] []=([],[]):=by rw [packGo]
   rw [e1]
   exact ⟨rfl,a2,c2,none,0,by simp,hV9.mono (by exact lea),by simpa using V_nil,.inl rfl⟩
  ·have hp1:0 < p.length:=List.length_pos_iff.2 hp0
   rw [flat_int hus]
   refine JC.rowBlk hp1 (fun b tl hab hbb hnc=>?_)
   subst hab
   have hol:=order_len s pods
   have hom:=fun x=>@order_mem s pods x
   generalize orderV s pods=o at *
   (first|refine JC.newRow 3 1 ?_|refine JO.newRow 3 1 ?_|refine JX.newRow 3 1 ?_)
   refine JC.perm (List.Perm.swap _ _ _) ?_
   refine JC.loopF (σ:=Nat × Option Addr × Nat × List Int × List Int × List Value) [(3,_),(6,_),(24,_),(25,_)] (fun z=>[(7,.slice z.2.1 z.2.2.2.2.1.length z.2.2.1),(26,.int .i64 z.1)]) (fun z=>[.blk b (.cells (intsT z.2.2.2.1 tl) 3 (0,0)),.row w0.heap.size 3 1 (.slice z.2.1 z.2.2.2.2.1.length z.2.2.1) z.2.2.2.2.1.length (flatCells z.2.2.2.2.2)]) (fun Si z=>z.1≤o.length∧z.2.2.2.1.length=p.length∧z.2.2.2.2.1.length≤z.1∧allV rI64 Si z.2.2.2.2.2 z.2.2.2.2.1∧(∀ x∈z.2.2.2.1,Rng x)∧packGo s z.2.2.2.1 z.2.2.2.2.1 (o.drop z.1)=packGo s p [] o) (fun z=>o.length - z.1) ((0,none,0,p,[],[])) (by exact sba) (by exact sba) rfl (⟨Nat.zero_le _,rfl,Nat.le_refl _,trivial,hqr,rfl⟩) ?_;rintro Si ⟨i,ra,rc,q,ws,vs⟩ hli hii;(try dsimp only at hii);dsimp only [List.cons_append,List.nil_append]
   obtain ⟨hi,hql,hwl,hvs,hqr2,hgo⟩:=hii
   try dsimp only at hi hql hwl hvs hqr2 hgo
   repeat (refine s16_L14i ?_;intros)
   refine JC.cond rfl (fun hc2=>?_) (fun hc2=>?_)
   ·have hi':=dlt hc2
    obtain ⟨x,hx,hd⟩:=drop_at hi'
    rw [hd,packGo] at hgo
    obtain ⟨hx0,hx1,_⟩:=hom x (List.mem_of_getElem? hx)
    obtain ⟨y,hy⟩:∃ y,q[x.toNat]?=some y:=⟨_,List.getElem?_eq_getElem (by omega)⟩
    have hy0:=at0_some hy
    have hyr:=hqr2 y (List.mem_of_getElem? hy)
    have hxr:Rng x:=by unfold Rng;omega
    rw [hy0] at hgo
    repeat (refine s16_L14i ?_;intros)
    refine JO.pure rfl rfl rfl (JPure.indexRI rfl rfl rfl (by omega) (by omega) ?_)
    refine JO.pure rfl rfl rfl (JPure.loadMIT rfl (by (first|exact List.mem_cons_self|exact List.mem_cons_of_mem _ List.mem_cons_self|exact List.mem_cons_of_mem _ (List.mem_cons_of_mem _ List.mem_cons_self))) hy hyr (.inl rfl) rfl ?_)
    repeat (refine s16_L14i ?_;intros)
    refine JC.cond rfl (fun hf=>?_) (fun hf=>?_)
    ·have hf:¬ y=-1:=by simpa using hf
     rw [if_pos hf] at hgo
     repeat (refine s16_L14i ?_;intros)
     exact JX.roundF (i+1,ra,rc,q,ws,vs) (by exact lea) ⟨by omega,hql,by dsimp only;omega,hvs.mono (by exact lea),hqr2,hgo⟩ (by (try dsimp only);omega) rfl (by exact sba) (by exact sba)
    ·have hf:¬ ¬ y=-1:=by simpa using hf
     rw [if_neg hf] at hgo
     repeat (refine s16_L14i ?_;intros)
     refine JO.out (fun hout=>?_)
     have hsv:=(by assumption:rSnap.V _ _ s)
     refine JO.eff rfl rfl rfl (JEff.lendV rfl (List.Perm.refl _) (by intro l hl;cases hl) hout (fun S1 hl1 hS1=>p14_Best x (hsv.mono (by exact lea)) (blk_slice (SHeap.le.refl S1) hS1 hql.symm hnc (by omega) hqr2) (by omega) hxr) rfl ?_);intro S5 hl5
     rcases hbv:bestV s q x with ⟨n,ok⟩
     rw [hbv] at hgo
     dsimp only at hgo ⊢
     repeat (refine s16_L14i ?_;intros)
     cases ok
     ·rw [if_neg (by simp)] at hgo
      repeat (refine s16_L14i ?_;intros)
      refine JO.perm (List.Perm.swap _ _ _) ?_
      (refine JO.eff rfl rfl rfl (JEff.build (rep:=rI64) (ys:=[x]) rfl rfl ⟨⟨(V_i64.2 ⟨rfl,hxr⟩),nna⟩,trivial⟩ rfl rfl rfl rfl ?_);intro bb hbb hvv);(repeat (first|(refine Walk ?_;intros)|refine JC.block ?_));(refine JO.eff rfl rfl rfl (JEff.appendL (rep:=rI64) rfl rfl rfl rfl (List.Perm.swap _ _ _) (by exact hvv.flat) (by intro c hc;exact flat_one (fun v hv=>(hvv.size v hv).2) c hc) (by first|omega|(unfold big;omega)) (by unfold big;omega) (by first|exact rowT_ok|(intro l hl;cases hl)) rfl ?_);intro a4 c4;clear hvv hbb)
      repeat (refine s16_L14i ?_;intros)
      refine JX.perm (List.Perm.swap _ _ _) ?_
      exact JX.roundF (i+1,a4,c4,q,ws++[x],vs++[.int .i64 x]) (by exact lea) ⟨by omega,hql,by simp;omega,allV_add (by exact lea) hvs (V_i64.2 ⟨rfl,hxr⟩) nna,hqr2,hgo⟩ (by (try dsimp only);omega) (by simp [flat_append]<;>rfl) (by (try dsimp only);simp only [List.length_append,List.length_cons,List.length_nil];exact sba) (by exact sba)
     ·rw [if_pos rfl] at hgo
      obtain ⟨hn0,hn1⟩:=best_rng hbv
      have hnr:Rng n:=by unfold Rng;omega
      repeat (refine s16_L14i ?_;intros)
      refine JO.pure rfl rfl rfl (JPure.indexRI rfl rfl rfl (by omega) (by omega) ?_)
      refine JO.eff rfl rfl rfl (JEff.storeIT (i:=x.toNat) rfl rfl hnr (List.Perm.refl _) (by omega) (by intro l hl;cases hl) ?_)
      repeat (refine s16_L14i ?_;intros)
      exact JX.roundF (i+1,ra,rc,q.set x.toNat n,ws,vs) (by exact lea) ⟨by omega,by simp [hql],by dsimp only;omega,hvs.mono (by exact lea),fun z hz=>by
       rcases List.mem_or_eq_of_mem_set hz with h|h
       ·exact hqr2 z h
       ·exact h▸hnr,hgo⟩ (by (try dsimp only);omega) rfl (by exact sba) (by exact sba)
   ·have hi':=dnlt hc2
    rw [List.drop_eq_nil_of_le hi',packGo] at hgo
    obtain rfl:i=o.length:=by omega
    rw [← hgo]
    refine JC.blkNew rfl (fun hb0 _=>?_)
    refine JC.freeze hbb (fun S9 hl9 hS9=>?_)
    have hVq:=blk_slice (SHeap.le.refl S9) hS9 hql.symm hnc (by omega) hqr2
    have hwr:∀ z∈ws,Rng z:=fun z hz=>(allV_int hvs).2 z hz
    rw [flat_int hvs]
    by_cases hw0:ws=[]
    ·subst hw0
     refine JC.freezeRowI (by simp) rfl (by simp) (fun S8 hl8 hV8=>?_)
     repeat (first|(refine Walk ?_;intros)|refine JC.block ?_|(refine JO.eff rfl rfl rfl (JEff.callV rfl (p_SortInts0 _ _) rfl ?_);intro _ _)|(refine JO.eff rfl rfl rfl (JEff.callV rfl (p7_Check (by exact vta) (by exact vta)) rfl ?_);intro _ _)|(refine JO.eff rfl rfl rfl (JEff.callL rfl (p14_Order (by exact vta) (by exact vta) (by first|assumption|omega)) rfl ?_);intro _ _ _ _ _ _)|(refine JO.eff rfl rfl rfl (JEff.callV rfl (p14_Best _ (by exact vta) (by exact vta) (by first|assumption|omega) (by first|assumption|(unfold Rng;omega))) rfl ?_);intro _ _)|(refine JO.eff rfl rfl rfl (JEff.callRow rfl (p_Clone_int (by exact vta)) rfl ?_);intro _ _ _ _ _ _)|(refine WBox ?_;intros))
     (refine JX.ret3 Tryz.results16 (ResV.tmp rfl) (ResV.tmp rfl) (ResV.tmp rfl) (List.nil_sublist _) ?_)
     exact ⟨rfl,some ⟨b,0,none⟩,c2,ra,rc,by simp [hql],by dsimp only;rw [hql];exact hVq.mono (by exact lea),by simpa using hV8.mono (by exact lea),.inr ⟨b,tl,_,rfl,hb0,(by exact lea:SHeap.le _ _) _ _ hS9,by (try dsimp only);omega⟩⟩
    ·have hw1:0 < ws.length:=List.length_pos_iff.2 hw0
     refine JC.rowBlk hw1 (fun wb tw hwb hwbb hwc=>?_)
     subst hwb
     repeat (refine s16_L14i ?_;intros)
     refine JO.eff rfl rfl rfl (JEff.callM (Mc:=[.blk wb (.cells (intsT ws tw) 3 (0,0))]) (Mr:=[]) rfl (List.Perm.refl _) (mayAll rfl) (p_SortInts ws rfl (by omega)) rfl ?_)
     intro w2 S2 M2 hl2 hw2
     obtain ⟨rfl,rfl,rfl⟩:=hw2
     dsimp only [List.cons_append,List.nil_append]
     have hsl:(ws.mergeSort fun x y=>decide (x≤y)).length=ws.length:=List.length_mergeSort _
     refine JO.freeze hwbb (by intro l hl;cases hl) (fun S7 hl7 hS7=>?_)
     have hVw:=blk_slice (SHeap.le.refl S7) hS7 hsl.symm hwc (by unfold big;omega) (fun z hz=>hwr z ((List.mergeSort_perm _ _).mem_iff.1 hz))
     repeat (refine s16_L14i ?_;intros)
     (refine JX.ret3 Tryz.results16 (ResV.tmp rfl) (ResV.tmp rfl) (ResV.tmp rfl) (List.nil_sublist _) ?_)
     exact ⟨rfl,some ⟨b,0,none⟩,c2,some ⟨wb,0,none⟩,rc,by simp [hql],by (try dsimp only);rw [hql];exact hVq.mono (by exact lea),by (try dsimp only);rw [hsl];exact hVw.mono (by exact lea),.inr ⟨b,tl,_,rfl,hb0,(by exact lea:SHeap.le _ _) _ _ hS9,by (try dsimp only);omega⟩⟩
 ·rw [decide_eq_false hc]
  have hpk:packV s p pods=([],[],checkP s p):=if_pos hc
  rw [hpk]
  repeat (refine s16_L14i ?_;intros)
  (refine JX.ret3 Tryz.results16 (ResV.tmp rfl) (ResV.tmp rfl) (ResV.tmp rfl) (List.nil_sublist _) ?_)
  exact ⟨rfl,_,_,_,_,rfl,V_nil,V_nil,.inl rfl⟩
theorem p14_PackL {S:SHeap} {u v w:Value} {s:Snap} {p pods:List Int} (hu:rSnap.V S u s) (hv:(rSlice 8 rI64).V S v p) (hw:(rSlice 8 rI64).V S w pods) (hpl:pods.length≤1000):FnLL Tryz.prog 16 #[u,v,w] S 8 rI64 (packV s p pods).1 8 rI64 (packV s p pods).2.1 [.int .i64 (packV s p pods).2.2]:=
 Fn.mono (p14_Pack hu hv hw hpl) fun z S' M' _ hz=>⟨hz.1,by
  obtain ⟨a,c,a2,c2,rfl,h1,h2,_⟩:=hz.2
  exact ⟨_,_,rfl,h1,h2⟩⟩
theorem w14_Pack {S:SHeap} {u v w:Value} {s:Snap} {p pods q ws:List Int} {e:Int} (h:packV s p pods=(q,ws,e)) (hu:rSnap.V S u s) (hv:(rSlice 8 rI64).V S v p) (hw:(rSlice 8 rI64).V S w pods) (hpl:pods.length≤1000):FnLL Tryz.prog 16 #[u,v,w] S 8 rI64 q 8 rI64 ws [.int .i64 e]:=by
 have hh:=p14_PackL hu hv hw hpl
 rw [h] at hh;exact hh
end Go.Dr
namespace Go.Dr
open Go.Proofs
set_option maxRecDepth 20000
set_option maxHeartbeats 2000000
set_option linter.unusedSimpArgs false
set_option linter.unusedVariables false
end Go.Dr
namespace Go.Dr
open Go.Proofs
set_option maxRecDepth 20000
set_option maxHeartbeats 2000000
set_option linter.unusedSimpArgs false
set_option linter.unusedVariables false
end Go.Dr
namespace Go.Dr
open Go.Proofs
set_option maxRecDepth 20000
set_option maxHeartbeats 2000000
set_option linter.unusedSimpArgs false
set_option linter.unusedVariables false
end Go.Dr
namespace Go.Dr
open Go.Proofs
set_option maxRecDepth 20000
set_option maxHeartbeats 2000000
set_option linter.unusedSimpArgs false
set_option linter.unusedVariables false
theorem w14_Left {S:SHeap} {u v:Value} {s:Snap} {p:List Int} {n z:Int} (h:leftV s p n=z) (hu:rSnap.V S u s) (hv:(rSlice 8 rI64).V S v p):FnV Tryz.prog 57 #[u,v,.int .i64 n] S (.int .i64 z):=by
 have hh:=p14_Left n hu hv
 rw [h] at hh;exact hh
theorem w14_Best {S:SHeap} {u v:Value} {s:Snap} {p:List Int} {n z:Int} {b:Bool} (h:bestV s p n=(z,b)) (hn:s.nodes.length≤1000) (hpr:Rng n) (hu:rSnap.V S u s) (hv:(rSlice 8 rI64).V S v p):FnV Tryz.prog 56 #[u,v,.int .i64 n] S (.tuple #[.int .i64 z,.bool b]):=by
 have hh:=p14_Best n hu hv hn hpr
 rw [h] at hh;exact hh
theorem w14_Rank {S:SHeap} {u v:Value} {s:Snap} {p q:List Int} {n:Int} (h:rankV s p n=q) (hn:s.nodes.length≤1000) (hpr:Rng n) (hu:rSnap.V S u s) (hv:(rSlice 8 rI64).V S v p):FnL Tryz.prog 58 #[u,v,.int .i64 n] S 8 rI64 q:=by
 have hh:=p14_Rank n hu hv hn hpr
 rw [h] at hh;exact hh
theorem w14_Order {S:SHeap} {u v:Value} {s:Snap} {pods q:List Int} (h:orderV s pods=q) (hpl:pods.length≤1000) (hu:rSnap.V S u s) (hv:(rSlice 8 rI64).V S v pods):FnL Tryz.prog 20 #[u,v] S 8 rI64 q:=by
 have hh:=p14_Order hu hv hpl
 rw [h] at hh;exact hh
theorem s13_L14l {P K:Prop} (k:K) (h:Goal K→P:=by
 intro zk
 (first|refine Walk ?_|refine JC.block ?_|(refine JO.eff rfl rfl rfl (JEff.callL rfl (p14_Order (by exact vta) (by exact vta) (by first|assumption|omega)) rfl ?_);intro zqa zqb zqc zqd zqe zqf)|(refine JO.eff rfl rfl rfl (JEff.callV rfl (r0_EqInts (by exact vta) (by exact vta)) rfl ?_);intro zqa zqb)|(refine JO.eff rfl rfl rfl (JEff.callR rfl (q14_chapter) rfl ?_);intro zqa zqb zqc zqd)|(refine JO.eff rfl rfl rfl (JEff.callV rfl (p14_Best _ (by exact vta) (by exact vta) (by first|assumption|omega) (by first|assumption|(unfold Rng;omega))) rfl ?_);intro zqa zqb)|(refine JO.eff rfl rfl rfl (JEff.callV rfl (p14_Left _ (by exact vta) (by exact vta)) rfl ?_);intro zqa zqb)|(refine JO.eff rfl rfl rfl (JEff.callL rfl (p14_Rank _ (by exact vta) (by exact vta) (by first|assumption|omega) (by first|assumption|(unfold Rng;omega))) rfl ?_);intro zqa zqb zqc zqd zqe zqf)|(refine WNew ?_)|(refine WPut ?_))
 (repeat (first|revert zqg|revert zqf|revert zqe|revert zqd|revert zqc|revert zqb|revert zqa))
 exact zk.k):P:=h ⟨k⟩
theorem q14_works {S:SHeap}:FnV Tryz.prog 13 #[] S (.bool true):=by
 (refine Fn.enter (args:=[]) Tryz.func13 rfl Tryz.ntmps13 rfl ?_;intro w0)
 repeat (refine s13_L14l ?_;intros)
 (refine JO.eff rfl rfl rfl (JEff.buildS (bt:=8) (rep:=rI64) (ys:=[(0:Int),1,-1,-1]) rfl rfl (⟨⟨V_num,nna⟩,⟨V_num,nna⟩,⟨V_num,nna⟩,⟨V_num,nna⟩,trivial⟩) rfl rfl rfl (by decide) rfl ?_);intro S2 a2 hl2 hV2)
 repeat (refine s13_L14l ?_;intros)
 (refine JO.eff rfl rfl rfl (JEff.buildS (bt:=8) (rep:=rI64) (ys:=[(0:Int),0,1,-1]) rfl rfl (⟨⟨V_num,nna⟩,⟨V_num,nna⟩,⟨V_num,nna⟩,⟨V_num,nna⟩,trivial⟩) rfl rfl rfl (by decide) rfl ?_);intro S3 a3 hl3 hV3)
 repeat (first|(refine Walk ?_;intros)|refine JC.block ?_|(refine JO.eff rfl rfl rfl (JEff.callV rfl (w14_Best f14_5 (by decide) (by simp [Rng]) (by exact vta) (by exact vta)) rfl ?_);intro _ _)|(refine JO.eff rfl rfl rfl (JEff.callL rfl (p14_Order (by exact vta) (by exact vta) (by first|assumption|omega)) rfl ?_);intro _ _ _ _ _ _)|(refine JO.eff rfl rfl rfl (JEff.callV rfl (r0_EqInts (by exact vta) (by exact vta)) rfl ?_);intro _ _)|(refine JO.eff rfl rfl rfl (JEff.callR rfl (q14_chapter) rfl ?_);intro _ _ _ _)|(refine JO.eff rfl rfl rfl (JEff.callV rfl (p14_Best _ (by exact vta) (by exact vta) (by first|assumption|omega) (by first|assumption|(unfold Rng;omega))) rfl ?_);intro _ _)|(refine JO.eff rfl rfl rfl (JEff.callV rfl (p14_Left _ (by exact vta) (by exact vta)) rfl ?_);intro _ _)|(refine JO.eff rfl rfl rfl (JEff.callL rfl (p14_Rank _ (by exact vta) (by exact vta) (by first|assumption|omega) (by first|assumption|(unfold Rng;omega))) rfl ?_);intro _ _ _ _ _ _)|(refine WNew ?_;intros)|(refine WPut ?_;intros))
 (refine JO.eff rfl rfl rfl (JEff.buildS (bt:=8) (rep:=rI64) (ys:=[(-1:Int),-1,-1,-1]) rfl rfl (⟨⟨V_num,nna⟩,⟨V_num,nna⟩,⟨V_num,nna⟩,⟨V_num,nna⟩,trivial⟩) rfl rfl rfl (by decide) rfl ?_);intro S4 a4 hl4 hV4)
 repeat (refine s13_L14l ?_;intros)
 (refine JO.eff rfl rfl rfl (JEff.buildS (bt:=8) (rep:=rI64) (ys:=[(0:Int),1,2,3]) rfl rfl (⟨⟨V_num,nna⟩,⟨V_num,nna⟩,⟨V_num,nna⟩,⟨V_num,nna⟩,trivial⟩) rfl rfl rfl (by decide) rfl ?_);intro S5 a5 hl5 hV5)
 repeat (first|(refine Walk ?_;intros)|refine JC.block ?_|(refine JO.eff rfl rfl rfl (JEff.callLL rfl (w14_Pack f14_7 (by exact vta) (by exact vta) (by exact vta) (by decide)) rfl ?_);intro _ _ _ _ _ _ _ _ _ _)|(refine JO.eff rfl rfl rfl (JEff.callL rfl (p14_Order (by exact vta) (by exact vta) (by first|assumption|omega)) rfl ?_);intro _ _ _ _ _ _)|(refine JO.eff rfl rfl rfl (JEff.callV rfl (r0_EqInts (by exact vta) (by exact vta)) rfl ?_);intro _ _)|(refine JO.eff rfl rfl rfl (JEff.callR rfl (q14_chapter) rfl ?_);intro _ _ _ _)|(refine JO.eff rfl rfl rfl (JEff.callV rfl (p14_Best _ (by exact vta) (by exact vta) (by first|assumption|omega) (by first|assumption|(unfold Rng;omega))) rfl ?_);intro _ _)|(refine JO.eff rfl rfl rfl (JEff.callV rfl (p14_Left _ (by exact vta) (by exact vta)) rfl ?_);intro _ _)|(refine JO.eff rfl rfl rfl (JEff.callL rfl (p14_Rank _ (by exact vta) (by exact vta) (by first|assumption|omega) (by first|assumption|(unfold Rng;omega))) rfl ?_);intro _ _ _ _ _ _)|(refine WNew ?_;intros)|(refine WPut ?_;intros))
 repeat' (first|(refine Walk ?_;intros)|refine JC.block ?_|(refine JO.eff rfl rfl rfl (JEff.callV rfl (w14_Left f14_1 (by exact vta) (by exact vta)) rfl ?_);intro _ _)|(refine JO.eff rfl rfl rfl (JEff.callV rfl (w14_Left f14_2 (by exact vta) (by exact vta)) rfl ?_);intro _ _)|(refine JO.eff rfl rfl rfl (JEff.callL rfl (w14_Rank f14_3 (by decide) (by simp [Rng]) (by exact vta) (by exact vta)) rfl ?_);intro _ _ _ _ _ _)|(refine JO.eff rfl rfl rfl (JEff.callL rfl (w14_Rank f14_4 (by decide) (by simp [Rng]) (by exact vta) (by exact vta)) rfl ?_);intro _ _ _ _ _ _)|(refine JO.eff rfl rfl rfl (JEff.callL rfl (w14_Order f14_6 (by decide) (by exact vta) (by exact vta)) rfl ?_);intro _ _ _ _ _ _)|(refine JO.eff rfl rfl rfl (JEff.callV rfl (w_EqInts (by exact vta) (by exact vta)) rfl ?_);intro _ _)|(refine JO.eff rfl rfl rfl (JEff.buildS (bt:=8) (rep:=rI64) (ys:=[(1:Int),0]) rfl rfl ⟨⟨V_num,nna⟩,⟨V_num,nna⟩,trivial⟩ rfl rfl rfl (by decide) rfl ?_);intro _ _ _ _)|(refine JO.eff rfl rfl rfl (JEff.buildS (bt:=8) (rep:=rI64) (ys:=[(0:Int)]) rfl rfl ⟨⟨V_num,nna⟩,trivial⟩ rfl rfl rfl (by decide) rfl ?_);intro _ _ _ _)|(refine JO.eff rfl rfl rfl (JEff.buildS (bt:=8) (rep:=rI64) (ys:=[(3:Int),2,1,0,1]) rfl rfl ⟨⟨V_num,nna⟩,⟨V_num,nna⟩,⟨V_num,nna⟩,⟨V_num,nna⟩,⟨V_num,nna⟩,trivial⟩ rfl rfl rfl (by decide) rfl ?_);intro _ _ _ _)|(refine JO.eff rfl rfl rfl (JEff.buildS (bt:=8) (rep:=rI64) (ys:=[(0:Int),2,1,3]) rfl rfl ⟨⟨V_num,nna⟩,⟨V_num,nna⟩,⟨V_num,nna⟩,⟨V_num,nna⟩,trivial⟩ rfl rfl rfl (by decide) rfl ?_);intro _ _ _ _)|(refine JO.eff rfl rfl rfl (JEff.buildS (bt:=8) (rep:=rI64) (ys:=[(1:Int),0,0,0]) rfl rfl ⟨⟨V_num,nna⟩,⟨V_num,nna⟩,⟨V_num,nna⟩,⟨V_num,nna⟩,trivial⟩ rfl rfl rfl (by decide) rfl ?_);intro _ _ _ _)|(refine JO.eff rfl rfl rfl (JEff.callL rfl (p14_Order (by exact vta) (by exact vta) (by first|assumption|omega)) rfl ?_);intro _ _ _ _ _ _)|(refine JO.eff rfl rfl rfl (JEff.callV rfl (r0_EqInts (by exact vta) (by exact vta)) rfl ?_);intro _ _)|(refine JO.eff rfl rfl rfl (JEff.callR rfl (q14_chapter) rfl ?_);intro _ _ _ _)|(refine JO.eff rfl rfl rfl (JEff.callV rfl (p14_Best _ (by exact vta) (by exact vta) (by first|assumption|omega) (by first|assumption|(unfold Rng;omega))) rfl ?_);intro _ _)|(refine JO.eff rfl rfl rfl (JEff.callV rfl (p14_Left _ (by exact vta) (by exact vta)) rfl ?_);intro _ _)|(refine JO.eff rfl rfl rfl (JEff.callL rfl (p14_Rank _ (by exact vta) (by exact vta) (by first|assumption|omega) (by first|assumption|(unfold Rng;omega))) rfl ?_);intro _ _ _ _ _ _)|(refine WNew ?_;intros)|(refine WPut ?_;intros)|(refine JO.guard rfl rfl rfl rfl ?_ ?_<;>intro _)|(refine JC.cond rfl ?_ ?_<;>intro _))
 (refine JX.ret1 Tryz.results13 (ResV.tmp rfl) (List.nil_sublist _) ?_)
 exact ⟨rfl,rfl⟩
end Go.Dr
namespace Go.Dr
theorem rank_apply {s:Snap} {p:List Int} {pod n:Int} (h:n∈waysV s p pod):applyP s p ⟨2,pod,n⟩=(p.set pod.toNat n,0):=by
 obtain ⟨_,_,_,_,h1⟩:=ways_mem h
 obtain ⟨h2,h3,_⟩:=step_ok h1
 exact Prod.ext h3.symm h2
end Go.Dr
namespace Go.Dr
theorem inPods_nodup (n:Nat) (pods:List Int):(inPods n pods).Nodup:=(in_rise n pods).imp fun h=>by omega
theorem order_nodup (s:Snap) (pods:List Int):(orderV s pods).Nodup:=by
 unfold orderV
 split
 ·have hp:(sortBy (fun i=>-sizeV s i) (inPods s.pods.length pods)).Perm (inPods s.pods.length pods):=List.mergeSort_perm _ _
  exact hp.nodup_iff.2 (inPods_nodup _ _)
 ·exact List.nodup_nil
theorem ways_taken {s:Snap} {p:List Int} {pod:Int} (h:¬ at0 p pod.toNat=-1):waysV s p pod=[]:=by
 refine List.eq_nil_iff_forall_not_mem.2 fun n hn=>?_
 have hz:=ways_mem hn
 have ha:=rank_apply hn
 unfold applyP at ha
 split at ha
 ·have:=congrArg Prod.snd ha
  dsimp only at this
  rename_i hc
  simp_all [z0]
 ·split at ha
  ·simp at ha
  ·split at ha
   ·simp at ha
   ·split at ha
    ·simp at ha
    ·rename_i h4
     simp [h] at h4
theorem best_placed {s:Snap} {p:List Int} {pod:Int} (h:¬ at0 p pod.toNat=-1):bestV s p pod=(0,false):=by
 have h1:rankV s p pod=[]:=List.length_eq_zero_iff.1 (by rw [rank_len,ways_taken h];rfl)
 unfold bestV;rw [h1]
theorem at0_set_ne {q:List Int} {i j:Nat} {n:Int} (h:i≠j):at0 (q.set i n) j=at0 q j:=by
 unfold at0;simp [List.getD_eq_getElem?_getD,List.getElem?_set_ne h]
theorem at0_set_eq {q:List Int} {i:Nat} {n:Int} (h:i < q.length):at0 (q.set i n) i=n:=by
 unfold at0;simp [List.getD_eq_getElem?_getD,List.getElem?_set_self h]
theorem pack_inv (s:Snap):∀ (o q ws:List Int),o.Nodup→(∀ i∈o,0≤i∧i < q.length) →
  (packGo s q ws o).1.length=q.length∧(∀ j:Nat,¬ ((j:Int)∈o)→at0 (packGo s q ws o).1 j=at0 q j)∧(∀ j:Nat,¬ at0 q j=-1→at0 (packGo s q ws o).1 j=at0 q j) ∧
  ∃ w2,(packGo s q ws o).2=ws++w2∧w2.Sublist o∧∀ x∈o,(x∈w2↔at0 (packGo s q ws o).1 x.toNat=-1)
 | [],q,ws,_,_=>by
  rw [packGo]
  exact ⟨rfl,fun _ _=>rfl,fun _ _=>rfl,[],by simp,List.Sublist.refl _,fun x hx=>by cases hx⟩
 | i::o,q,ws,hnd,hr=>by
  obtain ⟨hi,hnd2⟩:=List.nodup_cons.1 hnd
  obtain ⟨hi0,hi1⟩:=hr i (by simp)
  have hii:((i.toNat:Nat):Int)=i:=by omega
  have hio:¬ ((i.toNat:Nat):Int)∈o:=by rw [hii];exact hi
  rw [packGo]
  split
  ·rename_i h1
   obtain ⟨ha,hb,hc,w2,hd,he,hf⟩:=pack_inv s o q ws hnd2 (fun j hj=>hr j (by simp [hj]))
   refine ⟨ha,fun j hj=>hb j (fun h=>hj (by simp [h])),hc,w2,hd,he.cons _,fun x hx=>?_⟩
   rcases List.mem_cons.1 hx with rfl|hx
   ·rw [hb _ hio]
    exact ⟨fun h=>absurd (he.subset h) hi,fun h=>absurd h h1⟩
   ·exact hf x hx
  ·rename_i h1
   have h1:at0 q i.toNat=-1:=Classical.not_not.1 h1
   split
   ·rename_i h2
    have hbn:0≤(bestV s q i).1:=(best_rng (s:=s) (p:=q) (pod:=i) (n:=(bestV s q i).1) (by rw [← h2])).1
    obtain ⟨ha,hb,hc,w2,hd,he,hf⟩:=pack_inv s o (q.set i.toNat (bestV s q i).1) ws hnd2 (fun j hj=>by rw [List.length_set];exact hr j (by simp [hj]))
    refine ⟨by rw [ha,List.length_set],fun j hj=>?_,fun j hj=>?_,w2,hd,he.cons _,fun x hx=>?_⟩
    ·have hne:i.toNat≠j:=fun e=>hj (by rw [← e,hii];simp)
     rw [hb j (fun h=>hj (by simp [h])),at0_set_ne hne]
    ·have hne:i.toNat≠j:=fun e=>hj (by rw [← e];exact h1)
     have h3:at0 (q.set i.toNat (bestV s q i).1) j=at0 q j:=at0_set_ne hne
     rw [hc j (by rw [h3];exact hj),h3]
    ·rcases List.mem_cons.1 hx with rfl|hx
     ·rw [hb _ hio,at0_set_eq (by omega)]
      exact ⟨fun h=>absurd (he.subset h) hi,fun h=>by omega⟩
     ·exact hf x hx
   ·obtain ⟨ha,hb,hc,w2,hd,he,hf⟩:=pack_inv s o q (ws++[i]) hnd2 (fun j hj=>hr j (by simp [hj]))
    refine ⟨ha,fun j hj=>hb j (fun h=>hj (by simp [h])),hc,i::w2,by rw [hd];simp,he.cons_cons _,fun x hx=>?_⟩
    rcases List.mem_cons.1 hx with rfl|hx
    ·rw [hb _ hio]
     exact ⟨fun _=>h1,fun _=>by simp⟩
    ·rw [← hf x hx]
     refine ⟨fun h=>?_,fun h=>by simp [h]⟩
     rcases List.mem_cons.1 h with rfl|h
     ·exact absurd (by assumption) hi
     ·exact h
def waitK (q o:List Int) (n:Nat):List Int:=((List.range n).filter (fun (i:Nat)=>decide ((i:Int)∈o)&&decide (at0 q i=-1))).map (fun (i:Nat)=>(i:Int))
theorem waitK_rise (q o:List Int) (n:Nat):(waitK q o n).Pairwise (fun a b=>a < b):=by
 unfold waitK
 rw [List.pairwise_map]
 exact (List.pairwise_lt_range.filter _).imp fun h=>by omega
theorem waitK_mem {q o:List Int} {n:Nat} {x:Int}:x∈waitK q o n↔0≤x∧x < n∧x∈o∧at0 q x.toNat=-1:=by
 unfold waitK
 simp only [List.mem_map,List.mem_filter,List.mem_range,decide_eq_true_eq,Bool.and_eq_true]
 constructor
 ·rintro ⟨i,⟨h1,h2,h3⟩,rfl⟩
  exact ⟨by omega,by omega,h2,by simpa using h3⟩
 ·rintro ⟨h1,h2,h3,h4⟩
  have e:((x.toNat:Nat):Int)=x:=by omega
  exact ⟨x.toNat,⟨by omega,by rw [e];exact h3,h4⟩,e⟩
theorem pack_waits {s:Snap} {p o:List Int} (hnd:o.Nodup) (hr:∀ i∈o,0≤i∧i < p.length):(packGo s p [] o).2.mergeSort (fun x y=>decide (x≤y))=waitK (packGo s p [] o).1 o p.length:=by
 obtain ⟨_,_,_,w2,h2,h3,h4⟩:=pack_inv s o p [] hnd hr
 rw [List.nil_append] at h2
 have hnw:((packGo s p [] o).2.mergeSort (fun x y=>decide (x≤y))).Nodup:=(List.mergeSort_perm _ _).nodup_iff.2 (by rw [h2];exact h3.nodup hnd)
 have hsw:=List.pairwise_mergeSort (le:=fun x y:Int=>decide (x≤y)) (fun a b c h1 h2=>by simp only [decide_eq_true_eq] at *;omega) (fun a b=>by simp only [Bool.or_eq_true,decide_eq_true_eq];omega) (packGo s p [] o).2
 refine rise_eq_of ?_ (waitK_rise _ _ _) fun x=>?_
 ·refine (List.Pairwise.and hsw hnw).imp fun h=>?_
  have h5:=of_decide_eq_true h.1
  have h6:=h.2
  omega
 ·rw [List.mem_mergeSort,waitK_mem,h2]
  constructor
  ·intro h
   have hx:=h3.subset h
   obtain ⟨a,b⟩:=hr x hx
   exact ⟨a,b,hx,(h4 x hx).1 h⟩
  ·rintro ⟨_,_,h5,h6⟩
   exact (h4 x h5).2 h6
def packQ (s:Snap):List Int→List Int→List Int
 | q,[]=>q
 | q,i::l=>if (bestV s q i).2=true then packQ s (q.set i.toNat (bestV s q i).1) l else packQ s q l
theorem packQ_eq (s:Snap):∀ (o q ws:List Int),(packGo s q ws o).1=packQ s q o
 | [],q,ws=>by rw [packGo,packQ]
 | i::o,q,ws=>by
  rw [packGo,packQ]
  by_cases h:at0 q i.toNat=-1
  ·rw [if_neg (by simpa using h)]
   split
   ·exact packQ_eq s o _ _
   ·exact packQ_eq s o _ _
  ·rw [if_pos h,best_placed h,if_neg (by simp)]
   exact packQ_eq s o _ _
theorem packV_eq {s:Snap} {p pods:List Int} (hc:checkP s p=0) (hlen:p.length=s.pods.length):packV s p pods=(packQ s p (orderV s pods),waitK (packQ s p (orderV s pods)) (orderV s pods) p.length,0):=by
 unfold packV
 rw [if_neg (by simpa using hc),pack_waits (order_nodup s pods) (fun i hi=>by obtain ⟨a,b,_⟩:=order_mem hi;omega),packQ_eq]
end Go.Dr
namespace Go.Dr
open Go.Proofs
set_option maxRecDepth 20000
set_option maxHeartbeats 2000000
set_option linter.unusedSimpArgs false
set_option linter.unusedVariables false
end Go.Dr
namespace Go.Dr
open Go.Proofs
set_option maxRecDepth 20000
set_option maxHeartbeats 2000000
set_option linter.unusedSimpArgs false
set_option linter.unusedVariables false
end Go.Dr
namespace Go.Dr
theorem packQ_append (s:Snap):∀ (a b q:List Int),packQ s q (a++b)=packQ s (packQ s q a) b
 | [],b,q=>by rw [List.nil_append,packQ]
 | i::a,b,q=>by
  rw [List.cons_append,packQ,packQ]
  split
  ·exact packQ_append s a b _
  ·exact packQ_append s a b _
def nowK (s:Snap) (p o:List Int) (k:Nat):List Int:=packQ s p (o.take k)
theorem nowK_0 (s:Snap) (p o:List Int):nowK s p o 0=p:=by unfold nowK;rw [List.take_zero,packQ]
theorem nowK_end (s:Snap) (p o:List Int):nowK s p o o.length=packQ s p o:=by unfold nowK;rw [List.take_length]
theorem nowK_step {s:Snap} {p o:List Int} {k:Nat} {x:Int} (h:o[k]?=some x):nowK s p o (k+1)=if (bestV s (nowK s p o k) x).2=true then (nowK s p o k).set x.toNat (bestV s (nowK s p o k) x).1 else nowK s p o k:=by
 have ht:o.take (k+1)=o.take k++[x]:=by rw [List.take_add_one,h];rfl
 unfold nowK
 rw [ht,packQ_append,packQ]
 split
 ·rw [packQ]
 ·rw [packQ]
theorem nowK_rest (s:Snap) (p o:List Int) (k:Nat):packQ s p o=packQ s (nowK s p o k) (o.drop k):=by
 unfold nowK
 rw [← packQ_append,List.take_append_drop]
theorem best_ways {s:Snap} {p:List Int} {x:Int}:((bestV s p x).2=false→waysV s p x=[])∧((bestV s p x).2=true→(bestV s p x).1∈waysV s p x):=by
 unfold bestV
 have hl:=rank_len s p x
 have hp:=rank_perm s p x
 cases hr:rankV s p x with
 | nil=>rw [hr] at hl;exact ⟨fun _=>List.eq_nil_of_length_eq_zero hl.symm,fun h=>(by cases h)⟩
 | cons n r=>rw [hr] at hp;exact ⟨fun h=>(by cases h),fun _=>hp.mem_iff.1 (by simp)⟩
theorem packQ_keeps {s:Snap} {L:List Clause} {p0:List Int} (hL:L=allL s p0):∀ (o q:List Int),checkP s q=0→keepsC s L q→checkP s (packQ s q o)=0∧keepsC s L (packQ s q o)∧(packQ s q o).length=q.length
 | [],q,h1,h2=>by rw [packQ];exact ⟨h1,h2,rfl⟩
 | i::o,q,h1,h2=>by
  rw [packQ]
  split
  ·rename_i hb
   have hw:=best_ways.2 hb
   obtain ⟨_,_,_,_,hst⟩:=ways_mem hw
   have ha:=rank_apply hw
   have hc:(applyP s q ⟨2,i,(bestV s q i).1⟩).2=0:=by rw [ha]
   obtain ⟨hq,_⟩:=apply_check hc
   rw [ha] at hq
   subst hL
   obtain ⟨a,b,c⟩:=packQ_keeps rfl o _ hq (keeps_step h2 hst)
   exact ⟨a,b,by rw [c,List.length_set]⟩
  ·exact packQ_keeps hL o q h1 h2
theorem now_ok {s:Snap} {p:List Int} (h:checkP s p=0) (o:List Int) (k:Nat):checkP s (nowK s p o k)=0∧(nowK s p o k).length=p.length:=by
 obtain ⟨a,_,b⟩:=packQ_keeps (s:=s) (p0:=p) rfl (o.take k) p h (keeps_self s p)
 exact ⟨a,b⟩
theorem pack_worse {s:Snap} {p:List Int} (h:checkP s p=0) (o:List Int):worseV s p (packQ s p o)=([],0):=by
 obtain ⟨a,b,_⟩:=packQ_keeps (s:=s) (p0:=p) rfl o p h (keeps_self s p)
 rw [worse_ok h a]
 refine Prod.ext ?_ rfl
 refine List.filter_eq_nil_iff.2 fun c hc=>?_
 have:=b c hc
 simp [worseF];omega
theorem pack_at {s:Snap} {p o:List Int} {k:Nat} {x:Int} (hnd:o.Nodup) (hr:∀ i∈o,0≤i∧i < p.length) (hc:checkP s p=0) (h:o[k]?=some x) (hx:at0 (nowK s p o k) x.toNat=-1) :
  ((bestV s (nowK s p o k) x).2=true→at0 (packQ s p o) x.toNat=(bestV s (nowK s p o k) x).1)∧((bestV s (nowK s p o k) x).2=false→at0 (packQ s p o) x.toNat=-1):=by
 have hk:=(List.getElem?_eq_some_iff.1 h).1
 have hd:(o.drop (k+1)).Nodup:=hnd.sublist (List.drop_sublist _ _)
 obtain ⟨hx0,hx1⟩:=hr x (List.mem_of_getElem? h)
 have hnx:¬ x∈o.drop (k+1):=fun hm=>by
  have h1:(o.drop k).Nodup:=hnd.sublist (List.drop_sublist _ _)
  rw [List.drop_eq_getElem_cons hk,(List.getElem?_eq_some_iff.1 h).2] at h1
  exact (List.nodup_cons.1 h1).1 hm
 have hl:=(now_ok hc o (k+1)).2
 have hl0:=(now_ok hc o k).2
 obtain ⟨_,h2,_⟩:=pack_inv s (o.drop (k+1)) (nowK s p o (k+1)) [] hd (fun i hi=>by rw [hl];exact hr i (List.mem_of_mem_drop hi))
 have h3:=h2 x.toNat (by rw [show ((x.toNat:Nat):Int)=x by omega];exact hnx)
 rw [packQ_eq,← nowK_rest] at h3
 rw [h3,nowK_step h]
 constructor
 ·intro hb
  rw [if_pos hb,at0_set_eq (by omega)]
 ·intro hb
  rw [if_neg (by simp [hb]),hx]
theorem order_iff {s:Snap} {pods:List Int} (hs:checkS s=0) {x:Int}:x∈orderV s pods↔0≤x∧x < s.pods.length∧x∈pods:=by
 unfold orderV
 rw [if_pos hs]
 have hp:(sortBy (fun i=>-sizeV s i) (inPods s.pods.length pods)).Perm (inPods s.pods.length pods):=List.mergeSort_perm _ _
 rw [hp.mem_iff,in_mem]
theorem pack_tells {s:Snap} {p pods:List Int} (hc:checkP s p=0) {i:Nat} (hi:i < p.length) :
  (¬ at0 (packQ s p (orderV s pods)) i=at0 p i→at0 p i=-1∧(i:Int)∈pods) ∧
  decide ((i:Int)∈waitK (packQ s p (orderV s pods)) (orderV s pods) p.length)=(decide ((i:Int)∈pods)&&decide (at0 (packQ s p (orderV s pods)) i < 0)):=by
 obtain ⟨hs,hlen,_⟩:=placed_hyps hc
 have hr:∀ i∈orderV s pods,0≤i∧i < p.length:=fun i hi=>by obtain ⟨a,b,_⟩:=order_mem hi;omega
 obtain ⟨h1,h2,h3,_⟩:=pack_inv s (orderV s pods) p [] (order_nodup s pods) hr
 rw [packQ_eq] at h1 h2 h3
 obtain ⟨hq,_,hql⟩:=packQ_keeps (s:=s) (p0:=p) rfl (orderV s pods) p hc (keeps_self s p)
 obtain ⟨_,_,_,_,_,hqr,_⟩:=placed_hyps hq
 constructor
 ·intro hne
  refine ⟨Classical.byContradiction fun h=>hne (h3 i h),Classical.byContradiction fun h=>hne (h2 i fun hm=>h (order_mem hm).2.2)⟩
 ·have hx:at0 (packQ s p (orderV s pods)) i∈packQ s p (orderV s pods):=by
   have h4:(packQ s p (orderV s pods))[i]?=some (packQ s p (orderV s pods))[i]:=List.getElem?_eq_getElem (by omega)
   rw [at0_some h4];exact List.getElem_mem _
  have hm:=(hqr _ hx).1
  rw [Bool.eq_iff_iff,Bool.and_eq_true,decide_eq_true_eq,decide_eq_true_eq,decide_eq_true_eq,waitK_mem,order_iff hs]
  constructor
  ·rintro ⟨_,_,⟨_,_,a⟩,b⟩
   simp only [Int.toNat_natCast] at b
   exact ⟨a,by omega⟩
  ·rintro ⟨a,b⟩
   simp only [Int.toNat_natCast]
   exact ⟨by omega,by omega,⟨by omega,by omega,a⟩,by omega⟩
end Go.Dr
namespace Go.Dr
open Go.Proofs
set_option maxRecDepth 20000
set_option maxHeartbeats 2000000
set_option linter.unusedSimpArgs false
set_option linter.unusedVariables false
end Go.Dr
namespace Go.Dr
open Go.Proofs
set_option maxRecDepth 20000
set_option maxHeartbeats 2000000
set_option linter.unusedSimpArgs false
set_option linter.unusedVariables false
theorem p10_StepS {S:SHeap} {u v xv:Value} {s:Snap} {p:List Int} {x:Step} (hu:rSnap.V S u s) (hv:(rSlice 8 rI64).V S v p) (hx:rStep.V S xv x):FnSt Tryz.prog 22 #[u,v,xv] S (stepV s p x).1 (stepV s p x).2.1 (.int .i64 (stepV s p x).2.2):=by
 obtain ⟨_,_,_,_,hQ8,_⟩:=V_slice.1 hv
 refine Fn.frozen (p10_Step hu hv hx) fun w S' M' hw=>?_
 rcases hw with ⟨c,e,he,hcr,hst,rfl,rfl⟩|⟨q,b,tl,cap,hst,hqr,hql,rfl,hqc,rfl⟩
 ·rw [hst]
  exact .inl ⟨rfl,_,rfl,V_nil,V_clV hcr⟩
 ·rw [hst]
  exact .inr ⟨b,_,rfl,fun S'' hl hS=>⟨_,rfl,blk_slice hl hS rfl hqc (by rw [hql];exact hQ8) hqr,V_clV noC_rng⟩⟩
theorem w10_Step {S:SHeap} {u v xv:Value} {s:Snap} {p q:List Int} {c:Clause} {e:Int} {x:Step} (h:stepV s p x=(q,c,e)) (hu:rSnap.V S u s) (hv:(rSlice 8 rI64).V S v p) (hx:rStep.V S xv x):FnSt Tryz.prog 22 #[u,v,xv] S q c (.int .i64 e):=by
 have hh:=p10_StepS hu hv hx
 rw [h] at hh;exact hh
end Go.Dr
namespace Go.Dr
open Go.Proofs
set_option maxRecDepth 20000
set_option maxHeartbeats 2000000
set_option linter.unusedSimpArgs false
set_option linter.unusedVariables false
theorem w9_Worse {S:SHeap} {u v v2:Value} {s:Snap} {p q:List Int} {cs:List Clause} {e:Int} (h:worseV s p q=(cs,e)) (hu:rSnap.V S u s) (hv:(rSlice 8 rI64).V S v p) (hv2:(rSlice 8 rI64).V S v2 q):FnLE Tryz.prog 18 #[u,v,v2] S 32 rClause cs (.int .i64 e):=by
 have hh:=p9_Worse hu hv hv2
 rw [h] at hh;exact hh
theorem s3_L14v {P K:Prop} (k:K) (h:Goal K→P:=by
 intro zk
 (first|refine Walk ?_|refine JC.block ?_|refine JC.drawN 3 rfl [0,2,3,4,5,6,1,7,8] [0,8] Tryz_mixed (by decide +kernel) ?_|refine JC.drawN 14 rfl [0,1,2,3,4,5,6,7,8,9,10,11,12,13,14,15,16,17,18,19,20,21,22,23,24,26,27,25,28,29,30,31,32,33,34,35,36,37] [0,1,2,3,4,5,6,7,8,9,10,11,12,13,14,15,16,17,19,20,21,22,23,24,29,30,31,32,33,34,35,36,37] Tryz_mixed (by decide +kernel) ?_|(refine JO.eff rfl rfl rfl (JEff.callV rfl (q14_works) rfl ?_);intro zqa zqb)|(refine JO.eff rfl rfl rfl (JEff.callR rfl (q14_cut (by exact vta)) rfl ?_);intro zqa zqb zqc zqd)|(refine JO.eff rfl rfl rfl (JEff.callL rfl (q14_fitted (by exact vta) (by exact vta) (by first|assumption|omega) (by first|assumption|omega)) rfl ?_);intro zqa zqb zqc zqd zqe zqf)|(refine JO.eff rfl rfl rfl (JEff.callV rfl (p7_Check (by exact vta) (by exact vta)) rfl ?_);intro zqa zqb)|(refine JO.eff rfl rfl rfl (JEff.callLE rfl (p9_Worse (by exact vta) (by exact vta) (by exact vta)) rfl ?_);intro zqa zqb zqc zqd zqe zqf)|(refine JO.eff rfl rfl rfl (JEff.callV rfl (q14_in _ _ (by exact vta)) rfl ?_);intro zqa zqb)|(refine JO.eff rfl rfl rfl (JEff.callL rfl (p14_Order (by exact vta) (by exact vta) (by first|assumption|omega)) rfl ?_);intro zqa zqb zqc zqd zqe zqf)|(refine JO.eff rfl rfl rfl (JEff.callL rfl (p10_Ways _ (by exact vta) (by exact vta) (by first|assumption|omega) (by first|assumption|(unfold Rng;omega))) rfl ?_);intro zqa zqb zqc zqd zqe zqf)|(refine JO.eff rfl rfl rfl (JEff.callV rfl (r0_EqInts (by exact vta) (by exact vta)) rfl ?_);intro zqa zqb)|(refine WNew ?_)|(refine WPut ?_))
 (repeat (first|revert zqg|revert zqf|revert zqe|revert zqd|revert zqc|revert zqb|revert zqa))
 exact zk.k):P:=h ⟨k⟩
theorem a14_FitKeeps {S:SHeap} {u v lv:Value} {s:Snap} {p pods:List Int} (hu:rSnap.V S u s) (hv:(rSlice 8 rI64).V S v p) (hl:(rSlice 8 rI64).V S lv pods):FnV Tryz.prog 3 #[u,v,lv] S (.bool true):=by
 obtain ⟨cs,rfl,hcs⟩:=V_agg rfl hu
 obtain ⟨a0,c0,rfl,hlc,hl8,hlb,_⟩:=V_slice.1 hl
 unfold big at hlb
 (refine Fn.enter (args:=[.agg cs.toArray,v,.slice a0 pods.length c0]) Tryz.func3 rfl Tryz.ntmps3 rfl ?_;intro w0)
 repeat (refine s3_L14v ?_;intros)
 refine JO.eff rfl rfl rfl (JEff.box rfl rfl ?_);intro bb hbb
 repeat (refine s3_L14v ?_;intros)
 refine JO.pure rfl rfl rfl (JPure.loadM (rep:=rSnap) (x0:=s) (mid:=cs) rfl (by (first|exact List.mem_cons_self|exact List.mem_cons_of_mem _ List.mem_cons_self|exact List.mem_cons_of_mem _ (List.mem_cons_of_mem _ List.mem_cons_self))) (by show cs.take 3=cs;exact List.take_of_length_le (by rw [rSnap.len hcs];exact Nat.le_refl _)) (rSnap.mono (by exact lea) hcs) (.inl rfl) rfl ?_)
 repeat (refine s3_L14v ?_;intros)
 refine JO.pure rfl rfl rfl (JPure.sliceS (xs:=pods) (rep:=rI64) (bt:=8) rfl (by exact vta) rfl rfl rfl (by omega) (by omega) (by omega) ?_);intro a1 c1 y1 hy1 hV1 hyl1 hyb1
 have e1:y1=pods.take 40:=hy1.trans (cut_len pods 40)
 subst e1
 refine JO.eff rfl rfl rfl (JEff.callR rfl (q14_cut (Rp.val_V (rSnap.mono (by exact lea) hcs))) rfl ?_);intro cw S1 hl1 hcw
 repeat (refine s3_L14v ?_;intros)
 refine JO.eff rfl rfl rfl (JEff.storeW rfl rfl hcw nna (List.Perm.refl _) (by show 3=cs.length;exact (rSnap.len hcs).symm) (by intro l hl;cases hl) ?_)
 refine JO.freezeV hcw nna hbb (by intro l hl;cases hl) ?_;intro S2 hl2 hpb
 have hnl:(cutS s).nodes.length≤1000:=by simp [cutS];omega
 have hsl:(cutS s).pods.length≤1000:=by simp [cutS];omega
 have hpl:(pods.take 40).length≤1000:=by simp;omega
 generalize cutS s=s' at *
 generalize pods.take 40=l' at *
 repeat (first|(refine Walk ?_;intros)|refine JC.block ?_|refine JC.drawN 3 rfl [0,2,3,4,5,6,1,7,8] [0,8] Tryz_mixed (by decide +kernel) ?_|refine JC.drawN 14 rfl [0,1,2,3,4,5,6,7,8,9,10,11,12,13,14,15,16,17,18,19,20,21,22,23,24,26,27,25,28,29,30,31,32,33,34,35,36,37] [0,1,2,3,4,5,6,7,8,9,10,11,12,13,14,15,16,17,19,20,21,22,23,24,29,30,31,32,33,34,35,36,37] Tryz_mixed (by decide +kernel) ?_|(refine JO.eff rfl rfl rfl (JEff.callL rfl (q14_fitted (by exact vta) (by exact vta) hnl hsl) rfl ?_);intro pa pc S4 hl4 hVp hpb4)|(refine JO.eff rfl rfl rfl (JEff.callV rfl (q14_works) rfl ?_);intro _ _)|(refine JO.eff rfl rfl rfl (JEff.callR rfl (q14_cut (by exact vta)) rfl ?_);intro _ _ _ _)|(refine JO.eff rfl rfl rfl (JEff.callL rfl (q14_fitted (by exact vta) (by exact vta) (by first|assumption|omega) (by first|assumption|omega)) rfl ?_);intro _ _ _ _ _ _)|(refine JO.eff rfl rfl rfl (JEff.callV rfl (p7_Check (by exact vta) (by exact vta)) rfl ?_);intro _ _)|(refine JO.eff rfl rfl rfl (JEff.callLE rfl (p9_Worse (by exact vta) (by exact vta) (by exact vta)) rfl ?_);intro _ _ _ _ _ _)|(refine JO.eff rfl rfl rfl (JEff.callV rfl (q14_in _ _ (by exact vta)) rfl ?_);intro _ _)|(refine JO.eff rfl rfl rfl (JEff.callL rfl (p14_Order (by exact vta) (by exact vta) (by first|assumption|omega)) rfl ?_);intro _ _ _ _ _ _)|(refine JO.eff rfl rfl rfl (JEff.callL rfl (p10_Ways _ (by exact vta) (by exact vta) (by first|assumption|omega) (by first|assumption|(unfold Rng;omega))) rfl ?_);intro _ _ _ _ _ _)|(refine JO.eff rfl rfl rfl (JEff.callV rfl (r0_EqInts (by exact vta) (by exact vta)) rfl ?_);intro _ _)|(refine WNew ?_;intros)|(refine WPut ?_;intros))
 have hfl:(fitV s' p).length=s'.pods.length:=by simp [fitV,fitK]
 generalize fitV s' p=p' at *
 by_cases hP:checkP s' p'=0
 ·obtain ⟨hs,hlen,hp24,hn8,_,_,hqr⟩:=placed_hyps hP
  have hpk:=packV_eq (pods:=l') hP hlen
  have hwo:=pack_worse hP (orderV s' l')
  obtain ⟨hqk,_,hql⟩:=packQ_keeps (s:=s') (p0:=p') rfl (orderV s' l') p' hP (keeps_self s' p')
  have htl:=fun i=>@pack_tells s' p' l' hP i
  have hom:=fun x=>@order_mem s' l' x
  have hol:=order_len s' l'
  have hr:∀ i∈orderV s' l',0≤i∧i < p'.length:=fun i hi=>by obtain ⟨a,b,_⟩:=hom i hi;omega
  have hpa:=fun k x=>@pack_at s' p' (orderV s' l') k x (order_nodup s' l') hr hP
  have hnk:=fun k x=>@nowK_step s' p' (orderV s' l') k x
  have hno:=fun k=>now_ok hP (orderV s' l') k
  have hne:=nowK_end s' p' (orderV s' l')
  have hn0:=nowK_0 s' p' (orderV s' l')
  obtain ⟨o,ho⟩:∃ o,orderV s' l'=o:=⟨_,rfl⟩
  rw [ho] at hpk hwo hqk hql htl hom hol hr hpa hnk hno hne hn0
  generalize packQ s' p' o=q at *
  generalize waitK q o p'.length=ws at *
  obtain ⟨_,_,_,_,_,hq1,hqr2⟩:=placed_hyps hqk
  repeat (first|(refine Walk ?_;intros)|refine JC.block ?_|refine JC.drawN 3 rfl [0,2,3,4,5,6,1,7,8] [0,8] Tryz_mixed (by decide +kernel) ?_|refine JC.drawN 14 rfl [0,1,2,3,4,5,6,7,8,9,10,11,12,13,14,15,16,17,18,19,20,21,22,23,24,26,27,25,28,29,30,31,32,33,34,35,36,37] [0,1,2,3,4,5,6,7,8,9,10,11,12,13,14,15,16,17,19,20,21,22,23,24,29,30,31,32,33,34,35,36,37] Tryz_mixed (by decide +kernel) ?_|(refine JO.eff rfl rfl rfl (JEff.callLL rfl (w14_Pack hpk (by exact vta) (by exact vta) (by exact vta) hpl) rfl ?_);intro _ _ _ _ _ _ _ _ _ _)|(refine JO.eff rfl rfl rfl (JEff.callLE rfl (w9_Worse hwo (by exact vta) (by exact vta) (by exact vta)) rfl ?_);intro _ _ _ _ _ _)|(refine JO.eff rfl rfl rfl (JEff.callV rfl (q14_works) rfl ?_);intro _ _)|(refine JO.eff rfl rfl rfl (JEff.callR rfl (q14_cut (by exact vta)) rfl ?_);intro _ _ _ _)|(refine JO.eff rfl rfl rfl (JEff.callL rfl (q14_fitted (by exact vta) (by exact vta) (by first|assumption|omega) (by first|assumption|omega)) rfl ?_);intro _ _ _ _ _ _)|(refine JO.eff rfl rfl rfl (JEff.callV rfl (p7_Check (by exact vta) (by exact vta)) rfl ?_);intro _ _)|(refine JO.eff rfl rfl rfl (JEff.callLE rfl (p9_Worse (by exact vta) (by exact vta) (by exact vta)) rfl ?_);intro _ _ _ _ _ _)|(refine JO.eff rfl rfl rfl (JEff.callV rfl (q14_in _ _ (by exact vta)) rfl ?_);intro _ _)|(refine JO.eff rfl rfl rfl (JEff.callL rfl (p14_Order (by exact vta) (by exact vta) (by first|assumption|omega)) rfl ?_);intro _ _ _ _ _ _)|(refine JO.eff rfl rfl rfl (JEff.callL rfl (p10_Ways _ (by exact vta) (by exact vta) (by first|assumption|omega) (by first|assumption|(unfold Rng;omega))) rfl ?_);intro _ _ _ _ _ _)|(refine JO.eff rfl rfl rfl (JEff.callV rfl (r0_EqInts (by exact vta) (by exact vta)) rfl ?_);intro _ _)|(refine WNew ?_;intros)|(refine WPut ?_;intros))
  rw [decide_eq_true (by rw [hql]:(q.length:Int)=p'.length)]
  repeat (refine s3_L14v ?_;intros)
  refine JC.loopF0 (σ:=Nat) [(2,_),(3,_),(7,_),(8,_),(9,_)] (fun z=>[(13,.int .i64 z)]) (fun Si z=>z≤p'.length) (fun z=>p'.length - z) (0) (by exact sba) (by exact sba) (Nat.zero_le _) ?_;rintro Si k hli hii;(try dsimp only at hii);dsimp only [List.cons_append,List.nil_append]
  repeat (refine s3_L14v ?_;intros)
  refine JC.cond rfl (fun hc=>?_) (fun hc=>?_)
  ·have hk':=dlt hc
   obtain ⟨x,hx,_⟩:=drop_at hk'
   obtain ⟨y,hy,_⟩:=drop_at (l:=q) (show k < q.length by omega)
   obtain ⟨h1,h2⟩:=htl k hk'
   rw [at0_some hx,at0_some hy] at h1
   rw [at0_some hy] at h2
   repeat (refine s3_L14v ?_;intros)
   by_cases hyx:y=x
   ·rw [decide_eq_true hyx]
    repeat (refine s3_L14v ?_;intros)
    by_cases hm:(k:Int)∈l'
    ·rw [decide_eq_true hm] at h2
     rw [Bool.true_and] at h2
     rw [decide_eq_true hm]
     repeat (refine s3_L14v ?_;intros)
     rw [h2,beq_self_eq_true (decide (y < 0))]
     repeat (refine s3_L14v ?_;intros)
     exact JX.roundF (k+1) (by exact lea) (by omega) (by (try dsimp only);omega) rfl (by exact sba) (by exact sba)
    ·rw [decide_eq_false hm] at h2
     rw [Bool.false_and] at h2
     rw [decide_eq_false hm]
     repeat (refine s3_L14v ?_;intros)
     rw [h2,beq_self_eq_true false]
     repeat (refine s3_L14v ?_;intros)
     exact JX.roundF (k+1) (by exact lea) (by omega) (by (try dsimp only);omega) rfl (by exact sba) (by exact sba)
   ·obtain ⟨rfl,hm⟩:=h1 hyx
    rw [decide_eq_false hyx]
    repeat (refine s3_L14v ?_;intros)
    rw [decide_eq_true hm]
    repeat (refine s3_L14v ?_;intros)
    rw [decide_eq_true hm] at h2
    rw [Bool.true_and] at h2
    rw [decide_eq_true hm]
    repeat (refine s3_L14v ?_;intros)
    rw [h2,beq_self_eq_true (decide (y < 0))]
    repeat (refine s3_L14v ?_;intros)
    exact JX.roundF (k+1) (by exact lea) (by omega) (by (try dsimp only);omega) rfl (by exact sba) (by exact sba)
  ·repeat (first|(refine Walk ?_;intros)|refine JC.block ?_|refine JC.drawN 3 rfl [0,2,3,4,5,6,1,7,8] [0,8] Tryz_mixed (by decide +kernel) ?_|refine JC.drawN 14 rfl [0,1,2,3,4,5,6,7,8,9,10,11,12,13,14,15,16,17,18,19,20,21,22,23,24,26,27,25,28,29,30,31,32,33,34,35,36,37] [0,1,2,3,4,5,6,7,8,9,10,11,12,13,14,15,16,17,19,20,21,22,23,24,29,30,31,32,33,34,35,36,37] Tryz_mixed (by decide +kernel) ?_|(refine JO.eff rfl rfl rfl (JEff.callL rfl (w14_Order ho hpl (by exact vta) (by exact vta)) rfl ?_);intro _ _ _ _ _ _)|(refine JO.eff rfl rfl rfl (JEff.callV rfl (q14_works) rfl ?_);intro _ _)|(refine JO.eff rfl rfl rfl (JEff.callR rfl (q14_cut (by exact vta)) rfl ?_);intro _ _ _ _)|(refine JO.eff rfl rfl rfl (JEff.callL rfl (q14_fitted (by exact vta) (by exact vta) (by first|assumption|omega) (by first|assumption|omega)) rfl ?_);intro _ _ _ _ _ _)|(refine JO.eff rfl rfl rfl (JEff.callV rfl (p7_Check (by exact vta) (by exact vta)) rfl ?_);intro _ _)|(refine JO.eff rfl rfl rfl (JEff.callLE rfl (p9_Worse (by exact vta) (by exact vta) (by exact vta)) rfl ?_);intro _ _ _ _ _ _)|(refine JO.eff rfl rfl rfl (JEff.callV rfl (q14_in _ _ (by exact vta)) rfl ?_);intro _ _)|(refine JO.eff rfl rfl rfl (JEff.callL rfl (p14_Order (by exact vta) (by exact vta) (by first|assumption|omega)) rfl ?_);intro _ _ _ _ _ _)|(refine JO.eff rfl rfl rfl (JEff.callL rfl (p10_Ways _ (by exact vta) (by exact vta) (by first|assumption|omega) (by first|assumption|(unfold Rng;omega))) rfl ?_);intro _ _ _ _ _ _)|(refine JO.eff rfl rfl rfl (JEff.callV rfl (r0_EqInts (by exact vta) (by exact vta)) rfl ?_);intro _ _)|(refine WNew ?_;intros)|(refine WPut ?_;intros))
   refine JC.loopF0 (σ:=Nat × Option Addr × Nat) [(3,_),(7,_),(8,_),(15,_)] (fun z=>[(14,.slice z.2.1 (nowK s' p' o z.1).length z.2.2),(16,.int .i64 z.1)]) (fun Sj z=>z.1≤o.length∧(rSlice 8 rI64).V Sj (.slice z.2.1 (nowK s' p' o z.1).length z.2.2) (nowK s' p' o z.1)) (fun z=>o.length - z.1) ((0,pa,pc)) (by exact sba) (by exact sba) (⟨Nat.zero_le _,by (try dsimp only);rw [hn0];exact hVp.mono (by exact lea)⟩) ?_;rintro Sj ⟨k,na,nc⟩ hlj hij;(try dsimp only at hij);dsimp only [List.cons_append,List.nil_append]
   obtain ⟨hkj,hVn⟩:=hij
   try dsimp only at hkj hVn
   repeat (refine s3_L14v ?_;intros)
   refine JC.cond rfl (fun hc2=>?_) (fun hc2=>?_)
   ·have hk':=dlt hc2
    obtain ⟨x,hx,_⟩:=drop_at hk'
    obtain ⟨hx0,hx1⟩:=hr x (List.mem_of_getElem? hx)
    have hxr:Rng x:=by unfold Rng;omega
    have hst:=hnk k x hx
    have hpx:=hpa k x
    obtain ⟨hnc,hnl2⟩:=hno k
    have hbp:=fun h=>@best_placed s' (nowK s' p' o k) x h
    have hbw:=@best_ways s' (nowK s' p' o k) x
    generalize nowK s' p' o k=nw at *
    obtain ⟨_,_,_,_,_,hnw,hnr⟩:=placed_hyps hnc
    obtain ⟨y,hy,_⟩:=drop_at (l:=nw) (show x.toNat < nw.length by omega)
    obtain ⟨w,hw,_⟩:=drop_at (l:=q) (show x.toNat < q.length by omega)
    have hy1:=(hnw y (List.mem_of_getElem? hy)).1
    rw [at0_some hy] at hpx hbp
    rw [at0_some hw] at hpx
    repeat (refine s3_L14v ?_;intros)
    rw [decide_eq_false (by omega:¬ x < 0)]
    repeat (refine s3_L14v ?_;intros)
    rw [decide_eq_false (by omega:¬ (p'.length:Int)≤x)]
    repeat (refine s3_L14v ?_;intros)
    by_cases hy0:0≤y
    ·rw [decide_eq_true hy0]
     have hbb:=hbp (by omega)
     rw [hbb,if_neg (by simp)] at hst
     repeat (refine s3_L14v ?_;intros)
     exact JX.roundF (k+1,na,nc) (by exact lea) ⟨by omega,by dsimp only;rw [hst];exact hVn.mono (by exact lea)⟩ (by (try dsimp only);omega) rfl (by (try dsimp only);rw [hst];exact sba) (by exact sba)
    ·rw [decide_eq_false hy0]
     obtain ⟨hp1,hp2⟩:=hpx hx (by omega)
     repeat (refine s3_L14v ?_;intros)
     cases hb:(bestV s' nw x).2
     ·have hw0:=hp2 hb
      have hwe:=hbw.1 hb
      rw [hb,if_neg (by simp)] at hst
      rw [decide_eq_true (by omega:w < 0),hwe]
      repeat (refine s3_L14v ?_;intros)
      exact JX.roundF (k+1,na,nc) (by exact lea) ⟨by omega,by dsimp only;rw [hst];exact hVn.mono (by exact lea)⟩ (by (try dsimp only);omega) rfl (by (try dsimp only);rw [hst];exact sba) (by exact sba)
     ·have hw0:=hp1 hb
      have hwm:=hbw.2 hb
      rw [hb,if_pos rfl,← hw0] at hst
      rw [← hw0] at hwm
      obtain ⟨hwa,hwb,_,_,hsv⟩:=ways_mem hwm
      rw [decide_eq_false (by omega:¬ w < 0)]
      have hwr:Rng w:=by unfold Rng;omega
      repeat (refine s3_L14v ?_;intros)
      refine JC.partF0 (σ:=Option Addr × Nat) [(3,_),(7,_),(8,_),(15,_),(16,_),(17,_),(18,_)] (fun z=>[(19,.slice z.1 (nw.set x.toNat w).length z.2),(21,.int .i64 0)]) (fun SA z=>(rSlice 8 rI64).V SA (.slice z.1 (nw.set x.toNat w).length z.2) (nw.set x.toNat w)) ?_ (by exact sba) ?_;rotate_left;rintro SA ⟨ra,rc⟩ hlA hiA;(try dsimp only at hiA);dsimp only [List.cons_append,List.nil_append];rotate_left
      ·refine JC.drawTree 29 rfl [14,16] [0,1,2,3,4,5,6,7] (.alt (ofL [8,9,10,11,12,13,14,15,16] .nil) (ofL [13,8,9,10,11,12,14,15,16] .nil)) Tryz_mixed (by decide +kernel) ?_
       repeat' (first|(refine Walk ?_;intros)|refine JC.block ?_|refine JC.drawN 3 rfl [0,2,3,4,5,6,1,7,8] [0,8] Tryz_mixed (by decide +kernel) ?_|refine JC.drawN 14 rfl [0,1,2,3,4,5,6,7,8,9,10,11,12,13,14,15,16,17,18,19,20,21,22,23,24,26,27,25,28,29,30,31,32,33,34,35,36,37] [0,1,2,3,4,5,6,7,8,9,10,11,12,13,14,15,16,17,19,20,21,22,23,24,29,30,31,32,33,34,35,36,37] Tryz_mixed (by decide +kernel) ?_|(refine JO.eff rfl rfl rfl (JEff.callSt rfl (w10_Step hsv (by exact vta) (by exact vta) (V_step.2 ⟨by simp [flatCells,Value.cells],by simp [Rng],hxr,hwr⟩)) rfl ?_);intro _ _ _ _ _ _ _)|refine JO.alt ?_ ?_|(refine JO.eff rfl rfl rfl (JEff.callV rfl (q14_works) rfl ?_);intro _ _)|(refine JO.eff rfl rfl rfl (JEff.callR rfl (q14_cut (by exact vta)) rfl ?_);intro _ _ _ _)|(refine JO.eff rfl rfl rfl (JEff.callL rfl (q14_fitted (by exact vta) (by exact vta) (by first|assumption|omega) (by first|assumption|omega)) rfl ?_);intro _ _ _ _ _ _)|(refine JO.eff rfl rfl rfl (JEff.callV rfl (p7_Check (by exact vta) (by exact vta)) rfl ?_);intro _ _)|(refine JO.eff rfl rfl rfl (JEff.callLE rfl (p9_Worse (by exact vta) (by exact vta) (by exact vta)) rfl ?_);intro _ _ _ _ _ _)|(refine JO.eff rfl rfl rfl (JEff.callV rfl (q14_in _ _ (by exact vta)) rfl ?_);intro _ _)|(refine JO.eff rfl rfl rfl (JEff.callL rfl (p14_Order (by exact vta) (by exact vta) (by first|assumption|omega)) rfl ?_);intro _ _ _ _ _ _)|(refine JO.eff rfl rfl rfl (JEff.callL rfl (p10_Ways _ (by exact vta) (by exact vta) (by first|assumption|omega) (by first|assumption|(unfold Rng;omega))) rfl ?_);intro _ _ _ _ _ _)|(refine JO.eff rfl rfl rfl (JEff.callV rfl (r0_EqInts (by exact vta) (by exact vta)) rfl ?_);intro _ _)|(refine WNew ?_;intros)|(refine WPut ?_;intros)|(refine JO.guard rfl rfl rfl rfl ?_ ?_<;>intro _)|(refine JC.cond rfl ?_ ?_<;>intro _))
       all_goals exact JX.partF ((_,_)) (by exact lea) (by exact vta) rfl (by exact sba) (by exact sba)
      repeat (refine s3_L14v ?_;intros)
      rw [decide_eq_true hwm]
      repeat (refine s3_L14v ?_;intros)
      exact JX.roundF (k+1,ra,rc) (by exact lea) ⟨by omega,by dsimp only;rw [hst];exact hiA.mono (by exact lea)⟩ (by (try dsimp only);omega) rfl (by (try dsimp only);rw [hst];exact sba) (by exact sba)
   ·have hk':=dnlt hc2
    obtain rfl:k=o.length:=by omega
    rw [hne] at hVn ⊢
    repeat (first|(refine Walk ?_;intros)|refine JC.block ?_|refine JC.drawN 3 rfl [0,2,3,4,5,6,1,7,8] [0,8] Tryz_mixed (by decide +kernel) ?_|refine JC.drawN 14 rfl [0,1,2,3,4,5,6,7,8,9,10,11,12,13,14,15,16,17,18,19,20,21,22,23,24,26,27,25,28,29,30,31,32,33,34,35,36,37] [0,1,2,3,4,5,6,7,8,9,10,11,12,13,14,15,16,17,19,20,21,22,23,24,29,30,31,32,33,34,35,36,37] Tryz_mixed (by decide +kernel) ?_|(refine JO.eff rfl rfl rfl (JEff.callV rfl (w_EqInts (by exact vta) (by exact vta)) rfl ?_);intro _ _)|(refine JO.eff rfl rfl rfl (JEff.callV rfl (q14_works) rfl ?_);intro _ _)|(refine JO.eff rfl rfl rfl (JEff.callR rfl (q14_cut (by exact vta)) rfl ?_);intro _ _ _ _)|(refine JO.eff rfl rfl rfl (JEff.callL rfl (q14_fitted (by exact vta) (by exact vta) (by first|assumption|omega) (by first|assumption|omega)) rfl ?_);intro _ _ _ _ _ _)|(refine JO.eff rfl rfl rfl (JEff.callV rfl (p7_Check (by exact vta) (by exact vta)) rfl ?_);intro _ _)|(refine JO.eff rfl rfl rfl (JEff.callLE rfl (p9_Worse (by exact vta) (by exact vta) (by exact vta)) rfl ?_);intro _ _ _ _ _ _)|(refine JO.eff rfl rfl rfl (JEff.callV rfl (q14_in _ _ (by exact vta)) rfl ?_);intro _ _)|(refine JO.eff rfl rfl rfl (JEff.callL rfl (p14_Order (by exact vta) (by exact vta) (by first|assumption|omega)) rfl ?_);intro _ _ _ _ _ _)|(refine JO.eff rfl rfl rfl (JEff.callL rfl (p10_Ways _ (by exact vta) (by exact vta) (by first|assumption|omega) (by first|assumption|(unfold Rng;omega))) rfl ?_);intro _ _ _ _ _ _)|(refine JO.eff rfl rfl rfl (JEff.callV rfl (r0_EqInts (by exact vta) (by exact vta)) rfl ?_);intro _ _)|(refine WNew ?_;intros)|(refine WPut ?_;intros))
    (refine JX.ret1 Tryz.results3 (ResV.tmp rfl) (List.nil_sublist _) ?_)
    exact ⟨rfl,rfl⟩
 ·have hpk:packV s' p' l'=([],[],checkP s' p'):=if_pos hP
  repeat (first|(refine Walk ?_;intros)|refine JC.block ?_|refine JC.drawN 3 rfl [0,2,3,4,5,6,1,7,8] [0,8] Tryz_mixed (by decide +kernel) ?_|refine JC.drawN 14 rfl [0,1,2,3,4,5,6,7,8,9,10,11,12,13,14,15,16,17,18,19,20,21,22,23,24,26,27,25,28,29,30,31,32,33,34,35,36,37] [0,1,2,3,4,5,6,7,8,9,10,11,12,13,14,15,16,17,19,20,21,22,23,24,29,30,31,32,33,34,35,36,37] Tryz_mixed (by decide +kernel) ?_|(refine JO.eff rfl rfl rfl (JEff.callLL rfl (w14_Pack hpk (by exact vta) (by exact vta) (by exact vta) hpl) rfl ?_);intro _ _ _ _ _ _ _ _ _ _)|(refine JO.eff rfl rfl rfl (JEff.callV rfl (q14_works) rfl ?_);intro _ _)|(refine JO.eff rfl rfl rfl (JEff.callR rfl (q14_cut (by exact vta)) rfl ?_);intro _ _ _ _)|(refine JO.eff rfl rfl rfl (JEff.callL rfl (q14_fitted (by exact vta) (by exact vta) (by first|assumption|omega) (by first|assumption|omega)) rfl ?_);intro _ _ _ _ _ _)|(refine JO.eff rfl rfl rfl (JEff.callV rfl (p7_Check (by exact vta) (by exact vta)) rfl ?_);intro _ _)|(refine JO.eff rfl rfl rfl (JEff.callLE rfl (p9_Worse (by exact vta) (by exact vta) (by exact vta)) rfl ?_);intro _ _ _ _ _ _)|(refine JO.eff rfl rfl rfl (JEff.callV rfl (q14_in _ _ (by exact vta)) rfl ?_);intro _ _)|(refine JO.eff rfl rfl rfl (JEff.callL rfl (p14_Order (by exact vta) (by exact vta) (by first|assumption|omega)) rfl ?_);intro _ _ _ _ _ _)|(refine JO.eff rfl rfl rfl (JEff.callL rfl (p10_Ways _ (by exact vta) (by exact vta) (by first|assumption|omega) (by first|assumption|(unfold Rng;omega))) rfl ?_);intro _ _ _ _ _ _)|(refine JO.eff rfl rfl rfl (JEff.callV rfl (r0_EqInts (by exact vta) (by exact vta)) rfl ?_);intro _ _)|(refine WNew ?_;intros)|(refine WPut ?_;intros))
  rw [decide_eq_false hP]
  repeat (refine s3_L14v ?_;intros)
  rw [decide_eq_true (rfl:checkP s' p'=checkP s' p')]
  repeat (refine s3_L14v ?_;intros)
  (refine JX.ret1 Tryz.results3 (ResV.tmp rfl) (List.nil_sublist _) ?_)
  exact ⟨rfl,rfl⟩
end Go.Dr
namespace Go.Dr
open Go.RowKit
def heapS (w:World):SHeap:=fun b=>w.heap[b]?
theorem agree_heapS (w:World):Agree (heapS w) w:=fun _ _ h=>h
theorem heapS_cell {w:World} {a:Addr} {v:Value} (h:w.cell? a=some v):(heapS w).cell? a=some v:=by
 unfold World.cell? at h
 unfold SHeap.cell? heapS
 exact h
class RdR {α:Type} (P:Program) (T:TypeId) (rep:Rp α):Prop where
 rd:∀ {H:Type} {enc:TypeId × Value→H} {w:World} {base:Nat} {spare:Nat→Bool} {held:Bool} {fuel:Nat} {cs:List Value} {d:DataW H} {ps:List MemPlace},
  DataW.trod enc P w base spare held fuel T cs=some (d,ps)→(∀ n∈d.weights P T,n≤reachBytes)→∃ x,rep.R (heapS w) cs x
theorem cells_sz {α:Type} {P:Program} {T:TypeId} {rep:Rp α} (h:TyR P T rep):P.cellsOf T=rep.sz:=by
 obtain ⟨i,hi,hs⟩:=h.i
 unfold Program.cellsOf
 rw [hi]
 exact hs
theorem bytes_of {P:Program} {E:TypeId} {bt:Nat} (h:Byt P E bt):P.bytesOf E=bt:=by
 have:=h.h
 unfold Program.bytesOf
 rw [this];rfl
instance {P:Program} {T:TypeId} [h:Und P T (.int .i64)]:RdR P T rI64 where
 rd ht _:=by
  obtain ⟨n,rfl,_,hw⟩:=DataW.trod_int h.h ht
  refine ⟨n,rfl,?_⟩
  simp only [Lit.wf,Bool.and_eq_true,decide_eq_true_eq] at hw
  exact hw
instance {P:Program} {T:TypeId} [h:Und P T .bool]:RdR P T rBool where
 rd ht _:=by
  obtain ⟨b,rfl,_⟩:=DataW.trod_bool h.h ht
  exact ⟨b,rfl⟩
theorem reach_big:reachBytes≤big:=by decide
instance {P:Program} {T:TypeId} [h:Und P T .string]:RdR P T rStr where
 rd ht hw:=by
  obtain ⟨s,rfl,hd,hs⟩:=DataW.trod_string h.h ht
  cases hd
  refine ⟨s,rfl,?_⟩
  have:=hw s.data.toList.length (by simp [DataW.weights])
  have e:s.data.toList.length=s.size:=Array.length_toList
  have:=reach_big
  omega
theorem list_of {α:Type}:∀ {n:Nat} {q:Nat→α→Prop},(∀ i,i < n→∃ x,q i x)→∃ l:List α,l.length=n∧∀ i x,l[i]?=some x→q i x
 | 0,_,_=>⟨[],rfl,fun i x h=>by simp at h⟩
 | n+1,q,h=>by
  obtain ⟨x,hx⟩:=h 0 (by omega)
  obtain ⟨l,hl,hq⟩:=list_of (n:=n) (q:=fun i=>q (i+1)) (fun i hi=>h (i+1) (by omega))
  refine ⟨x::l,by simp [hl],fun i y hy=>?_⟩
  cases i with
  | zero=>cases hy;exact hx
  | succ i=>exact hq i y hy
theorem weights_all {H:Type} {P:Program} {e:TypeId}:∀ {l:List (DataW H)} {d:DataW H} {n:Nat},d∈l→n∈d.weights P e→n∈DataW.weightsAll P e l
 | a::l,d,n,hd,hn=>by
  simp only [DataW.weightsAll,List.mem_append]
  rcases List.mem_cons.1 hd with rfl|hd
  ·exact .inl hn
  ·exact .inr (weights_all hd hn)
instance {α:Type} {P:Program} {T E:TypeId} {bt:Nat} {rep:Rp α} [hu:Und P T (.slice E)] [hr:RdR P E rep] [ht:TyR P E rep] [hb:Byt P E bt] [hz:NeZero bt]:RdR P T (rSlice bt rep) where
 rd h hw:=by
  rcases Deep.open_slice hu.h h with ⟨rfl,_⟩|⟨a,len,cap,m,n,D,Pl,rfl,_,hlc,hcm,hm,hx,hel⟩
  ·exact ⟨[],none,0,0,rfl,rfl,Nat.le_refl _,by simp,Nat.zero_le _,fun i x h=>by simp at h⟩
  ·cases hx
   have hmb:len≤m:=by rw [hm];split<;>omega
   have hrb:=reach_big
   have hbt1:1≤bt:=Nat.one_le_iff_ne_zero.2 hz.out
   have hlen1:len*1≤len*bt:=Nat.mul_le_mul_left _ hbt1
   have hwt:=hw ((((List.range len).map D).length+((List.range (m - len)).map fun j=>D (len+j)).length)*P.bytesOf E) (by simp [DataW.weights,hu.h])
   rw [bytes_of hb] at hwt
   simp only [List.length_map,List.length_range] at hwt
   have hlen:len*bt≤(len+(m - len))*bt:=Nat.mul_le_mul_right _ (by omega)
   obtain ⟨xs,hxl,hxs⟩:=list_of (n:=len) (q:=fun i x=>PtrTo (heapS _) (a.add (i*rep.sz)) rep x) (fun i hi=>by
    obtain ⟨cs',h1,h2⟩:=hel i (by omega)
    obtain ⟨_,hcl,hcs⟩:=World.cells?_some h1
    obtain ⟨x,hx⟩:=hr.rd h2 (fun k hk=>hw k (by
     simp only [DataW.weights,hu.h,List.mem_cons,List.mem_append]
     exact .inr (.inl (weights_all (List.mem_map.2 ⟨i,by simpa using hi,rfl⟩) hk))))
    rw [cells_sz ht] at hcs hcl
    refine ⟨x,cs',hx,fun j v hv=>heapS_cell ?_⟩
    have hj:=(List.getElem?_eq_some_iff.1 hv).1
    rw [hcs j (by omega)];exact hv)
   refine ⟨xs,some a,len,cap,rfl,hxl,hlc,by omega,by omega,fun i x h=>⟨a,rfl,hxs i x h⟩⟩
instance {P:Program} {T E:TypeId} {n:Nat} [hu:Und P T (.array n E)] [he:Und P E (.int .i64)] [ht:TyR P E rI64] [htt:TyR P T (rArr n)]:RdR P T (rArr n) where
 rd h _:=by
  rename_i cs d ps _
  obtain ⟨xs,m,rfl,_,hcl,hxl,hx⟩:=DataW.trod_array hu.h h
  have hsz:P.cellsOf E=1:=cells_sz ht
  rw [cells_sz htt] at hcl
  have hcl:cs.length=n:=hcl
  obtain ⟨l,hll,hl⟩:=list_of (n:=n) (q:=fun i (z:Int)=>cs[i]?=some (.int .i64 z)∧Rng z) (fun i hi=>by
   have h1:=hx i hi
   rw [hsz,Nat.mul_one,List.getElem?_eq_getElem (by omega)] at h1
   obtain ⟨z,hz,_,hw⟩:=DataW.trod_int he.h h1
   refine ⟨z,?_,?_⟩
   ·have:((cs.drop i).take 1)[0]?=some (.int .i64 z):=by rw [hz];rfl
    rw [List.getElem?_take,if_pos (by omega),List.getElem?_drop] at this
    simpa using this
   ·simp only [Lit.wf,Bool.and_eq_true,decide_eq_true_eq] at hw
    exact hw)
  refine ⟨l,hll,?_,fun x hx=>?_⟩
  ·apply List.ext_getElem?
   intro i
   rw [List.getElem?_map]
   by_cases hi:i < n
   ·have hg:l[i]?=some l[i]:=List.getElem?_eq_getElem (by omega)
    rw [hg,(hl i _ hg).1];rfl
   ·rw [List.getElem?_eq_none (by omega),List.getElem?_eq_none (by omega)];rfl
  ·obtain ⟨i,hi⟩:=List.getElem?_of_mem hx
   exact (hl i x hi).2
structure RdF {α:Type} (P:Program) (off:Nat) (fs:List Field) (rep:Rp α):Prop where
 run:∀ {H:Type} {enc:TypeId × Value→H} {w:World} {base:Nat} {spare:Nat→Bool} {held:Bool} {m:Nat} {cs:List Value} {xs:List (DataW H × List MemPlace)},cs.length=off+rep.sz→xs.length=fs.length →
  (∀ (i:Nat) (f:Field),fs[i]?=some f→DataW.trod enc P w base spare held m f.type ((cs.drop f.offset).take (P.cellsOf f.type))=xs[i]?) →
  (∀ n∈DataW.weightsEach P (fs.map (·.type)) (xs.map (·.1)),n≤reachBytes)→∃ x,rep.R (heapS w) (cs.drop off) x
theorem RdF.last {α:Type} {P:Program} {off:Nat} {f:Field} {rep:Rp α} (ho:f.offset=off) (hr:RdR P f.type rep) (hs:P.cellsOf f.type=rep.sz):RdF P off [f] rep:=⟨by
 intro H enc w base spare held m cs xs hc hl hx hw
 match xs,hl with
 | [y],_=>
  have h1:=hx 0 f rfl
  rw [ho,hs,List.take_of_length_le (by rw [List.length_drop];omega)] at h1
  refine hr.rd (d:=y.1) (ps:=y.2) h1 (fun n hn=>hw n ?_)
  simp only [List.map_cons,DataW.weightsEach,List.mem_append]
  exact .inl hn⟩
theorem RdF.cons {α β:Type} {P:Program} {off:Nat} {f:Field} {fs:List Field} {a:Rp α} {b:Rp β} (ho:f.offset=off) (hr:RdR P f.type a) (hs:P.cellsOf f.type=a.sz) (h:RdF P (off+a.sz) fs b):RdF P off (f::fs) (rSeq a b):=⟨by
 intro H enc w base spare held m cs xs hc hl hx hw
 match xs,hl with
 | y::ys,hl=>
  have hc:cs.length=off+(a.sz+b.sz):=hc
  have h1:=hx 0 f rfl
  rw [ho,hs] at h1
  obtain ⟨x1,hx1⟩:=hr.rd (d:=y.1) (ps:=y.2) h1 (fun n hn=>hw n (by
   simp only [List.map_cons,DataW.weightsEach,List.mem_append]
   exact .inl hn))
  obtain ⟨x2,hx2⟩:=h.run (cs:=cs) (xs:=ys) (by omega) (by simpa using hl) (fun i g hg=>hx (i+1) g hg) (fun n hn=>hw n (by
   simp only [List.map_cons,DataW.weightsEach,List.mem_append]
   exact .inr hn))
  refine ⟨(x1,x2),(cs.drop off).take a.sz,cs.drop (off+a.sz),?_,hx1,hx2⟩
  rw [← List.drop_drop,List.take_append_drop]⟩
theorem RdR.struct {α:Type} {P:Program} {T:TypeId} {fs:Array Field} {rep:Rp α} (hu:P.underlying T=some (.struct fs)) (hs:P.cellsOf T=rep.sz) (h:RdF P 0 fs.toList rep):RdR P T rep where
 rd ht hw:=by
  obtain ⟨xs,n,rfl,hx,hcl,hxl,hel⟩:=DataW.trod_struct hu ht
  cases hx
  obtain ⟨x,hx⟩:=h.run (xs:=xs) (by rw [hcl,hs];omega) (by simpa using hxl) (fun i f hf=>hel i f (by simpa using hf)) (fun k hk=>hw k (by simpa [DataW.weights,hu] using hk))
  exact ⟨x,by simpa using hx⟩
theorem RdR.map {α γ:Type} {P:Program} {T:TypeId} {a:Rp α} {f:γ→α} (g:α→γ) (hg:∀ y,f (g y)=y) (h:RdR P T a):RdR P T (rMap f a) where
 rd ht hw:=by
  obtain ⟨x,hx⟩:=h.rd ht hw
  exact ⟨g x,by show a.R _ _ (f (g x));rw [hg];exact hx⟩
theorem notAgg_ok {P:Program} {W:World} {base:Nat} {T:TypeId} {v:Value} {d:TypeDesc} (hu:P.underlying T=some d) (ha:isAggD d=false) (h:Value.okWide P W .any base T v):∀ cs,v≠.agg cs:=by
 rintro cs rfl
 unfold Value.okWide at h
 rw [hu] at h
 cases d<;>first|(cases ha;done)|(simp only [Cell.okWide,Cell.ok,hu] at h;done)|(simp [Cell.okWide,Cell.ok,hu] at h)
theorem agg_ok {P:Program} {W:World} {base:Nat} {T:TypeId} {v:Value} {d:TypeDesc} (hu:P.underlying T=some d) (ha:isAggD d=true) (h:Value.okWide P W .any base T v):∃ cs,v=.agg cs:=by
 unfold Value.okWide at h
 rw [hu] at h
 cases d<;>first|(cases ha;done)|(obtain ⟨cs,h,_⟩:=h;exact ⟨cs,h⟩)
theorem rd_arg {α:Type} {H:Type} {enc:TypeId × Value→H} {P:Program} {W:World} {base:Nat} {T:TypeId} {v:Value} {d:DataW H} {ps:List MemPlace} (rep:Rp α) [ht:TyR P T rep] [hr:RdR P T rep] (hok:Value.okWide P W .any base T v)
  (h:DataW.Trod enc P W 0 (fun _=>true) true T v d ps) (hw:∀ n∈d.weights P T,n≤reachBytes):∃ x,rep.V (heapS W) v x:=by
 obtain ⟨fuel,hf⟩:=h
 obtain ⟨x,hx⟩:=hr.rd hf hw
 obtain ⟨dd,hd,ha⟩:=ht.u
 cases hag:rep.agg with
 | true=>
  obtain ⟨cs,rfl⟩:=agg_ok hd (ha.trans hag) hok
  exact ⟨x,cs.toList,by simpa [Value.cells] using hx,by simp [hag]⟩
 | false=>
  have hn:=notAgg_ok hd (ha.trans hag) hok
  have hc:v.cells=#[v]:=by cases v<;>first|rfl|exact absurd rfl (hn _)
  rw [hc] at hx
  exact ⟨x,[v],hx,by simp [hag]⟩
theorem sized_arg {H:Type} {P:Program} {ts:List TypeId} {ds:List (DataW H)} (h:(DataW.weightsEach P ts ds).all (·≤reachBytes)=true) {j:Nat} {t:TypeId} {d:DataW H} (ht:ts[j]?=some t) (hd:ds[j]?=some d):∀ n∈d.weights P t,n≤reachBytes:=fun n hn=>by
 have:=List.all_eq_true.1 h _ (DataW.weights_mem_each ht hd n hn)
 simpa using this
theorem FnV.calls {P:Program} {f:FuncId} {args:Array Value} {r:Value} {W:World} (h:FnV P f args (heapS W) r):Calls P f args W fun e W'=>e=.returned r∧Below W.heap.size W W':=by
 refine (h W (agree_heapS W) (by simp) .nil (by simp)).mono ?_
 rintro e w' ⟨v,S',M',rfl,hw,rfl,rfl⟩
 exact ⟨rfl,hw.below⟩
end Go.Dr
namespace Go.Dr
open Go.Proofs
set_option maxRecDepth 20000
instance:RdR Tryz.prog 213 rLabel:=RdR.map (fun y=>⟨y.1,y.2⟩) (fun _=>rfl) (RdR.struct Tryz.underlying213 (by kernel_rfl) (RdF.cons rfl (show RdR Tryz.prog 9 rStr from inferInstance) (by kernel_rfl) (RdF.last rfl (show RdR Tryz.prog 9 rStr from inferInstance) (by kernel_rfl))))
instance:RdR Tryz.prog 215 rTerm:=RdR.map (fun y=>⟨y.1,y.2.1,y.2.2⟩) (fun _=>rfl) (RdR.struct Tryz.underlying215 (by kernel_rfl) (RdF.cons rfl (show RdR Tryz.prog 3 rI64 from inferInstance) (by kernel_rfl) (RdF.cons rfl (show RdR Tryz.prog 9 rStr from inferInstance) (by kernel_rfl) (RdF.last rfl (show RdR Tryz.prog 9 rStr from inferInstance) (by kernel_rfl)))))
instance:RdR Tryz.prog 125 rNear:=RdR.map (fun y=>⟨y.1,y.2⟩) (fun _=>rfl) (RdR.struct Tryz.underlying125 (by kernel_rfl) (RdF.cons rfl (show RdR Tryz.prog 9 rStr from inferInstance) (by kernel_rfl) (RdF.last rfl (show RdR Tryz.prog 123 (rSlice 40 rTerm) from inferInstance) (by kernel_rfl))))
instance:RdR Tryz.prog 94 rNode:=RdR.map (fun y=>⟨y.1,y.2.1,y.2.2.1,y.2.2.2.1,y.2.2.2.2.1,y.2.2.2.2.2⟩) (fun _=>rfl) (RdR.struct Tryz.underlying94 (by kernel_rfl) (RdF.cons rfl (show RdR Tryz.prog 9 rStr from inferInstance) (by kernel_rfl) (RdF.cons rfl (show RdR Tryz.prog 91 (rArr 5) from inferInstance) (by kernel_rfl) (RdF.cons rfl (show RdR Tryz.prog 92 (rSlice 32 rLabel) from inferInstance) (by kernel_rfl) (RdF.cons rfl (show RdR Tryz.prog 92 (rSlice 32 rLabel) from inferInstance) (by kernel_rfl) (RdF.cons rfl (show RdR Tryz.prog 4 rBool from inferInstance) (by kernel_rfl) (RdF.last rfl (show RdR Tryz.prog 4 rBool from inferInstance) (by kernel_rfl))))))))
instance:RdR Tryz.prog 127 rPod:=RdR.map (fun y=>⟨y.1,y.2.1,y.2.2.1,y.2.2.2.1,y.2.2.2.2.1,y.2.2.2.2.2.1,y.2.2.2.2.2.2.1,y.2.2.2.2.2.2.2.1,y.2.2.2.2.2.2.2.2⟩) (fun _=>rfl) (RdR.struct Tryz.underlying127 (by kernel_rfl) (RdF.cons rfl (show RdR Tryz.prog 9 rStr from inferInstance) (by kernel_rfl) (RdF.cons rfl (show RdR Tryz.prog 9 rStr from inferInstance) (by kernel_rfl) (RdF.cons rfl (show RdR Tryz.prog 91 (rArr 5) from inferInstance) (by kernel_rfl) (RdF.cons rfl (show RdR Tryz.prog 92 (rSlice 32 rLabel) from inferInstance) (by kernel_rfl) (RdF.cons rfl (show RdR Tryz.prog 123 (rSlice 40 rTerm) from inferInstance) (by kernel_rfl) (RdF.cons rfl (show RdR Tryz.prog 92 (rSlice 32 rLabel) from inferInstance) (by kernel_rfl) (RdF.cons rfl (show RdR Tryz.prog 125 rNear from inferInstance) (by kernel_rfl) (RdF.cons rfl (show RdR Tryz.prog 125 rNear from inferInstance) (by kernel_rfl) (RdF.last rfl (show RdR Tryz.prog 9 rStr from inferInstance) (by kernel_rfl)))))))))))
instance:RdR Tryz.prog 147 rOwner:=RdR.map (fun y=>⟨y.1,y.2.1,y.2.2.1,y.2.2.2.1,y.2.2.2.2⟩) (fun _=>rfl) (RdR.struct Tryz.underlying147 (by kernel_rfl) (RdF.cons rfl (show RdR Tryz.prog 9 rStr from inferInstance) (by kernel_rfl) (RdF.cons rfl (show RdR Tryz.prog 3 rI64 from inferInstance) (by kernel_rfl) (RdF.cons rfl (show RdR Tryz.prog 9 rStr from inferInstance) (by kernel_rfl) (RdF.cons rfl (show RdR Tryz.prog 3 rI64 from inferInstance) (by kernel_rfl) (RdF.last rfl (show RdR Tryz.prog 4 rBool from inferInstance) (by kernel_rfl)))))))
instance:RdR Tryz.prog 26 rSnap:=RdR.map (fun y=>⟨y.1,y.2.1,y.2.2⟩) (fun _=>rfl) (RdR.struct Tryz.underlying26 (by kernel_rfl) (RdF.cons rfl (show RdR Tryz.prog 22 (rSlice 112 rNode) from inferInstance) (by kernel_rfl) (RdF.cons rfl (show RdR Tryz.prog 23 (rSlice 240 rPod) from inferInstance) (by kernel_rfl) (RdF.last rfl (show RdR Tryz.prog 24 (rSlice 56 rOwner) from inferInstance) (by kernel_rfl)))))
instance:RdR Tryz.prog 45 rStep:=RdR.map (fun y=>⟨y.1,y.2.1,y.2.2⟩) (fun _=>rfl) (RdR.struct Tryz.underlying45 (by kernel_rfl) (RdF.cons rfl (show RdR Tryz.prog 3 rI64 from inferInstance) (by kernel_rfl) (RdF.cons rfl (show RdR Tryz.prog 3 rI64 from inferInstance) (by kernel_rfl) (RdF.last rfl (show RdR Tryz.prog 3 rI64 from inferInstance) (by kernel_rfl)))))
instance:RdR Tryz.prog 41 rClause:=RdR.map (fun y=>⟨y.1,y.2.1,y.2.2.1,y.2.2.2⟩) (fun _=>rfl) (RdR.struct Tryz.underlying41 (by kernel_rfl) (RdF.cons rfl (show RdR Tryz.prog 3 rI64 from inferInstance) (by kernel_rfl) (RdF.cons rfl (show RdR Tryz.prog 3 rI64 from inferInstance) (by kernel_rfl) (RdF.cons rfl (show RdR Tryz.prog 3 rI64 from inferInstance) (by kernel_rfl) (RdF.last rfl (show RdR Tryz.prog 3 rI64 from inferInstance) (by kernel_rfl))))))
instance:RdR Tryz.prog 78 rMove:=RdR.map (fun y=>⟨y.1,y.2⟩) (fun _=>rfl) (RdR.struct Tryz.underlying78 (by kernel_rfl) (RdF.cons rfl (show RdR Tryz.prog 3 rI64 from inferInstance) (by kernel_rfl) (RdF.last rfl (show RdR Tryz.prog 3 rI64 from inferInstance) (by kernel_rfl))))
instance:RdR Tryz.prog 60 rWrong:=RdR.map (fun y=>⟨y.1,y.2.1,y.2.2⟩) (fun _=>rfl) (RdR.struct Tryz.underlying60 (by kernel_rfl) (RdF.cons rfl (show RdR Tryz.prog 3 rI64 from inferInstance) (by kernel_rfl) (RdF.cons rfl (show RdR Tryz.prog 3 rI64 from inferInstance) (by kernel_rfl) (RdF.last rfl (show RdR Tryz.prog 3 rI64 from inferInstance) (by kernel_rfl)))))
end Go.Dr
