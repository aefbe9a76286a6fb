/- Part 7 of the rules and of the walks that the proofs of this seat rest on; no condition. -/
import Derived.Test.YtlckpojpnfidoaaGreatA05
import Derived.Shelf.SlSortCmp.NoneTotal
import Derived.Shelf.Sort.Plain
import Derived.Lib.QuietBelow
import Derived.Shelf.SlicesE.DeleteFunc
import Derived.Shelf.SlicesE.Compact
set_option linter.unusedVariables false
set_option linter.unusedSimpArgs false
namespace Go.Dr
open Go.Proofs
set_option maxRecDepth 20000
set_option maxHeartbeats 2000000
set_option linter.unusedSimpArgs false
set_option linter.unusedVariables false
def spreadP (s:Snap) (p:List Int) (o:Int):List Int:=if z0 (checkP s p)&&(decide (0≤o)&&decide (o < s.owners.length)) then spreadL s p o.toNat else []
theorem idxS_mem {l:List ByteArray} {v:ByteArray} (h:v∈l):∃ j:Nat,idxS l v=(j:Int)∧l[j]?=some v:=by
 unfold idxS idxF
 cases hf:l.findIdx? (fun x=>decide (x=v)) with
 | none=>
  have:=List.findIdx?_eq_none_iff.1 hf v h
  simp at this
 | some j=>
  obtain ⟨h1,h2,_⟩:=List.findIdx?_eq_some_iff_getElem.1 hf
  refine ⟨j,rfl,?_⟩
  rw [List.getElem?_eq_getElem h1,of_decide_eq_true h2]
theorem s287_L7i {P K:Prop} (k:K) (h:Goal K→P:=by
 intro zk
 (first|refine Walk ?_|refine JC.block ?_|refine JC.drawN 8 rfl [0,1,2,3,4,5,6,7,8,9,10,11] [0,1,2,3,4,5,7,8,9,10,11] Tryz_mixed (by decide +kernel) ?_|refine JC.drawN 10 rfl [0,1,2,3,4,5,6,7,8] [1,2,4,5,6,7] Tryz_mixed (by decide +kernel) ?_|(refine JO.eff rfl rfl rfl (JEff.callV rfl (p_Index_string _ (by exact vta)) rfl ?_);intro zqa zqb)|(refine JO.eff rfl rfl rfl (JEff.callL rfl (p7_Domains _ (by assumption) (by exact vta)) rfl ?_);intro zqa zqb zqc zqd zqe zqf)|(refine JO.eff rfl rfl rfl (JEff.callV rfl (p7_value _ (by assumption) (by exact vta)) rfl ?_);intro zqa zqb)|(refine JO.eff rfl rfl rfl (JEff.callV rfl (p7_asked _ (by exact vta) (by exact vta)) rfl ?_);intro zqa zqb)|(refine WBox ?_)|(refine WNew ?_)|(refine WPut ?_))
 (repeat (first|revert zqg|revert zqf|revert zqe|revert zqd|revert zqc|revert zqb|revert zqa))
 exact zk.k):P:=h ⟨k⟩
theorem p7_Spread {S:SHeap} {u v:Value} {s:Snap} {p:List Int} (o:Int) (hu:rSnap.V S u s) (hv:(rSlice 8 rI64).V S v p) :
  FnL Tryz.prog 287 #[u,v,.int .i64 o] S 8 rI64 (spreadP s p o):=by
 haveI:TyR Tryz.prog 27 rVal:=⟨(inferInstance:TyR Tryz.prog 27 (rSlice 8 rI64)).b⟩
 obtain ⟨a,c,rfl,_⟩:=V_slice.1 hv
 (refine Fn.enterM (args:=[u,.slice a p.length c,.int .i64 o]) Tryz.func287 rfl Tryz.ntmps287 rfl ?_;intro w0)
 repeat (refine s287_L7i ?_;intros)
 cases hc:(z0 (checkP s p)&&(decide (0≤o)&&decide (o < s.owners.length))) with
 | false=>
  repeat (refine s287_L7i ?_;intros)
  refine JX.retM0 Tryz.results287 (ResV.tmp rfl) (List.nil_sublist _) ?_
  refine ⟨rfl,?_⟩
  rw [spreadP,hc]
  exact V_nil
 | true=>
  have hol:=owned_len s p o.toNat
  have hsp:spreadP s p o=spreadL s p o.toNat:=by rw [spreadP,hc];rfl
  rw [hsp]
  simp only [Bool.and_eq_true,decide_eq_true_eq] at hc
  obtain ⟨c1,c2,c3⟩:=hc
  obtain ⟨o,rfl⟩:=Int.eq_ofNat_of_zero_le c2
  rw [Int.toNat_natCast] at hol ⊢
  obtain ⟨h1,h2,h3,h4,h5,h6,h7⟩:=placed_hyps (s:=s) (p:=p) (by simpa [z0] using c1)
  obtain ⟨ow,how,_⟩:=drop_at (l:=s.owners) (show o < s.owners.length by omega)
  have htp:topoOf s o=ow.topo:=by rw [topoOf,how]
  repeat (refine s287_L7i ?_;intros)
  have hif:(if z0 (checkS s)=true then domL s ow.topo else [])=domL s ow.topo:=by rw [h1];rfl
  have hdl:=domK_len s ow.topo s.nodes.length
  have hdf:domK s ow.topo s.nodes.length=domL s ow.topo:=by unfold domK domL;rw [List.take_length]
  rw [hdf] at hdl
  generalize (if z0 (checkS s)=true then domL s ow.topo else [])=D at *
  subst hif
  refine JO.eff rfl rfl rfl (JEff.makeInts (n:=(domL s ow.topo).length) rfl rfl (by unfold big;omega) rfl ?_);intro bo hbo
  repeat (refine s287_L7i ?_;intros)
  (refine JO.eff rfl rfl rfl (JEff.callR rfl ((p7_owned o (by exact vta) (by exact vta) (by omega) (by omega) h2 (by omega) h7)) rfl ?_);intro w S2 hl2 hV)
  obtain ⟨lb,rfl,hit⟩:=hV
  repeat (refine s287_L7i ?_;intros)
  have hz:(domL s ow.topo).map (spCnt s ow.topo ((ownedL s p o).take 0))=List.replicate (domL s ow.topo).length 0:=by
   rw [List.take_zero,← List.map_const']
   apply List.map_congr_left
   intro v _
   simp [spCnt]
  have hown:∀ x∈ownedL s p o,0≤x∧x < s.nodes.length:=by
   intro x hx
   unfold ownedL at hx
   obtain ⟨z,hz,rfl⟩:=List.mem_map.1 hx
   rw [List.mem_filter] at hz
   simp only [Bool.and_eq_true,decide_eq_true_eq] at hz
   have:=h6 z.1 (List.of_mem_zip hz.1).1
   exact ⟨hz.2.1,this.2⟩
  refine JC.rangeFunc (rep:=rI64) (xs:=ownedL s p o) (fun k S' M'=>M'=[.blk bo (.cells (ints ((domL s ow.topo).map (spCnt s ow.topo ((ownedL s p o).take k)))) 3 (0,0))]) rfl rfl inferInstance rfl hit (by rw [hz]) ?_ ?_
  ·rintro w1 B1 K L Rc k y v S' M' hR hp hl hy hv rfl
   obtain ⟨rfl,hyr⟩:=V_i64.1 hv
   obtain ⟨y0,y1⟩:=hown y (List.mem_of_getElem? hy)
   obtain ⟨n,hn,_⟩:=drop_at (l:=s.nodes) (show y.toNat < s.nodes.length by omega)
   repeat (refine s287_L7i ?_;intros)
   refine JX.begin rfl hR ?_
   repeat (refine s287_L7i ?_;intros)
   have hkl:=(List.getElem?_eq_some_iff.1 hy).1
   cases hv2:(valB n ow.topo).2 with
   | true=>
    obtain ⟨j,hj,hjd⟩:=idxS_mem (dom_has ow.topo s.nodes [] (valB n ow.topo).1 (.inr ⟨n,List.mem_of_getElem? hn,hv2,rfl⟩))
    have hjd:(domL s ow.topo)[j]?=some (valB n ow.topo).1:=hjd
    have hj:idxS (domL s ow.topo) (valB n ow.topo).1=(j:Int):=hj
    have hjl:=(List.getElem?_eq_some_iff.1 hjd).1
    have hset:((domL s ow.topo).map (spCnt s ow.topo ((ownedL s p o).take k))).set j (spCnt s ow.topo ((ownedL s p o).take k) (valB n ow.topo).1+1)=(domL s ow.topo).map (spCnt s ow.topo ((ownedL s p o).take (k+1))):=by
     rw [← map_set1 (D:=domL s ow.topo) _ (show pwS (domL s ow.topo) from dom_pw ow.topo s.nodes [] List.Pairwise.nil) hjd]
     apply List.map_congr_left
     intro d _
     rw [spCnt_step hy,inDom,hn]
     simp [hv2,eq_comm]
    have hcn:0≤spCnt s ow.topo ((ownedL s p o).take k) (valB n ow.topo).1∧spCnt s ow.topo ((ownedL s p o).take k) (valB n ow.topo).1≤1000:=by
     unfold spCnt
     have e1:=List.length_filter_le (fun x=>inDom s ow.topo (valB n ow.topo).1 x.toNat) ((ownedL s p o).take k)
     rw [List.length_take] at e1
     omega
    have hxj:((domL s ow.topo).map (spCnt s ow.topo ((ownedL s p o).take k)))[j]?=some (spCnt s ow.topo ((ownedL s p o).take k) (valB n ow.topo).1):=by rw [List.getElem?_map,hjd];rfl
    repeat (refine s287_L7i ?_;intros)
    rw [hj]
    repeat (refine s287_L7i ?_;intros)
    refine JO.pure rfl rfl rfl (JPure.indexRI rfl rfl rfl (by omega) (by omega) ?_)
    refine JO.pure rfl rfl rfl (JPure.loadMI (off:=j) rfl (by (first|exact List.mem_cons_self|exact List.mem_cons_of_mem _ List.mem_cons_self|exact List.mem_cons_of_mem _ (List.mem_cons_of_mem _ List.mem_cons_self))) hxj (by unfold Rng;omega) (.inl rfl) rfl ?_)
    repeat (refine s287_L7i ?_;intros)
    refine JO.pure rfl rfl rfl (JPure.indexRI rfl rfl rfl (by omega) (by omega) ?_)
    refine JO.eff rfl rfl rfl (JEff.storeI (i:=j) (Mr:=[.blk L (.loop { Rc with state:=.busy }),.blk K (.deferred (some []))]) rfl rfl (by unfold Rng;omega) (List.perm_append_comm (l₁:=[_]) (l₂:=[_,_])) (by rw [List.length_map];exact hjl) (by intro l hl;cases hl) ?_)
    rw [hset]
    repeat (refine s287_L7i ?_;intros)
    refine JX.endRound hR hp (List.perm_append_comm (l₁:=[_,_]) (l₂:=[_])) ?_
    rfl
   | false=>
    have hset:(domL s ow.topo).map (spCnt s ow.topo ((ownedL s p o).take k))=(domL s ow.topo).map (spCnt s ow.topo ((ownedL s p o).take (k+1))):=by
     apply List.map_congr_left
     intro d _
     rw [spCnt_step hy,inDom,hn]
     simp [hv2]
    rw [hset]
    repeat (refine s287_L7i ?_;intros)
    refine JX.endRound hR hp (List.Perm.refl _) ?_
    rfl
  ·rintro K S' M' hl rfl
   have hfin:(domL s ow.topo).map (spCnt s ow.topo ((ownedL s p o).take (ownedL s p o).length))=spreadL s p o:=by
    rw [List.take_length,spread_cnt hown,htp]
   rw [hfin]
   have hln:(spreadL s p o).length=(domL s ow.topo).length:=by rw [← hfin,List.length_map]
   repeat (refine s287_L7i ?_;intros)
   have hrg:∀ x∈spreadL s p o,Rng x:=by
    intro x hx
    rw [← hfin,List.take_length] at hx
    obtain ⟨d,_,rfl⟩:=List.mem_map.1 hx
    have e1:=List.length_filter_le (fun x=>inDom s ow.topo d x.toNat) (ownedL s p o)
    unfold spCnt Rng
    omega
   refine JX.perm (List.Perm.swap _ _ _) ?_
   refine JX.freezeInts hln.symm (Nat.le_refl _) (by unfold big;omega) hrg hbo (fun S3 hl3 hV3=>?_)
   refine JX.retM1 Tryz.results287 (List.Perm.refl _) (ResV.tmp rfl) (List.nil_sublist _) ?_
   exact ⟨rfl,hV3⟩
end Go.Dr
namespace Go.Dr
open Go.Proofs
set_option maxRecDepth 20000
set_option maxHeartbeats 2000000
set_option linter.unusedSimpArgs false
set_option linter.unusedVariables false
instance:Fld1 Tryz.prog 313 0 0:=⟨by kernel_rfl⟩
def kindV (f:FuncId):Value:=.agg #[.func (.func f) #[] #[]]
def kindsL:List (Int × Value):=[(2,kindV 331),(3,kindV 335),(4,kindV 339),(5,kindV 341),(6,kindV 342)]
theorem p8_kinds {S:SHeap}:FnR Tryz.prog 302 #[] S (fun w S'=>∃ b,w=.map (some b)∧S' b=some (mapK (Value.int .i64) kindsL)):=by
 (refine Fn.enter (args:=[]) Tryz.func302 rfl Tryz.ntmps302 rfl ?_;intro w0)
 repeat (first|(refine Walk ?_;intros)|refine JC.block ?_)
 refine JO.eff rfl rfl rfl (JEff.makeMapK (Value.int .i64) rfl ?_);intro b hb
 repeat (first|(refine Walk ?_;intros)|refine JC.block ?_)
 refine JO.eff rfl rfl rfl (JEff.insNew (kv:=Value.int .i64) rfl rfl rfl (List.Perm.refl _) (by intro l hl;cases hl) rfl ?_)
 repeat (first|(refine Walk ?_;intros)|refine JC.block ?_)
 refine JO.eff rfl rfl rfl (JEff.insNew (kv:=Value.int .i64) rfl rfl rfl (List.Perm.refl _) (by intro l hl;cases hl) rfl ?_)
 repeat (first|(refine Walk ?_;intros)|refine JC.block ?_)
 refine JO.eff rfl rfl rfl (JEff.insNew (kv:=Value.int .i64) rfl rfl rfl (List.Perm.refl _) (by intro l hl;cases hl) rfl ?_)
 repeat (first|(refine Walk ?_;intros)|refine JC.block ?_)
 refine JO.eff rfl rfl rfl (JEff.insNew (kv:=Value.int .i64) rfl rfl rfl (List.Perm.refl _) (by intro l hl;cases hl) rfl ?_)
 repeat (first|(refine Walk ?_;intros)|refine JC.block ?_)
 refine JO.eff rfl rfl rfl (JEff.insNew (kv:=Value.int .i64) rfl rfl rfl (List.Perm.refl _) (by intro l hl;cases hl) rfl ?_)
 repeat (first|(refine Walk ?_;intros)|refine JC.block ?_)
 refine JX.freeze hb (fun S' hl hS=>?_)
 (refine JX.ret1 Tryz.results302 (ResV.tmp rfl) (List.nil_sublist _) ?_)
 exact ⟨rfl,b,rfl,hS⟩
theorem kinds_all {j:Nat} {q:Int × Value} (h:kindsL[j]?=some q):∃ f,q.2=kindV f∧Ent Tryz.prog f∧KindAns f q.1:=by
 match j with
 | 0=>cases h;exact ⟨_,rfl,inferInstance,p8_kinds1⟩
 | 1=>cases h;exact ⟨_,rfl,inferInstance,p8_kinds2⟩
 | 2=>cases h;exact ⟨_,rfl,inferInstance,p8_kinds3⟩
 | 3=>cases h;exact ⟨_,rfl,inferInstance,p8_kinds4⟩
 | 4=>cases h;exact ⟨_,rfl,inferInstance,p8_kinds5⟩
 | j+5=>simp [kindsL] at h
theorem kinds_there {kind:Int} (h1:2≤kind) (h2:kind≤6):∃ q∈kindsL,q.1=kind:=by
 have:kind=2∨kind=3∨kind=4∨kind=5∨kind=6:=by omega
 rcases this with rfl|rfl|rfl|rfl|rfl<;>simp [kindsL]
theorem kinds_distinct:DistinctK kindsL:=by
 intro i j p q hi hj h
 have hi5:=(List.getElem?_eq_some_iff.1 hi).1
 have hj5:=(List.getElem?_eq_some_iff.1 hj).1
 simp only [kindsL,List.length_cons,List.length_nil] at hi5 hj5
 match i,j,hi,hj with
 | 0,0,_,_=>rfl
 | 1,1,_,_=>rfl
 | 2,2,_,_=>rfl
 | 3,3,_,_=>rfl
 | 4,4,_,_=>rfl
 | 0,1,hi,hj|0,2,hi,hj|0,3,hi,hj|0,4,hi,hj|1,0,hi,hj|1,2,hi,hj|1,3,hi,hj|1,4,hi,hj|2,0,hi,hj|2,1,hi,hj|2,3,hi,hj|2,4,hi,hj|3,0,hi,hj|3,1,hi,hj|3,2,hi,hj|3,4,hi,hj|4,0,hi,hj|4,1,hi,hj|4,2,hi,hj|4,3,hi,hj=>cases hi;cases hj;simp at h
 | i+5,_,hi,_=>omega
 | _,j+5,_,hj=>omega
theorem p8_numN {S:SHeap} (n:Int):FnV Tryz.prog 405 #[.int .i64 n] S (.int .i64 n):=by
 (refine Fn.enter (args:=[.int .i64 n]) Tryz.func405 rfl Tryz.ntmps405 rfl ?_;intro w0)
 repeat (first|(refine Walk ?_;intros)|refine JC.block ?_)
 (refine JX.ret1 Tryz.results405 (ResV.tmp rfl) (List.nil_sublist _) ?_)
 exact ⟨rfl,rfl⟩
theorem p8_numP {S:SHeap} (n:Int):FnV Tryz.prog 406 #[.int .i64 n] S (.int .i64 n):=by
 (refine Fn.enter (args:=[.int .i64 n]) Tryz.func406 rfl Tryz.ntmps406 rfl ?_;intro w0)
 repeat (first|(refine Walk ?_;intros)|refine JC.block ?_)
 (refine JX.ret1 Tryz.results406 (ResV.tmp rfl) (List.nil_sublist _) ?_)
 exact ⟨rfl,rfl⟩
theorem p8_numO {S:SHeap} (n:Int):FnV Tryz.prog 407 #[.int .i64 n] S (.int .i64 n):=by
 (refine Fn.enter (args:=[.int .i64 n]) Tryz.func407 rfl Tryz.ntmps407 rfl ?_;intro w0)
 repeat (first|(refine Walk ?_;intros)|refine JC.block ?_)
 (refine JX.ret1 Tryz.results407 (ResV.tmp rfl) (List.nil_sublist _) ?_)
 exact ⟨rfl,rfl⟩
theorem m8_N (v : Value) (w : World) : (callMethod (.iface 278 v) "drayage/clause.number" #[]).run Tryz.prog w = .ok (.enter 405 #[v]) w := by kernel_rfl
theorem m8_P (v : Value) (w : World) : (callMethod (.iface 279 v) "drayage/clause.number" #[]).run Tryz.prog w = .ok (.enter 406 #[v]) w := by kernel_rfl
theorem m8_O (v : Value) (w : World) : (callMethod (.iface 280 v) "drayage/clause.number" #[]).run Tryz.prog w = .ok (.enter 407 #[v]) w := by kernel_rfl
end Go.Dr
namespace Go.Dr
section
variable {C:Cx} {R:Rg} {Q:Post} {S S':SHeap} {M M':List MEnt} {e:Env} {rest:List Nat} {L:List Nat}
variable {d:Nat} {ty:TypeId} {pos:String} {aft:Array Edge} {g:Option (Nat × Bool)}
theorem JO.perm (hM:M'.Perm M) (k:JO C R L Q S M' e):JO C R L Q S M e:=⟨fun a w hw=>k.run a w ⟨hw.env,hw.defers,hw.wd.perm hM⟩⟩
theorem JPure.loadCl {i:Nat} {T t:TypeId} {x:Operand} {b:Nat} {xs:List Int} {fr:Nat × Nat} {c:Clause} (hx:ev e x=some (.pointer (some ⟨b,0,none⟩))) (hM:MEnt.blk b (.cells (ints xs) t fr)∈M)
  (hc:xs=[c.kind,c.a,c.b,c.by_]) (hr:Rng c.kind∧Rng c.a∧Rng c.b∧Rng c.by_) [ht:TyR C.P T rClause] (hst:R.isAnch i=true∨∃ l,R.T=some l∧b∉l) (hdN:Nat.blt d C.N=true)
  (k:rClause.V S (clV c) c→JO C R rest Q S M ((d,clV c)::e)):JPure C R (R.isAnch i) ⟨some d,.load T x,ty,pos,aft,g⟩ rest Q S M e:=by
 subst hc
 exact JPure.loadM (rep:=rClause) (x0:=c) (mid:=[.int .i64 c.kind,.int .i64 c.a,.int .i64 c.b,.int .i64 c.by_]) hx hM rfl (R_clause.2 ⟨rfl,hr⟩) hst hdN (k (V_clV hr))
end
/-! ### A result that is a variable -/
theorem JX.retCell {α:Type} {P:Program} {r:Option Nat} {N:Nat} {fn:Func} {w0:World} {B0:List Nat} {S S0:SHeap} {M M':List MEnt} {e:Env} {PP:Value→SHeap→List MEnt→Prop} {p:Nat} {T:TypeId} {q:Addr} {rep:Rp α} {x:α}
  (hr:fn.results=#[.cell p T]) (h:Env.get? e p=some (.pointer (some q))) (hq:PtrTo S q rep x) [ht:TyR P T rep] (hM:M'.Sublist M) (hp:∀ w,rep.V S w x→PP w S M') :
  JX ⟨P,r,N,[],w0,B0,S0⟩ .ret (bodyPost P fn (EndPost w0 B0 S0 PP)) S M e:=by
 obtain ⟨w,hw,hrv⟩:=ResV.cell (C:=⟨P,r,N,[],w0,B0,S0⟩) (M:=M) (T:=T) h hq
 exact JX.ret1 hr hrv hM (hp w hw)
/-! ### Structs,written out -/
theorem map_R {α γ:Type} {f:γ→α} {a:Rp α} {S:SHeap} {cs:List Value} {x:γ} (h:a.R S cs (f x)):(rMap f a).R S cs x:=h
theorem seq1 {α β:Type} {a:Rp α} {b:Rp β} {S:SHeap} {c:Value} {cs:List Value} {x:α × β} (h1:a.R S [c] x.1) (h2:b.R S cs x.2):(rSeq a b).R S (c::cs) x:=⟨[c],cs,rfl,h1,h2⟩
theorem seq2 {α β:Type} {a:Rp α} {b:Rp β} {S:SHeap} {c d:Value} {cs:List Value} {x:α × β} (h1:a.R S [c,d] x.1) (h2:b.R S cs x.2):(rSeq a b).R S (c::d::cs) x:=⟨[c,d],cs,rfl,h1,h2⟩
theorem seq5 {α β:Type} {a:Rp α} {b:Rp β} {S:SHeap} {c1 c2 c3 c4 c5:Value} {cs:List Value} {x:α × β} (h1:a.R S [c1,c2,c3,c4,c5] x.1) (h2:b.R S cs x.2):(rSeq a b).R S (c1::c2::c3::c4::c5::cs) x:=⟨[c1,c2,c3,c4,c5],cs,rfl,h1,h2⟩
theorem R_str {S:SHeap} {s:ByteArray} (h:s.size≤big):rStr.R S [.string s] s:=⟨rfl,h⟩
theorem R_bool {S:SHeap} {b:Bool}:rBool.R S [.bool b] b:=rfl
theorem R_arr {S:SHeap} {n:Nat} {xs:List Int} (h:xs.length=n) (hr:∀ x∈xs,Rng x):(rArr n).R S (xs.map (fun x=>Value.int .i64 x)) xs:=⟨h,rfl,hr⟩
theorem Rp.V.one {α:Type} {rep:Rp α} {S:SHeap} {v:Value} {x:α} (ha:rep.agg=false) (h:rep.V S v x):rep.R S [v] x:=by
 obtain ⟨cs,h1,h2⟩:=h
 rw [if_neg (by rw [ha];simp)] at h2
 rw [h2] at h1;exact h1
theorem V_snap {S:SHeap} {u v w:Value} {x:Snap} (h1:(rSlice 112 rNode).V S u x.nodes) (h2:(rSlice 240 rPod).V S v x.pods) (h3:(rSlice 56 rOwner).V S w x.owners):rSnap.V S (.agg (flatCells [u,v,w]).toArray) x:=by
 obtain ⟨a1,c1,rfl,_⟩:=V_slice.1 h1
 obtain ⟨a2,c2,rfl,_⟩:=V_slice.1 h2
 obtain ⟨a3,c3,rfl,_⟩:=V_slice.1 h3
 exact ⟨[_,_,_],map_R (seq1 (h1.one rfl) (seq1 (h2.one rfl) (h3.one rfl))),rfl⟩
end Go.Dr
namespace Go.Dr
open Go.Proofs
set_option maxRecDepth 20000
set_option maxHeartbeats 2000000
set_option linter.unusedSimpArgs false
set_option linter.unusedVariables false
def usedAll (s:Snap) (p:List Int):List (List Int):=(List.range s.nodes.length).map (fun (n:Nat)=>usedV s p n)
def capW (s:Snap) (p:List Int) (n:Nat):Nat→List Int
 | 0=>[1,n,0,0]
 | k+1=>[1,n,k,(capN s p n k).by_]
theorem capW_len (s:Snap) (p:List Int) (n k:Nat):(capW s p n k).length=4:=by cases k<;>rfl
theorem capW_set (s:Snap) (p:List Int) (n k:Nat):((capW s p n k).set 2 (k:Int)).set 3 (capN s p n k).by_=capW s p n (k+1):=by cases k<;>rfl
def capsK (s:Snap) (p:List Int) (n k:Nat):List Clause:=(List.range k).map (capN s p n)
theorem capsK_step (s:Snap) (p:List Int) (n k:Nat):capsK s p n (k+1)=capsK s p n k++[capN s p n k]:=by
 unfold capsK;rw [List.range_succ];simp
theorem capsK_len (s:Snap) (p:List Int) (n k:Nat):(capsK s p n k).length=k:=by simp [capsK]
theorem s250_L8f {P K:Prop} (k:K) (h:Goal K→P:=by
 intro zk
 (first|refine Walk ?_|refine JC.block ?_|refine JC.drawN 8 rfl [0,1,2,3,4,5,6,7,8,9,10,11,12,13,14,15,16,17,18] [0,15,17] Tryz_mixed (by decide +kernel) ?_|refine JC.drawN 24 rfl [0,1,2,3,4,5,6,7,8,9,10,11,12,13,14,15] [2,3,4,5,6,7,8,9,10,12,13,14] Tryz_mixed (by decide +kernel) ?_|refine JC.drawN 27 rfl [0,1,2,3,4,5,6,7,8,9,10] [0,1,2,3,4,5,6,7,8,10] Tryz_mixed (by decide +kernel) ?_|refine JC.drawN 29 rfl [0,2,5,6,1,3,4,7,8,9,10] [0,4,7,8,9] Tryz_mixed (by decide +kernel) ?_|(refine JO.eff rfl rfl rfl (JEff.callV rfl (p_Max (by exact vta) (by first|assumption|simp)) rfl ?_);intro zqa zqb)|(refine JO.eff rfl rfl rfl (JEff.callV rfl (p_Min (by exact vta) (by first|assumption|simp)) rfl ?_);intro zqa zqb)|(refine JO.eff rfl rfl rfl (JEff.callL rfl (p7_Spread _ (by exact vta) (by exact vta)) rfl ?_);intro zqa zqb zqc zqd zqe zqf))
 (repeat (first|revert zqg|revert zqf|revert zqe|revert zqd|revert zqc|revert zqb|revert zqa))
 exact zk.k):P:=h ⟨k⟩
theorem p8_ofNode {S:SHeap} {kp:Addr} {s:Snap} {p:List Int} {mb:Nat} {l:List (ByteArray × Value)} {n:Nat} (hok:checkP s p=0) (hn:n < s.nodes.length)
  (hL:PtrTo S kp rLook ⟨s,p,usedAll s p,.map (some mb)⟩) (hco:Cache s S l) :
  FnC Tryz.prog 250 #[.pointer (some kp),.iface 278 (.int .i64 n),.int .i64 1] S Value.string mb (Cache s) l (fun w S'=>(rSlice 32 rClause).V S' w (capsK s p n 5)):=by
 obtain ⟨hs,hlen,hp24,hn8,ho8,hpr,hprn⟩:=placed_hyps hok
 have hnr:Rng (n:Int):=by unfold Rng;omega
 obtain ⟨x,hx,_⟩:=drop_at hn
 have hxm:=List.mem_of_getElem? hx
 have hcl:=snap_caps (PtrTo.part hL (Part.map Part.first))
 have hxl:=(hcl x hxm).1
 have hxr:=shaped_cap (checkS_ok hs).1 x hxm
 obtain ⟨hul,hur⟩:=used_fine hs hlen n
 have hus:(usedAll s p)[n]?=some (usedV s p n):=by simp [usedAll,hn]
 have hcap:capOf s n=x.cap:=by simp [capOf,hx]
 have hV0:∀ S,rClause.V S (.agg (flatCells [.int .i64 1,.int .i64 n,.int .i64 0,.int .i64 0]).toArray) ⟨1,n,0,0⟩:=fun S=>V_clause.2 ⟨by simp [flatCells,Value.cells],by unfold Rng;dsimp only;omega,hnr,by unfold Rng;dsimp only;omega,by unfold Rng;dsimp only;omega⟩
 (refine Fn.enter (args:=[.pointer (some kp),.iface 278 (.int .i64 n),.int .i64 1]) Tryz.func250 rfl Tryz.ntmps250 rfl ?_;intro w0)
 repeat (refine s250_L8f ?_;intros)
 refine JO.eff rfl rfl rfl (JEff.method rfl rfl (m8_N _) (p8_numN _) rfl ?_);intro S1 hl1
 repeat (refine s250_L8f ?_;intros)
 (refine JO.eff rfl rfl rfl (JEff.alloc rfl ?_);intro cb hcb)
 repeat (refine s250_L8f ?_;intros)
 refine JO.eff rfl rfl rfl (JEff.storeW rfl rfl (hV0 _) nna (List.Perm.refl _) rfl (by intro l hl;cases hl) ?_)
 repeat (refine s250_L8f ?_;intros)
 refine JO.pure rfl rfl rfl (JPure.assertT rfl rfl ?_)
 repeat (refine s250_L8f ?_;intros)
 obtain ⟨hv31,_,_⟩:=V_arr.1 (by assumption:(rArr 5).V _ _ (usedV s p n))
 subst hv31
 (first|refine JC.newRow 41 (Rp.sz rClause) ?_|refine JO.newRow 41 (Rp.sz rClause) ?_|refine JX.newRow 41 (Rp.sz rClause) ?_)
 refine JC.loopF (σ:=Nat × Option Addr × Nat × List Value) [(0,_),(7,_),(8,_),(31,_)] (fun q=>[(6,.slice q.2.1 ((fun k=>capsK s p n k) q.1).length q.2.2.1),(32,((fun k=>.int .i64 k) q.1))]) (fun q=>[.row w0.heap.size 41 (Rp.sz rClause) (.slice q.2.1 ((fun k=>capsK s p n k) q.1).length q.2.2.1) ((fun k=>capsK s p n k) q.1).length (flatCells q.2.2.2),((fun k=>.blk cb (.cells (ints (capW s p n k)) 41 (0,0))) q.1),((fun k=>.blk mb (mapK Value.string l)) q.1)]) (fun Sk q=>q.1≤5∧allV rClause Sk q.2.2.2 ((fun k=>capsK s p n k) q.1)∧((fun k=>True) q.1)) (fun q=>5 - q.1) (0,none,0,[]) (by exact sba) (by exact sba) (by first|rfl|simp) (⟨Nat.zero_le _,trivial,trivial⟩) ?_;rintro Sk ⟨k,rak,rck,vsk⟩ hlk ⟨hk,hvk,hik⟩;(try dsimp only at hk hvk hik);dsimp only [List.cons_append,List.nil_append]
 repeat (refine s250_L8f ?_;intros)
 refine JC.cond rfl (fun hc2=>?_) (fun hc2=>?_)
 ·have hk':=dlt5 hc2
  obtain ⟨z,hz⟩:∃ z,(usedV s p n)[k]?=some z:=⟨_,List.getElem?_eq_getElem (by omega)⟩
  obtain ⟨y,hy⟩:∃ y,x.cap[k]?=some y:=⟨_,List.getElem?_eq_getElem (by omega)⟩
  have hzr:=hur z (List.mem_of_getElem? hz)
  have hyr:=hxr y (List.mem_of_getElem? hy)
  have hz0:=at0_some hz
  have hy0:=at0_some hy
  have hst:=capsK_step s p n k
  have hcl:=capsK_len s p n k
  unfold Qty at hzr hyr
  have hby:(capN s p n k).by_=max 0 (z - y):=by simp [capN,hcap,hz0,hy0]
  repeat (refine s250_L8f ?_;intros)
  refine JO.pure rfl rfl rfl (JPure.indexV rfl rfl rfl (by omega) hul hz ?_)
  repeat (refine s250_L8f ?_;intros)
  refine JO.pure rfl rfl rfl (JPure.fieldP rfl rfl ?_)
  refine JO.eff rfl rfl rfl (JEff.storeI (i:=2) (xs:=capW s p n k) rfl rfl (by unfold Rng;omega) (List.perm_middle (l₁:=[_])).symm (by rw [capW_len];omega) (by intro l hl;cases hl) ?_)
  refine JO.pure rfl rfl rfl (JPure.fieldP rfl rfl ?_)
  refine JO.eff rfl rfl rfl (JEff.storeI (i:=3) (xs:=(capW s p n k).set 2 (k:Int)) rfl rfl (by unfold Rng;omega) (List.Perm.refl _) (by rw [List.length_set,capW_len];omega) (by intro l hl;cases hl) ?_)
  rw [← hby,capW_set]
  repeat (refine s250_L8f ?_;intros)
  refine JO.pure rfl rfl rfl (JPure.loadCl (c:=capN s p n k) rfl (by (first|exact List.mem_cons_self|exact List.mem_cons_of_mem _ List.mem_cons_self|exact List.mem_cons_of_mem _ (List.mem_cons_of_mem _ List.mem_cons_self))) rfl ⟨by unfold Rng capN;dsimp only;omega,hnr,by unfold Rng capN;dsimp only;omega,by rw [hby];unfold Rng;omega⟩ (.inl rfl) rfl ?_);intro hV
  refine JO.perm (M':=[_,_,_]) (List.Perm.swap _ _ _) ?_
  repeat (refine s250_L8f ?_;intros)
  (refine JO.eff rfl rfl rfl (JEff.build (rep:=rClause) (ys:=[capN s p n k]) rfl rfl ⟨⟨(hV),nna⟩,trivial⟩ rfl rfl rfl rfl ?_);intro bb hbb hvv);(repeat (first|(refine Walk ?_;intros)|refine JC.block ?_));(refine JO.eff rfl rfl rfl (JEff.appendL (rep:=rClause) rfl rfl rfl rfl (List.Perm.swap _ _ _) (by exact hvv.flat) (by intro c hc;exact flat_one (fun v hv=>(hvv.size v hv).2) c hc) (by first|omega|(unfold big;omega)) (by unfold big;omega) (by first|exact rowT_ok|(intro l hl;cases hl)) rfl ?_);intro a2 c2;clear hvv hbb)
  repeat (refine s250_L8f ?_;intros)
  exact JX.roundF (k+1,a2,c2,vsk++[(clV (capN s p n k))]) (by exact lea) ⟨by omega,by (try dsimp only);rw [hst];exact allV_add (by exact lea) hvk (hV.mono (by exact lea)) nna,(trivial)⟩ (by (try dsimp only);omega) (by (try dsimp only);rw [hst];(simp [flat_append]<;>omega)) (by (try dsimp only);rw [hst];simp only [List.length_append,List.length_cons,List.length_nil];exact sba) (by exact sba)
 ·have hk':=dnlt5 hc2
  obtain rfl:k=5:=by omega
  have hcl:=capsK_len s p n 5
  refine JC.freezeRow (rep:=rClause) (bt:=32) hvk rfl (by unfold big;omega) (by unfold big;omega) (fun S9 hl9 hV9=>?_)
  repeat (refine s250_L8f ?_;intros)
  refine JX.ret1 Tryz.results250 (ResV.tmp rfl) (List.sublist_cons_self _ _) ?_
  exact ⟨hV9,_,rfl,hco.mono (by exact lea)⟩
end Go.Dr
namespace Go.Dr
open Go.Proofs
set_option maxRecDepth 20000
set_option maxHeartbeats 2000000
set_option linter.unusedSimpArgs false
set_option linter.unusedVariables false
theorem s250_L8g {P K:Prop} (k:K) (h:Goal K→P:=by
 intro zk
 (first|refine Walk ?_|refine JC.block ?_|refine JC.drawN 8 rfl [0,1,2,3,4,5,6,7,8,9,10,11,12,13,14,15,16,17,18] [0,15,17] Tryz_mixed (by decide +kernel) ?_|refine JC.drawN 24 rfl [0,1,2,3,4,5,6,7,8,9,10,11,12,13,14,15] [2,3,4,5,6,7,8,9,10,12,13,14] Tryz_mixed (by decide +kernel) ?_|refine JC.drawN 27 rfl [0,1,2,3,4,5,6,7,8,9,10] [0,1,2,3,4,5,6,7,8,10] Tryz_mixed (by decide +kernel) ?_|refine JC.drawN 29 rfl [0,2,5,6,1,3,4,7,8,9,10] [0,4,7,8,9] Tryz_mixed (by decide +kernel) ?_|(refine JO.eff rfl rfl rfl (JEff.callV rfl (p_Max (by exact vta) (by first|assumption|simp)) rfl ?_);intro zqa zqb)|(refine JO.eff rfl rfl rfl (JEff.callV rfl (p_Min (by exact vta) (by first|assumption|simp)) rfl ?_);intro zqa zqb)|(refine JO.eff rfl rfl rfl (JEff.callL rfl (p7_Spread _ (by exact vta) (by exact vta)) rfl ?_);intro zqa zqb zqc zqd zqe zqf))
 (repeat (first|revert zqg|revert zqf|revert zqe|revert zqd|revert zqc|revert zqb|revert zqa))
 exact zk.k):P:=h ⟨k⟩
theorem p8_ofPod {S:SHeap} {kp:Addr} {s:Snap} {p:List Int} {us:List (List Int)} {mb:Nat} {l:List (ByteArray × Value)} {i:Nat} {kind:Int} (hok:checkP s p=0) (hi:i < p.length) (hk1:2≤kind) (hk2:kind≤6)
  (hL:PtrTo S kp rLook ⟨s,p,us,.map (some mb)⟩) (hco:Cache s S l) :
  FnC Tryz.prog 250 #[.pointer (some kp),.iface 279 (.int .i64 i),.int .i64 kind] S Value.string mb (Cache s) l (fun w S'=>(rSlice 32 rClause).V S' w (podC1 s p kind i)):=by
 obtain ⟨hs,hlen,hp24,hn8,ho8,hpr,hprn⟩:=placed_hyps hok
 have hir:Rng (i:Int):=by unfold Rng;omega
 have hkr:Rng kind:=by unfold Rng;omega
 obtain ⟨m,hm,_⟩:=drop_at hi
 obtain ⟨x,hx⟩:∃ x,s.pods[i]?=some x:=⟨_,List.getElem?_eq_getElem (by omega)⟩
 have hmr:=hpr m (List.mem_of_getElem? hm)
 obtain ⟨hwl,htl⟩:=shaped_lists (checkS_ok hs).1
 have hof:=of8_rng (s:=s) (p:=p) (by omega) hwl htl kind i
 have hV0:∀ S,rClause.V S (.agg (flatCells [.int .i64 kind,.int .i64 i,.int .i64 0,.int .i64 0]).toArray) ⟨kind,i,0,0⟩:=fun S=>V_clause.2 ⟨by simp [flatCells,Value.cells],hkr,hir,by unfold Rng;dsimp only;omega,by unfold Rng;dsimp only;omega⟩
 (refine Fn.enter (args:=[.pointer (some kp),.iface 279 (.int .i64 i),.int .i64 kind]) Tryz.func250 rfl Tryz.ntmps250 rfl ?_;intro w0)
 repeat (refine s250_L8g ?_;intros)
 refine JO.eff rfl rfl rfl (JEff.method rfl rfl (m8_P _) (p8_numP _) rfl ?_);intro S1 hl1
 repeat (refine s250_L8g ?_;intros)
 (refine JO.eff rfl rfl rfl (JEff.alloc rfl ?_);intro cb hcb)
 repeat (refine s250_L8g ?_;intros)
 refine JO.eff rfl rfl rfl (JEff.storeW rfl rfl (hV0 _) nna (List.Perm.refl _) rfl (by intro l hl;cases hl) ?_)
 repeat (refine s250_L8g ?_;intros)
 refine JO.pure rfl rfl rfl (JPure.assertF rfl rfl rfl ?_)
 repeat (refine s250_L8g ?_;intros)
 refine JO.pure rfl rfl rfl (JPure.assertT rfl rfl ?_)
 repeat (refine s250_L8g ?_;intros)
 refine JC.cond rfl (fun hneg=>?_) (fun hneg=>?_)
 ·have hneg:m < 0:=by simpa using hneg
  have hp1:podC1 s p kind i=[]:=by unfold podC1 of8;rw [hm,hx];simp [hneg]
  repeat (refine s250_L8g ?_;intros)
  refine JX.ret1 Tryz.results250 (ResV.tmp rfl) (List.sublist_cons_self _ _) ?_
  exact ⟨by rw [hp1];exact V_nil,_,rfl,hco.mono (by exact lea)⟩
 ·have hneg:¬ m < 0:=by simpa using hneg
  obtain ⟨m,rfl⟩:=Int.eq_ofNat_of_zero_le (show 0≤m by omega)
  obtain ⟨nd,hnd,_⟩:=drop_at (l:=s.nodes) (show m < s.nodes.length by omega)
  have hat:PodAt s p i m x nd:=⟨hok,hm,hx,hnd⟩
  repeat (refine s250_L8g ?_;intros)
  (refine JO.eff rfl rfl rfl (JEff.callR rfl (p8_kinds) rfl ?_);intro w S2 hl2 hw)
  obtain ⟨b,rfl,hSb⟩:=hw
  repeat (refine s250_L8g ?_;intros)
  refine JO.pure rfl rfl rfl (JPure.lookS (kv:=Value.int .i64) (s:=kind) rfl rfl hSb kinds_distinct rfl (fun hno=>?_) (fun j q hj hq=>?_))
  ·obtain ⟨q,hq,hqk⟩:=kinds_there hk1 hk2
   exact absurd hqk (hno q hq)
  obtain ⟨g,hg,hE,hans⟩:=kinds_all hj
  rw [hq] at hans
  rw [hg]
  refine JO.pure rfl rfl rfl (JPure.fieldV rfl rfl rfl ?_)
  repeat (refine s250_L8g ?_;intros)
  refine JO.eff rfl rfl rfl (JEff.dynC (kv:=Value.string) rfl hE rfl (List.Perm.swap _ _ _) (by intro l hl;cases hl) (hans hat (by exact pta) (hco.mono (by exact lea))) rfl ?_);intro w S3 l3 hl3 hw hco3;subst hw
  repeat (refine s250_L8g ?_;intros)
  cases his:(of8 s p kind i).2 with
  | false=>
   have hp1:podC1 s p kind i=[]:=by unfold podC1;rw [his];rfl
   repeat (refine s250_L8g ?_;intros)
   refine JX.ret1 Tryz.results250 (ResV.tmp rfl) (M':=[_]) (List.Sublist.cons_cons _ (List.nil_sublist _)) ?_
   exact ⟨by rw [hp1];exact V_nil,_,rfl,hco3.mono (by exact lea)⟩
  | true=>
   have hp1:podC1 s p kind i=[⟨kind,i,0,(of8 s p kind i).1⟩]:=by unfold podC1;rw [his];rfl
   repeat (refine s250_L8g ?_;intros)
   refine JO.pure rfl rfl rfl (JPure.fieldP rfl rfl ?_)
   refine JO.eff rfl rfl rfl (JEff.storeI (i:=3) (xs:=[kind,i,0,0]) rfl rfl (by unfold Rng;omega) (List.Perm.swap _ _ _) (by simp) (by intro l hl;cases hl) ?_)
   repeat (refine s250_L8g ?_;intros)
   refine JO.pure rfl rfl rfl (JPure.loadCl (c:=⟨kind,i,0,(of8 s p kind i).1⟩) rfl (by (first|exact List.mem_cons_self|exact List.mem_cons_of_mem _ List.mem_cons_self|exact List.mem_cons_of_mem _ (List.mem_cons_of_mem _ List.mem_cons_self))) rfl ⟨hkr,hir,by unfold Rng;dsimp only;omega,by unfold Rng;dsimp only;omega⟩ (.inl rfl) rfl ?_);intro hV
   (refine JO.eff rfl rfl rfl (JEff.buildS (bt:=32) (rep:=rClause) (ys:=[(⟨kind,i,0,(of8 s p kind i).1⟩:Clause)]) rfl rfl (⟨⟨hV,nna⟩,trivial⟩) rfl rfl rfl (by decide) rfl ?_);intro S4 a4 hl4 hV4)
   repeat (refine s250_L8g ?_;intros)
   refine JX.ret1 Tryz.results250 (ResV.tmp rfl) (M':=[_]) (List.sublist_cons_self _ _) ?_
   exact ⟨by rw [hp1];exact hV4,_,rfl,hco3.mono (by exact lea)⟩
end Go.Dr
namespace Go.Dr
open Go.Proofs
set_option maxRecDepth 20000
set_option maxHeartbeats 2000000
set_option linter.unusedSimpArgs false
set_option linter.unusedVariables false
def ownC1 (s:Snap) (p:List Int) (kind:Int) (o:Nat):List Clause:=if kind=8 then [minC1 s p o] else spreadC1 s p o
theorem maxmin_rng {L:List Int} (hne:L≠[]) (hr:∀ x∈L,0≤x∧x≤1000000):(0≤maxL L∧maxL L≤1000000)∧(0≤minL L∧minL L≤1000000):=by
 cases L with
 | nil=>exact absurd rfl hne
 | cons x L=>
  have r1:=fold_rng min_or (lo:=0) (hi:=1000000) (l:=L) (z:=x) (hr x (by simp)).1 (hr x (by simp)).2 (fun y hy=>hr y (by simp [hy]))
  have r2:=fold_rng max_or (lo:=0) (hi:=1000000) (l:=L) (z:=x) (hr x (by simp)).1 (hr x (by simp)).2 (fun y hy=>hr y (by simp [hy]))
  exact ⟨r2,r1⟩
theorem s250_L8h {P K:Prop} (k:K) (h:Goal K→P:=by
 intro zk
 (first|refine Walk ?_|refine JC.block ?_|refine JC.drawN 8 rfl [0,1,2,3,4,5,6,7,8,9,10,11,12,13,14,15,16,17,18] [0,15,17] Tryz_mixed (by decide +kernel) ?_|refine JC.drawN 24 rfl [0,1,2,3,4,5,6,7,8,9,10,11,12,13,14,15] [2,3,4,5,6,7,8,9,10,12,13,14] Tryz_mixed (by decide +kernel) ?_|refine JC.drawN 27 rfl [0,1,2,3,4,5,6,7,8,9,10] [0,1,2,3,4,5,6,7,8,10] Tryz_mixed (by decide +kernel) ?_|refine JC.drawN 29 rfl [0,2,5,6,1,3,4,7,8,9,10] [0,4,7,8,9] Tryz_mixed (by decide +kernel) ?_|(refine JO.eff rfl rfl rfl (JEff.callV rfl (p_Max (by exact vta) (by first|assumption|simp)) rfl ?_);intro zqa zqb)|(refine JO.eff rfl rfl rfl (JEff.callV rfl (p_Min (by exact vta) (by first|assumption|simp)) rfl ?_);intro zqa zqb)|(refine JO.eff rfl rfl rfl (JEff.callL rfl (p7_Spread _ (by exact vta) (by exact vta)) rfl ?_);intro zqa zqb zqc zqd zqe zqf))
 (repeat (first|revert zqg|revert zqf|revert zqe|revert zqd|revert zqc|revert zqb|revert zqa))
 exact zk.k):P:=h ⟨k⟩
theorem p8_ofMin {S:SHeap} {kp:Addr} {s:Snap} {p:List Int} {us:List (List Int)} {mb:Nat} {l:List (ByteArray × Value)} {o:Nat} (hok:checkP s p=0) (ho:o < s.owners.length)
  (hL:PtrTo S kp rLook ⟨s,p,us,.map (some mb)⟩) (hco:Cache s S l) :
  FnC Tryz.prog 250 #[.pointer (some kp),.iface 280 (.int .i64 o),.int .i64 8] S Value.string mb (Cache s) l (fun w S'=>(rSlice 32 rClause).V S' w [minC1 s p o]):=by
 obtain ⟨hs,hlen,hp24,hn8,ho8,hpr,hprn⟩:=placed_hyps hok
 have hor:Rng (o:Int):=by unfold Rng;omega
 obtain ⟨ow,how,_⟩:=drop_at ho
 have hmo:minOf s o=ow.min:=by simp [minOf,how]
 have hsr:=shaped_owner (checkS_ok hs).1 ow (List.mem_of_getElem? how)
 have hplr:=placed_rng (s:=s) (p:=p) (o:=o) hlen
 have hV0:∀ S,rClause.V S (.agg (flatCells [.int .i64 8,.int .i64 o,.int .i64 0,.int .i64 0]).toArray) ⟨8,o,0,0⟩:=fun S=>V_clause.2 ⟨by simp [flatCells,Value.cells],by unfold Rng;dsimp only;omega,hor,by unfold Rng;dsimp only;omega,by unfold Rng;dsimp only;omega⟩
 (refine Fn.enter (args:=[.pointer (some kp),.iface 280 (.int .i64 o),.int .i64 8]) Tryz.func250 rfl Tryz.ntmps250 rfl ?_;intro w0)
 repeat (refine s250_L8h ?_;intros)
 refine JO.eff rfl rfl rfl (JEff.method rfl rfl (m8_O _) (p8_numO _) rfl ?_);intro S1 hl1
 repeat (refine s250_L8h ?_;intros)
 (refine JO.eff rfl rfl rfl (JEff.alloc rfl ?_);intro cb hcb)
 repeat (refine s250_L8h ?_;intros)
 refine JO.eff rfl rfl rfl (JEff.storeW rfl rfl (hV0 _) nna (List.Perm.refl _) rfl (by intro l hl;cases hl) ?_)
 repeat (refine s250_L8h ?_;intros)
 refine JO.pure rfl rfl rfl (JPure.assertF rfl rfl rfl ?_)
 repeat (refine s250_L8h ?_;intros)
 refine JO.pure rfl rfl rfl (JPure.assertF rfl rfl rfl ?_)
 repeat (refine s250_L8h ?_;intros)
 refine JO.pure rfl rfl rfl (JPure.assertT rfl rfl ?_)
 repeat (refine s250_L8h ?_;intros)
 (refine JO.eff rfl rfl rfl (JEff.alloc rfl ?_);intro ob hob)
 repeat (refine s250_L8h ?_;intros)
 refine JO.eff rfl rfl rfl (JEff.storeW rfl rfl (by exact vta) nna (List.Perm.refl _) rfl (by intro l hl;cases hl) ?_)
 refine JO.freezeV (by exact vta) nna hob (by intro l hl;cases hl) ?_;intro S2 hl2 hpo
 repeat (refine s250_L8h ?_;intros)
 refine JO.eff rfl rfl rfl (JEff.callV rfl (p7_Placed (s:=s) (p:=p) o (by exact vta) (by exact vta)) rfl ?_);intro S3 hl3
 have hpl:(if (z0 (checkP s p)&&(decide ((0:Int)≤o)&&decide ((o:Int) < s.owners.length)))=true then placedN s p ((o:Int)).toNat else 0)=placedN s p o:=by
  rw [if_pos (by simp [z0,hok,ho])];rfl
 rw [hpl]
 repeat (refine s250_L8h ?_;intros)
 refine JO.pure rfl rfl rfl (JPure.fieldP rfl rfl ?_)
 refine JO.eff rfl rfl rfl (JEff.storeI (i:=3) (xs:=[8,o,0,0]) rfl rfl (by unfold Rng;omega) (List.Perm.refl _) (by simp) (by intro l hl;cases hl) ?_)
 have hp1:[minC1 s p o]=[⟨8,o,0,max 0 (ow.min - placedN s p o)⟩]:=by rw [minC1,hmo]
 repeat (refine s250_L8h ?_;intros)
 refine JO.pure rfl rfl rfl (JPure.loadCl (c:=⟨8,o,0,max 0 (ow.min - placedN s p o)⟩) rfl (by (first|exact List.mem_cons_self|exact List.mem_cons_of_mem _ List.mem_cons_self|exact List.mem_cons_of_mem _ (List.mem_cons_of_mem _ List.mem_cons_self))) rfl ⟨by unfold Rng;dsimp only;omega,hor,by unfold Rng;dsimp only;omega,by unfold Rng;dsimp only;omega⟩ (.inl rfl) rfl ?_);intro hV
 (refine JO.eff rfl rfl rfl (JEff.buildS (bt:=32) (rep:=rClause) (ys:=[(⟨8,o,0,max 0 (ow.min - placedN s p o)⟩:Clause)]) rfl rfl (⟨⟨hV,nna⟩,trivial⟩) rfl rfl rfl (by decide) rfl ?_);intro S4 a4 hl4 hV4)
 repeat (refine s250_L8h ?_;intros)
 refine JX.ret1 Tryz.results250 (ResV.tmp rfl) (M':=[_]) (List.sublist_cons_self _ _) ?_
 exact ⟨by rw [hp1];exact hV4,_,rfl,hco.mono (by exact lea)⟩
theorem p8_ofSpread {S:SHeap} {kp:Addr} {s:Snap} {p:List Int} {us:List (List Int)} {mb:Nat} {l:List (ByteArray × Value)} {o:Nat} (hok:checkP s p=0) (ho:o < s.owners.length)
  (hL:PtrTo S kp rLook ⟨s,p,us,.map (some mb)⟩) (hco:Cache s S l) :
  FnC Tryz.prog 250 #[.pointer (some kp),.iface 280 (.int .i64 o),.int .i64 7] S Value.string mb (Cache s) l (fun w S'=>(rSlice 32 rClause).V S' w (spreadC1 s p o)):=by
 obtain ⟨hs,hlen,hp24,hn8,ho8,hpr,hprn⟩:=placed_hyps hok
 have hor:Rng (o:Int):=by unfold Rng;omega
 obtain ⟨ow,how,_⟩:=drop_at ho
 have htp:topoOf s o=ow.topo:=by simp [topoOf,how]
 have hsko:skewOf s o=ow.skew:=by simp [skewOf,how]
 have hsr:=shaped_owner (checkS_ok hs).1 ow (List.mem_of_getElem? how)
 have hspr:=spread_rng (s:=s) (p:=p) (o:=o) (by omega) hlen (by omega)
 have hV0:∀ S,rClause.V S (.agg (flatCells [.int .i64 7,.int .i64 o,.int .i64 0,.int .i64 0]).toArray) ⟨7,o,0,0⟩:=fun S=>V_clause.2 ⟨by simp [flatCells,Value.cells],by unfold Rng;dsimp only;omega,hor,by unfold Rng;dsimp only;omega,by unfold Rng;dsimp only;omega⟩
 have hspp:spreadP s p o=spreadL s p o:=by unfold spreadP;rw [if_pos (by simp [z0,hok,ho])];rfl
 (refine Fn.enter (args:=[.pointer (some kp),.iface 280 (.int .i64 o),.int .i64 7]) Tryz.func250 rfl Tryz.ntmps250 rfl ?_;intro w0)
 repeat (refine s250_L8h ?_;intros)
 refine JO.eff rfl rfl rfl (JEff.method rfl rfl (m8_O _) (p8_numO _) rfl ?_);intro S1 hl1
 repeat (refine s250_L8h ?_;intros)
 (refine JO.eff rfl rfl rfl (JEff.alloc rfl ?_);intro cb hcb)
 repeat (refine s250_L8h ?_;intros)
 refine JO.eff rfl rfl rfl (JEff.storeW rfl rfl (hV0 _) nna (List.Perm.refl _) rfl (by intro l hl;cases hl) ?_)
 repeat (refine s250_L8h ?_;intros)
 refine JO.pure rfl rfl rfl (JPure.assertF rfl rfl rfl ?_)
 repeat (refine s250_L8h ?_;intros)
 refine JO.pure rfl rfl rfl (JPure.assertF rfl rfl rfl ?_)
 repeat (refine s250_L8h ?_;intros)
 refine JO.pure rfl rfl rfl (JPure.assertT rfl rfl ?_)
 repeat (refine s250_L8h ?_;intros)
 (refine JO.eff rfl rfl rfl (JEff.alloc rfl ?_);intro ob hob)
 repeat (refine s250_L8h ?_;intros)
 refine JO.eff rfl rfl rfl (JEff.storeW rfl rfl (by exact vta) nna (List.Perm.refl _) rfl (by intro l hl;cases hl) ?_)
 refine JO.freezeV (by exact vta) nna hob (by intro l hl;cases hl) ?_;intro S2 hl2 hpo
 repeat (refine s250_L8h ?_;intros)
 refine JC.cond rfl (fun ht=>?_) (fun ht=>?_)
 ·have ht:topoOf s o=noS:=by rw [htp];simpa [noS] using ht
  have hp1:spreadC1 s p o=[]:=by rw [spreadC1,if_pos ht]
  repeat (refine s250_L8h ?_;intros)
  refine JX.ret1 Tryz.results250 (ResV.tmp rfl) (M':=[_]) (List.sublist_cons_self _ _) ?_
  exact ⟨by rw [hp1];exact V_nil,_,rfl,hco.mono (by exact lea)⟩
 ·have ht:¬ topoOf s o=noS:=by rw [htp];simpa [noS] using ht
  repeat (refine s250_L8h ?_;intros)
  have hVs:=(by assumption:(rSlice 8 rI64).V _ _ (spreadP s p o))
  rw [hspp] at hVs
  rw [hspp]
  refine JC.cond rfl (fun hle=>?_) (fun hle=>?_)
  ·have hne:spreadL s p o≠[]:=by intro h;rw [h] at hle;simp at hle
   have hne2:¬ (spreadL s p o).length=0:=by intro h;exact hne (List.length_eq_zero_iff.1 h)
   have hsk:skewV s p o=max 0 (maxL (spreadL s p o) - minL (spreadL s p o) - ow.skew):=by rw [skewV,if_neg hne2,hsko]
   obtain ⟨hmx,hmn⟩:=maxmin_rng hne hspr
   repeat (refine s250_L8h ?_;intros)
   refine JO.pure rfl rfl rfl (JPure.fieldP rfl rfl ?_)
   refine JO.eff rfl rfl rfl (JEff.storeI (i:=3) (xs:=[7,o,0,0]) rfl rfl (by unfold Rng;omega) (List.Perm.refl _) (by simp) (by intro l hl;cases hl) ?_)
   have hp1:spreadC1 s p o=[⟨7,o,0,max 0 (maxL (spreadL s p o) - minL (spreadL s p o) - ow.skew)⟩]:=by rw [spreadC1,if_neg ht,hsk]
   repeat (refine s250_L8h ?_;intros)
   refine JO.pure rfl rfl rfl (JPure.loadCl (c:=⟨7,o,0,max 0 (maxL (spreadL s p o) - minL (spreadL s p o) - ow.skew)⟩) rfl (by (first|exact List.mem_cons_self|exact List.mem_cons_of_mem _ List.mem_cons_self|exact List.mem_cons_of_mem _ (List.mem_cons_of_mem _ List.mem_cons_self))) rfl ⟨by unfold Rng;dsimp only;omega,hor,by unfold Rng;dsimp only;omega,by unfold Rng;dsimp only;omega⟩ (.inl rfl) rfl ?_);intro hV
   (refine JO.eff rfl rfl rfl (JEff.buildS (bt:=32) (rep:=rClause) (ys:=[(⟨7,o,0,max 0 (maxL (spreadL s p o) - minL (spreadL s p o) - ow.skew)⟩:Clause)]) rfl rfl (⟨⟨hV,nna⟩,trivial⟩) rfl rfl rfl (by decide) rfl ?_);intro S4 a4 hl4 hV4)
   repeat (refine s250_L8h ?_;intros)
   refine JX.ret1 Tryz.results250 (ResV.tmp rfl) (M':=[_]) (List.sublist_cons_self _ _) ?_
   exact ⟨by rw [hp1];exact hV4,_,rfl,hco.mono (by exact lea)⟩
  ·have hz:(spreadL s p o).length=0:=by
    have:¬ (0:Int) < ((spreadL s p o).length:Int):=by simpa using hle
    omega
   have hsk:skewV s p o=0:=by rw [skewV,if_pos hz]
   have hp1:spreadC1 s p o=[⟨7,o,0,0⟩]:=by rw [spreadC1,if_neg ht,hsk]
   repeat (refine s250_L8h ?_;intros)
   refine JO.pure rfl rfl rfl (JPure.loadCl (c:=⟨7,o,0,0⟩) rfl (by (first|exact List.mem_cons_self|exact List.mem_cons_of_mem _ List.mem_cons_self|exact List.mem_cons_of_mem _ (List.mem_cons_of_mem _ List.mem_cons_self))) rfl ⟨by unfold Rng;dsimp only;omega,hor,by unfold Rng;dsimp only;omega,by unfold Rng;dsimp only;omega⟩ (.inl rfl) rfl ?_);intro hV
   (refine JO.eff rfl rfl rfl (JEff.buildS (bt:=32) (rep:=rClause) (ys:=[(⟨7,o,0,0⟩:Clause)]) rfl rfl (⟨⟨hV,nna⟩,trivial⟩) rfl rfl rfl (by decide) rfl ?_);intro S4 a4 hl4 hV4)
   repeat (refine s250_L8h ?_;intros)
   refine JX.ret1 Tryz.results250 (ResV.tmp rfl) (M':=[_]) (List.sublist_cons_self _ _) ?_
   exact ⟨by rw [hp1];exact hV4,_,rfl,hco.mono (by exact lea)⟩
end Go.Dr
namespace Go.Dr
open Go.Proofs
set_option maxRecDepth 20000
set_option maxHeartbeats 2000000
set_option linter.unusedSimpArgs false
set_option linter.unusedVariables false
def usedK (s:Snap) (p:List Int) (k:Nat):List (List Int):=(List.range k).map (fun (n:Nat)=>usedV s p n)
theorem usedK_step (s:Snap) (p:List Int) (k:Nat):usedK s p (k+1)=usedK s p k++[usedV s p k]:=by unfold usedK;rw [List.range_succ];simp
theorem usedK_len (s:Snap) (p:List Int) (k:Nat):(usedK s p k).length=k:=by simp [usedK]
def SeeAns (s:Snap) (p:List Int) (w:Value) (S':SHeap) (M':List MEnt):Prop:=
 (¬ checkP s p=0∧w=.tuple #[.pointer none,.int .i64 (checkP s p)]∧M'=[]) ∨
 (checkP s p=0∧∃ kp mb,w=.tuple #[.pointer (some kp),.int .i64 0]∧PtrTo S' kp rLook ⟨s,p,usedAll s p,.map (some mb)⟩∧M'=[.blk mb (mapK Value.string [])])
theorem s167_L8i {P K:Prop} (k:K) (h:Goal K→P:=by
 intro zk
 (first|refine Walk ?_|refine JC.block ?_|(refine JO.eff rfl rfl rfl (JEff.callV rfl (p7_Check (by exact vta) (by exact vta)) rfl ?_);intro zqa zqb))
 (repeat (first|revert zqg|revert zqf|revert zqe|revert zqd|revert zqc|revert zqb|revert zqa))
 exact zk.k):P:=h ⟨k⟩
theorem p8_see {S:SHeap} {u v:Value} {s:Snap} {p:List Int} (hu:rSnap.V S u s) (hv:(rSlice 8 rI64).V S v p):Fn Tryz.prog 167 #[u,v] S [] (SeeAns s p):=by
 haveI:TyR Tryz.prog 188 rVal:=⟨(inferInstance:TyR Tryz.prog 188 (rSlice 40 (rArr 5))).b⟩
 obtain ⟨a,c,rfl,_⟩:=V_slice.1 hv
 (refine Fn.enter (args:=[u,.slice a p.length c]) Tryz.func167 rfl Tryz.ntmps167 rfl ?_;intro w0)
 repeat (refine s167_L8i ?_;intros)
 (refine JO.eff rfl rfl rfl (JEff.boxS rfl (by exact vta) nna rfl ?_);intro S0 pa l0 hp0)
 repeat (refine s167_L8i ?_;intros)
 refine JC.cond rfl (fun he=>?_) (fun he=>?_)
 ·have he:¬ checkP s p=0:=by simpa using he
  repeat (refine s167_L8i ?_;intros)
  refine JX.ret2 Tryz.results167 (ResV.tmp rfl) (ResV.tmp rfl) (List.nil_sublist _) ?_
  exact .inl ⟨he,rfl,rfl⟩
 have hok:checkP s p=0:=by simpa using he
 obtain ⟨hs,hlen,hp24,hn8,ho8,hpr,hprn⟩:=placed_hyps hok
 repeat (refine s167_L8i ?_;intros)
 obtain ⟨cs,rfl,hcs⟩:=V_agg rfl (by assumption:rSnap.V _ _ s)
 obtain ⟨n1,n2,n3,rfl⟩:∃ n1 n2 n3,cs=[n1,n2,n3]:=by
  have h3:cs.length=3:=rSnap.len hcs
  match cs,h3 with
  | [n1,n2,n3],_=>exact ⟨n1,n2,n3,rfl⟩
 refine JO.eff rfl rfl rfl (JEff.makeMapK Value.string rfl ?_);intro mb hmb
 repeat (refine s167_L8i ?_;intros)
 refine JO.eff rfl rfl rfl (JEff.box rfl rfl ?_);intro kb hkb
 repeat (refine s167_L8i ?_;intros)
 refine JC.newRow 91 (Rp.sz (rArr 5)) ?_
 refine JC.loopF (σ:=Nat × Option Addr × Nat × List Value) [(1,_),(2,_),(7,_),(22,_)] (fun q=>[(23,.int .i64 q.1)])
  (fun q=>[.row w0.heap.size 91 (Rp.sz (rArr 5)) (.slice q.2.1 q.1 q.2.2.1) q.1 (flatCells q.2.2.2),.blk kb (.cells #[n1,n2,n3,.slice a p.length c,.slice q.2.1 q.1 q.2.2.1,.map (some mb)] 276 (0,0)),.blk mb (mapK Value.string [])])
  (fun Sk q=>q.1≤s.nodes.length∧allV (rArr 5) Sk q.2.2.2 (usedK s p q.1)) (fun q=>s.nodes.length - q.1) (0,none,0,[]) (by exact sba) (by exact sba) (by rfl) ⟨Nat.zero_le _,trivial⟩ ?_
 rintro Sk ⟨k,ra,rc,vs⟩ hlk ⟨hk,hv1⟩
 dsimp only at hk hv1
 dsimp only [List.cons_append,List.nil_append]
 repeat (refine s167_L8i ?_;intros)
 refine JC.cond rfl (fun hc=>?_) (fun hc=>?_)
 ·have hk':=dlt hc
  have hst:=usedK_step s p k
  obtain ⟨hul,hur⟩:=used_fine hs hlen k
  have hU:∀ S,(rArr 5).V S (.agg (ints (usedV s p k))) (usedV s p k):=fun S=>V_arr.2 ⟨rfl,hul,fun z hz=>by have:=hur z hz;unfold Qty at this;unfold Rng;omega⟩
  have hup:usedP s p k=usedV s p k:=by unfold usedP;rw [if_pos (by simp [z0,hok,hk'])]
  have hkl:=usedK_len s p k
  have hvl:=hv1.length
  rw [hkl] at hvl
  repeat (refine s167_L8i ?_;intros)
  refine JC.drawTreeF 8 rfl [11,12] [4] [0,1,2,3,5,6,7] (.alt (ofL [4,8,9,10,11,12,13] .nil) (ofL [8] (.alt (ofL [4,9,10,11,12,13] .nil) (ofL [9,4,10,11,12,13] .nil)))) Tryz_mixed (by decide +kernel) ?_
  repeat (refine s167_L8i ?_;intros)
  refine JO.pure rfl rfl rfl (JPure.fieldP rfl rfl ?_)
  repeat (refine s167_L8i ?_;intros)
  refine JO.alt ?_ ?_
  ·refine JO.eff rfl rfl rfl (JEff.loadE (rVal) (x0:=.slice ra k rc) rfl (by (first|exact List.mem_cons_self|exact List.mem_cons_of_mem _ List.mem_cons_self|exact List.mem_cons_of_mem _ (List.mem_cons_of_mem _ List.mem_cons_self))) rfl ⟨rfl,rfl⟩ inferInstance rfl ?_)
   repeat (refine s167_L8i ?_;intros)
   refine JO.eff rfl rfl rfl (JEff.callV rfl (p7_Used (s:=s) (p:=p) k (by exact vta) (by exact vta)) rfl ?_);intro S3 hl3
   rw [hup]
   repeat (refine s167_L8i ?_;intros)
   (refine JO.eff rfl rfl rfl (JEff.build (rep:=rArr 5) (ys:=[usedV s p k]) rfl rfl ⟨⟨hU _,nna⟩,trivial⟩ rfl rfl rfl rfl ?_);intro bb hbb hvv)
   (refine JO.eff rfl rfl rfl (JEff.appendL (rep:=rArr 5) rfl rfl rfl rfl (List.Perm.swap _ _ _) (by exact hvv.flat) (by intro c hc;exact flat_one (fun v hv=>(hvv.size v hv).2) c hc) (by unfold big;omega) (by unfold big;omega) (by first|exact rowT_ok|(intro l hl;cases hl)) rfl ?_);intro a2 c2;clear hvv hbb)
   repeat (refine s167_L8i ?_;intros)
   refine JO.pure rfl rfl rfl (JPure.fieldP rfl rfl ?_)
   refine JO.eff rfl rfl rfl (JEff.store (rep:=rVal) (x0:=.slice a2 (k+1) c2) rfl rfl (V_val.2 ⟨rfl,rfl⟩) nna (List.Perm.swap _ _ _) (by simp [rVal]) (by intro l hl;cases hl) ?_)
   repeat (refine s167_L8i ?_;intros)
   refine JX.perm (M':=[_,_,_]) (List.Perm.swap _ _ _) ?_
   exact JX.roundF (k+1,a2,c2,vs++[.agg (ints (usedV s p k))]) (by exact lea) ⟨by dsimp only;omega,by (try dsimp only);rw [hst];exact allV_add (by exact lea) hv1 (hU _) nna⟩ (by (try dsimp only);omega) (by simp [flat_append];rfl) (by exact sba) (by exact sba)
  ·refine JO.eff rfl rfl rfl (JEff.callV rfl (p7_Used (s:=s) (p:=p) k (by exact vta) (by exact vta)) rfl ?_);intro S3 hl3
   rw [hup]
   repeat (refine s167_L8i ?_;intros)
   refine JO.alt ?_ ?_
   ·refine JO.eff rfl rfl rfl (JEff.loadE (rVal) (x0:=.slice ra k rc) rfl (by (first|exact List.mem_cons_self|exact List.mem_cons_of_mem _ List.mem_cons_self|exact List.mem_cons_of_mem _ (List.mem_cons_of_mem _ List.mem_cons_self))) rfl ⟨rfl,rfl⟩ inferInstance rfl ?_)
    (refine JO.eff rfl rfl rfl (JEff.build (rep:=rArr 5) (ys:=[usedV s p k]) rfl rfl ⟨⟨hU _,nna⟩,trivial⟩ rfl rfl rfl rfl ?_);intro bb hbb hvv)
    (refine JO.eff rfl rfl rfl (JEff.appendL (rep:=rArr 5) rfl rfl rfl rfl (List.Perm.swap _ _ _) (by exact hvv.flat) (by intro c hc;exact flat_one (fun v hv=>(hvv.size v hv).2) c hc) (by unfold big;omega) (by unfold big;omega) (by first|exact rowT_ok|(intro l hl;cases hl)) rfl ?_);intro a2 c2;clear hvv hbb)
    repeat (refine s167_L8i ?_;intros)
    refine JO.pure rfl rfl rfl (JPure.fieldP rfl rfl ?_)
    refine JO.eff rfl rfl rfl (JEff.store (rep:=rVal) (x0:=.slice a2 (k+1) c2) rfl rfl (V_val.2 ⟨rfl,rfl⟩) nna (List.Perm.swap _ _ _) (by simp [rVal]) (by intro l hl;cases hl) ?_)
    repeat (refine s167_L8i ?_;intros)
    refine JX.perm (M':=[_,_,_]) (List.Perm.swap _ _ _) ?_
    exact JX.roundF (k+1,a2,c2,vs++[.agg (ints (usedV s p k))]) (by exact lea) ⟨by dsimp only;omega,by (try dsimp only);rw [hst];exact allV_add (by exact lea) hv1 (hU _) nna⟩ (by (try dsimp only);omega) (by simp [flat_append];rfl) (by exact sba) (by exact sba)
   ·(refine JO.eff rfl rfl rfl (JEff.build (rep:=rArr 5) (ys:=[usedV s p k]) rfl rfl ⟨⟨hU _,nna⟩,trivial⟩ rfl rfl rfl rfl ?_);intro bb hbb hvv)
    refine JO.eff rfl rfl rfl (JEff.loadE (rVal) (x0:=.slice ra k rc) rfl (by (first|exact List.mem_cons_self|exact List.mem_cons_of_mem _ List.mem_cons_self|exact List.mem_cons_of_mem _ (List.mem_cons_of_mem _ List.mem_cons_self))) rfl ⟨rfl,rfl⟩ inferInstance rfl ?_)
    (refine JO.eff rfl rfl rfl (JEff.appendL (rep:=rArr 5) rfl rfl rfl rfl (List.Perm.swap _ _ _) (by exact hvv.flat) (by intro c hc;exact flat_one (fun v hv=>(hvv.size v hv).2) c hc) (by unfold big;omega) (by unfold big;omega) (by first|exact rowT_ok|(intro l hl;cases hl)) rfl ?_);intro a2 c2;clear hvv hbb)
    repeat (refine s167_L8i ?_;intros)
    refine JO.pure rfl rfl rfl (JPure.fieldP rfl rfl ?_)
    refine JO.eff rfl rfl rfl (JEff.store (rep:=rVal) (x0:=.slice a2 (k+1) c2) rfl rfl (V_val.2 ⟨rfl,rfl⟩) nna (List.Perm.swap _ _ _) (by simp [rVal]) (by intro l hl;cases hl) ?_)
    repeat (refine s167_L8i ?_;intros)
    refine JX.perm (M':=[_,_,_]) (List.Perm.swap _ _ _) ?_
    exact JX.roundF (k+1,a2,c2,vs++[.agg (ints (usedV s p k))]) (by exact lea) ⟨by dsimp only;omega,by (try dsimp only);rw [hst];exact allV_add (by exact lea) hv1 (hU _) nna⟩ (by (try dsimp only);omega) (by simp [flat_append];rfl) (by exact sba) (by exact sba)
 ·have hk':=dnlt hc
  obtain rfl:k=s.nodes.length:=by omega
  have hkl:=usedK_len s p s.nodes.length
  refine JC.freezeRow (rep:=rArr 5) (bt:=40) hv1 hkl.symm (by unfold big;omega) (by unfold big;omega) (fun S9 hl9 hV9=>?_)
  refine JC.freeze hkb (fun S10 hl10 hS10=>?_)
  have hfin:PtrTo S10 ⟨kb,0,none⟩ rLook ⟨s,p,usedAll s p,.map (some mb)⟩:=
   cells_ptr (v:=.agg #[n1,n2,n3,.slice a p.length c,.slice ra s.nodes.length rc,.map (some mb)]) hS10
    ⟨[n1,n2,n3],_,rfl,rSnap.mono (by exact lea) hcs,[_],_,rfl,Rp.V.one rfl (hv.mono (by exact lea)),[_],[_],rfl,Rp.V.one rfl (hV9.mono (by exact lea)),rfl,rfl⟩
  repeat (refine s167_L8i ?_;intros)
  refine JX.ret2 Tryz.results167 (ResV.tmp rfl) (ResV.tmp rfl) (List.Sublist.refl _) ?_
  exact .inr ⟨hok,_,_,rfl,hfin,rfl⟩
end Go.Dr
namespace Go.Dr
open Go.Proofs
set_option maxRecDepth 20000
set_option maxHeartbeats 2000000
set_option linter.unusedSimpArgs false
set_option linter.unusedVariables false
theorem capTo_next (s:Snap) (p:List Int) (n:Nat):capTo s p (n+1) 0=capTo s p n 0++capsK s p n 5:=by
 unfold capTo capsK
 rw [List.range_succ (n:=n)];simp
def ownTo (s:Snap) (p:List Int):Nat→Nat→List Clause
 | 0,o=>capsC s p++kindsTo s p 5++spreadTo s p o
 | 1,o=>capsC s p++kindsTo s p 5++spreadTo s p s.owners.length++minTo s p o
 | _+2,_=>capsC s p++kindsTo s p 5++spreadTo s p s.owners.length++minTo s p s.owners.length
theorem ownTo_next (s:Snap) (p:List Int) (t:Nat):ownTo s p t s.owners.length=ownTo s p (t+1) 0:=by
 match t with
 | 0=>simp [ownTo,minTo]
 | 1=>simp [ownTo]
 | t+2=>simp [ownTo]
theorem ownTo_step (s:Snap) (p:List Int) (t o:Nat) (ht:t < 2):ownTo s p t (o+1)=ownTo s p t o++ownC1 s p ((t:Int)+7) o:=by
 match t with
 | 0=>
  have:¬ ((0:Nat):Int)+7=8:=by omega
  unfold ownC1
  rw [if_neg this]
  show capsC s p++kindsTo s p 5++spreadTo s p (o+1)=capsC s p++kindsTo s p 5++spreadTo s p o++spreadC1 s p o
  rw [spreadTo_step,List.append_assoc (capsC s p++kindsTo s p 5)]
 | 1=>
  have:((1:Nat):Int)+7=8:=by omega
  unfold ownC1
  rw [if_pos this]
  show capsC s p++kindsTo s p 5++spreadTo s p s.owners.length++minTo s p (o+1)=capsC s p++kindsTo s p 5++spreadTo s p s.owners.length++minTo s p o++[minC1 s p o]
  rw [minTo_step,List.append_assoc (capsC s p++kindsTo s p 5++spreadTo s p s.owners.length)]
theorem ownTo_len (s:Snap) (p:List Int) (hok:checkP s p=0) (t o:Nat) (ht:t≤2) (ho:o≤s.owners.length):(ownTo s p t o).length≤400:=by
 obtain ⟨hs,hlen,hp24,hn8,ho8,hpr,hprn⟩:=placed_hyps hok
 have hcl:(capsC s p).length≤40:=by unfold capsC;rw [capTo_len];omega
 have hkl:=kindsTo_len s p 5
 have h1:=spreadTo_len s p o
 have h2:=minTo_len s p o
 have h3:=spreadTo_len s p s.owners.length
 have h4:=minTo_len s p s.owners.length
 match t with
 | 0=>simp only [ownTo,List.length_append];omega
 | 1=>simp only [ownTo,List.length_append];omega
 | t+2=>simp only [ownTo,List.length_append];omega
theorem ownC1_len (s:Snap) (p:List Int) (kind:Int) (o:Nat):(ownC1 s p kind o).length≤1:=by
 unfold ownC1 spreadC1
 split
 ·simp
 ·split<;>simp
theorem p8_ofOwner {S:SHeap} {kp:Addr} {s:Snap} {p:List Int} {us:List (List Int)} {mb:Nat} {l:List (ByteArray × Value)} {o t:Nat} (hok:checkP s p=0) (ho:o < s.owners.length) (ht:t < 2)
  (hL:PtrTo S kp rLook ⟨s,p,us,.map (some mb)⟩) (hco:Cache s S l) :
  FnC Tryz.prog 250 #[.pointer (some kp),.iface 280 (.int .i64 o),.int .i64 ((t:Int)+7)] S Value.string mb (Cache s) l (fun w S'=>(rSlice 32 rClause).V S' w (ownC1 s p ((t:Int)+7) o)):=by
 match t with
 | 0=>exact p8_ofSpread hok ho hL hco
 | 1=>exact p8_ofMin hok ho hL hco
theorem p8_all {S:SHeap} {kp:Addr} {s:Snap} {p:List Int} {mb:Nat} {l:List (ByteArray × Value)} (hok:checkP s p=0)
  (hL:PtrTo S kp rLook ⟨s,p,usedAll s p,.map (some mb)⟩) (hco:Cache s S l) :
  FnC Tryz.prog 168 #[.pointer (some kp)] S Value.string mb (Cache s) l (fun w S'=>(rSlice 32 rClause).V S' w (allC s p)):=by
 obtain ⟨hs,hlen,hp24,hn8,ho8,hpr,hprn⟩:=placed_hyps hok
 (refine Fn.enter (args:=[.pointer (some kp)]) Tryz.func168 rfl Tryz.ntmps168 rfl ?_;intro w0)
 repeat (first|(refine Walk ?_;intros)|refine JC.block ?_)
 (first|refine JC.newRow 41 (Rp.sz rClause) ?_|refine JO.newRow 41 (Rp.sz rClause) ?_|refine JX.newRow 41 (Rp.sz rClause) ?_)
 refine JC.loopF (σ:=Nat × Option Addr × Nat × List Value × List (ByteArray × Value)) [(0,_),(13,_)] (fun q=>[(2,.slice q.2.1 ((fun n=>capTo s p n 0) q.1).length q.2.2.1),(14,((fun n=>.int .i64 n) q.1))]) (fun q=>[.row w0.heap.size 41 (Rp.sz rClause) (.slice q.2.1 ((fun n=>capTo s p n 0) q.1).length q.2.2.1) ((fun n=>capTo s p n 0) q.1).length (flatCells q.2.2.2.1),.blk mb (mapK Value.string q.2.2.2.2)]) (fun Sn q=>q.1≤s.nodes.length∧allV rClause Sn q.2.2.2.1 ((fun n=>capTo s p n 0) q.1)∧Cache s Sn q.2.2.2.2) (fun q=>s.nodes.length - q.1) (0,none,0,[],l) (by exact sba) (by exact sba) (by first|rfl|simp) (⟨Nat.zero_le _,trivial,hco⟩) ?_;rintro Sn ⟨n,ran,rcn,vsn,lmn⟩ hln ⟨hn,hvn,hcon⟩;(try dsimp only at hn hvn hcon);dsimp only [List.cons_append,List.nil_append]
 have hxl:=capTo_len s p n 0
 repeat (first|(refine Walk ?_;intros)|refine JC.block ?_)
 refine JC.cond rfl (fun hc=>?_) (fun hc=>?_)
 ·have hn':=dlt hc
  have hst:=capTo_next s p n
  have hcl:=capsK_len s p n 5
  repeat (first|(refine Walk ?_;intros)|refine JC.block ?_)
  refine JO.pure rfl rfl rfl (JPure.mkIface rfl rfl ?_)
  repeat (first|(refine Walk ?_;intros)|refine JC.block ?_)
  refine JO.eff rfl rfl rfl (JEff.callC (kv:=Value.string) rfl (List.Perm.swap _ _ _) (by intro l hl;cases hl) (p8_ofNode hok hn' (by exact pta) (hcon.mono (by exact lea))) rfl ?_);intro w S2 l2 hl2 hw hco2
  obtain ⟨wa,wc,rfl,_⟩:=V_slice.1 hw
  repeat (first|(refine Walk ?_;intros)|refine JC.block ?_)
  refine JO.eff rfl rfl rfl (JEff.appendS (rep:=rClause) rfl rfl hw rfl rfl (List.Perm.swap _ _ _) (by unfold big;omega) (by unfold big;omega) (by intro l hl;cases hl) rfl ?_);intro a2 c2 us1 hus1
  repeat (first|(refine Walk ?_;intros)|refine JC.block ?_)
  exact JX.roundF (n+1,a2,c2,vsn++us1,l2) (by exact lea) ⟨by omega,by (try dsimp only);rw [hst];exact allV.append hus1 (hvn.mono (by exact lea)),hco2.mono (by exact lea)⟩ (by (try dsimp only);omega) (by (try dsimp only);rw [hst];simp [flat_append]) (by (try dsimp only);rw [hst,List.length_append];exact sba) (by exact sba)
 ·have hn':=dnlt hc
  obtain rfl:n=s.nodes.length:=by omega
  have hcl:(capsC s p).length≤40:=by unfold capsC;rw [capTo_len];omega
  repeat (first|(refine Walk ?_;intros)|refine JC.block ?_)
  have h0:capTo s p s.nodes.length 0=capsC s p++kindsTo s p 0:=by simp [kindsTo,capsC]
  rw [h0] at hvn
  rw [h0]
  refine JC.loopF (σ:=Nat × Option Addr × Nat × List Value × List (ByteArray × Value)) [(0,_)] (fun q=>[(2,.slice q.2.1 ((fun j=>capsC s p++kindsTo s p j) q.1).length q.2.2.1),(4,((fun j=>.int .i64 ((j:Int)+2)) q.1))]) (fun q=>[.row w0.heap.size 41 (Rp.sz rClause) (.slice q.2.1 ((fun j=>capsC s p++kindsTo s p j) q.1).length q.2.2.1) ((fun j=>capsC s p++kindsTo s p j) q.1).length (flatCells q.2.2.2.1),.blk mb (mapK Value.string q.2.2.2.2)]) (fun Sj q=>q.1≤5∧allV rClause Sj q.2.2.2.1 ((fun j=>capsC s p++kindsTo s p j) q.1)∧Cache s Sj q.2.2.2.2) (fun q=>5 - q.1) (0,ran,rcn,vsn,lmn) (by exact sba) (by exact sba) (by first|rfl|simp) (⟨Nat.zero_le _,hvn,hcon⟩) ?_;rintro Sj ⟨j,raj,rcj,vsj,lmj⟩ hlj ⟨hj,hvj,hcoj⟩;(try dsimp only at hj hvj hcoj);dsimp only [List.cons_append,List.nil_append]
  have hkl:=kindsTo_len s p j
  have hkl2:j*p.length≤5*24:=Nat.mul_le_mul (by omega) (by omega)
  have hXl:(capsC s p++kindsTo s p j).length≤200:=by rw [List.length_append];omega
  repeat (first|(refine Walk ?_;intros)|refine JC.block ?_)
  refine JC.cond rfl (fun hc=>?_) (fun hc=>?_)
  ·have hj':j < 5:=by have:=of_decide_eq_true hc;omega
   repeat (first|(refine Walk ?_;intros)|refine JC.block ?_)
   have h1:capsC s p++kindsTo s p j=capsC s p++kindsTo s p j++podsTo s p ((j:Int)+2) 0:=by simp [podsTo]
   rw [h1] at hvj
   rw [h1]
   refine JC.loopF (σ:=Nat × Option Addr × Nat × List Value × List (ByteArray × Value)) [(0,_),(4,_),(32,_)] (fun q=>[(2,.slice q.2.1 ((fun i=>capsC s p++kindsTo s p j++podsTo s p ((j:Int)+2) i) q.1).length q.2.2.1),(33,((fun i=>.int .i64 i) q.1))]) (fun q=>[.row w0.heap.size 41 (Rp.sz rClause) (.slice q.2.1 ((fun i=>capsC s p++kindsTo s p j++podsTo s p ((j:Int)+2) i) q.1).length q.2.2.1) ((fun i=>capsC s p++kindsTo s p j++podsTo s p ((j:Int)+2) i) q.1).length (flatCells q.2.2.2.1),.blk mb (mapK Value.string q.2.2.2.2)]) (fun Si q=>q.1≤p.length∧allV rClause Si q.2.2.2.1 ((fun i=>capsC s p++kindsTo s p j++podsTo s p ((j:Int)+2) i) q.1)∧Cache s Si q.2.2.2.2) (fun q=>p.length - q.1) (0,raj,rcj,vsj,lmj) (by exact sba) (by exact sba) (by first|rfl|simp) (⟨Nat.zero_le _,hvj.mono (by exact lea),hcoj.mono (by exact lea)⟩) ?_;rintro Si ⟨i,rai,rci,vsi,lmi⟩ hli ⟨hi,hvi,hcoi⟩;(try dsimp only at hi hvi hcoi);dsimp only [List.cons_append,List.nil_append]
   have hpl:=podsTo_len s p ((j:Int)+2) i
   have hp1:=podC1_len s p ((j:Int)+2) i
   have hYl:(capsC s p++kindsTo s p j++podsTo s p ((j:Int)+2) i).length≤300:=by rw [List.length_append];omega
   repeat (first|(refine Walk ?_;intros)|refine JC.block ?_)
   refine JC.cond rfl (fun hc2=>?_) (fun hc2=>?_)
   ·have hi':=dlt hc2
    have hst:capsC s p++kindsTo s p j++podsTo s p ((j:Int)+2) (i+1)=capsC s p++kindsTo s p j++podsTo s p ((j:Int)+2) i++podC1 s p ((j:Int)+2) i:=by rw [podsTo_step,List.append_assoc (capsC s p++kindsTo s p j)]
    repeat (first|(refine Walk ?_;intros)|refine JC.block ?_)
    refine JO.pure rfl rfl rfl (JPure.mkIface rfl rfl ?_)
    repeat (first|(refine Walk ?_;intros)|refine JC.block ?_)
    refine JO.eff rfl rfl rfl (JEff.callC (kv:=Value.string) rfl (List.Perm.swap _ _ _) (by intro l hl;cases hl) (p8_ofPod hok hi' (by omega) (by omega) (by exact pta) (hcoi.mono (by exact lea))) rfl ?_);intro w S2 l2 hl2 hw hco2
    obtain ⟨wa,wc,rfl,_⟩:=V_slice.1 hw
    repeat (first|(refine Walk ?_;intros)|refine JC.block ?_)
    refine JO.eff rfl rfl rfl (JEff.appendS (rep:=rClause) rfl rfl hw rfl rfl (List.Perm.swap _ _ _) (by unfold big;omega) (by unfold big;omega) (by intro l hl;cases hl) rfl ?_);intro a2 c2 us1 hus1
    repeat (first|(refine Walk ?_;intros)|refine JC.block ?_)
    exact JX.roundF (i+1,a2,c2,vsi++us1,l2) (by exact lea) ⟨by omega,by (try dsimp only);rw [hst];exact allV.append hus1 (hvi.mono (by exact lea)),hco2.mono (by exact lea)⟩ (by (try dsimp only);omega) (by (try dsimp only);rw [hst];(simp [flat_append]<;>omega)) (by (try dsimp only);rw [hst,List.length_append (bs:=podC1 s p ((j:Int)+2) i)];exact sba) (by exact sba)
   ·have hi':=dnlt hc2
    obtain rfl:i=p.length:=by omega
    have h2:capsC s p++kindsTo s p j++podsTo s p ((j:Int)+2) p.length=capsC s p++kindsTo s p (j+1):=by rw [kindsTo_step,List.append_assoc]
    rw [h2] at hvi
    rw [h2]
    repeat (first|(refine Walk ?_;intros)|refine JC.block ?_)
    exact JX.roundF (j+1,rai,rci,vsi,lmi) (by exact lea) ⟨by omega,hvi.mono (by exact lea),hcoi.mono (by exact lea)⟩ (by (try dsimp only);omega) rfl (by exact sba) (by exact sba)
  ·obtain rfl:j=5:=by have:=of_decide_eq_false hc;omega
   repeat (first|(refine Walk ?_;intros)|refine JC.block ?_)
   have h3:capsC s p++kindsTo s p 5=ownTo s p 0 0:=by simp [ownTo,spreadTo,minTo]
   rw [h3] at hvj
   rw [h3]
   refine JC.loopF (σ:=Nat × Option Addr × Nat × List Value × List (ByteArray × Value)) [(0,_)] (fun q=>[(2,.slice q.2.1 ((fun t=>ownTo s p t 0) q.1).length q.2.2.1),(6,((fun t=>.int .i64 ((t:Int)+7)) q.1))]) (fun q=>[.row w0.heap.size 41 (Rp.sz rClause) (.slice q.2.1 ((fun t=>ownTo s p t 0) q.1).length q.2.2.1) ((fun t=>ownTo s p t 0) q.1).length (flatCells q.2.2.2.1),.blk mb (mapK Value.string q.2.2.2.2)]) (fun St q=>q.1≤2∧allV rClause St q.2.2.2.1 ((fun t=>ownTo s p t 0) q.1)∧Cache s St q.2.2.2.2) (fun q=>2 - q.1) (0,raj,rcj,vsj,lmj) (by exact sba) (by exact sba) (by first|rfl|simp) (⟨Nat.zero_le _,hvj.mono (by exact lea),hcoj.mono (by exact lea)⟩) ?_;rintro St ⟨t,rat,rct,vst,lmt⟩ hlt ⟨ht,hvt,hcot⟩;(try dsimp only at ht hvt hcot);dsimp only [List.cons_append,List.nil_append]
   have hXl:=ownTo_len s p hok t 0 (by omega) (by omega)
   repeat (first|(refine Walk ?_;intros)|refine JC.block ?_)
   refine JC.cond rfl (fun hc=>?_) (fun hc=>?_)
   ·have ht':t < 2:=by have:=of_decide_eq_true hc;omega
    repeat (first|(refine Walk ?_;intros)|refine JC.block ?_)
    refine JC.loopF (σ:=Nat × Option Addr × Nat × List Value × List (ByteArray × Value)) [(0,_),(6,_),(53,_)] (fun q=>[(2,.slice q.2.1 ((fun o=>ownTo s p t o) q.1).length q.2.2.1),(54,((fun o=>.int .i64 o) q.1))]) (fun q=>[.row w0.heap.size 41 (Rp.sz rClause) (.slice q.2.1 ((fun o=>ownTo s p t o) q.1).length q.2.2.1) ((fun o=>ownTo s p t o) q.1).length (flatCells q.2.2.2.1),.blk mb (mapK Value.string q.2.2.2.2)]) (fun So q=>q.1≤s.owners.length∧allV rClause So q.2.2.2.1 ((fun o=>ownTo s p t o) q.1)∧Cache s So q.2.2.2.2) (fun q=>s.owners.length - q.1) (0,rat,rct,vst,lmt) (by exact sba) (by exact sba) (by first|rfl|simp) (⟨Nat.zero_le _,hvt.mono (by exact lea),hcot.mono (by exact lea)⟩) ?_;rintro So ⟨o,rao,rco,vso,lmo⟩ hlo ⟨ho,hvo,hcoo⟩;(try dsimp only at ho hvo hcoo);dsimp only [List.cons_append,List.nil_append]
    have hYl:=ownTo_len s p hok t o (by omega) (by omega)
    repeat (first|(refine Walk ?_;intros)|refine JC.block ?_)
    refine JC.cond rfl (fun hc2=>?_) (fun hc2=>?_)
    ·have ho':=dlt hc2
     have hst:=ownTo_step s p t o ht'
     have hp1:=ownC1_len s p ((t:Int)+7) o
     repeat (first|(refine Walk ?_;intros)|refine JC.block ?_)
     refine JO.pure rfl rfl rfl (JPure.mkIface rfl rfl ?_)
     repeat (first|(refine Walk ?_;intros)|refine JC.block ?_)
     refine JO.eff rfl rfl rfl (JEff.callC (kv:=Value.string) rfl (List.Perm.swap _ _ _) (by intro l hl;cases hl) (p8_ofOwner hok ho' (by omega) (by exact pta) (hcoo.mono (by exact lea))) rfl ?_);intro w S2 l2 hl2 hw hco2
     obtain ⟨wa,wc,rfl,_⟩:=V_slice.1 hw
     repeat (first|(refine Walk ?_;intros)|refine JC.block ?_)
     refine JO.eff rfl rfl rfl (JEff.appendS (rep:=rClause) rfl rfl hw rfl rfl (List.Perm.swap _ _ _) (by unfold big;omega) (by unfold big;omega) (by intro l hl;cases hl) rfl ?_);intro a2 c2 us1 hus1
     repeat (first|(refine Walk ?_;intros)|refine JC.block ?_)
     exact JX.roundF (o+1,a2,c2,vso++us1,l2) (by exact lea) ⟨by omega,by (try dsimp only);rw [hst];exact allV.append hus1 (hvo.mono (by exact lea)),hco2.mono (by exact lea)⟩ (by (try dsimp only);omega) (by (try dsimp only);rw [hst];simp [flat_append]) (by (try dsimp only);rw [hst,List.length_append];exact sba) (by exact sba)
    ·have ho':=dnlt hc2
     obtain rfl:o=s.owners.length:=by omega
     rw [ownTo_next] at hvo
     rw [ownTo_next]
     repeat (first|(refine Walk ?_;intros)|refine JC.block ?_)
     exact JX.roundF (t+1,rao,rco,vso,lmo) (by exact lea) ⟨by omega,hvo.mono (by exact lea),hcoo.mono (by exact lea)⟩ (by (try dsimp only);omega) rfl (by exact sba) (by exact sba)
   ·obtain rfl:t=2:=by have:=of_decide_eq_false hc;omega
    have hfin:ownTo s p 2 0=allC s p:=by simp [ownTo,allC]
    rw [hfin] at hvt hXl
    rw [hfin]
    repeat (first|(refine Walk ?_;intros)|refine JC.block ?_)
    refine JX.freezeRow (rep:=rClause) (bt:=32) hvt rfl (by unfold big;omega) (by unfold big;omega) (fun S9 hl9 hV9=>?_)
    refine JX.ret1 Tryz.results168 (ResV.tmp rfl) (List.Sublist.refl _) ?_
    exact ⟨hV9,_,rfl,hcot.mono (by exact lea)⟩
end Go.Dr
namespace Go.Dr
open Go.Proofs
set_option maxRecDepth 20000
set_option maxHeartbeats 2000000
set_option linter.unusedSimpArgs false
set_option linter.unusedVariables false
theorem slice_bytes {α:Type} {bt:Nat} {rep:Rp α} {S:SHeap} {v:Value} {xs:List α} (h:(rSlice bt rep).V S v xs):xs.length*bt≤big:=by
 obtain ⟨_,_,_,_,h,_⟩:=V_slice.1 h;exact h
theorem slice_at {α:Type} {bt:Nat} {rep:Rp α} {S:SHeap} {v:Value} {xs:List α} (h:(rSlice bt rep).V S v xs):∀ x∈xs,∃ q,PtrTo S q rep x:=by
 obtain ⟨a,c,rfl,_,_,_,hh⟩:=V_slice.1 h
 intro x hx
 obtain ⟨i,hi⟩:=List.getElem?_of_mem hx
 obtain ⟨ad,_,hp⟩:=hh i x hi
 exact ⟨_,hp⟩
end Go.Dr
namespace Go.Dr
open Go.Proofs
set_option maxRecDepth 20000
set_option maxHeartbeats 2000000
set_option linter.unusedSimpArgs false
set_option linter.unusedVariables false
theorem p8_All {S:SHeap} {u v:Value} {s:Snap} {p:List Int} (hu:rSnap.V S u s) (hv:(rSlice 8 rI64).V S v p):FnLE Tryz.prog 103 #[u,v] S 32 rClause (allL s p) (.int .i64 (checkP s p)):=by
 obtain ⟨a,c,rfl,_⟩:=V_slice.1 hv
 (refine Fn.enter (args:=[u,.slice a p.length c]) Tryz.func103 rfl Tryz.ntmps103 rfl ?_;intro w0)
 repeat (first|(refine Walk ?_;intros)|refine JC.block ?_|(refine WBox ?_;intros))
 refine JO.eff rfl rfl rfl (JEff.callM (Mc:=[]) rfl (List.Perm.refl _) (mayAll rfl) (p8_see (s:=s) (p:=p) (by exact vta) (by exact vta)) rfl ?_);intro w S2 M2 hl2 hw
 rcases hw with ⟨he,rfl,rfl⟩|⟨hok,kp,mb,rfl,hL,rfl⟩
 ·have he2:decide (checkP s p=0)=false:=by simpa using he
  repeat (first|(refine Walk ?_;intros)|refine JC.block ?_|(refine WBox ?_;intros))
  refine JC.cond rfl (fun h1=>?_) (fun h1=>?_)
  ·repeat (first|(refine Walk ?_;intros)|refine JC.block ?_|(refine WBox ?_;intros))
   (refine JX.ret2 Tryz.results103 (ResV.tmp rfl) (ResV.tmp rfl) (List.nil_sublist _) ?_)
   exact ⟨rfl,_,rfl,by rw [allL,if_neg he];exact V_nil⟩
  ·(exfalso;first|(simp only [decide_eq_true_eq,decide_eq_false_iff_not,Bool.not_eq_true',Bool.not_eq_false',Bool.and_eq_true,Bool.or_eq_true,Bool.and_eq_false_iff,Bool.or_eq_false_iff] at *;omega)|(simp_all;done)|(simp_all;omega))
 ·repeat (first|(refine Walk ?_;intros)|refine JC.block ?_|(refine WBox ?_;intros))
  refine JO.eff rfl rfl rfl (JEff.callC (kv:=Value.string) rfl (List.Perm.refl _) (by intro l hl;cases hl) (p8_all hok hL Cache.nil) rfl ?_);intro w S3 l3 hl3 hw hco3
  repeat (first|(refine Walk ?_;intros)|refine JC.block ?_|(refine WBox ?_;intros))
  (refine JX.ret2 Tryz.results103 (ResV.tmp rfl) (ResV.tmp rfl) (List.nil_sublist _) ?_)
  exact ⟨rfl,_,by rw [hok],by rw [allL,if_pos hok];exact hw⟩
end Go.Dr
namespace Go.Dr
def cutS (s:Snap):Snap:=⟨s.nodes.take 12,s.pods.take 30,s.owners.take 12⟩
def noNear:Near:=⟨⟨#[]⟩,[]⟩
end Go.Dr
namespace Go.Dr
open Go.Proofs
set_option maxRecDepth 20000
set_option maxHeartbeats 2000000
set_option linter.unusedSimpArgs false
set_option linter.unusedVariables false
theorem cut_len {α:Type} (l:List α) (n:Nat):(l.drop (0:Int).toNat).take (min (l.length:Int) (n:Int) - 0).toNat=l.take n:=by
 have e:(min (l.length:Int) (n:Int) - 0).toNat=min l.length n:=by omega
 rw [e,show (0:Int).toNat=0 from rfl,List.drop_zero]
 rcases Nat.le_total l.length n with h|h
 ·rw [Nat.min_eq_left h,List.take_length,List.take_of_length_le h]
 ·rw [Nat.min_eq_right h]
end Go.Dr
namespace Go.Dr
section
variable {C:Cx} {R:Rg} {Q:Post} {S S':SHeap} {M M':List MEnt} {e:Env} {rest:List Nat}
variable {d:Nat} {ty:TypeId} {pos:String} {aft:Array Edge} {g:Option (Nat × Bool)} {an:Bool}
theorem JPure.sliceT {T:TypeId} {x lo hi:Operand} {s:ByteArray} {kl kh:IntKind} {l h:Int} (hx:ev e x=some (.string s)) (hlo:ev e lo=some (.int kl l)) (hhi:ev e hi=some (.int kh h)) [hu:Und C.P T .string] (hdN:Nat.blt d C.N=true)
  (h0:0≤l) (h1:l≤h) (h2:h≤s.size) (k:JO C R rest Q S M ((d,.string (s.extract l.toNat h.toNat))::e)):JPure C R an ⟨some d,.slice T x (some lo) (some hi) none,ty,pos,aft,g⟩ rest Q S M e:=by
 refine JPure.of rfl hdN (fun act w' hh=>?_) k
 have bl:(Instr.sliceBound (.int kl l) h.toNat .sliceB).run C.P w'=.ok l.toNat w':=run_sliceBound (P:=C.P) w' kl l h.toNat _ h0 (by omega)
 have bh:(Instr.sliceBound (.int kh h) s.size .sliceAlen).run C.P w'=.ok h.toNat w':=run_sliceBound (P:=C.P) w' kh h s.size _ (by omega) h2
 have hm:(Instr.slice T (.string s) (some (.int kl l)) (some (.int kh h)) none).run C.P w'=.ok (.string (s.extract l.toNat h.toNat)) w':=by
  simp [Instr.slice,run_underlying hu.h,Instr.sliceBounds,bl,bh]
 have hs:(Instr.sliceAt T (.string s) (some (.int kl l)) (some (.int kh h)) none).run C.P w'=(Instr.slice T (.string s) (some (.int kl l)) (some (.int kh h)) none).run C.P w':=by
  simp [Instr.sliceAt,run_underlying hu.h]
 simp only [execOp,hh.eval hx,Option.map_some,Option.map_none,hh.eval hlo,hh.eval hhi,Sem.run_bind,hs,hm,Result.andThen_ok,Sem.run_pure]
end
end Go.Dr
namespace Go.Dr
open Go.Proofs
set_option maxRecDepth 20000
set_option maxHeartbeats 2000000
set_option linter.unusedSimpArgs false
set_option linter.unusedVariables false
theorem R_vec {S:SHeap} {a b c d e:Int} (h:∀ x∈[a,b,c,d,e],Rng x):(rArr 5).R S [.int .i64 a,.int .i64 b,.int .i64 c,.int .i64 d,.int .i64 e] [a,b,c,d,e]:=⟨rfl,rfl,h⟩
theorem sz1 (n:UInt8):(⟨#[n]⟩:ByteArray).size≤big:=by show 1≤big;decide
theorem sz0:(⟨#[]⟩:ByteArray).size≤big:=by decide
end Go.Dr
namespace Go.Dr
open Go.Proofs
set_option maxRecDepth 20000
set_option maxHeartbeats 2000000
set_option linter.unusedSimpArgs false
set_option linter.unusedVariables false
theorem V_num {S:SHeap} {a:Int} (h:Rng a:=by simp [Rng]):rI64.V S (.int .i64 a) a:=V_i64.2 ⟨rfl,h⟩
end Go.Dr
namespace Go.Dr
open Go.Proofs
set_option maxRecDepth 20000
set_option maxHeartbeats 2000000
set_option linter.unusedSimpArgs false
set_option linter.unusedVariables false
theorem w_EqInts {S:SHeap} {u v:Value} {xs:List Int} (hu:(rSlice 8 rI64).V S u xs) (hv:(rSlice 8 rI64).V S v xs):FnV Tryz.prog 23 #[u,v] S (.bool true):=by
 have h:=r0_EqInts hu hv
 rw [decide_eq_true rfl] at h;exact h
end Go.Dr
namespace Go.Dr
set_option linter.unusedSimpArgs false
set_option linter.unusedVariables false
def SHeap.del (S:SHeap) (b:Nat):SHeap:=fun k=>if k=b then none else S k
theorem SHeap.del_self (S:SHeap) (b:Nat):S.del b b=none:=by simp [SHeap.del]
theorem SHeap.del_other {S:SHeap} {b k:Nat} (h:k≠b):S.del b k=S k:=by simp [SHeap.del,h]
theorem SHeap.le_del {S S':SHeap} {b:Nat} (h:S.le S') (hb:S b=none):S.le (S'.del b):=fun k o hk=>by
 have hne:k≠b:=fun e=>by rw [e,hb] at hk;cases hk
 rw [SHeap.del_other hne];exact h k o hk
theorem Wd.thaw {w0 w:World} {B0:List Nat} {S0 S:SHeap} {M:List MEnt} {b:Nat} {o:Obj} (h:Wd w0 B0 S0 S M w) (h0:S0 b=none) (hb:w0.heap.size≤b) (hS:S b=some o):Wd w0 B0 S0 (S.del b) (.blk b o::M) w where
 os:=h.os
 tape:=h.tape
 output:=h.output
 size:=h.size
 drawn:=h.drawn
 keep:=h.keep
 le:=SHeap.le_del h.le h0
 new:=fun k hk=>by
  by_cases e:k=b
  ·subst e;exact .inr hb
  ·exact h.new k (by rwa [SHeap.del_other e] at hk)
 agree:=fun k o' hk=>by
  have hne:k≠b:=fun e=>by rw [e,SHeap.del_self] at hk;cases hk
  rw [SHeap.del_other hne] at hk;exact h.agree k o' hk
 ok:=fun m hm=>by
  rcases List.mem_cons.1 hm with rfl|hm
  ·exact h.agree b o hS
  ·exact h.ok m hm
 sep:=by
  refine List.pairwise_cons.2 ⟨?_,h.sep⟩
  intro m hm k hk hk'
  simp only [MEnt.own,Option.some.injEq] at hk
  subst hk
  have:=(h.out m hm _ hk').1
  rw [hS] at this;cases this
 out:=fun m hm k hk=>by
  rcases List.mem_cons.1 hm with rfl|hm
  ·simp only [MEnt.own,Option.some.injEq] at hk
   subst hk
   exact ⟨SHeap.del_self _ _,.inl hb⟩
  ·obtain ⟨h1,h2⟩:=h.out m hm k hk
   refine ⟨?_,h2⟩
   unfold SHeap.del
   split
   ·rfl
   ·exact h1
theorem Fn.lend {P:Program} {f:FuncId} {args:Array Value} {S:SHeap} {b:Nat} {o:Obj} {PP:Value→SHeap→List MEnt→Prop} (h:Fn P f args (S.put b o) [] PP) :
  Fn P f args S [.blk b o] (fun v S' M'=>∃ S'' M'',PP v S'' M''∧(S.put b o).le S''∧S'=S''.del b∧M'=[.blk b o]):=fun w hg hok hs ho=>by
 have hSb:S b=none:=ho (.blk b o) (by simp) b rfl
 have hwb:w.heap[b]?=some o:=hok (.blk b o) (by simp)
 have hg':Agree (S.put b o) w:=fun k o' hk=>by
  by_cases e:k=b
  ·subst e
   rw [SHeap.put_self] at hk;cases hk;exact hwb
  ·exact hg k o' (by simpa [SHeap.put,e] using hk)
 refine (h w hg' (by simp) List.Pairwise.nil (by simp)).mono ?_
 rintro e w' ⟨v,S'',M'',rfl,hw,hp⟩
 have hSb2:S'' b=some o:=hw.le b o (SHeap.put_self _ _ _)
 refine ⟨v,S''.del b,[.blk b o],rfl,?_,S'',M'',hp,hw.le,rfl,rfl⟩
 have hle:S.le S'':=(SHeap.le_put o hSb).trans hw.le
 exact {
  os:=hw.os
  tape:=hw.tape
  output:=hw.output
  size:=hw.size
  drawn:=hw.drawn
  keep:=fun k hk hkb=>hw.keep k hk (by simp)
  le:=SHeap.le_del hle hSb
  new:=fun k hk=>by
   by_cases e:k=b
   ·subst e;rw [SHeap.del_self] at hk;exact absurd rfl hk
   ·rw [SHeap.del_other e] at hk
    rcases hw.new k hk with h1|h1
    ·exact .inl (by simpa [SHeap.put,e] using h1)
    ·exact .inr h1
  agree:=fun k o' hk=>by
   have hne:k≠b:=fun e=>by rw [e,SHeap.del_self] at hk;cases hk
   rw [SHeap.del_other hne] at hk;exact hw.agree k o' hk
  ok:=fun m hm=>by
   rw [List.mem_singleton] at hm;subst hm
   exact hw.agree b o hSb2
  sep:=List.pairwise_singleton _ _
  out:=fun m hm k hk=>by
   rw [List.mem_singleton] at hm;subst hm
   simp only [MEnt.own,Option.some.injEq] at hk
   subst hk
   exact ⟨SHeap.del_self _ _,.inr (by simp [MEnt.own])⟩ }
theorem Fn.frozen {P:Program} {f:FuncId} {args:Array Value} {S:SHeap} {PP:Value→SHeap→List MEnt→Prop} {QQ:Value→SHeap→Prop} (h:Fn P f args S [] PP)
  (hq:∀ v S' M',PP v S' M'→(M'=[]∧QQ v S')∨∃ b o,M'=[.blk b o]∧∀ S'',S'.le S''→S'' b=some o→QQ v S''):FnR P f args S QQ:=fun w hg hok hs ho=>by
 refine (h w hg hok hs ho).mono ?_
 rintro e w' ⟨v,S',M',rfl,hw,hp⟩
 rcases hq v S' M' hp with ⟨rfl,h1⟩|⟨b,o,rfl,h1⟩
 ·exact ⟨v,S',[],rfl,hw,rfl,h1⟩
 ·have h2:=hw.out (.blk b o) (by simp) b rfl
  have hb:w.heap.size≤b:=h2.2.resolve_right (by simp)
  exact ⟨v,S'.put b o,[],rfl,hw.freeze hb,rfl,h1 _ (SHeap.le_put o h2.1) (SHeap.put_self _ _ _)⟩
section
variable {C:Cx} {R:Rg} {Q:Post} {S S':SHeap} {M M':List MEnt} {e:Env} {rest:List Nat} {L:List Nat}
variable {d:Nat} {ty:TypeId} {pos:String} {aft:Array Edge} {g:Option (Nat × Bool)}
theorem JEff.lendV {f:FuncId} [Ent C.P f] {args:Array Operand} {ts:Array TypeId} {vs:List Value} {b:Nat} {o:Obj} {Mr:List MEnt} {r:Value} (hargs:evs e args.toList=some vs) (hM:(MEnt.blk b o::Mr).Perm M) (hT:∀ l,R.T=some l→b∈l) (hb:∀ m∈M,∀ k,m.own=some k→S k=none)
  (hf:∀ S1:SHeap,S.le S1→S1 b=some o→FnV C.P f vs.toArray S1 r) (hdN:Nat.blt d C.N=true)
  (k:∀ S',S.le S'→JO C R rest Q S' (.blk b o::Mr) ((d,r)::e)):JEff C R ⟨some d,.call { callee:=.value (.func f),args,argTypes:=ts },ty,pos,aft,g⟩ rest Q S M e:=by
 have hSb:S b=none:=hb (.blk b o) (hM.mem_iff.1 (by simp)) b rfl
 refine JEff.fn (Mc:=[.blk b o]) (sem_call hargs _ _ _ _ _) rfl rfl hdN hM (by intro t ht m hm k hk;rw [List.mem_singleton] at hm;subst hm;simp only [MEnt.own,Option.some.injEq] at hk;subst hk;exact hT t ht)
  (Fn.lend (hf (S.put b o) (SHeap.le_put o hSb) (SHeap.put_self _ _ _))) fun v S' M' hl hp=>?_
 obtain ⟨S'',M'',hp,hle,rfl,rfl⟩:=hp
 obtain ⟨-,rfl⟩:=hp
 exact k _ hl
theorem JO.out (k:(∀ m∈M,∀ b,m.own=some b→S b=none)→JO C R L Q S M e):JO C R L Q S M e:=⟨fun a w hw=>(k fun m hm b hb=>(hw.wd.out m hm b hb).1).run a w hw⟩
theorem JO.blkNew {b:Nat} {o:Obj} (h0:C.B0=[]) (k:C.S0 b=none→C.w0.heap.size≤b→JO C R L Q S (.blk b o::M) e):JO C R L Q S (.blk b o::M) e:=⟨fun a w hw=>by
 have h1:=hw.wd.out (.blk b o) (by simp) b rfl
 have h2:=h1.2
 rw [h0] at h2
 refine (k ?_ (h2.resolve_right (by simp))).run a w hw
 cases h:C.S0 b with
 | none=>rfl
 | some o'=>have:=hw.wd.le b o' h;rw [h1.1] at this;cases this⟩
theorem JC.blkNew {x:Code} {b:Nat} {o:Obj} (h0:C.B0=[]) (k:C.S0 b=none→C.w0.heap.size≤b→JC C x Q S (.blk b o::M) e):JC C x Q S (.blk b o::M) e:=⟨fun a w hw=>by
 have h1:=hw.wd.out (.blk b o) (by simp) b rfl
 have h2:=h1.2
 rw [h0] at h2
 refine (k ?_ (h2.resolve_right (by simp))).run a w hw
 cases h:C.S0 b with
 | none=>rfl
 | some o'=>have:=hw.wd.le b o' h;rw [h1.1] at this;cases this⟩
theorem JX.thaw {x:Exit} {b:Nat} {o:Obj} (h0:C.S0 b=none) (hb:C.w0.heap.size≤b) (hS:S b=some o) (k:JX C x Q (S.del b) (.blk b o::M) e):JX C x Q S M e:=⟨fun a w hw=>k.run a w ⟨hw.env,hw.defers,hw.wd.thaw h0 hb hS⟩⟩
class IfaceT (P:Program) (T:TypeId):Prop where
 h:P.underlying T=some (.interface (P.methodsAt T))
theorem JPure.eqNilT {an:Bool} {T t':TypeId} {x:Operand} (hx:ev e x=some .nilIface) [hi:IfaceT C.P T] (hdN:Nat.blt d C.N=true) (k:JO C R rest Q S M ((d,.bool true)::e)):JPure C R an ⟨some d,.binOp .eql T x (.const .nilIface) t',ty,pos,aft,g⟩ rest Q S M e:=
 JPure.of rfl hdN (fun a w' h=>by
  simp only [execOp,h.eval hx,h.eval (show ev e (.const .nilIface)=some .nilIface from rfl),Sem.run_bind,eqGuard_nil_constR,Sem.run_pure,Result.andThen_ok,run_eql_nil_nil w' T hi.h]) k
theorem JPure.eqNilF {an:Bool} {T t' u:TypeId} {x:Operand} {v:Value} (hx:ev e x=some (.iface u v)) [hi:IfaceT C.P T] (hdN:Nat.blt d C.N=true) (k:JO C R rest Q S M ((d,.bool false)::e)):JPure C R an ⟨some d,.binOp .eql T x (.const .nilIface) t',ty,pos,aft,g⟩ rest Q S M e:=
 JPure.of rfl hdN (fun a w' h=>by
  have hg:eqGuard .eql T x (.const .nilIface) (.iface u v) .nilIface=pure ():=by rfl
  simp only [execOp,h.eval hx,h.eval (show ev e (.const .nilIface)=some .nilIface from rfl),Sem.run_bind,hg,Sem.run_pure,Result.andThen_ok,run_eql_held_nil w' T u v hi.h]) k
end
end Go.Dr
namespace Go.Dr
section
variable {C:Cx} {R:Rg} {Q:Post} {S:SHeap} {M:List MEnt} {e:Env} {rest:List Nat}
variable {d:Nat} {ty:TypeId} {pos:String} {aft:Array Edge} {g:Option (Nat × Bool)} {an:Bool}
theorem JPure.rem {t t':TypeId} {x y:Operand} {a b:Int} (hx:ev e x=some (.int .i64 a)) (hy:ev e y=some (.int .i64 b)) (hb:b≠0) (hdN:Nat.blt d C.N=true) (k:JO C R rest Q S M ((d,.int .i64 (a.tmod b))::e)) :
  JPure C R an ⟨some d,.binOp .rem t x y t',ty,pos,aft,g⟩ rest Q S M e:=
 JPure.of rfl hdN (fun a' w' h=>by
  simp [execOp,h.eval hx,h.eval hy,eqGuard_rem,binOp_rem,Op.intDiv,hb,Sem.run_bind,Sem.run_pure,Result.andThen]) k
end
def bring (i n:Int):Int:=if i.tmod n < 0 then i.tmod n+n else i.tmod n
theorem tmod_rng (i:Int) {n:Int} (hn:0 < n):-n < i.tmod n∧i.tmod n < n:=by
 have h1:=Int.tmod_lt_of_pos i hn
 have h2:=Int.tmod_lt_of_pos (-i) hn
 rw [Int.neg_tmod] at h2
 omega
theorem bring_rng (i:Int) {n:Int} (hn:0 < n):0≤bring i n∧bring i n < n:=by
 have:=tmod_rng i hn
 unfold bring
 split<;>omega
end Go.Dr
namespace Go.Dr
open Go.Proofs
set_option maxRecDepth 20000
set_option maxHeartbeats 2000000
set_option linter.unusedSimpArgs false
set_option linter.unusedVariables false
theorem r0_Bring {S:SHeap} (i n:Int) (h0:0 < n) (h1:n≤1000000) (hr:Rng i):FnV Tryz.prog 36 #[.int .i64 i,.int .i64 n] S (.int .i64 (bring i n)):=by
 have hb:=tmod_rng i h0
 (refine Fn.enter (args:=[.int .i64 i,.int .i64 n]) Tryz.func36 rfl Tryz.ntmps36 rfl ?_;intro w0)
 repeat (first|(refine Walk ?_;intros)|refine JC.block ?_)
 refine JO.pure rfl rfl rfl (JPure.rem rfl rfl (by omega) rfl ?_)
 unfold bring
 generalize i.tmod n=m at *
 repeat (first|(refine Walk ?_;intros)|refine JC.block ?_)
 refine JC.cond rfl (fun hm=>?_) (fun hm=>?_)
 ·have hm:=of_decide_eq_true hm
  rw [if_pos hm]
  repeat (first|(refine Walk ?_;intros)|refine JC.block ?_)
  (refine JX.ret1 Tryz.results36 (ResV.tmp rfl) (List.nil_sublist _) ?_)
  exact ⟨rfl,rfl⟩
 ·have hm:=of_decide_eq_false hm
  rw [if_neg hm]
  repeat (first|(refine Walk ?_;intros)|refine JC.block ?_)
  (refine JX.ret1 Tryz.results36 (ResV.tmp rfl) (List.nil_sublist _) ?_)
  exact ⟨rfl,rfl⟩
def fitN (s:Snap) (l:List Int) (i:Nat):Int:=match l[i]? with|some x=>bring x ((s.nodes.length:Int)+1) - 1|none=>-1
def fitAt (s:Snap) (l:List Int) (i:Nat):Int:=if 0≤fitN s l i∧lostAt s (fitN s l i)=true then -1 else fitN s l i
def fitK (s:Snap) (l:List Int) (k:Nat):List Int:=(List.range k).map (fitAt s l)
theorem fitK_step (s:Snap) (l:List Int) (k:Nat):fitK s l (k+1)=fitK s l k++[fitAt s l k]:=by unfold fitK;rw [List.range_succ];simp
theorem fitK_len (s:Snap) (l:List Int) (k:Nat):(fitK s l k).length=k:=by simp [fitK]
def fitV (s:Snap) (l:List Int):List Int:=fitK s l s.pods.length
theorem fitN_rng (s:Snap) (l:List Int) (i:Nat):-1≤fitN s l i∧fitN s l i < s.nodes.length:=by
 unfold fitN
 split
 ·rename_i x _
  have:=bring_rng x (show (0:Int) < (s.nodes.length:Int)+1 by omega)
  omega
 ·omega
end Go.Dr
namespace Go.Dr
section
variable {C:Cx} {Q:Post} {S:SHeap} {M:List MEnt} {e:Env}
theorem JC.thaw {x:Code} {b:Nat} {o:Obj} (h0:C.S0 b=none) (hb:C.w0.heap.size≤b) (hS:S b=some o) (k:JC C x Q (S.del b) (.blk b o::M) e):JC C x Q S M e:=⟨fun a w hw=>k.run a w ⟨hw.env,hw.defers,hw.wd.thaw h0 hb hS⟩⟩
theorem JC.out {x:Code} (k:(∀ m∈M,∀ b,m.own=some b→S b=none)→JC C x Q S M e):JC C x Q S M e:=⟨fun a w hw=>(k fun m hm b hb=>(hw.wd.out m hm b hb).1).run a w hw⟩
end
section
variable {C:Cx} {R:Rg} {Q:Post} {S:SHeap} {M:List MEnt} {e:Env} {rest:List Nat}
variable {ty:TypeId} {pos:String} {aft:Array Edge} {g:Option (Nat × Bool)}
theorem JEff.storeTo (c':Array Value) {α:Type} {T t:TypeId} {x y:Operand} {b off:Nat} {c:Array Value} {v:Value} {rep:Rp α} {x0:α} {Mr:List MEnt} (hx:ev e x=some (.pointer (some ⟨b,off,none⟩))) (hy:ev e y=some v)
  (hv:rep.V S v x0) (hn:rep.agg=false→∀ cs,v≠.agg cs) [ht:TyR C.P T rep] (hM:(MEnt.blk b (.cells c t (0,0))::Mr).Perm M) (hl:off+rep.sz≤c.size) (hT:∀ l,R.T=some l→b∈l)
  (hc:(c.toList.take off++v.cells.toList++c.toList.drop (off+rep.sz)).toArray=c')
  (k:JO C R rest Q S (.blk b (.cells c' t (0,0))::Mr) e):JEff C R ⟨none,.store T x y,ty,pos,aft,g⟩ rest Q S M e:=by
 refine JEff.store hx hy hv hn hM hl hT ?_
 rw [hc];exact k
end
theorem none_le {S S':SHeap} {b:Nat} (h:S.le S') (hb:S' b=none):S b=none:=by
 cases hs:S b with
 | none=>rfl
 | some o=>have:=h b o hs;rw [hb] at this;cases this
theorem ne_none {S:SHeap} {b c:Nat} {o:Obj} (hb:S b=none) (hc:S c=some o):c≠b:=fun e=>by rw [e,hb] at hc;cases hc
def rRaw3:Rp (Value × Value × Value):=rSeq rVal (rSeq rVal rVal)
instance:Fld rRaw3 0 rVal (fun x=>x.1):=⟨Part.first⟩
instance:Fld rRaw3 1 rVal (fun x=>x.2.1):=⟨Part.next Part.first rfl⟩
instance:Fld rRaw3 2 rVal (fun x=>x.2.2):=⟨Part.next (Part.last rfl) rfl⟩
theorem V_raw3 {S:SHeap} {a1 a2 a3:Option Addr} {n1 n2 n3 c1 c2 c3:Nat}:rRaw3.V S (.agg #[.slice a1 n1 c1,.slice a2 n2 c2,.slice a3 n3 c3]) (.slice a1 n1 c1,.slice a2 n2 c2,.slice a3 n3 c3):=
 ⟨[_,_,_],⟨[_],[_,_],rfl,⟨rfl,rfl⟩,[_],[_],rfl,⟨rfl,rfl⟩,rfl,rfl⟩,rfl⟩
end Go.Dr
namespace Go.Dr
open Go.Proofs
set_option maxRecDepth 20000
set_option maxHeartbeats 2000000
set_option linter.unusedSimpArgs false
set_option linter.unusedVariables false
end Go.Dr
namespace Go.Dr
def findC (l:List Clause) (c:Clause):Int:=match l.find? (isC c.kind c.a c.b) with|some d=>d.by_|none=>0
def worseF (l:List Clause) (c:Clause):Bool:=decide (findC l c < c.by_)
def worseV (s:Snap) (p q:List Int):List Clause × Int:=
 if ¬ checkP s p=0 then ([],checkP s p) else if ¬ checkP s q=0 then ([],checkP s q) else ((allL s q).filter (worseF (allL s p)),0)
end Go.Dr
namespace Go.Dr
def noC:Clause:=⟨0,0,0,0⟩
def cordonAt (s:Snap) (n:Int):Bool:=match s.nodes[n.toNat]? with|some x=>x.cordon|none=>false
def stepV (s:Snap) (p:List Int) (x:Step):List Int × Clause × Int:=
 if ¬ (applyP s p x).2=0 then ([],noC,(applyP s p x).2)
 else if x.kind=2∧cordonAt s x.node=true then ([],noC,100)
 else match (worseV s p (applyP s p x).1).1 with
  | c::_=>([],c,100)
  | []=>((applyP s p x).1,noC,0)
def mayV (s:Snap) (p:List Int) (x:Step):Bool:=decide ((stepV s p x).2.2=0)
def waysV (s:Snap) (p:List Int) (pod:Int):List Int:=((List.range s.nodes.length).filter (fun (n:Nat)=>mayV s p ⟨2,pod,(n:Int)⟩)).map (fun (n:Nat)=>(n:Int))
end Go.Dr
namespace Go.Dr
def ltC (c d:Clause):Prop:=c.kind < d.kind∨(c.kind=d.kind∧(c.a < d.a∨(c.a=d.a∧c.b < d.b)))
theorem pw_flat {f:Nat→List Clause} {R:Clause→Clause→Prop}:∀ {n:Nat},(∀ i,i < n→(f i).Pairwise R)→(∀ i j,i < j→j < n→∀ x∈f i,∀ y∈f j,R x y)→((List.range n).flatMap f).Pairwise R
 | 0,_,_=>by simp
 | n+1,h1,h2=>by
  rw [List.range_succ,List.flatMap_append]
  refine List.pairwise_append.2 ⟨pw_flat (fun i hi=>h1 i (by omega)) (fun i j hij hj=>h2 i j hij (by omega)),by simpa using h1 n (by omega),?_⟩
  intro x hx y hy
  obtain ⟨i,hi,hxi⟩:=List.mem_flatMap.1 hx
  have hi:i < n:=by simpa using hi
  exact h2 i n hi (by omega) x hxi y (by simpa using hy)
theorem mem_pods {s:Snap} {p:List Int} {kind:Int} {n:Nat} {c:Clause} (h:c∈podsTo s p kind n):∃ i,i < n∧c=⟨kind,i,0,(of8 s p kind i).1⟩∧(of8 s p kind i).2=true:=by
 obtain ⟨i,hi,hc⟩:=List.mem_flatMap.1 h
 unfold podC1 at hc
 split at hc
 ·rename_i h1
  exact ⟨i,by simpa using hi,by simpa using hc,h1⟩
 ·simp at hc
theorem mem_caps {s:Snap} {p:List Int} {c:Clause} (h:c∈capsC s p):∃ n k,n < s.nodes.length∧k < 5∧c=capN s p n k:=by
 unfold capsC capTo at h
 simp only [List.range_zero,List.map_nil,List.append_nil] at h
 obtain ⟨n,hn,hc⟩:=List.mem_flatMap.1 h
 obtain ⟨k,hk,rfl⟩:=List.mem_map.1 hc
 exact ⟨n,k,by simpa using hn,by simpa using hk,rfl⟩
theorem mem_kinds {s:Snap} {p:List Int} {c:Clause} {j:Nat} (h:c∈kindsTo s p j):∃ t i,t < j∧i < p.length∧c=⟨(t:Int)+2,i,0,(of8 s p ((t:Int)+2) i).1⟩∧(of8 s p ((t:Int)+2) i).2=true:=by
 obtain ⟨t,ht,hc⟩:=List.mem_flatMap.1 h
 obtain ⟨i,hi,hc,h2⟩:=mem_pods hc
 exact ⟨t,i,by simpa using ht,hi,hc,h2⟩
theorem mem_spread {s:Snap} {p:List Int} {c:Clause} {n:Nat} (h:c∈spreadTo s p n):∃ o,o < n∧c=⟨7,o,0,skewV s p o⟩∧topoOf s o≠noS:=by
 obtain ⟨o,ho,hc⟩:=List.mem_flatMap.1 h
 unfold spreadC1 at hc
 split at hc
 ·simp at hc
 ·rename_i h1
  exact ⟨o,by simpa using ho,by simpa using hc,h1⟩
theorem mem_min {s:Snap} {p:List Int} {c:Clause} {n:Nat} (h:c∈minTo s p n):∃ o,o < n∧c=minC1 s p o:=by
 obtain ⟨o,ho,hc⟩:=List.mem_map.1 h
 exact ⟨o,by simpa using ho,hc.symm⟩
theorem allC_order (s:Snap) (p:List Int):(allC s p).Pairwise ltC:=by
 have h1:(capsC s p).Pairwise ltC:=by
  unfold capsC capTo
  simp only [List.range_zero,List.map_nil,List.append_nil]
  refine pw_flat (fun n _=>?_) (fun i j hij hj x hx y hy=>?_)
  ·refine List.pairwise_map.2 (List.Pairwise.imp ?_ List.pairwise_lt_range)
   intro a b hab
   exact .inr ⟨rfl,.inr ⟨rfl,by show (a:Int) < b;omega⟩⟩
  ·obtain ⟨a,_,rfl⟩:=List.mem_map.1 hx
   obtain ⟨b,_,rfl⟩:=List.mem_map.1 hy
   exact .inr ⟨rfl,.inl (by show (i:Int) < j;omega)⟩
 have h2:(kindsTo s p 5).Pairwise ltC:=by
  refine pw_flat (fun t _=>?_) (fun i j hij hj x hx y hy=>?_)
  ·refine pw_flat (fun i _=>?_) (fun i j hij hj x hx y hy=>?_)
   ·unfold podC1;split<;>simp
   ·unfold podC1 at hx hy
    split at hx<;>split at hy<;>first|(simp at hx;done)|(simp at hy;done)|skip
    simp only [List.mem_singleton] at hx hy
    subst hx;subst hy
    exact .inr ⟨rfl,.inl (by show (i:Int) < j;omega)⟩
  ·obtain ⟨a,_,rfl,_⟩:=mem_pods hx
   obtain ⟨b,_,rfl,_⟩:=mem_pods hy
   exact .inl (by show (i:Int)+2 < (j:Int)+2;omega)
 have h3:(spreadTo s p s.owners.length).Pairwise ltC:=by
  refine pw_flat (fun o _=>?_) (fun i j hij hj x hx y hy=>?_)
  ·unfold spreadC1;split<;>simp
  ·unfold spreadC1 at hx hy
   split at hx<;>split at hy<;>first|(simp at hx;done)|(simp at hy;done)|skip
   simp only [List.mem_singleton] at hx hy
   subst hx;subst hy
   exact .inr ⟨rfl,.inl (by show (i:Int) < j;omega)⟩
 have h4:(minTo s p s.owners.length).Pairwise ltC:=by
  refine List.pairwise_map.2 (List.Pairwise.imp ?_ List.pairwise_lt_range)
  intro a b hab
  exact .inr ⟨rfl,.inl (by show (a:Int) < b;omega)⟩
 unfold allC
 refine List.pairwise_append.2 ⟨List.pairwise_append.2 ⟨List.pairwise_append.2 ⟨h1,h2,?_⟩,h3,?_⟩,h4,?_⟩
 ·intro x hx y hy
  obtain ⟨n,k,_,_,rfl⟩:=mem_caps hx
  obtain ⟨t,i,_,_,rfl,_⟩:=mem_kinds hy
  exact .inl (by show (1:Int) < (t:Int)+2;omega)
 ·intro x hx y hy
  obtain ⟨o,_,rfl,_⟩:=mem_spread hy
  rcases List.mem_append.1 hx with hx|hx
  ·obtain ⟨n,k,_,_,rfl⟩:=mem_caps hx
   exact .inl (by show (1:Int) < 7;omega)
  ·obtain ⟨t,i,_,_,rfl,_⟩:=mem_kinds hx
   exact .inl (by show (t:Int)+2 < 7;omega)
 ·intro x hx y hy
  obtain ⟨o,_,rfl⟩:=mem_min hy
  rcases List.mem_append.1 hx with hx|hx
  ·rcases List.mem_append.1 hx with hx|hx
   ·obtain ⟨n,k,_,_,rfl⟩:=mem_caps hx
    exact .inl (by show (1:Int) < 8;omega)
   ·obtain ⟨t,i,_,_,rfl,_⟩:=mem_kinds hx
    exact .inl (by show (t:Int)+2 < 8;omega)
  ·obtain ⟨o',_,rfl,_⟩:=mem_spread hx
   exact .inl (by show (7:Int) < 8;omega)
theorem allL_order (s:Snap) (p:List Int):(allL s p).Pairwise ltC:=by
 unfold allL
 split
 ·exact allC_order s p
 ·exact .nil
def nameC (c:Clause):Int × Int × Int:=(c.kind,c.a,c.b)
theorem ltC_name {c d:Clause} (h:ltC c d):nameC c≠nameC d:=by
 intro e
 simp only [nameC,Prod.mk.injEq] at e
 unfold ltC at h
 omega
theorem allL_names (s:Snap) (p:List Int):(allL s p).Pairwise (fun c d=>nameC c≠nameC d):=(allL_order s p).imp ltC_name
theorem isC_name (c d:Clause):isC c.kind c.a c.b d=decide (nameC d=nameC c):=by
 unfold isC nameC
 rw [Bool.eq_iff_iff]
 simp [and_assoc]
theorem find_self {l:List Clause} (h:l.Pairwise (fun c d=>nameC c≠nameC d)) {c:Clause} (hc:c∈l):l.find? (isC c.kind c.a c.b)=some c:=by
 induction l with
 | nil=>cases hc
 | cons x l ih=>
  obtain ⟨h1,h2⟩:=List.pairwise_cons.1 h
  rw [List.find?_cons,isC_name]
  rcases List.mem_cons.1 hc with rfl|hc
  ·simp
  ·have:=h1 c hc
   rw [decide_eq_false this]
   exact ih h2 hc
end Go.Dr
namespace Go.Dr
theorem checkP_set {s:Snap} {p:List Int} {i:Nat} {v:Int} (h:checkP s p=0) (hv:oddP s v=false):checkP s (p.set i v)=0:=by
 obtain ⟨h1,h2,h3⟩:=checkP_ok h
 unfold checkP
 have e1:z0 (checkS s)=true:=by simp [z0,h1]
 have e2:(p.set i v).any (oddP s)=false:=by
  rw [List.any_eq_false]
  intro x hx
  rcases List.mem_or_eq_of_mem_set hx with hx|rfl
  ·rw [h3 x hx];simp
  ·rw [hv];simp
 rw [e1,e2,List.length_set,h2]
 simp
theorem odd_none (s:Snap):oddP s (-1)=false:=by simp [oddP];omega
theorem apply_set {s:Snap} {p:List Int} {x:Step} (h:(applyP s p x).2=0):∃ v,(applyP s p x).1=p.set x.pod.toNat v∧x.pod.toNat < p.length∧0≤x.pod∧oddP s v=false∧checkP s p=0 ∧
  ((x.kind=1∧v=-1∧x.node=0∧at0 p x.pod.toNat≠-1)∨(x.kind=2∧v=x.node∧0≤x.node∧x.node < s.nodes.length∧lostAt s x.node=false∧at0 p x.pod.toNat=-1)):=by
 unfold applyP at h ⊢
 split at h
 ·rename_i h1;simp [z0] at h1;exact absurd h h1
 rename_i h1
 rw [if_neg h1]
 have hok:checkP s p=0:=by simpa [z0] using h1
 split at h
 ·cases h
 rename_i h2
 rw [if_neg h2]
 split at h
 ·cases h
 rename_i h3
 rw [if_neg h3]
 split at h
 ·cases h
 rename_i h4
 rw [if_neg h4]
 simp only [Bool.and_eq_true,Bool.not_eq_true',decide_eq_false_iff_not,not_and,Classical.not_not] at h2
 simp only [Bool.or_eq_true,decide_eq_true_eq,Bool.and_eq_true,Bool.not_eq_true',decide_eq_false_iff_not,not_or,not_and,Classical.not_not] at h3
 obtain ⟨⟨⟨⟨a1,a2⟩,a3⟩,a4⟩,a5⟩:=h3
 have hp:x.pod.toNat < p.length:=by omega
 by_cases hk:x.kind=2
 ·have hk1:¬ x.kind=1:=by omega
  simp only [hk,Bool.or_eq_true,Bool.and_eq_true,not_or,not_and,Bool.not_eq_true,decide_true,true_implies] at h4
  obtain ⟨b1,b2⟩:=h4
  have b1:at0 p x.pod.toNat=-1:=by
   by_cases e:at0 p x.pod.toNat=-1
   ·exact e
   ·rw [decide_eq_false e] at b1;simp at b1
  refine ⟨x.node,by rw [if_pos hk],hp,by omega,?_,hok,.inr ⟨hk,rfl,by omega,by have:=a4 hk;omega,b2,b1⟩⟩
  unfold oddP
  have:=a4 hk
  simp [b2];omega
 ·have hk1:x.kind=1:=by
   by_cases e:x.kind=1
   ·exact e
   ·exact absurd (h2 e) hk
  have b1:¬ at0 p x.pod.toNat=-1:=by
   intro e
   apply h4
   rw [decide_eq_true e,decide_eq_true hk1];simp
  exact ⟨-1,by rw [if_neg hk],hp,by omega,odd_none s,hok,.inl ⟨hk1,rfl,a5 hk1,b1⟩⟩
theorem apply_check {s:Snap} {p:List Int} {x:Step} (h:(applyP s p x).2=0):checkP s (applyP s p x).1=0∧(applyP s p x).1.length=p.length∧0 < p.length:=by
 obtain ⟨v,h1,h2,_,h3,h4,_⟩:=apply_set h
 rw [h1]
 exact ⟨checkP_set h4 h3,by simp,by omega⟩
theorem worse_ok {s:Snap} {p q:List Int} (h1:checkP s p=0) (h2:checkP s q=0):worseV s p q=((allL s q).filter (worseF (allL s p)),0):=by
 unfold worseV;rw [if_neg (by simpa using h1),if_neg (by simpa using h2)]
end Go.Dr
namespace Go.Dr
def left1 (c u:Int):Int:=if 0 < c then (1000*max 0 (c - u)).tdiv c else 0
def leftTo (cap used:List Int):Nat→Int
 | 0=>0
 | k+1=>leftTo cap used k+left1 (at0 cap k) (at0 used k)
def leftV (s:Snap) (p:List Int) (node:Int):Int:=if checkP s p=0∧0≤node∧node < s.nodes.length then leftTo (capOf s node.toNat) (usedV s p node) 5 else 0
theorem left1_rng {c u:Int} (hu:0≤u):0≤left1 c u∧left1 c u≤1000:=by
 unfold left1
 split
 ·rename_i hc
  have hm0:0≤1000*max 0 (c - u):=by omega
  rw [Int.tdiv_eq_ediv_of_nonneg hm0]
  refine ⟨Int.ediv_nonneg hm0 (by omega),?_⟩
  have h1:1000*max 0 (c - u)≤1000*c:=by omega
  have h2:=Int.ediv_le_ediv hc h1
  rwa [Int.mul_ediv_cancel _ (by omega)] at h2
 ·omega
theorem leftTo_rng {cap used:List Int} (hu:∀ k,0≤at0 used k):∀ k:Nat,0≤leftTo cap used k∧leftTo cap used k≤1000*k
 | 0=>by simp [leftTo]
 | k+1=>by
  have ih:=leftTo_rng (cap:=cap) hu k
  have:=left1_rng (c:=at0 cap k) (hu k)
  simp only [leftTo];omega
def leftAt (s:Snap) (p:List Int) (pod node:Int):Int:=leftV s (p.set pod.toNat node) node
end Go.Dr
namespace Go.Dr
open Go.Sort Go.RowKit Go.Shelf Go.Proofs
set_option linter.unusedSimpArgs false
set_option linter.unusedVariables false
theorem putCells_ints {α:Type} [Inhabited α] (val:α→Int) (d:Array α) (xs:List Int) (tl:List Value) (h:xs.length=d.size):putCells (fun x=>Value.int .i64 (val x)) 0 d (intsT xs tl)=intsT (d.toList.map val) tl:=by
 apply Array.ext_getElem?
 intro k
 unfold putCells intsT
 rw [Array.getElem?_mapIdx]
 simp only [List.getElem?_toArray,Nat.zero_le,true_and,Nat.zero_add,Nat.sub_zero]
 by_cases hk:k < d.size
 ·rw [List.getElem?_append_left (by simp;omega),List.getElem?_append_left (by simp;omega)]
  simp [hk,List.getElem?_map,getElem!_pos d k hk]
  exact ⟨_,List.getElem?_eq_getElem (by omega)⟩
 ·rw [List.getElem?_append_right (by simp;omega),List.getElem?_append_right (by simp;omega)]
  simp [hk,h]
theorem mapBlock_at {w:World} {b:Nat} {cs:Array Value} {E:TypeId} {f:Array Value→Array Value} (hb:w.heap[b]?=some (.cells cs E (0,0))):(mapBlock w b f).heap[b]?=some (.cells (f cs) E (0,0)):=by
 unfold mapBlock
 rw [Array.getElem?_modify,if_pos rfl,hb];rfl
theorem mapBlock_other {w:World} {b k:Nat} {f:Array Value→Array Value} (h:k≠b):(mapBlock w b f).heap[k]?=w.heap[k]?:=by
 unfold mapBlock
 rw [Array.getElem?_modify,if_neg (fun e=>h e.symm)]
theorem Wd.sortW {α:Type} [Inhabited α] {S:SHeap} {w:World} {b:Nat} {cs:Array Value} {E:TypeId} (hg:Agree S w) (hSb:S b=none) (hb:w.heap[b]?=some (.cells cs E (0,0))) (enc:α→Value) (d:Array α) (m:Nat) (os:Array Obj) :
  Wd w [b] S S [.blk b (.cells (putCells enc 0 d cs) E (0,0))] (sortWorld enc w b 0 m d os):=by
 have hlt:=(Array.getElem?_eq_some_iff.1 hb).1
 have hsz:(mapBlock (Sort.ahead w m) b (putCells enc 0 d)).heap.size=w.heap.size:=by unfold mapBlock;rw [Array.size_modify];rfl
 have old:∀ k,k < w.heap.size→(sortWorld enc w b 0 m d os).heap[k]?=(mapBlock (Sort.ahead w m) b (putCells enc 0 d)).heap[k]?:=fun k hk=>by
  show ((mapBlock (Sort.ahead w m) b (putCells enc 0 d)).heap++os)[k]?=_
  rw [Array.getElem?_append_left (by rw [hsz];exact hk)]
 exact {
  os:=rfl
  tape:=rfl
  output:=rfl
  size:=by
   show w.heap.size≤((mapBlock (Sort.ahead w m) b (putCells enc 0 d)).heap++os).size
   rw [Array.size_append,hsz];omega
  drawn:=Nat.le_add_right _ _
  keep:=fun k hk hkb=>by
   rw [old k hk,mapBlock_other (by simpa using hkb)];rfl
  le:=SHeap.le.refl _
  new:=fun k h=>.inl h
  agree:=fun k o h=>by
   have h1:=hg k o h
   have h2:k≠b:=fun e=>by rw [e,hSb] at h;cases h
   rw [old k (Array.getElem?_eq_some_iff.1 h1).1,mapBlock_other h2];exact h1
  ok:=fun mm hm=>by
   rw [List.mem_singleton] at hm;subst hm
   show (sortWorld enc w b 0 m d os).heap[b]?=_
   rw [old b hlt];exact mapBlock_at (w:=Sort.ahead w m) hb
  sep:=List.pairwise_singleton _ _
  out:=fun mm hm k hk=>by
   rw [List.mem_singleton] at hm;subst hm
   simp only [MEnt.own,Option.some.injEq] at hk;subst hk
   exact ⟨hSb,.inr (by simp)⟩ }
theorem Wd.grown {w w':World} {S S':SHeap} (h:Wd w [] S S' [] w'):∃ q os',w'=grow (w.drewN q) os':=by
 obtain ⟨p,hp⟩:=regrown_of_below (w:=w) (w':=w') ⟨h.os,h.tape,h.output,h.size,fun k hk=>h.keep k hk (by simp)⟩
 have hd:=h.drawn
 have hpd:w'.drawn=p.d:=by rw [hp];rfl
 refine ⟨p.d - w.drawn,p.os,?_⟩
 rw [hp]
 unfold redrawn World.drewN
 rw [show w.drawn+(p.d - w.drawn)=p.d by omega]
theorem frozen_not {w:World} {b j:Nat} {cs:Array Value} {E:TypeId} (hb:w.heap[b]?=some (.cells cs E (0,0))):w.frozen? ⟨b,j,none⟩=false:=by
 unfold World.frozen?
 simp [hb]
theorem holds_ints {α:Type} [Inhabited α] {w:World} {b:Nat} {E:TypeId} {val:α→Int} {d:List α} {tl:List Value} (hb:w.heap[b]?=some (.cells (intsT (d.map val) tl) E (0,0)))  :Sort.Holds (fun x=>Value.int .i64 (val x)) w b 0 d.toArray:=fun j hj=>by
 have hj':j < d.length:=by simpa using hj
 refine ⟨?_,frozen_not hb⟩
 simp only [World.cell?,hb,Nat.zero_add]
 unfold intsT
 simp [List.getElem?_append_left,hj',getElem!_pos]
theorem sortFunc_fn {P:Program} {ρ:Ren} (L:SlLaysF.n6 P ρ) {α:Type} [Inhabited α] (val:α→Int) (cf:α→α→Int) (hO:SWO (ltOf cf)) (hT:∀ x y,ltOf cf x y=false→ltOf cf y x=false→x=y) (g:Nat) (cb:Array Value)
  (eg:∀ args w,(callFunc g args).run P w=.ok (.enter g args) w) {S:SHeap} {b cap:Nat} {E:TypeId} {tl:List Value} (d:List α) (hn:d.length < 4611686018427387904)
  (hcmp:∀ x y:α,FnV P g (#[.int .i64 (val x),.int .i64 (val y)]++cb) S (.int .i64 (cf x y))) :
  Fn P (ρ.f 6) #[.slice (some ⟨b,0,none⟩) d.length cap,.func (.func g) #[] cb] S [.blk b (.cells (intsT (d.map val) tl) E (0,0))]
   (fun v S' M'=>v=.tuple #[]∧S'=S∧M'=[.blk b (.cells (intsT ((d.mergeSort fun x y=>!(ltOf cf) y x).map val) tl) E (0,0))]):=by
 intro w hg hok hsep hout
 have hb:w.heap[b]?=some (.cells (intsT (d.map val) tl) E (0,0)):=hok (.blk b _) List.mem_cons_self
 have hSb:=hout (.blk b _) List.mem_cons_self b rfl
 have hc:CmpLays1 P g cb (fun x=>Value.int .i64 (val x)) cf b 0 d.toArray.size w:=fun m os dk hs x y=>by
  have hwd:=Wd.sortW hg hSb hb (fun x=>Value.int .i64 (val x)) dk m os
  refine (hcmp x y _ hwd.agree (by simp) List.Pairwise.nil (by simp)).mono ?_
  rintro e w' ⟨v,S',M',rfl,hw,rfl,rfl⟩
  exact ⟨rfl,hw.grown⟩
 have h:=Any.slices_SortFunc_total L (fun x=>Value.int .i64 (val x)) (fun _=>rfl) cf hO g cb b 0 cap d.toArray w eg hc (holds_ints hb) (Array.getElem?_eq_some_iff.1 hb).1 (by simpa using hn) hT
 rw [List.size_toArray] at h
 refine h.mono ?_
 rintro e w' ⟨rfl,n,os,rfl⟩
 have hwd:=Wd.sortW hg hSb hb (fun x=>Value.int .i64 (val x)) (d.mergeSort fun x y=>!(ltOf cf) y x).toArray n os
 rw [putCells_ints val _ _ _ (by simp [List.length_mergeSort])] at hwd
 exact ⟨_,S,_,rfl,hwd,rfl,rfl,rfl⟩
theorem sortInt_fn {P:Program} {ρ:Ren} (L:Lays.n189 P ρ) {S:SHeap} {b cap:Nat} {E:TypeId} {tl:List Value} (xs:List Int) (hn:xs.length < 4611686018427387904) :
  Fn P (ρ.f 189) #[.slice (some ⟨b,0,none⟩) xs.length cap] S [.blk b (.cells (intsT xs tl) E (0,0))]
   (fun v S' M'=>v=.tuple #[]∧S'=S∧M'=[.blk b (.cells (intsT (xs.mergeSort fun x y=>decide (x≤y)) tl) E (0,0))]):=by
 intro w hg hok hsep hout
 have hb:w.heap[b]?=some (.cells (intsT xs tl) E (0,0)):=hok (.blk b _) List.mem_cons_self
 have hSb:=hout (.blk b _) List.mem_cons_self b rfl
 have hH:Sort.Holds (Value.int .i64) w b 0 xs.toArray:=holds_ints (val:=id) (by simpa using hb)
 refine (Any.slices_Sort_int L b 0 cap xs w hH (Array.getElem?_eq_some_iff.1 hb).1 hn).mono ?_
 rintro e w' ⟨rfl,n,os,rfl⟩
 have hwd:=Wd.sortW hg hSb hb (Value.int .i64) (xs.mergeSort fun x y=>decide (x≤y)).toArray n os
 rw [show (Value.int .i64:Int→Value)=(fun x=>Value.int .i64 (id x)) from rfl,putCells_ints id _ _ _ (by simp [List.length_mergeSort])] at hwd
 rw [List.map_id] at hwd
 exact ⟨_,S,_,rfl,hwd,rfl,rfl,rfl⟩
end Go.Dr
namespace Go.Dr
open Go.Proofs
def cmpI (a b:Int):Int:=if a < b then -1 else if b < a then 1 else 0
def cfBy (key:Int→Int) (a b:Int):Int:=([cmpI (key a) (key b),cmpI a b].find? (fun x=>!decide (x=0))).getD 0
def ltBy (key:Int→Int) (a b:Int):Bool:=decide (key a < key b)||(decide (key a=key b)&&decide (a < b))
def leBy (key:Int→Int) (a b:Int):Bool:=!ltBy key b a
def sortBy (key:Int→Int) (l:List Int):List Int:=l.mergeSort (leBy key)
theorem cmpI_rng (a b:Int):Rng (cmpI a b):=by unfold cmpI Rng;split<;>(try split)<;>omega
theorem cfBy_lt (key:Int→Int) (a b:Int):decide (cfBy key a b < 0)=ltBy key a b:=by
 unfold cfBy ltBy cmpI
 by_cases h1:key a < key b
 ·simp [h1]
 ·by_cases h2:key b < key a
  ·have h3:¬ key a=key b:=by omega
   simp [h1,h2,h3]
  ·have h3:key a=key b:=by omega
   by_cases h4:a < b
   ·simp [h3,h4]
   ·by_cases h5:b < a<;>simp [h3,h4,h5]
theorem ltBy_irr (key:Int→Int) (a:Int):ltBy key a a=false:=by simp [ltBy]
theorem ltBy_trans {key:Int→Int} {a b c:Int} (h1:ltBy key a b=true) (h2:ltBy key b c=true):ltBy key a c=true:=by
 simp only [ltBy,Bool.or_eq_true,Bool.and_eq_true,decide_eq_true_eq] at *;omega
theorem ltBy_ntrans {key:Int→Int} {a b c:Int} (h1:ltBy key a b=false) (h2:ltBy key b c=false):ltBy key a c=false:=by
 simp only [ltBy,Bool.or_eq_false_iff,Bool.and_eq_false_iff,decide_eq_false_iff_not] at *;omega
theorem ltBy_total {key:Int→Int} {a b:Int} (h1:ltBy key a b=false) (h2:ltBy key b a=false):a=b:=by
 simp only [ltBy,Bool.or_eq_false_iff,Bool.and_eq_false_iff,decide_eq_false_iff_not] at *;omega
abbrev NumD (D:Int→Prop):={ x:Int // D x }
theorem swoBy (D:Int→Prop) (key:Int→Int):Sort.SWO (ltOf (fun x y:NumD D=>cfBy key x.1 y.1)) where
 irrefl x:=by unfold ltOf;rw [cfBy_lt,ltBy_irr]
 trans x y z h1 h2:=by unfold ltOf at *;rw [cfBy_lt] at *;exact ltBy_trans h1 h2
 ntrans x y z h1 h2:=by unfold ltOf at *;rw [cfBy_lt] at *;exact ltBy_ntrans h1 h2
theorem totBy (D:Int→Prop) (key:Int→Int):∀ x y:NumD D,ltOf (fun x y:NumD D=>cfBy key x.1 y.1) x y=false→ltOf (fun x y:NumD D=>cfBy key x.1 y.1) y x=false→x=y:=fun x y h1 h2=>by
 unfold ltOf at h1 h2
 rw [cfBy_lt] at h1 h2
 exact Subtype.ext (ltBy_total h1 h2)
theorem sortBy_map {D:Int→Prop} {key:Int→Int} (d:List (NumD D)):(d.mergeSort fun x y=>!(ltOf (fun x y:NumD D=>cfBy key x.1 y.1)) y x).map Subtype.val=sortBy key (d.map Subtype.val):=by
 unfold sortBy
 refine List.map_mergeSort fun a _ b _=>?_
 unfold ltOf leBy
 rw [cfBy_lt]
theorem sortBy_eq {key:Int→Int} {l m:List Int} (hp:m.Perm l) (hs:m.Pairwise (fun a b=>ltBy key b a=false)):m=sortBy key l:=by
 refine List.Perm.eq_of_pairwise (le:=fun a b=>ltBy key b a=false) (fun a b _ _ h1 h2=>ltBy_total h2 h1) hs ?_ (hp.trans (List.mergeSort_perm l _).symm)
 have h:=List.pairwise_mergeSort (le:=leBy key) (fun a b c h1 h2=>by
  simp only [leBy,Bool.not_eq_true'] at *;exact ltBy_ntrans h2 h1) (fun a b=>by
  simp only [leBy,Bool.or_eq_true,Bool.not_eq_true']
  by_cases h:ltBy key b a=true
  ·right
   simp only [ltBy,Bool.or_eq_true,Bool.and_eq_true,decide_eq_true_eq,Bool.or_eq_false_iff,Bool.and_eq_false_iff,decide_eq_false_iff_not] at *;omega
  ·left;simpa using h) l
 exact h.imp fun h1=>by simpa [leBy] using h1
end Go.Dr
namespace Go.Dr
open Go.Proofs
set_option maxRecDepth 20000
set_option maxHeartbeats 2000000
set_option linter.unusedSimpArgs false
set_option linter.unusedVariables false
theorem allC_rng {s:Snap} {p:List Int} (hok:checkP s p=0):(allC s p).length≤400∧∀ c∈allC s p,0≤c.by_∧c.by_≤Qty:=by
 obtain ⟨hs,hlen,hodd⟩:=checkP_ok hok
 have hsh:=(checkS_ok hs).1
 obtain ⟨hn8,hp24,ho8⟩:=shaped_small hsh
 obtain ⟨hwl,htl⟩:=shaped_lists hsh
 have hof:=of8_rng (s:=s) (p:=p) (by omega) hwl htl
 constructor
 ·unfold allC
  have h1:(capsC s p).length≤40:=by unfold capsC;rw [capTo_len];omega
  have h2:=kindsTo_len s p 5
  have h3:=spreadTo_len s p s.owners.length
  have h4:=minTo_len s p s.owners.length
  simp only [List.length_append]
  omega
 ·intro c hc
  unfold allC at hc
  simp only [List.mem_append] at hc
  rcases hc with ((hc|hc)|hc)|hc
  ·unfold capsC capTo at hc
   simp only [List.range_zero,List.map_nil,List.append_nil,List.mem_flatMap,List.mem_range,List.mem_map] at hc
   obtain ⟨n,hn,k,hk,rfl⟩:=hc
   obtain ⟨hul,hur⟩:=used_fine hs hlen (n:Int)
   have hu:0≤at0 (usedV s p n) k∧at0 (usedV s p n) k≤Qty:=by
    have:(usedV s p n)[k]?=some ((usedV s p n)[k]'(by omega)):=List.getElem?_eq_getElem (by omega)
    rw [at0_some this]
    exact hur _ (List.getElem_mem _)
   have hcp:0≤at0 (capOf s n) k:=by
    unfold at0
    rw [List.getD_eq_getElem?_getD]
    cases h:(capOf s n)[k]? with
    | none=>simp
    | some y=>
     unfold capOf at h
     obtain ⟨x,hx⟩:∃ x,s.nodes[n]?=some x:=⟨_,List.getElem?_eq_getElem hn⟩
     rw [hx] at h
     exact (shaped_cap hsh x (List.mem_of_getElem? hx) y (List.mem_of_getElem? h)).1
   simp only [capN]
   unfold Qty at *
   omega
  ·unfold kindsTo podsTo at hc
   simp only [List.mem_flatMap,List.mem_range] at hc
   obtain ⟨t,_,i,_,hc⟩:=hc
   unfold podC1 at hc
   split at hc
   ·simp only [List.mem_singleton] at hc
    subst hc
    have:=hof ((t:Int)+2) i
    simp only [Qty];omega
   ·cases hc
  ·unfold spreadTo at hc
   simp only [List.mem_flatMap,List.mem_range] at hc
   obtain ⟨o,ho,hc⟩:=hc
   unfold spreadC1 at hc
   split at hc
   ·cases hc
   ·simp only [List.mem_singleton] at hc
    subst hc
    obtain ⟨ow,how⟩:∃ ow,s.owners[o]?=some ow:=⟨_,List.getElem?_eq_getElem ho⟩
    have hsr:=shaped_owner hsh ow (List.mem_of_getElem? how)
    have:=skewV_rng (o:=o) (p:=p) (s:=s) (by omega) hlen (by omega) (by simp [skewOf,how];omega)
    simp only [Qty];omega
  ·unfold minTo at hc
   simp only [List.mem_map,List.mem_range] at hc
   obtain ⟨o,ho,rfl⟩:=hc
   obtain ⟨ow,how⟩:∃ ow,s.owners[o]?=some ow:=⟨_,List.getElem?_eq_getElem ho⟩
   have hsr:=shaped_owner hsh ow (List.mem_of_getElem? how)
   have hplr:=placed_rng (s:=s) (p:=p) (o:=o) hlen
   have hmo:minOf s o=ow.min:=by simp [minOf,how]
   simp only [minC1,hmo,Qty];omega
theorem allL_rng (s:Snap) (p:List Int):(allL s p).length≤400∧∀ c∈allL s p,0≤c.by_∧c.by_≤Qty:=by
 unfold allL
 split
 ·rename_i h;exact allC_rng h
 ·simp
end Go.Dr
namespace Go.Dr
end Go.Dr
namespace Go.Dr
section
variable {s:Snap} {p:List Int} (hp:∀ x∈p,x=-1)
include hp
end
end Go.Dr
namespace Go.Dr
end Go.Dr
namespace Go.Dr
theorem find_named {L:List Clause} (h:L.Pairwise (fun c d=>nameC c≠nameC d)) {c d:Clause} (hd:d∈L) (hn:nameC d=nameC c):findC L c=d.by_:=by
 have hf:=find_self h hd
 simp only [nameC,Prod.mk.injEq] at hn
 unfold findC
 rw [← hn.1,← hn.2.1,← hn.2.2,hf]
end Go.Dr
namespace Go.Dr
end Go.Dr
namespace Go.Dr
theorem find_nn (s:Snap) (p:List Int) (c:Clause):0≤findC (allL s p) c:=by
 unfold findC
 split
 ·rename_i d hd
  exact ((allL_rng s p).2 d (List.mem_of_find?_eq_some hd)).1
 ·exact Int.le_refl 0
end Go.Dr
namespace Go.Dr
theorem step_ok {s:Snap} {p q:List Int} {x:Step} {c:Clause} (h:stepV s p x=(q,c,0)):(applyP s p x).2=0∧q=(applyP s p x).1∧(allL s q).filter (worseF (allL s p))=[]∧c=noC∧¬ (x.kind=2∧cordonAt s x.node=true):=by
 unfold stepV at h
 split at h
 ·rename_i h1;exact absurd (congrArg (fun z=>z.2.2) h) h1
 ·rename_i h1
  have h1:(applyP s p x).2=0:=Classical.not_not.1 h1
  split at h
  ·cases h
  ·rename_i h2
   obtain ⟨hq,_,_⟩:=apply_check h1
   obtain ⟨_,_,_,_,_,hok,_⟩:=apply_set h1
   rw [worse_ok hok hq] at h
   split at h
   ·cases h
   ·rename_i h3
    cases h
    exact ⟨h1,rfl,h3,rfl,h2⟩
theorem findC_name {L:List Clause} {c d:Clause} (h:nameC d=nameC c):findC L d=findC L c:=by
 simp only [nameC,Prod.mk.injEq] at h
 unfold findC
 rw [h.1,h.2.1,h.2.2]
def keepsC (s:Snap) (L:List Clause) (p:List Int):Prop:=∀ c∈allL s p,c.by_≤findC L c
theorem keeps_self (s:Snap) (p:List Int):keepsC s (allL s p) p:=fun c hc=>Int.le_of_eq (find_named (allL_names s p) hc rfl).symm
theorem keeps_step {s:Snap} {p0 p q:List Int} {x:Step} {c:Clause} (hk:keepsC s (allL s p0) p) (h:stepV s p x=(q,c,0)):keepsC s (allL s p0) q:=by
 obtain ⟨_,_,h3,_⟩:=step_ok h
 intro d hd
 have h4:=List.filter_eq_nil_iff.1 h3 d hd
 have h4:d.by_≤findC (allL s p) d:=by simp [worseF] at h4;omega
 refine Int.le_trans h4 ?_
 have h5:findC (allL s p) d=0∨∃ f,f∈allL s p∧nameC f=nameC d∧findC (allL s p) d=f.by_:=by
  cases hf:(allL s p).find? (isC d.kind d.a d.b) with
  | none=>left;unfold findC;rw [hf]
  | some f=>
   right
   refine ⟨f,List.mem_of_find?_eq_some hf,?_,by unfold findC;rw [hf]⟩
   have:=List.find?_some hf
   rw [isC_name] at this
   exact of_decide_eq_true this
 rcases h5 with h5|⟨f,hf,hn,h5⟩
 ·rw [h5];exact find_nn s p0 d
 ·rw [h5,← findC_name hn]
  exact hk f hf
end Go.Dr
namespace Go.Dr
def rankV (s:Snap) (p:List Int) (pod:Int):List Int:=sortBy (leftAt s p pod) (waysV s p pod)
theorem ways_mem {s:Snap} {p:List Int} {pod n:Int} (h:n∈waysV s p pod):0≤n∧n < s.nodes.length∧0≤pod∧pod < p.length∧stepV s p ⟨2,pod,n⟩=(p.set pod.toNat n,noC,0):=by
 unfold waysV at h
 obtain ⟨m,hm1,rfl⟩:=List.mem_map.1 h
 obtain ⟨hm2,hm3⟩:=List.mem_filter.1 hm1
 have hm3:(stepV s p ⟨2,pod,m⟩).2.2=0:=of_decide_eq_true hm3
 obtain ⟨q,c,e,hs⟩:∃ q c e,stepV s p ⟨2,pod,m⟩=(q,c,e):=⟨_,_,_,rfl⟩
 rw [hs] at hm3
 obtain rfl:e=0:=hm3
 obtain ⟨h1,h2,_,rfl,_⟩:=step_ok hs
 obtain ⟨v,e1,hi,hi0,_,_,hst⟩:=apply_set h1
 have:=List.mem_range.1 hm2
 dsimp only at e1 hi hi0 hst
 rcases hst with ⟨hk,_⟩|⟨_,hv,_⟩
 ·simp at hk
 ·refine ⟨by omega,by omega,hi0,by omega,?_⟩
  rw [hs,h2,e1,hv]
theorem rank_perm (s:Snap) (p:List Int) (pod:Int):(rankV s p pod).Perm (waysV s p pod):=List.mergeSort_perm _ _
theorem rank_len (s:Snap) (p:List Int) (pod:Int):(rankV s p pod).length=(waysV s p pod).length:=(rank_perm s p pod).length_eq
theorem ways_len (s:Snap) (p:List Int) (pod:Int):(waysV s p pod).length≤s.nodes.length:=by
 unfold waysV
 rw [List.length_map]
 have:=List.length_filter_le (fun (n:Nat)=>mayV s p ⟨2,pod,(n:Int)⟩) (List.range s.nodes.length)
 simpa using this
def bestV (s:Snap) (p:List Int) (pod:Int):Int × Bool:=match rankV s p pod with|[]=>(0,false)|n::_=>(n,true)
end Go.Dr
namespace Go.Dr
open Go.Sort Go.RowKit Go.Shelf Go.Proofs Go.Lib
set_option linter.unusedSimpArgs false
set_option linter.unusedVariables false
theorem intsT_app (xs ys:List Int) (tl:List Value):intsT (xs++ys) tl=intsT xs (ys.map (fun x=>Value.int .i64 x)++tl):=by
 unfold intsT
 rw [List.map_append,List.append_assoc]
theorem putInts {S:SHeap} {w:World} {b:Nat} {E:TypeId} {xs ys:List Int} {tl:List Value} (hg:Agree S w) (hSb:S b=none) (hb:w.heap[b]?=some (.cells (intsT xs tl) E (0,0))) (hl:xs.length=ys.length) (q:Nat) :
  Wd w [b] S S [.blk b (.cells (intsT ys tl) E (0,0))] (putRow (Value.int .i64) (Sort.ahead w q) b 0 ys.toArray):=by
 have hwd:=Wd.sortW hg hSb hb (Value.int .i64) ys.toArray q #[]
 rw [show (Value.int .i64:Int→Value)=(fun x=>Value.int .i64 (id x)) from rfl,putCells_ints id _ _ _ (by simpa using hl),List.map_id] at hwd
 unfold sortWorld at hwd
 rw [grow_empty] at hwd
 exact hwd
theorem delFunc_fn {P:Program} {ρ:Ren} (L:SlLaysH.n10 P ρ) (p:Int→Bool) (g:Nat) (lb:Array Value) (eg:∀ args w,(callFunc g args).run P w=.ok (.enter g args) w) (v23:∀ w,(zeroValue (ρ.t 23)).run P w=.ok (.int .i64 0) w)
  {S:SHeap} {b cap:Nat} {E:TypeId} {tl:List Value} (xs:List Int) (hn:xs.length≤1000000) (hc:xs.length≤cap) (hgive:∀ W,Agree S W→∀ x:Int,FnGives P g lb #[.int .i64 x] (.bool (p x)) W) :
  Fn P (ρ.f 10) #[.slice (some ⟨b,0,none⟩) xs.length cap,.func (.func g) #[] lb] S [.blk b (.cells (intsT xs tl) E (0,0))]
   (fun v S' M'=>v=.slice (some ⟨b,0,none⟩) (xs.filter fun x=>!p x).length cap∧S'=S∧∃ tl',M'=[.blk b (.cells (intsT (xs.filter fun x=>!p x) tl') E (0,0))]):=by
 intro w hg hok hsep hout
 have hb:w.heap[b]?=some (.cells (intsT xs tl) E (0,0)):=hok (.blk b _) List.mem_cons_self
 have hSb:=hout (.blk b _) List.mem_cons_self b rfl
 have hH:Sort.Holds (Value.int .i64) w b 0 xs.toArray:=holds_ints (val:=id) (by simpa using hb)
 have hpa:PredAt P g lb (Value.int .i64) p w:=fun W x hbl=>hgive W (fun k o h=>by
  have h1:=hg k o h
  rw [hbl.block k (Array.getElem?_eq_some_iff.1 h1).1];exact h1) x
 have hpo:PredOver P g lb (Value.int .i64) p b 0 xs.toArray.size w:=fun n os dk x hs=>hgive _ (Wd.sortW hg hSb hb (Value.int .i64) dk n os).agree x
 have h:=AnyE.slices_DeleteFunc L (Value.int .i64) (fun _=>rfl) p g lb eg 0 v23 b 0 cap xs.toArray w hpa hpo hH (by simp;omega) (by simpa using hc)
 rw [List.size_toArray] at h
 refine h.mono ?_
 rintro e w' ⟨rfl,q,rfl⟩
 have hfl:=List.length_filter_le (fun x=>!p x) xs
 have hwd:=putInts (ys:=(xs.filter fun x=>!p x)++List.replicate (xs.length - (xs.filter fun x=>!p x).length) 0) hg hSb hb (by simp;omega) q
 rw [intsT_app] at hwd
 exact ⟨_,S,_,rfl,hwd,rfl,rfl,_,rfl⟩
theorem compact_fn {P:Program} {ρ:Ren} (L:SlLaysE.n43 P ρ) (heq:EqlAt P (ρ.t 23) (Value.int .i64) (fun x y:Int=>decide (x=y))) (hne:NeqAt P (ρ.t 23) (Value.int .i64) (fun x y:Int=>decide (x=y))) (v23:∀ w,(zeroValue (ρ.t 23)).run P w=.ok (.int .i64 0) w)
  {S:SHeap} {b cap:Nat} {E:TypeId} {tl:List Value} (xs:List Int) (hn:xs.length≤1000000) (hc:xs.length≤cap) :
  Fn P (ρ.f 43) #[.slice (some ⟨b,0,none⟩) xs.length cap] S [.blk b (.cells (intsT xs tl) E (0,0))]
   (fun v S' M'=>v=.slice (some ⟨b,0,none⟩) (Lib.compact xs).length cap∧S'=S∧∃ tl',M'=[.blk b (.cells (intsT (Lib.compact xs) tl') E (0,0))]):=by
 intro w hg hok hsep hout
 have hb:w.heap[b]?=some (.cells (intsT xs tl) E (0,0)):=hok (.blk b _) List.mem_cons_self
 have hSb:=hout (.blk b _) List.mem_cons_self b rfl
 have hH:Sort.Holds (Value.int .i64) w b 0 xs.toArray:=holds_ints (val:=id) (by simpa using hb)
 have h:=AnyE.slices_Compact L (Value.int .i64) (fun _=>rfl) heq hne 0 v23 b 0 cap xs.toArray w hH (by simp;omega) (by simpa using hc)
 rw [List.size_toArray] at h
 refine h.mono ?_
 rintro e w' ⟨rfl,q,rfl⟩
 have hcl:(Lib.compact xs).length≤xs.length:=by
  unfold Lib.compact compactUpTo
  rw [List.length_map]
  have:=List.length_filter_le (keeps xs.toArray) (List.range xs.length)
  simpa using this
 have hwd:=putInts (ys:=Lib.compact xs++List.replicate (xs.length - (Lib.compact xs).length) 0) hg hSb hb (by simp;omega) q
 rw [intsT_app] at hwd
 exact ⟨_,S,_,rfl,hwd,rfl,rfl,_,rfl⟩
end Go.Dr
namespace Go.Dr
open Go.Lib
def mostTo (s:Snap) (k:Nat):Nat→Int
 | 0=>0
 | i+1=>max (mostTo s k i) (at0 (capOf s i) k)
def mostV (s:Snap) (k:Nat):Int:=mostTo s k s.nodes.length
def reqOf (s:Snap) (i:Nat):List Int:=match s.pods[i]? with|some x=>x.req|none=>[]
def size1 (most req:Int):Int:=if 0 < most then (1000*req).tdiv most else 0
def sizeTo (s:Snap) (pod:Int):Nat→Int
 | 0=>0
 | k+1=>max (sizeTo s pod k) (size1 (mostV s k) (at0 (reqOf s pod.toNat) k))
def sizeV (s:Snap) (pod:Int):Int:=sizeTo s pod 5
def inPods (n:Nat) (pods:List Int):List Int:=((List.range n).filter (fun (i:Nat)=>decide ((i:Int)∈pods))).map (fun (i:Nat)=>(i:Int))
def orderV (s:Snap) (pods:List Int):List Int:=if checkS s=0 then sortBy (fun i=>-sizeV s i) (inPods s.pods.length pods) else []
theorem in_rise (n:Nat) (pods:List Int):(inPods n pods).Pairwise (fun a b=>a < b):=by
 unfold inPods
 rw [List.pairwise_map]
 exact (List.pairwise_lt_range.filter _).imp fun h=>by omega
theorem in_mem {n:Nat} {pods:List Int} {x:Int}:x∈inPods n pods↔0≤x∧x < n∧x∈pods:=by
 unfold inPods
 simp only [List.mem_map,List.mem_filter,List.mem_range,decide_eq_true_eq]
 constructor
 ·rintro ⟨i,⟨h1,h2⟩,rfl⟩
  exact ⟨by omega,by omega,h2⟩
 ·rintro ⟨h1,h2,h3⟩
  exact ⟨x.toNat,⟨by omega,by rwa [Int.toNat_of_nonneg h1]⟩,Int.toNat_of_nonneg h1⟩
theorem rise_eq_of {l m:List Int} (hl:l.Pairwise (fun a b=>a < b)) (hm:m.Pairwise (fun a b=>a < b)) (h:∀ x,x∈l↔x∈m):l=m:=by
 have n1:l.Nodup:=hl.imp fun h=>by omega
 have n2:m.Nodup:=hm.imp fun h=>by omega
 exact List.Perm.eq_of_pairwise (le:=fun a b=>a < b) (fun a b _ _ h1 h2=>by omega) hl hm ((List.perm_ext_iff_of_nodup n1 n2).2 h)
theorem compact_rise {xs:List Int} (hs:xs.Pairwise (fun a b=>a≤b)):(Lib.compact xs).Pairwise (fun a b=>a < b):=by
 unfold Lib.compact compactUpTo
 rw [List.pairwise_map,List.pairwise_filter]
 refine List.pairwise_lt_range.imp_of_mem fun {i j} hi hj hij hki hkj=>?_
 have hi:=List.mem_range.1 hi
 have hj:=List.mem_range.1 hj
 unfold keeps at hkj
 have hj1:xs.toArray[j]! = xs[j]:=by rw [getElem!_pos xs.toArray j (by simpa using hj)];simp
 have hj2:xs.toArray[j - 1]! = xs[j - 1]:=by rw [getElem!_pos xs.toArray (j - 1) (by simp;omega)];simp
 have hi1:xs.toArray[i]! = xs[i]:=by rw [getElem!_pos xs.toArray i (by simpa using hi)];simp
 rw [hj1,hj2] at hkj
 rw [hi1,hj1]
 have h1:xs[j - 1]≤xs[j]:=List.pairwise_iff_getElem.1 hs (j - 1) j (by omega) hj (by omega)
 have h2:xs[i]≤xs[j - 1]:=by
  by_cases e:i=j - 1
  ·subst e;exact Int.le_refl _
  ·exact List.pairwise_iff_getElem.1 hs i (j - 1) hi (by omega) (by omega)
 have h3:¬ xs[j]=xs[j - 1]:=by
  intro e
  simp [e] at hkj
  omega
 omega
theorem compact_mem {xs:List Int} {x:Int}:x∈Lib.compact xs↔x∈xs:=by
 unfold Lib.compact compactUpTo
 simp only [List.mem_map,List.mem_filter,List.mem_range]
 constructor
 ·rintro ⟨j,⟨hj,_⟩,rfl⟩
  rw [getElem!_pos xs.toArray j (by simpa using hj)];simp
 ·intro hx
  have hex:∃ j,j < xs.length∧xs.toArray[j]! = x:=by
   obtain ⟨j,hj,rfl⟩:=List.getElem_of_mem hx
   exact ⟨j,hj,by rw [getElem!_pos xs.toArray j (by simpa using hj)];simp⟩
  have key:∀ j:Nat,xs.toArray[j]! = x→∃ i,i≤j∧keeps xs.toArray i=true∧xs.toArray[i]! = x:=by
   intro j
   induction j with
   | zero=>exact fun h=>⟨0,Nat.le_refl _,by simp [keeps],h⟩
   | succ j ih=>
    intro h
    by_cases e:xs.toArray[j]! = x
    ·obtain ⟨i,h1,h2,h3⟩:=ih e
     exact ⟨i,by omega,h2,h3⟩
    ·refine ⟨j+1,Nat.le_refl _,?_,h⟩
     unfold keeps
     rw [h]
     simp only [Nat.add_sub_cancel,decide_eq_true_eq]
     exact .inr fun e2=>e e2.symm
  obtain ⟨j,hj,hjx⟩:=hex
  obtain ⟨i,h1,h2,h3⟩:=key j hjx
  exact ⟨i,⟨by omega,h2⟩,h3⟩
theorem order_in (n:Nat) (pods:List Int):Lib.compact ((pods.filter fun x=>!(decide (x < 0)||decide ((n:Int)≤x))).mergeSort fun x y=>decide (x≤y))=inPods n pods:=by
 refine rise_eq_of (compact_rise ?_) (in_rise n pods) fun x=>?_
 ·have h:=List.pairwise_mergeSort (le:=fun x y:Int=>decide (x≤y)) (fun a b c h1 h2=>by simp only [decide_eq_true_eq] at *;omega) (fun a b=>by simp only [Bool.or_eq_true,decide_eq_true_eq];omega) (pods.filter fun x=>!(decide (x < 0)||decide ((n:Int)≤x)))
  exact h.imp fun h=>by simpa using h
 ·rw [compact_mem,List.mem_mergeSort,List.mem_filter,in_mem]
  simp only [Bool.not_eq_true',Bool.or_eq_false_iff,decide_eq_false_iff_not]
  constructor
  ·rintro ⟨h1,h2,h3⟩;exact ⟨by omega,by omega,h1⟩
  ·rintro ⟨h1,h2,h3⟩;exact ⟨h3,by omega,by omega⟩
end Go.Dr
namespace Go.Dr
def packGo (s:Snap):List Int→List Int→List Int→List Int × List Int
 | q,ws,[]=>(q,ws)
 | q,ws,i::l=>if ¬ at0 q i.toNat=-1 then packGo s q ws l else if (bestV s q i).2=true then packGo s (q.set i.toNat (bestV s q i).1) ws l else packGo s q (ws++[i]) l
def packV (s:Snap) (p pods:List Int):List Int × List Int × Int:=if ¬ checkP s p=0 then ([],[],checkP s p) else ((packGo s p [] (orderV s pods)).1,(packGo s p [] (orderV s pods)).2.mergeSort (fun x y=>decide (x≤y)),0)
theorem best_rng {s:Snap} {p:List Int} {pod n:Int} (h:bestV s p pod=(n,true)):0≤n∧n < s.nodes.length:=by
 unfold bestV at h
 split at h
 ·simp at h
 ·rename_i m l hr
  have hm:m∈waysV s p pod:=(rank_perm s p pod).mem_iff.1 (by rw [hr];simp)
  have:=ways_mem hm
  cases h
  exact ⟨this.1,this.2.1⟩
theorem order_mem {s:Snap} {pods:List Int} {i:Int} (h:i∈orderV s pods):0≤i∧i < s.pods.length∧i∈pods:=by
 unfold orderV at h
 split at h
 ·have hp:(sortBy (fun i=>-sizeV s i) (inPods s.pods.length pods)).Perm (inPods s.pods.length pods):=List.mergeSort_perm _ _
  exact in_mem.1 (hp.mem_iff.1 h)
 ·cases h
theorem order_len (s:Snap) (pods:List Int):(orderV s pods).length≤s.pods.length:=by
 unfold orderV
 split
 ·have hp:(sortBy (fun i=>-sizeV s i) (inPods s.pods.length pods)).Perm (inPods s.pods.length pods):=List.mergeSort_perm _ _
  rw [hp.length_eq]
  unfold inPods
  rw [List.length_map]
  have:=List.length_filter_le (fun (i:Nat)=>decide ((i:Int)∈pods)) (List.range s.pods.length)
  simpa using this
 ·simp
end Go.Dr
namespace Go.Dr
def nd14 (n:UInt8) (c:Int):Node:=⟨⟨#[n]⟩,[c,0,0,0,0],[],[],false,false⟩
def pd14 (x:UInt8) (r:Int):Pod:=⟨⟨#[x]⟩,⟨#[]⟩,[r,0,0,0,0],[],[],[],noNear,noNear,⟨#[]⟩⟩
def nodes14:List Node:=[nd14 97 100,nd14 98 60]
def pods14 (r:Int):List Pod:=[pd14 112 50,pd14 113 30,pd14 114 40,pd14 116 r]
def chap14 (r:Int):Snap:=⟨nodes14,pods14 r,[]⟩
def insBy (key:Int→Int) (x:Int):List Int→List Int
 | []=>[x]
 | y::l=>if ltBy key y x=true then y::insBy key x l else x::y::l
def iSort (key:Int→Int):List Int→List Int
 | []=>[]
 | x::l=>insBy key x (iSort key l)
theorem insBy_perm (key:Int→Int) (x:Int):∀ l,(insBy key x l).Perm (x::l)
 | []=>List.Perm.refl _
 | y::l=>by
  rw [insBy]
  split
  ·exact ((insBy_perm key x l).cons y).trans (List.Perm.swap _ _ _)
  ·exact List.Perm.refl _
theorem iSort_perm (key:Int→Int):∀ l,(iSort key l).Perm l
 | []=>List.Perm.refl _
 | x::l=>(insBy_perm key x _).trans ((iSort_perm key l).cons x)
theorem insBy_sorted (key:Int→Int) (x:Int):∀ l:List Int,l.Pairwise (fun a b=>ltBy key b a=false)→(insBy key x l).Pairwise (fun a b=>ltBy key b a=false)
 | [],_=>by simp [insBy]
 | y::l,h=>by
  obtain ⟨h1,h2⟩:=List.pairwise_cons.1 h
  rw [insBy]
  split
  ·rename_i hc
   refine List.pairwise_cons.2 ⟨fun z hz=>?_,insBy_sorted key x l h2⟩
   rcases List.mem_cons.1 ((insBy_perm key x l).mem_iff.1 hz) with rfl|hz
   ·simp only [ltBy,Bool.or_eq_true,Bool.and_eq_true,decide_eq_true_eq,Bool.or_eq_false_iff,Bool.and_eq_false_iff,decide_eq_false_iff_not] at *;omega
   ·exact h1 z hz
  ·rename_i hc
   have hc:ltBy key y x=false:=by simpa using hc
   refine List.pairwise_cons.2 ⟨fun z hz=>?_,h⟩
   rcases List.mem_cons.1 hz with rfl|hz
   ·exact hc
   ·exact ltBy_ntrans (h1 z hz) hc
theorem iSort_sorted (key:Int→Int):∀ l,(iSort key l).Pairwise (fun a b=>ltBy key b a=false)
 | []=>List.Pairwise.nil
 | x::l=>insBy_sorted key x _ (iSort_sorted key l)
theorem sortBy_i (key:Int→Int) (l:List Int):sortBy key l=iSort key l:=(sortBy_eq (iSort_perm key l) (iSort_sorted key l)).symm
theorem rank_i (s:Snap) (p:List Int) (pod:Int):rankV s p pod=iSort (leftAt s p pod) (waysV s p pod):=sortBy_i _ _
def bestC (s:Snap) (p:List Int) (pod:Int):Int × Bool:=match iSort (leftAt s p pod) (waysV s p pod) with|[]=>(0,false)|n::_=>(n,true)
theorem best_i (s:Snap) (p:List Int) (pod:Int):bestV s p pod=bestC s p pod:=by (unfold bestV bestC;rw [rank_i])<;>rfl
def orderC (s:Snap) (pods:List Int):List Int:=if checkS s=0 then iSort (fun i=>-sizeV s i) (inPods s.pods.length pods) else []
theorem order_i (s:Snap) (pods:List Int):orderV s pods=orderC s pods:=by unfold orderV orderC;rw [sortBy_i]
def packGoC (s:Snap):List Int→List Int→List Int→List Int × List Int
 | q,ws,[]=>(q,ws)
 | q,ws,i::l=>if ¬ at0 q i.toNat=-1 then packGoC s q ws l else if (bestC s q i).2=true then packGoC s (q.set i.toNat (bestC s q i).1) ws l else packGoC s q (ws++[i]) l
theorem packGo_i (s:Snap):∀ (l q ws:List Int),packGo s q ws l=packGoC s q ws l
 | [],_,_=>by rw [packGo,packGoC]
 | i::l,q,ws=>by
  rw [packGo,packGoC,best_i]
  split
  ·exact packGo_i s l _ _
  ·split<;>exact packGo_i s l _ _
theorem pack_i (s:Snap) (p pods q ws:List Int) (hc:checkP s p=0) (h:packGoC s p [] (orderC s pods)=(q,ws)):packV s p pods=(q,ws.mergeSort (fun x y=>decide (x≤y)),0):=by
 unfold packV
 rw [if_neg (by simpa using hc),order_i,packGo_i,h]
theorem f14_1:leftV (chap14 20) [0,1,-1,-1] 0=500:=by decide +kernel
theorem f14_2:leftV (chap14 20) [0,1,-1,-1] 1=500:=by decide +kernel
theorem f14_3:rankV (chap14 20) [0,1,-1,-1] 3=[1,0]:=by rw [rank_i];decide +kernel
theorem f14_4:rankV (chap14 20) [0,1,-1,-1] 2=[0]:=by rw [rank_i];decide +kernel
theorem f14_5:bestV (chap14 20) [0,0,1,-1] 3=(0,true):=by rw [best_i];decide +kernel
theorem f14_6:orderV (chap14 20) [3,2,1,0,1]=[0,2,1,3]:=by rw [order_i];decide +kernel
theorem f14_7:packV (chap14 20) [-1,-1,-1,-1] [0,1,2,3]=([1,0,0,0],[],0):=(pack_i _ _ _ [1,0,0,0] [] (by decide +kernel) (by decide +kernel)).trans (by simp)
end Go.Dr
