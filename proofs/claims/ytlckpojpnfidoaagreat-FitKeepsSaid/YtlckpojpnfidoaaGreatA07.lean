/- Part 8 of the rules and of the walks that the proofs of this seat rest on; no condition. -/
import Derived.Test.YtlckpojpnfidoaaGreatA06
import Derived.Shelf.SlGeneric
import Derived.Shelf.SlicesE.DeleteFunc
import Derived.Shelf.SlicesE.Compact
import Derived.Ground.SlgfProg
import Derived.Ground.SlgnProg
import Derived.Shelf.SlSortCmp.NoneTotal
import Derived.Shelf.Sort.Plain
import Derived.Shelf.Slices.In.SortNone
import Derived.Ground.SlsfProg
set_option linter.unusedVariables false
set_option linter.unusedSimpArgs false
namespace Go.Dr
open Go.Proofs
set_option maxRecDepth 20000
set_option maxHeartbeats 2000000
set_option linter.unusedSimpArgs false
set_option linter.unusedVariables false
theorem s14_L14j {P K:Prop} (k:K) (h:Goal K→P:=by
 intro zk
 (first|refine Walk ?_|refine JC.block ?_|refine JC.drawN 1 rfl [0,1,2,3,4,5,6,7,8,9,10,11,12,13,14,15,16,17,18,19,20,21,22] [0,1,2,3,4,5,6,7,8,9,10,11,12,13,14,15,16,17,18,19,20,21] Tryz_mixed (by decide +kernel) ?_|(refine WBox ?_))
 (repeat (first|revert zqg|revert zqf|revert zqe|revert zqd|revert zqc|revert zqb|revert zqa))
 exact zk.k):P:=h ⟨k⟩
theorem q14_cut {S:SHeap} {u:Value} {s:Snap} (hu:rSnap.V S u s):FnR Tryz.prog 14 #[u] S (fun w S'=>rSnap.V S' w (cutS s)):=by
 (refine Fn.enter (args:=[u]) Tryz.func14 rfl Tryz.ntmps14 rfl ?_;intro w0)
 repeat (refine s14_L14j ?_;intros)
 (refine JO.eff rfl rfl rfl (JEff.alloc rfl ?_);intro cb hcb)
 repeat (refine s14_L14j ?_;intros)
 refine JO.pure rfl rfl rfl (JPure.sliceS (xs:=s.nodes) (rep:=rNode) (bt:=112) rfl (by exact vta) rfl rfl rfl (by omega) (by omega) (by omega) ?_);intro a1 c1 y1 hy1 hV1 hyl1 hyb1
 repeat (refine s14_L14j ?_;intros)
 refine JO.pure rfl rfl rfl (JPure.sliceS (xs:=s.pods) (rep:=rPod) (bt:=240) rfl (by exact vta) rfl rfl rfl (by omega) (by omega) (by omega) ?_);intro a2 c2 y2 hy2 hV2 hyl2 hyb2
 repeat (refine s14_L14j ?_;intros)
 refine JO.pure rfl rfl rfl (JPure.sliceS (xs:=s.owners) (rep:=rOwner) (bt:=56) rfl (by exact vta) rfl rfl rfl (by omega) (by omega) (by omega) ?_);intro a3 c3 y3 hy3 hV3 hyl3 hyb3
 repeat (refine s14_L14j ?_;intros)
 have e1:y1=s.nodes.take 12:=hy1.trans (cut_len s.nodes 12)
 have e2:y2=s.pods.take 30:=hy2.trans (cut_len s.pods 30)
 have e3:y3=s.owners.take 12:=hy3.trans (cut_len s.owners 12)
 subst e1;subst e2;subst e3
 have hV:=V_snap (x:=cutS s) hV1 hV2 hV3
 refine JO.eff rfl rfl rfl (JEff.storeW rfl rfl hV nna (List.Perm.refl _) rfl (by intro l hl;cases hl) ?_)
 refine JO.freezeV hV nna hcb (by intro l hl;cases hl) ?_;intro S2 hl2 hpo
 repeat (refine s14_L14j ?_;intros)
 exact JX.retCell Tryz.results14 rfl hpo (List.nil_sublist _) (fun w hw=>⟨rfl,hw⟩)
theorem s15_L14j {P K:Prop} (k:K) (h:Goal K→P:=by
 intro zk
 (first|refine Walk ?_|refine JC.block ?_|refine JC.drawN 7 rfl [0,1,2,3,4,5,6,7,8,9,10] [0,1,2,3,4,5,6,7,9,10] Tryz_mixed (by decide +kernel) ?_|(refine JO.eff rfl rfl rfl (JEff.callV rfl (r0_Bring _ _ (by omega) (by omega) (by assumption)) rfl ?_);intro zqa zqb)|(refine WBox ?_))
 (repeat (first|revert zqg|revert zqf|revert zqe|revert zqd|revert zqc|revert zqb|revert zqa))
 exact zk.k):P:=h ⟨k⟩
theorem q14_fitted {S:SHeap} {u v:Value} {s:Snap} {l:List Int} (hu:rSnap.V S u s) (hv:(rSlice 8 rI64).V S v l) (hn:s.nodes.length≤1000) (hpd:s.pods.length≤1000):FnL Tryz.prog 15 #[u,v] S 8 rI64 (fitV s l):=by
 obtain ⟨a0,c0,rfl,_,_,hlb,_⟩:=V_slice.1 hv
 unfold big at hlb
 have hlr:∀ z∈l,Rng z:=fun z hz=>by
  obtain ⟨q,cs,h,_⟩:=slice_at hv z hz
  exact h.2
 (refine Fn.enter (args:=[u,.slice a0 l.length c0]) Tryz.func15 rfl Tryz.ntmps15 rfl ?_;intro w0)
 repeat (refine s15_L14j ?_;intros)
 (first|refine JC.newRow 3 1 ?_|refine JO.newRow 3 1 ?_|refine JX.newRow 3 1 ?_)
 refine JC.loopF (σ:=Nat × Option Addr × Nat × List Value) [(1,_),(2,_)] (fun q=>[(5,.slice q.2.1 ((fun k=>fitK s l k) q.1).length q.2.2.1),(6,((fun k=>.int .i64 k) q.1))]) (fun q=>[.row w0.heap.size 3 (Rp.sz rI64) (.slice q.2.1 ((fun k=>fitK s l k) q.1).length q.2.2.1) ((fun k=>fitK s l k) q.1).length (flatCells q.2.2.2)]) (fun Sk q=>q.1≤s.pods.length∧allV rI64 Sk q.2.2.2 ((fun k=>fitK s l k) q.1)∧((fun k=>True) q.1)) (fun q=>s.pods.length - q.1) (0,none,0,[]) (by exact sba) (by exact sba) (by first|rfl|simp) (⟨Nat.zero_le _,trivial,trivial⟩) ?_;rintro Sk ⟨k,rak,rck,vsk⟩ hlk ⟨hk,hvk,hik⟩;(try dsimp only at hk hvk hik);dsimp only [List.cons_append,List.nil_append]
 have hfl:=fitK_len s l k
 have hnr:=fitN_rng s l k
 have hst:=fitK_step s l k
 repeat (refine s15_L14j ?_;intros)
 refine JC.cond rfl (fun hc=>?_) (fun hc=>?_)
 ·have hk':=dlt hc
  repeat (refine s15_L14j ?_;intros)
  refine JC.cond rfl (fun hc2=>?_) (fun hc2=>?_)
  ·have hk2:=dlt hc2
   obtain ⟨x,hx,_⟩:=drop_at hk2
   have hxr:=hlr x (List.mem_of_getElem? hx)
   have hfn:fitN s l k=bring x ((s.nodes.length:Int)+1) - 1:=by simp [fitN,hx]
   repeat (refine s15_L14j ?_;intros)
   rw [← hfn]
   repeat (refine s15_L14j ?_;intros)
   refine JO.guard rfl rfl rfl rfl (fun g1=>?_) (fun g1=>?_)
   ·have g1':=of_decide_eq_true g1
    obtain ⟨nd,hnd,_⟩:=drop_at (l:=s.nodes) (show (fitN s l k).toNat < s.nodes.length by omega)
    have hlo:lostAt s (fitN s l k)=nd.lost:=by simp [lostAt,hnd]
    repeat (refine s15_L14j ?_;intros)
    refine JC.cond rfl (fun g2=>?_) (fun g2=>?_)
    ·have hfa:fitAt s l k=-1:=by rw [fitAt,if_pos ⟨by omega,by rw [hlo];exact g2⟩]
     rw [hfa] at hst
     repeat (refine s15_L14j ?_;intros)
     (refine JO.eff rfl rfl rfl (JEff.build (rep:=rI64) (ys:=[(-1:Int)]) rfl rfl ⟨⟨(V_i64.2 ⟨rfl,by unfold Rng;omega⟩),nna⟩,trivial⟩ rfl rfl rfl rfl ?_);intro bb hbb hvv);(repeat (first|(refine Walk ?_;intros)|refine JC.block ?_));(refine JO.eff rfl rfl rfl (JEff.appendL (rep:=rI64) rfl rfl rfl rfl (List.Perm.swap _ _ _) (by exact hvv.flat) (by intro c hc;exact flat_one (fun v hv=>(hvv.size v hv).2) c hc) (by first|omega|(unfold big;omega)) (by unfold big;omega) (by first|exact rowT_ok|(intro l hl;cases hl)) rfl ?_);intro a2 c2;clear hvv hbb)
     repeat (refine s15_L14j ?_;intros)
     exact JX.roundF (k+1,a2,c2,vsk++[(.int .i64 ((-1:Int)))]) (by exact lea) ⟨by omega,by (try dsimp only);rw [hst];exact allV_add (by exact lea) hvk (V_i64.2 ⟨rfl,by unfold Rng;omega⟩) nna,(trivial)⟩ (by (try dsimp only);omega) (by (try dsimp only);rw [hst];(simp [flat_append]<;>omega)) (by (try dsimp only);rw [hst];simp only [List.length_append,List.length_cons,List.length_nil];exact sba) (by exact sba)
    ·have hfa:fitAt s l k=fitN s l k:=by rw [fitAt,if_neg (fun h=>by rw [hlo,g2] at h;exact absurd h.2 (by simp))]
     rw [hfa] at hst
     repeat (refine s15_L14j ?_;intros)
     (refine JO.eff rfl rfl rfl (JEff.build (rep:=rI64) (ys:=[fitN s l k]) rfl rfl ⟨⟨(V_i64.2 ⟨rfl,by unfold Rng;omega⟩),nna⟩,trivial⟩ rfl rfl rfl rfl ?_);intro bb hbb hvv);(repeat (first|(refine Walk ?_;intros)|refine JC.block ?_));(refine JO.eff rfl rfl rfl (JEff.appendL (rep:=rI64) rfl rfl rfl rfl (List.Perm.swap _ _ _) (by exact hvv.flat) (by intro c hc;exact flat_one (fun v hv=>(hvv.size v hv).2) c hc) (by first|omega|(unfold big;omega)) (by unfold big;omega) (by first|exact rowT_ok|(intro l hl;cases hl)) rfl ?_);intro a2 c2;clear hvv hbb)
     repeat (refine s15_L14j ?_;intros)
     exact JX.roundF (k+1,a2,c2,vsk++[(.int .i64 (fitN s l k))]) (by exact lea) ⟨by omega,by (try dsimp only);rw [hst];exact allV_add (by exact lea) hvk (V_i64.2 ⟨rfl,by unfold Rng;omega⟩) nna,(trivial)⟩ (by (try dsimp only);omega) (by (try dsimp only);rw [hst];(simp [flat_append]<;>omega)) (by (try dsimp only);rw [hst];simp only [List.length_append,List.length_cons,List.length_nil];exact sba) (by exact sba)
   ·have g1':=of_decide_eq_false g1
    have hfa:fitAt s l k=fitN s l k:=by rw [fitAt,if_neg (fun h=>absurd h.1 (by omega))]
    rw [hfa] at hst
    repeat (refine s15_L14j ?_;intros)
    (refine JO.eff rfl rfl rfl (JEff.build (rep:=rI64) (ys:=[fitN s l k]) rfl rfl ⟨⟨(V_i64.2 ⟨rfl,by unfold Rng;omega⟩),nna⟩,trivial⟩ rfl rfl rfl rfl ?_);intro bb hbb hvv);(repeat (first|(refine Walk ?_;intros)|refine JC.block ?_));(refine JO.eff rfl rfl rfl (JEff.appendL (rep:=rI64) rfl rfl rfl rfl (List.Perm.swap _ _ _) (by exact hvv.flat) (by intro c hc;exact flat_one (fun v hv=>(hvv.size v hv).2) c hc) (by first|omega|(unfold big;omega)) (by unfold big;omega) (by first|exact rowT_ok|(intro l hl;cases hl)) rfl ?_);intro a2 c2;clear hvv hbb)
    repeat (refine s15_L14j ?_;intros)
    exact JX.roundF (k+1,a2,c2,vsk++[(.int .i64 (fitN s l k))]) (by exact lea) ⟨by omega,by (try dsimp only);rw [hst];exact allV_add (by exact lea) hvk (V_i64.2 ⟨rfl,by unfold Rng;omega⟩) nna,(trivial)⟩ (by (try dsimp only);omega) (by (try dsimp only);rw [hst];(simp [flat_append]<;>omega)) (by (try dsimp only);rw [hst];simp only [List.length_append,List.length_cons,List.length_nil];exact sba) (by exact sba)
  ·have hk2:=dnlt hc2
   have hfn:fitN s l k=-1:=by unfold fitN;rw [List.getElem?_eq_none (by omega)]
   have hfa:fitAt s l k=-1:=by rw [fitAt,hfn,if_neg (fun h=>absurd h.1 (by omega))]
   rw [hfa] at hst
   repeat (refine s15_L14j ?_;intros)
   (refine JO.eff rfl rfl rfl (JEff.build (rep:=rI64) (ys:=[(-1:Int)]) rfl rfl ⟨⟨(V_i64.2 ⟨rfl,by unfold Rng;omega⟩),nna⟩,trivial⟩ rfl rfl rfl rfl ?_);intro bb hbb hvv);(repeat (first|(refine Walk ?_;intros)|refine JC.block ?_));(refine JO.eff rfl rfl rfl (JEff.appendL (rep:=rI64) rfl rfl rfl rfl (List.Perm.swap _ _ _) (by exact hvv.flat) (by intro c hc;exact flat_one (fun v hv=>(hvv.size v hv).2) c hc) (by first|omega|(unfold big;omega)) (by unfold big;omega) (by first|exact rowT_ok|(intro l hl;cases hl)) rfl ?_);intro a2 c2;clear hvv hbb)
   repeat (refine s15_L14j ?_;intros)
   exact JX.roundF (k+1,a2,c2,vsk++[(.int .i64 ((-1:Int)))]) (by exact lea) ⟨by omega,by (try dsimp only);rw [hst];exact allV_add (by exact lea) hvk (V_i64.2 ⟨rfl,by unfold Rng;omega⟩) nna,(trivial)⟩ (by (try dsimp only);omega) (by (try dsimp only);rw [hst];(simp [flat_append]<;>omega)) (by (try dsimp only);rw [hst];simp only [List.length_append,List.length_cons,List.length_nil];exact sba) (by exact sba)
 ·have hk':=dnlt hc
  obtain rfl:k=s.pods.length:=by omega
  repeat (refine s15_L14j ?_;intros)
  refine JX.freezeRow (rep:=rI64) (bt:=8) hvk rfl (by unfold big;omega) (by unfold big;omega) (fun S9 hl9 hV9=>?_)
  (refine JX.ret1 Tryz.results15 (ResV.tmp rfl) (List.nil_sublist _) ?_)
  exact ⟨rfl,hV9⟩
theorem q14_in {S:SHeap} {v:Value} (l:List Int) (n:Int) (hv:(rSlice 8 rI64).V S v l):FnV Tryz.prog 19 #[v,.int .i64 n] S (.bool (decide (n∈l))):=by
 have hv0:=hv
 obtain ⟨va,vc,rfl,_,hb8,hb,hpr⟩:=V_slice.1 hv0
 unfold big at hb8 hb
 (refine Fn.enter (args:=[.slice va l.length vc,.int .i64 n]) Tryz.func19 rfl Tryz.ntmps19 rfl ?_;intro w0)
 repeat (first|(refine Walk ?_;intros)|refine JC.block ?_)
 refine JC.loopF0 (σ:=Nat) [(0,_),(1,_)] (fun q=>[(5,.int .i64 q)]) (fun Si q=>q≤l.length∧n∉l.take q) (fun q=>l.length - q) (0) (by exact sba) (by exact sba) (⟨Nat.zero_le _,by simp⟩) ?_;rintro Si k hli hii;(try dsimp only at hii);dsimp only [List.cons_append,List.nil_append]
 obtain ⟨hk,hno⟩:=hii
 try dsimp only at hk hno
 repeat (first|(refine Walk ?_;intros)|refine JC.block ?_)
 refine JC.cond rfl (fun hc=>?_) (fun hc=>?_)
 ·have hk':=dlt hc
  obtain ⟨x,hx,_⟩:=drop_at hk'
  have hst:l.take (k+1)=l.take k++[x]:=by rw [List.take_add_one,hx];rfl
  repeat (first|(refine Walk ?_;intros)|refine JC.block ?_)
  refine JC.cond rfl (fun hf=>?_) (fun hf=>?_)
  ·have hf:=of_decide_eq_true hf
   have hm:n∈l:=hf▸List.mem_of_getElem? hx
   rw [decide_eq_true hm]
   repeat (first|(refine Walk ?_;intros)|refine JC.block ?_)
   (refine JX.ret1 Tryz.results19 (ResV.tmp rfl) (List.nil_sublist _) ?_)
   exact ⟨rfl,rfl⟩
  ·have hf:=of_decide_eq_false hf
   repeat (first|(refine Walk ?_;intros)|refine JC.block ?_)
   exact JX.roundF (k+1) (by exact lea) (⟨by omega,by (try dsimp only);rw [hst];simp only [List.mem_append,List.mem_singleton,not_or];exact ⟨hno,fun e=>hf e.symm⟩⟩) (by (try dsimp only);omega) rfl (by exact sba) (by exact sba)
 ·have hk':=dnlt hc
  rw [List.take_of_length_le hk'] at hno
  rw [decide_eq_false hno]
  repeat (first|(refine Walk ?_;intros)|refine JC.block ?_)
  (refine JX.ret1 Tryz.results19 (ResV.tmp rfl) (List.nil_sublist _) ?_)
  exact ⟨rfl,rfl⟩
end Go.Dr
namespace Go.Dr
open Go.Proofs
set_option maxRecDepth 20000
set_option maxHeartbeats 2000000
set_option linter.unusedSimpArgs false
set_option linter.unusedVariables false
def podW (x:UInt8) (r:Int):Value:=.agg (flatCells [.string ⟨#[x]⟩,.string ⟨#[]⟩,.agg (flatCells [.int .i64 r,.int .i64 0,.int .i64 0,.int .i64 0,.int .i64 0]).toArray,.slice none 0 0,.slice none 0 0,.slice none 0 0,.agg #[.string ⟨#[]⟩,.slice none 0 0],.agg #[.string ⟨#[]⟩,.slice none 0 0],.string ⟨#[]⟩]).toArray
def podWs (r:Int):List Value:=[podW 112 50,podW 113 30,podW 114 40,podW 116 r]
theorem V_node14 {S:SHeap} {n:UInt8} {c:Int} (hc:Rng c):rNode.V S (.agg (flatCells [.string ⟨#[n]⟩,.agg (flatCells [.int .i64 c,.int .i64 0,.int .i64 0,.int .i64 0,.int .i64 0]).toArray,.slice none 0 0,.slice none 0 0,.bool false,.bool false]).toArray) (nd14 n c):=
 ⟨[_,_,_,_,_,_,_,_,_,_],map_R (seq1 (R_str (sz1 _)) (seq5 (R_vec (by simp [Rng];exact hc)) (seq1 (V_nil.one rfl) (seq1 (V_nil.one rfl) (seq1 R_bool R_bool))))),rfl⟩
theorem V_pod14 {S:SHeap} {n:ByteArray} {x:UInt8} {r:Int} (hr:Rng r) (h:n=⟨#[x]⟩):rPod.V S (.agg (flatCells [.string n,.string ⟨#[]⟩,.agg (flatCells [.int .i64 r,.int .i64 0,.int .i64 0,.int .i64 0,.int .i64 0]).toArray,.slice none 0 0,.slice none 0 0,.slice none 0 0,.agg #[.string ⟨#[]⟩,.slice none 0 0],.agg #[.string ⟨#[]⟩,.slice none 0 0],.string ⟨#[]⟩]).toArray) (pd14 x r):=by
 subst h
 exact ⟨[_,_,_,_,_,_,_,_,_,_,_,_,_,_,_],map_R (seq1 (R_str (sz1 _)) (seq1 (R_str sz0) (seq5 (R_vec (by simp [Rng];exact hr)) (seq1 (V_nil.one rfl) (seq1 (V_nil.one rfl) (seq1 (V_nil.one rfl)
  (seq2 (map_R (seq1 (R_str sz0) (V_nil.one rfl))) (seq2 (map_R (seq1 (R_str sz0) (V_nil.one rfl))) (R_str sz0))))))))),rfl⟩
theorem V_podsW {S:SHeap} {r:Int} (hr:Rng r):allV rPod S (podWs r) (pods14 r):=⟨⟨V_pod14 (by simp [Rng]) rfl,nna⟩,⟨V_pod14 (by simp [Rng]) rfl,nna⟩,⟨V_pod14 (by simp [Rng]) rfl,nna⟩,⟨V_pod14 hr rfl,nna⟩,trivial⟩
def dat14:List (UInt8 × Int):=[(112,50),(113,30),(114,40),(116,20)]
theorem pqrt_at {k:Nat} {x:UInt8} {y:Int} (h:dat14[k]?=some (x,y)):(⟨#[112,113,114,116]⟩:ByteArray).extract ((k:Int)).toNat (((k:Int)+1)).toNat=⟨#[x]⟩:=by
 match k with
 | 0=>cases h;decide +kernel
 | 1=>cases h;decide +kernel
 | 2=>cases h;decide +kernel
 | 3=>cases h;decide +kernel
 | k+4=>simp [dat14] at h
theorem take60 {a b c d:Value} {tl:List Value} (h:(flatCells [a,b,c,d]).length=60):(cellsR [a,b,c,d] tl).toList.take 60=flatCells [a,b,c,d]:=by
 show (flatCells [a,b,c,d]++tl).take 60=_
 rw [List.take_append_of_le_length (by omega),List.take_of_length_le (by omega)]
def Chap14 (TP:TypeId) (w:Value) (S':SHeap) (M':List MEnt):Prop:=
 ∃ na pb cap tl,w=.agg #[.slice na 2 2,.slice (some ⟨pb,0,none⟩) 4 cap,.slice none 0 0] ∧
  M'=[.blk pb (.cells (cellsR (podWs 20) tl) TP (0,0))]∧4≤cap∧(rSlice 112 rNode).V S' (.slice na 2 2) nodes14
theorem q14_chapterM {S:SHeap}:Fn Tryz.prog 55 #[] S [] (Chap14 127):=by
 haveI:TyR Tryz.prog 23 rVal:=⟨(inferInstance:TyR Tryz.prog 23 (rSlice 240 rPod)).b⟩
 have hRaw:TyR Tryz.prog 26 rRaw3:=⟨(inferInstance:TyR Tryz.prog 26 rSnap).b⟩
 (refine Fn.enter (args:=[]) Tryz.func55 rfl Tryz.ntmps55 rfl ?_;intro w0)
 repeat (first|(refine Walk ?_;intros)|refine JC.block ?_)
 (refine JO.eff rfl rfl rfl (JEff.alloc rfl ?_);intro rb hrb)
 repeat (first|(refine Walk ?_;intros)|refine JC.block ?_)
 (refine JO.eff rfl rfl rfl (JEff.buildS (bt:=112) (rep:=rNode) (ys:=nodes14) rfl rfl ⟨⟨V_node14 (by simp [Rng]),nna⟩,⟨V_node14 (by simp [Rng]),nna⟩,trivial⟩ rfl rfl rfl (by decide) rfl ?_);intro S4 a4 hl4 hV4)
 repeat (first|(refine Walk ?_;intros)|refine JC.block ?_)
 (refine JO.eff rfl rfl rfl (JEff.alloc rfl ?_);intro sb hsb)
 repeat (first|(refine Walk ?_;intros)|refine JC.block ?_)
 refine JO.eff rfl rfl rfl (JEff.storeW (ht:=hRaw) rfl rfl V_raw3 nna (List.Perm.refl _) rfl (by intro l hl;cases hl) ?_)
 repeat (first|(refine Walk ?_;intros)|refine JC.block ?_)
 (refine JO.eff rfl rfl rfl (JEff.buildS (bt:=8) (rep:=rI64) (ys:=[(50:Int),30,40,20]) rfl rfl (⟨⟨V_num,nna⟩,⟨V_num,nna⟩,⟨V_num,nna⟩,⟨V_num,nna⟩,trivial⟩) rfl rfl rfl (by decide) rfl ?_);intro S5 a5 hl5 hV5)
 repeat (first|(refine Walk ?_;intros)|refine JC.block ?_)
 refine JC.newRow 127 (Rp.sz rPod) ?_
 refine JC.loopF (σ:=Nat × Option Addr × Nat × List Value) [(0,_),(1,_),(2,_)] (fun q=>[(3,.int .i64 q.1)])
  (fun q=>[.row w0.heap.size 127 (Rp.sz rPod) (.slice q.2.1 q.1 q.2.2.1) q.1 (flatCells q.2.2.2),.blk sb (.cells #[.slice a4 2 2,.slice q.2.1 q.1 q.2.2.1,.slice none 0 0] 26 (0,0)),.blk rb (.cells #[.slice none 0 0,.slice none 0 0,.slice none 0 0] 26 (0,0))])
  (fun Sk q=>q.1≤4∧allV rPod Sk q.2.2.2 ((pods14 20).take q.1)∧q.2.2.2=(podWs 20).take q.1) (fun q=>4 - q.1) (0,none,0,[]) (by exact sba) (by exact sba) (by rfl) ⟨Nat.zero_le _,trivial,rfl⟩ ?_
 rintro Sk ⟨k,ra,rc,vs⟩ hlk ⟨hk,hv1,hve⟩
 dsimp only at hk hv1 hve
 dsimp only [List.cons_append,List.nil_append]
 repeat (first|(refine Walk ?_;intros)|refine JC.block ?_)
 refine JC.cond rfl (fun hc=>?_) (fun hc=>?_)
 ·have hk':k < 4:=by have:=of_decide_eq_true hc;omega
  obtain ⟨⟨x,y⟩,hx⟩:∃ x,dat14[k]?=some x:=⟨_,List.getElem?_eq_getElem (by simpa [dat14] using hk')⟩
  have hst:(pods14 20).take (k+1)=(pods14 20).take k++[pd14 x y]:=by
   match k with
   | 0=>cases hx;rfl
   | 1=>cases hx;rfl
   | 2=>cases hx;rfl
   | 3=>cases hx;rfl
   | k+4=>omega
  have hst2:(podWs 20).take (k+1)=(podWs 20).take k++[podW x y]:=by
   match k with
   | 0=>cases hx;rfl
   | 1=>cases hx;rfl
   | 2=>cases hx;rfl
   | 3=>cases hx;rfl
   | k+4=>omega
  have hy:([(50:Int),30,40,20])[k]?=some y∧Rng y:=by
   match k with
   | 0=>cases hx;exact ⟨rfl,by simp [Rng]⟩
   | 1=>cases hx;exact ⟨rfl,by simp [Rng]⟩
   | 2=>cases hx;exact ⟨rfl,by simp [Rng]⟩
   | 3=>cases hx;exact ⟨rfl,by simp [Rng]⟩
   | k+4=>omega
  obtain ⟨hy1,hyr⟩:=hy
  have hP:=fun S=>V_pod14 (S:=S) hyr (pqrt_at hx)
  have hvl:=hv1.length
  have hpl:((pods14 20).take k).length=k:=by rw [List.length_take];show min k 4=k;omega
  rw [hpl] at hvl
  repeat (first|(refine Walk ?_;intros)|refine JC.block ?_)
  refine JC.drawTreeF 6 rfl [14] [1] [0,2,3,4,5,6,7,8,9,10,11] (.alt (ofL [1,12,13,14,15] .nil) (ofL [12,1,13,14,15] .nil)) Tryz_mixed (by decide +kernel) ?_
  refine JO.pure rfl rfl rfl (JPure.fieldP rfl rfl ?_)
  repeat (first|(refine Walk ?_;intros)|refine JC.block ?_)
  refine JO.pure rfl rfl rfl (JPure.sliceT rfl rfl rfl rfl (by omega) (by omega) (by show (k:Int)+1≤4;omega) ?_)
  repeat (first|(refine Walk ?_;intros)|refine JC.block ?_)
  refine JO.alt ?_ ?_
  ·refine JO.eff rfl rfl rfl (JEff.loadE (rVal) (x0:=.slice ra k rc) rfl (by (first|exact List.mem_cons_self|exact List.mem_cons_of_mem _ List.mem_cons_self|exact List.mem_cons_of_mem _ (List.mem_cons_of_mem _ List.mem_cons_self))) rfl ⟨rfl,rfl⟩ inferInstance rfl ?_)
   repeat (first|(refine Walk ?_;intros)|refine JC.block ?_)
   (refine JO.eff rfl rfl rfl (JEff.build (rep:=rPod) (ys:=[pd14 x y]) rfl rfl ⟨⟨hP _,nna⟩,trivial⟩ rfl rfl rfl rfl ?_);intro bb hbb hvv)
   repeat (first|(refine Walk ?_;intros)|refine JC.block ?_)
   (refine JO.eff rfl rfl rfl (JEff.appendL (rep:=rPod) rfl rfl rfl rfl (List.Perm.swap _ _ _) (by exact hvv.flat) (by intro c hc;exact flat_one (fun v hv=>(hvv.size v hv).2) c hc) (by unfold big;omega) (by unfold big;omega) (by first|exact rowT_ok|(intro l hl;cases hl)) rfl ?_);intro a2 c2;clear hvv hbb)
   repeat (first|(refine Walk ?_;intros)|refine JC.block ?_)
   refine JO.pure rfl rfl rfl (JPure.fieldP rfl rfl ?_)
   refine JO.eff rfl rfl rfl (JEff.store (rep:=rVal) (x0:=.slice a2 (k+1) c2) rfl rfl (V_val.2 ⟨rfl,rfl⟩) nna (List.Perm.swap _ _ _) (by simp [rVal]) (by intro l hl;cases hl) ?_)
   repeat (first|(refine Walk ?_;intros)|refine JC.block ?_)
   refine JX.perm (M':=[_,_,_]) (List.Perm.trans (List.Perm.swap _ _ _) (List.Perm.refl _)) ?_
   exact JX.roundF (k+1,a2,c2,vs++[_]) (by exact lea) ⟨by dsimp only;omega,by (try dsimp only);rw [hst];exact allV_add (by exact lea) hv1 (hP _) nna,by (try dsimp only);rw [hst2,hve];unfold podW;rw [pqrt_at hx]⟩ (by (try dsimp only);omega) (by simp [flat_append];rfl) (by exact sba) (by exact sba)
  ·(refine JO.eff rfl rfl rfl (JEff.build (rep:=rPod) (ys:=[pd14 x y]) rfl rfl ⟨⟨hP _,nna⟩,trivial⟩ rfl rfl rfl rfl ?_);intro bb hbb hvv)
   repeat (first|(refine Walk ?_;intros)|refine JC.block ?_)
   refine JO.eff rfl rfl rfl (JEff.loadE (rVal) (x0:=.slice ra k rc) rfl (by (first|exact List.mem_cons_self|exact List.mem_cons_of_mem _ List.mem_cons_self|exact List.mem_cons_of_mem _ (List.mem_cons_of_mem _ List.mem_cons_self))) rfl ⟨rfl,rfl⟩ inferInstance rfl ?_)
   repeat (first|(refine Walk ?_;intros)|refine JC.block ?_)
   (refine JO.eff rfl rfl rfl (JEff.appendL (rep:=rPod) rfl rfl rfl rfl (List.Perm.swap _ _ _) (by exact hvv.flat) (by intro c hc;exact flat_one (fun v hv=>(hvv.size v hv).2) c hc) (by unfold big;omega) (by unfold big;omega) (by first|exact rowT_ok|(intro l hl;cases hl)) rfl ?_);intro a2 c2;clear hvv hbb)
   repeat (first|(refine Walk ?_;intros)|refine JC.block ?_)
   refine JO.pure rfl rfl rfl (JPure.fieldP rfl rfl ?_)
   refine JO.eff rfl rfl rfl (JEff.store (rep:=rVal) (x0:=.slice a2 (k+1) c2) rfl rfl (V_val.2 ⟨rfl,rfl⟩) nna (List.Perm.swap _ _ _) (by simp [rVal]) (by intro l hl;cases hl) ?_)
   repeat (first|(refine Walk ?_;intros)|refine JC.block ?_)
   refine JX.perm (M':=[_,_,_]) (List.Perm.trans (List.Perm.swap _ _ _) (List.Perm.refl _)) ?_
   exact JX.roundF (k+1,a2,c2,vs++[_]) (by exact lea) ⟨by dsimp only;omega,by (try dsimp only);rw [hst];exact allV_add (by exact lea) hv1 (hP _) nna,by (try dsimp only);rw [hst2,hve];unfold podW;rw [pqrt_at hx]⟩ (by (try dsimp only);omega) (by simp [flat_append];rfl) (by exact sba) (by exact sba)
 ·obtain rfl:k=4:=by have:=of_decide_eq_false hc;omega
  obtain rfl:vs=podWs 20:=hve
  refine JC.rowBlkB (by decide) (fun pb tl ha hcap hsz=>?_)
  subst ha
  refine JC.blkNew rfl (fun hp0 hpb=>?_)
  refine JC.out (fun hout3=>?_)
  have hpk:=hout3 (.blk pb _) List.mem_cons_self pb rfl
  refine JC.freeze hpb (fun S9 hl9 hS9=>?_)
  refine JC.freeze hsb (fun S10 hl10 hS10=>?_)
  have hfin:PtrTo S10 ⟨sb,0,none⟩ rRaw3 (.slice a4 2 2,.slice (some ⟨pb,0,none⟩) 4 rc,.slice none 0 0):=
   cells_ptr (v:=.agg #[.slice a4 2 2,.slice (some ⟨pb,0,none⟩) 4 rc,.slice none 0 0]) hS10 ⟨[_],[_,_],rfl,⟨rfl,rfl⟩,[_],[_],rfl,⟨rfl,rfl⟩,rfl,rfl⟩
  repeat (first|(refine Walk ?_;intros)|refine JC.block ?_)
  have hwv:=(by assumption:rRaw3.V S10 _ (.slice a4 2 2,_,_))
  obtain ⟨cs,⟨_,_,rfl,⟨rfl,_⟩,_,_,rfl,⟨rfl,_⟩,⟨rfl,_⟩⟩,rfl⟩:=hwv
  refine JO.eff rfl rfl rfl (JEff.storeW (ht:=hRaw) rfl rfl V_raw3 nna (List.Perm.refl _) rfl (by intro l hl;cases hl) ?_)
  refine JO.out (fun hout4=>?_)
  have hrk:=hout4 (.blk rb _) List.mem_cons_self rb rfl
  refine JO.freeze hrb (by intro l hl;cases hl) (fun S11 hl11 hS11=>?_)
  repeat (first|(refine Walk ?_;intros)|refine JC.block ?_)
  have r2:=ne_none hrk ((show SHeap.le S9 S10 by exact lea) _ _ hS9)
  have h3:SHeap.le S4 (S11.del pb):=SHeap.le_del (show SHeap.le S4 S11 by exact lea) (none_le (show SHeap.le S4 Sk by exact lea) hpk)
  have hrf:=(SHeap.del_other r2.symm).trans hS11
  refine JX.thaw hp0 hpb ((show SHeap.le S9 S11 by exact lea) _ _ hS9) ?_
  refine JX.retCell (ht:=hRaw) (x:=(.slice a4 2 2,.slice (some ⟨pb,0,none⟩) 4 rc,.slice none 0 0)) Tryz.results55 rfl (cells_ptr (rep:=rRaw3) (v:=.agg #[.slice a4 2 2,.slice (some ⟨pb,0,none⟩) 4 rc,.slice none 0 0]) hrf ⟨[_],[_,_],rfl,⟨rfl,rfl⟩,[_],[_],rfl,⟨rfl,rfl⟩,rfl,rfl⟩) (List.Sublist.refl _) (fun w hw=>?_)
  obtain ⟨cs,⟨_,_,rfl,⟨rfl,_⟩,_,_,rfl,⟨rfl,_⟩,⟨rfl,_⟩⟩,rfl⟩:=hw
  exact ⟨_,pb,rc,tl,rfl,rfl,hcap,hV4.mono h3⟩
theorem chap14_V {S:SHeap} {na:Option Addr} {pb cap:Nat} {tl:List Value} {r:Int} {TP:TypeId} (hr:Rng r) (hcap:4≤cap) (hn:(rSlice 112 rNode).V S (.slice na 2 2) nodes14) (hp:S pb=some (.cells (cellsR (podWs r) tl) TP (0,0))):rSnap.V S (.agg #[.slice na 2 2,.slice (some ⟨pb,0,none⟩) 4 cap,.slice none 0 0]) (chap14 r):=
 V_snap (x:=chap14 r) hn (slice_of_block (SHeap.le.refl _) hp (rep:=rPod) (bt:=240) (xs:=(chap14 r).pods) (vs:=podWs r) (V_podsW hr) rfl hcap (by show 4*240≤big;decide) (by show 4≤big;decide) (take60 rfl)) V_nil
theorem q14_chapter {S:SHeap}:FnR Tryz.prog 55 #[] S (fun w S'=>rSnap.V S' w (chap14 20)):=by
 refine Fn.frozen q14_chapterM fun w S' M' hw=>?_
 obtain ⟨na,pb,cap,tl,rfl,rfl,hcap,hn⟩:=hw
 exact .inr ⟨pb,_,rfl,fun S'' hl hS=>chap14_V (by simp [Rng]) hcap (hn.mono hl) hS⟩
end Go.Dr
namespace Go.Dr
section
variable {C:Cx} {R:Rg} {Q:Post} {S:SHeap} {M:List MEnt} {e:Env} {rest:List Nat}
variable {d:Nat} {ty:TypeId} {pos:String} {aft:Array Edge} {g:Option (Nat × Bool)} {an:Bool}
theorem JPure.quo {t t':TypeId} {x y:Operand} {a b:Int} (hx:ev e x=some (.int .i64 a)) (hy:ev e y=some (.int .i64 b)) (hb:b≠0) (hr:Rng (a.tdiv b)) (hdN:Nat.blt d C.N=true) (k:JO C R rest Q S M ((d,.int .i64 (a.tdiv b))::e)) :
  JPure C R an ⟨some d,.binOp .quo t x y t',ty,pos,aft,g⟩ rest Q S M e:=
 JPure.of rfl hdN (fun a' w' h=>by
  have hwr:IntKind.i64.wrap (a.tdiv b)=a.tdiv b:=by rw [IntKind.wrap_i64];unfold Rng at hr;omega
  simp [execOp,h.eval hx,h.eval hy,eqGuard,binOp,Op.intDiv,hb,Sem.run_bind,Sem.run_pure,Result.andThen,hwr]) k
theorem JPure.neg {t:TypeId} {x:Operand} {a:Int} (hx:ev e x=some (.int .i64 a)) (hr:Rng (-a)) (hdN:Nat.blt d C.N=true) (k:JO C R rest Q S M ((d,.int .i64 (-a))::e)):JPure C R an ⟨some d,.unOp .neg t x,ty,pos,aft,g⟩ rest Q S M e:=
 JPure.of rfl hdN (fun a' w' h=>by
  have hwr:IntKind.i64.wrap (-a)=-a:=by rw [IntKind.wrap_i64];unfold Rng at hr;omega
  have e1:(Op.intArith .sub .i64 0 a).run C.P w'=.ok (.int .i64 (-a)) w':=by
   unfold Op.intArith
   rw [Int.zero_sub,hwr];rfl
  simp [execOp,h.eval hx,Op.unary,e1,Result.andThen]) k
end
end Go.Dr
namespace Go.Dr
open Go.Proofs
set_option maxRecDepth 20000
set_option maxHeartbeats 2000000
set_option linter.unusedSimpArgs false
set_option linter.unusedVariables false
theorem used_nn {s:Snap} (h:checkS s=0) {p:List Int} (hlen:p.length=s.pods.length) (n:Int) (k:Nat):0≤at0 (usedV s p n) k:=by
 obtain ⟨_,h2⟩:=used_fine h hlen n
 unfold at0
 rw [List.getD_eq_getElem?_getD]
 cases hz:(usedV s p n)[k]? with
 | none=>simp
 | some z=>exact (h2 z (List.mem_of_getElem? hz)).1
theorem left_no {s:Snap} {p:List Int} {node:Int} (h:¬ (checkP s p=0∧0≤node∧node < s.nodes.length)):leftV s p node=0:=by unfold leftV;rw [if_neg h]
theorem p7_Used_eq {S:SHeap} {u v:Value} {s:Snap} {p l:List Int} {node:Int} (h:usedP s p node=l) (hu:rSnap.V S u s) (hv:(rSlice 8 rI64).V S v p):FnV Tryz.prog 121 #[u,v,.int .i64 node] S (.agg (ints l)):=by
 have hh:=p7_Used node hu hv
 rw [h] at hh;exact hh
theorem s57_L14a {P K:Prop} (k:K) (h:Goal K→P:=by
 intro zk
 (first|refine Walk ?_|refine JC.block ?_|(refine JO.eff rfl rfl rfl (JEff.callV rfl (p7_Check (by exact vta) (by exact vta)) rfl ?_);intro zqa zqb)|(refine WBox ?_)|(refine WNew ?_)|(refine WPut ?_))
 (repeat (first|revert zqg|revert zqf|revert zqe|revert zqd|revert zqc|revert zqb|revert zqa))
 exact zk.k):P:=h ⟨k⟩
theorem p14_Left {S:SHeap} {u v:Value} {s:Snap} {p:List Int} (node:Int) (hu:rSnap.V S u s) (hv:(rSlice 8 rI64).V S v p):FnV Tryz.prog 57 #[u,v,.int .i64 node] S (.int .i64 (leftV s p node)):=by
 (refine Fn.enter (args:=[u,v,.int .i64 node]) Tryz.func57 rfl Tryz.ntmps57 rfl ?_;intro w0)
 repeat (refine s57_L14a ?_;intros)
 by_cases hc:checkP s p=0
 ·rw [decide_eq_true hc]
  repeat (refine s57_L14a ?_;intros)
  by_cases h0:node < 0
  ·rw [decide_eq_true h0,left_no (by omega)]
   repeat (refine s57_L14a ?_;intros)
   (refine JX.ret1 Tryz.results57 (ResV.tmp rfl) (List.nil_sublist _) ?_)
   exact ⟨rfl,rfl⟩
  rw [decide_eq_false h0]
  repeat (refine s57_L14a ?_;intros)
  by_cases h1:(s.nodes.length:Int)≤node
  ·rw [decide_eq_true h1,left_no (by omega)]
   repeat (refine s57_L14a ?_;intros)
   (refine JX.ret1 Tryz.results57 (ResV.tmp rfl) (List.nil_sublist _) ?_)
   exact ⟨rfl,rfl⟩
  rw [decide_eq_false h1]
  obtain ⟨hs,hlen,_⟩:=checkP_ok hc
  obtain ⟨x,hx⟩:∃ x,s.nodes[node.toNat]?=some x:=⟨_,List.getElem?_eq_getElem (by omega)⟩
  have hxm:=List.mem_of_getElem? hx
  have hxr:=shaped_cap (checkS_ok hs).1 x hxm
  obtain ⟨hul,hur⟩:=used_fine hs hlen node
  have hU:(rArr 5).V S (.agg (ints (usedV s p node))) (usedV s p node):=V_arr.2 ⟨rfl,hul,fun z hz=>by have:=hur z hz;unfold Qty at this;unfold Rng;omega⟩
  have hcap:capOf s node.toNat=x.cap:=by simp [capOf,hx]
  have hlv:leftV s p node=leftTo x.cap (usedV s p node) 5:=by unfold leftV;rw [if_pos ⟨hc,by omega,by omega⟩,hcap]
  have hlr:=leftTo_rng (cap:=x.cap) (used_nn hs hlen node)
  have hcl:=(snap_caps (by assumption:PtrTo _ _ rSnap s) x hxm).1
  have hus:usedP s p node=usedV s p node:=by unfold usedP;rw [if_pos (by simp [z0,hc];omega)]
  rw [hlv]
  repeat (first|(refine Walk ?_;intros)|refine JC.block ?_|(refine JO.eff rfl rfl rfl (JEff.callV rfl (p7_Used_eq hus (by exact vta) (by exact vta)) rfl ?_);intro _ _)|(refine JO.eff rfl rfl rfl (JEff.callV rfl (p7_Check (by exact vta) (by exact vta)) rfl ?_);intro _ _)|(refine WBox ?_;intros)|(refine WNew ?_;intros)|(refine WPut ?_;intros))
  obtain ⟨rfl,_,_⟩:=V_arr.1 (by assumption:(rArr 5).V _ _ x.cap)
  refine JC.loopF0 (σ:=Nat) [(7,_),(34,_)] (fun q=>[(6,.int .i64 (leftTo x.cap (usedV s p node) q)),(35,.int .i64 q)]) (fun Si q=>q≤5) (fun q=>5 - q) (0) (by exact sba) (by exact sba) (by omega) ?_;rintro Si k hli hii;(try dsimp only at hii);dsimp only [List.cons_append,List.nil_append]
  repeat (refine s57_L14a ?_;intros)
  refine JC.cond rfl (fun hc2=>?_) (fun hc2=>?_)
  ·have hk':=dlt5 hc2
   obtain ⟨z,hz⟩:∃ z,(usedV s p node)[k]?=some z:=⟨_,List.getElem?_eq_getElem (by omega)⟩
   obtain ⟨y,hy⟩:∃ y,x.cap[k]?=some y:=⟨_,List.getElem?_eq_getElem (by omega)⟩
   have hzr:=hur z (List.mem_of_getElem? hz)
   have hyr:=hxr y (List.mem_of_getElem? hy)
   have hz0:=at0_some hz
   have hy0:=at0_some hy
   have h5:=hlr k
   have hst:leftTo x.cap (usedV s p node) (k+1)=leftTo x.cap (usedV s p node) k+left1 y z:=by simp only [leftTo,hz0,hy0]
   have hl2:=left1_rng (c:=y) (u:=z) (by omega)
   unfold Qty at hzr hyr
   repeat (refine s57_L14a ?_;intros)
   refine JO.pure rfl rfl rfl (JPure.indexV rfl rfl rfl (by omega) (by omega) (by simpa using hy) ?_)
   repeat (refine s57_L14a ?_;intros)
   by_cases hy1:0 < y
   ·rw [decide_eq_true hy1]
    have hl1:left1 y z=(1000*max 0 (y - z)).tdiv y:=if_pos hy1
    repeat (refine s57_L14a ?_;intros)
    refine JO.pure rfl rfl rfl (JPure.quo rfl rfl (by omega) (by rw [← hl1];unfold Rng;omega) rfl ?_)
    rw [← hl1]
    repeat (refine s57_L14a ?_;intros)
    exact JX.roundF (k+1) (by exact lea) (by omega) (by (try dsimp only);omega) rfl (by (try dsimp only);rw [hst];exact sba) (by exact sba)
   ·rw [decide_eq_false hy1]
    have hl1:left1 y z=0:=if_neg hy1
    rw [hl1,Int.add_zero] at hst
    repeat (refine s57_L14a ?_;intros)
    exact JX.roundF (k+1) (by exact lea) (by omega) (by (try dsimp only);omega) rfl (by (try dsimp only);rw [hst];exact sba) (by exact sba)
  ·have hk':=dnlt5 hc2
   obtain rfl:k=5:=by omega
   repeat (refine s57_L14a ?_;intros)
   (refine JX.ret1 Tryz.results57 (ResV.tmp rfl) (List.nil_sublist _) ?_)
   exact ⟨rfl,rfl⟩
 ·rw [decide_eq_false hc,left_no (fun h=>hc h.1)]
  repeat (refine s57_L14a ?_;intros)
  (refine JX.ret1 Tryz.results57 (ResV.tmp rfl) (List.nil_sublist _) ?_)
  exact ⟨rfl,rfl⟩
end Go.Dr
namespace Go.Dr
open Go.Proofs
set_option maxRecDepth 20000
set_option maxHeartbeats 2000000
set_option linter.unusedSimpArgs false
set_option linter.unusedVariables false
def rSizes:Rp (Snap × List Int):=rSeq rSnap (rArr 5)
instance:Fld rSizes 0 rSnap Prod.fst:=⟨Part.first⟩
instance:Fld rSizes 3 (rArr 5) Prod.snd:=⟨Part.last rfl⟩
instance:TyR Tryz.prog 114 rSizes:=⟨by kernel_rfl⟩
def mostL (s:Snap):List Int:=(List.range 5).map (mostV s)
theorem mostL_at (s:Snap) {k:Nat} (h:k < 5):(mostL s)[k]?=some (mostV s k):=by
 unfold mostL
 rw [List.getElem?_map,List.getElem?_range h];rfl
theorem mostTo_rng {s:Snap} (h:checkS s=0) (k:Nat):∀ i:Nat,0≤mostTo s k i∧mostTo s k i≤Qty
 | 0=>by simp [mostTo,Qty]
 | i+1=>by
  have ih:=mostTo_rng h k i
  have h1:0≤at0 (capOf s i) k∧at0 (capOf s i) k≤Qty:=by
   unfold capOf at0
   cases hn:s.nodes[i]? with
   | none=>simp [Qty]
   | some x=>
    have hx:=shaped_cap (checkS_ok h).1 x (List.mem_of_getElem? hn)
    rw [List.getD_eq_getElem?_getD]
    cases hz:x.cap[k]? with
    | none=>simp [Qty,hz]
    | some z=>simpa [hz] using hx z (List.mem_of_getElem? hz)
  simp only [mostTo];omega
theorem size1_rng {m r:Int} (hr:0≤r∧r≤Qty):0≤size1 m r∧size1 m r≤1000*Qty:=by
 unfold size1
 split
 ·rename_i h
  have h0:0≤1000*r:=by omega
  rw [Int.tdiv_eq_ediv_of_nonneg h0]
  refine ⟨Int.ediv_nonneg h0 (by omega),?_⟩
  have:=Int.ediv_le_self m h0
  omega
 ·unfold Qty;omega
theorem shaped_req2 {s:Snap} (h:shapedB s=true):∀ x∈s.pods,∀ z∈x.req,0≤z∧z≤Qty:=by
 intro x hx
 unfold shapedB at h
 simp only [Bool.and_eq_true,List.all_eq_true] at h
 have h1:=h.2.1.2 x hx
 unfold podB at h1
 simp only [Bool.and_eq_true] at h1
 exact check_vec h1.1.1.2.1.1.1
theorem req_rng {s:Snap} (h:checkS s=0) (i k:Nat):0≤at0 (reqOf s i) k∧at0 (reqOf s i) k≤Qty:=by
 unfold reqOf at0
 cases hn:s.pods[i]? with
 | none=>simp [Qty]
 | some x=>
  have hx:=shaped_req2 (checkS_ok h).1 x (List.mem_of_getElem? hn)
  rw [List.getD_eq_getElem?_getD]
  cases hz:x.req[k]? with
  | none=>simp [Qty,hz]
  | some z=>simpa [hz] using hx z (List.mem_of_getElem? hz)
theorem sizeTo_rng {s:Snap} (h:checkS s=0) (pod:Int):∀ k:Nat,0≤sizeTo s pod k∧sizeTo s pod k≤1000*Qty
 | 0=>by simp [sizeTo,Qty]
 | k+1=>by
  have ih:=sizeTo_rng h pod k
  have:=size1_rng (m:=mostV s k) (req_rng h pod.toNat k)
  simp only [sizeTo];omega
theorem p14_small {S:SHeap} {xv:Value} {s:Snap} {pod:Int} (hx0:rSizes.V S xv (s,mostL s)) (hs:checkS s=0) (h0:0≤pod) (h1:pod < s.pods.length) (hrl:∀ x∈s.pods,x.req.length=5):FnV Tryz.prog 71 #[xv,.int .i64 pod] S (.int .i64 (-sizeV s pod)):=by
 obtain ⟨x,hx⟩:∃ x,s.pods[pod.toNat]?=some x:=⟨_,List.getElem?_eq_getElem (by omega)⟩
 have hxl:=hrl x (List.mem_of_getElem? hx)
 (refine Fn.enter (args:=[xv,.int .i64 pod]) Tryz.func71 rfl Tryz.ntmps71 rfl ?_;intro w0)
 repeat (first|(refine Walk ?_;intros)|refine JC.block ?_|(refine WBox ?_;intros))
 obtain ⟨rfl,hml,_⟩:=V_arr.1 (by assumption:(rArr 5).V _ _ (s,mostL s).2)
 refine JC.loopF0 (σ:=Nat) [(1,_),(2,_),(8,_)] (fun q=>[(4,.int .i64 (sizeTo s pod q)),(9,.int .i64 q)]) (fun Si q=>q≤5) (fun q=>5 - q) (0) (by exact sba) (by exact sba) (by omega) ?_;rintro Si k hli hii;(try dsimp only at hii);dsimp only [List.cons_append,List.nil_append]
 repeat (first|(refine Walk ?_;intros)|refine JC.block ?_|(refine WBox ?_;intros))
 refine JC.cond rfl (fun hc2=>?_) (fun hc2=>?_)
 ·have hk':=dlt5 hc2
  obtain ⟨y,hy⟩:∃ y,x.req[k]?=some y:=⟨_,List.getElem?_eq_getElem (by omega)⟩
  have hm:=mostL_at s hk'
  have hmr:=mostTo_rng hs k s.nodes.length
  have hy0:=at0_some hy
  have hrr:=req_rng hs pod.toNat k
  have hrq:reqOf s pod.toNat=x.req:=by simp [reqOf,hx]
  rw [hrq,hy0] at hrr
  have h5:=sizeTo_rng hs pod k
  have hst:sizeTo s pod (k+1)=max (sizeTo s pod k) (size1 (mostV s k) y):=by simp only [sizeTo,hrq,hy0]
  have hs1:=size1_rng (m:=mostV s k) hrr
  have hmv:mostV s k=mostTo s k s.nodes.length:=rfl
  unfold Qty at hmr hrr h5 hs1
  repeat (first|(refine Walk ?_;intros)|refine JC.block ?_|(refine WBox ?_;intros))
  refine JO.pure rfl rfl rfl (JPure.indexV rfl rfl rfl (by omega) (by omega) (by simpa using hm) ?_)
  repeat (first|(refine Walk ?_;intros)|refine JC.block ?_|(refine WBox ?_;intros))
  by_cases hy1:0 < mostV s k
  ·rw [decide_eq_true hy1]
   have hl1:size1 (mostV s k) y=(1000*y).tdiv (mostV s k):=if_pos hy1
   repeat (first|(refine Walk ?_;intros)|refine JC.block ?_|(refine WBox ?_;intros))
   refine JO.pure rfl rfl rfl (JPure.quo rfl rfl (by omega) (by rw [← hl1];unfold Rng;omega) rfl ?_)
   rw [← hl1]
   repeat (first|(refine Walk ?_;intros)|refine JC.block ?_|(refine WBox ?_;intros))
   exact JX.roundF (k+1) (by exact lea) (by omega) (by (try dsimp only);omega) rfl (by (try dsimp only);rw [hst];exact sba) (by exact sba)
  ·rw [decide_eq_false hy1]
   have hl1:size1 (mostV s k) y=0:=if_neg hy1
   rw [hl1,show max (sizeTo s pod k) 0=sizeTo s pod k by omega] at hst
   repeat (first|(refine Walk ?_;intros)|refine JC.block ?_|(refine WBox ?_;intros))
   exact JX.roundF (k+1) (by exact lea) (by omega) (by (try dsimp only);omega) rfl (by (try dsimp only);rw [hst];exact sba) (by exact sba)
 ·have hk':=dnlt5 hc2
  obtain rfl:k=5:=by omega
  have h5:=sizeTo_rng hs pod 5
  unfold Qty at h5
  repeat (first|(refine Walk ?_;intros)|refine JC.block ?_|(refine WBox ?_;intros))
  refine JO.pure rfl rfl rfl (JPure.neg rfl (by unfold Rng;omega) rfl ?_)
  repeat (first|(refine Walk ?_;intros)|refine JC.block ?_|(refine WBox ?_;intros))
  (refine JX.ret1 Tryz.results71 (ResV.tmp rfl) (List.nil_sublist _) ?_)
  exact ⟨rfl,rfl⟩
end Go.Dr
namespace Go.Proofs
open Go.Shelf
def Tryz.layDF_ren:Go.Shelf.Ren:=⟨fun|10=>67|6=>145|n=>n,fun|22=>27|23=>3|25=>103|3=>3|4=>4|0=>0|n=>n,fun|n=>n⟩
theorem Tryz.layDF:Go.Proofs.SlLaysH.n10 Tryz.prog Tryz.layDF_ren:={
 mixed:=by kernel_rfl
 f6:=⟨Tryz.f145.name,by decide,Tryz.func145.trans (congrArg some (by kernel_rfl))⟩
 f10:=⟨Tryz.f67.name,by decide,Tryz.func67.trans (congrArg some (by kernel_rfl))⟩
 t0:=Tryz.underlying0
 a0:=Tryz.isAgg0
 z0:=Tryz.sizeOf0
 v0:=Tryz.zeroValue0
 t3:=Tryz.underlying3
 a3:=Tryz.isAgg3
 z3:=Tryz.sizeOf3
 v3:=Tryz.zeroValue3
 t4:=Tryz.underlying4
 a4:=Tryz.isAgg4
 z4:=Tryz.sizeOf4
 v4:=Tryz.zeroValue4
 t22:=Tryz.underlying27
 a22:=Tryz.isAgg27
 z22:=Tryz.sizeOf27
 v22:=Tryz.zeroValue27
 a23:=Tryz.isAgg3
 z23:=Tryz.sizeOf3
 t25:=Tryz.underlying103
 a25:=Tryz.isAgg103
 z25:=Tryz.sizeOf103
 v25:=Tryz.zeroValue103 }
def Tryz.layCP_ren:Go.Shelf.Ren:=⟨fun|43=>70|n=>n,fun|22=>27|23=>3|3=>3|4=>4|0=>0|n=>n,fun|n=>n⟩
theorem Tryz.layCP:Go.Proofs.SlLaysE.n43 Tryz.prog Tryz.layCP_ren:={
 mixed:=by kernel_rfl
 f43:=⟨Tryz.f70.name,by decide,Tryz.func70.trans (congrArg some (by kernel_rfl))⟩
 t0:=Tryz.underlying0
 a0:=Tryz.isAgg0
 z0:=Tryz.sizeOf0
 v0:=Tryz.zeroValue0
 t3:=Tryz.underlying3
 a3:=Tryz.isAgg3
 z3:=Tryz.sizeOf3
 v3:=Tryz.zeroValue3
 t4:=Tryz.underlying4
 a4:=Tryz.isAgg4
 z4:=Tryz.sizeOf4
 v4:=Tryz.zeroValue4
 t22:=Tryz.underlying27
 a22:=Tryz.isAgg27
 z22:=Tryz.sizeOf27
 v22:=Tryz.zeroValue27
 a23:=Tryz.isAgg3
 z23:=Tryz.sizeOf3 }
end Go.Proofs
namespace Go.Dr
open Go.Proofs
theorem zeroInt:∀ w,(zeroValue 3).run Tryz.prog w=.ok (.int .i64 0) w:=fun w=>by
 have hz:Zero Tryz.prog 3 (.int .i64 0):=inferInstance
 obtain ⟨i,hi,hz'⟩:=Option.map_eq_some_iff.1 hz.h
 simp [zeroValue,typeInfo,hi,hz']
theorem p_DeleteFunc {S:SHeap} {b cap n:Nat} {E:TypeId} {tl:List Value} (xs:List Int) (p:Int→Bool) (g:Nat) (lb:Array Value) (eg:∀ args w,(callFunc g args).run Tryz.prog w=.ok (.enter g args) w) (hn:n=xs.length) (hb:n≤1000000) (hc:n≤cap)
  (hgive:∀ W,Agree S W→∀ x:Int,FnGives Tryz.prog g lb #[.int .i64 x] (.bool (p x)) W) :
  Fn Tryz.prog 67 #[.slice (some ⟨b,0,none⟩) n cap,.func (.func g) #[] lb] S [.blk b (.cells (intsT xs tl) E (0,0))]
   (fun v S' M'=>v=.slice (some ⟨b,0,none⟩) (xs.filter fun x=>!p x).length cap∧S'=S∧∃ tl',M'=[.blk b (.cells (intsT (xs.filter fun x=>!p x) tl') E (0,0))]):=by
 subst hn
 exact delFunc_fn Tryz.layDF p g lb eg zeroInt xs hb hc hgive
theorem p_CompactI {S:SHeap} {b cap n:Nat} {E:TypeId} {tl:List Value} (xs:List Int) (hn:n=xs.length) (hb:n≤1000000) (hc:n≤cap) :
  Fn Tryz.prog 70 #[.slice (some ⟨b,0,none⟩) n cap] S [.blk b (.cells (intsT xs tl) E (0,0))]
   (fun v S' M'=>v=.slice (some ⟨b,0,none⟩) (Lib.compact xs).length cap∧S'=S∧∃ tl',M'=[.blk b (.cells (intsT (Lib.compact xs) tl') E (0,0))]):=by
 subst hn
 exact compact_fn Tryz.layCP (EqlAt.intD _ _ _) (NeqAt.intD _ _ _) zeroInt xs hb hc
end Go.Dr
namespace Go.Dr
open Go.Proofs Go.RowKit Go.Lib
set_option maxRecDepth 20000
set_option maxHeartbeats 2000000
set_option linter.unusedSimpArgs false
set_option linter.unusedVariables false
theorem pods_cell {S:SHeap} {q:Addr} {s:Snap} (hq:PtrTo S q rSnap s):∃ a c,S.cell? (q.add 1)=some (.slice a s.pods.length c):=by
 obtain ⟨cs,hR,hcs⟩:=hq
 obtain ⟨c1,r1,rfl,h1,c2,r2,rfl,h2,h3⟩:=hR
 obtain ⟨a1,n1,k1,rfl,_⟩:=h1
 obtain ⟨a2,n2,k2,rfl,hl,_⟩:=h2
 subst hl
 exact ⟨a2,k2,hcs 1 _ rfl⟩
theorem p14_in {S:SHeap} {q:Addr} {s:Snap} (hq:PtrTo S q rSnap s):∀ W,Agree S W→∀ x:Int,FnGives Tryz.prog 68 #[.pointer (some q)] #[.int .i64 x] (.bool (decide (x < 0)||decide ((s.pods.length:Int)≤x))) W:=by
 intro W hg x
 obtain ⟨pa,pc,hc⟩:=pods_cell hq
 have e:q.add 1=⟨q.block,q.off+1,none⟩:=by simp [Addr.add]
 have hc:=hg.cell hc
 rw [e] at hc
 show Calls Tryz.prog 68 #[.int .i64 x,.pointer (some q)] W _
 generalize s.pods.length=n at hc ⊢
 go_enter Tryz.func68,Tryz.ntmps68
 go_wp2
 all_goals (go_ret;exact ⟨by simp_all,0,rfl⟩)
theorem p_CompactI0 {S:SHeap} (a:Option Addr) (c:Nat):FnV Tryz.prog 70 #[.slice a 0 c] S (.slice a 0 c):=by
 (refine Fn.enter (args:=[.slice a 0 c]) Tryz.func70 rfl Tryz.ntmps70 rfl ?_;intro w0)
 repeat (first|(refine Walk ?_;intros)|refine JC.block ?_|refine JC.drawN 6 rfl [0,1,2,3,4,5,6,7,8,9] [0,1,2,3,4,5,6,7,8,9] Tryz_mixed (by decide +kernel) ?_|refine JC.drawN 11 rfl [0,1,2,3,4,5,6,7,8,9] [0,1,2,3,4,5,6,7,8,9] Tryz_mixed (by decide +kernel) ?_)
 (refine JX.ret1 Tryz.results70 (ResV.tmp rfl) (List.nil_sublist _) ?_)
 exact ⟨rfl,rfl⟩
theorem p_IndexFunc0 {S:SHeap} (a:Option Addr) (c:Nat) (f:Value):FnV Tryz.prog 145 #[.slice a 0 c,f] S (.int .i64 (-1)):=by
 (refine Fn.enter (args:=[.slice a 0 c,f]) Tryz.func145 rfl Tryz.ntmps145 rfl ?_;intro w0)
 repeat (first|(refine Walk ?_;intros)|refine JC.block ?_)
 refine JC.loopF0 (σ:=Unit) [(0,_),(1,_),(7,_)] (fun q=>[(8,.int .i64 0)]) (fun Si q=>True) (fun q=>0) (()) (by exact sba) (by exact sba) (trivial) ?_;rintro Si k hli hii;(try dsimp only at hii);dsimp only [List.cons_append,List.nil_append]
 repeat (first|(refine Walk ?_;intros)|refine JC.block ?_)
 (refine JX.ret1 Tryz.results145 (ResV.tmp rfl) (List.nil_sublist _) ?_)
 exact ⟨rfl,rfl⟩
theorem p_DeleteFuncI0 {S:SHeap} (a:Option Addr) (c:Nat) (f:Value):FnV Tryz.prog 67 #[.slice a 0 c,f] S (.slice a 0 c):=by
 (refine Fn.enter (args:=[.slice a 0 c,f]) Tryz.func67 rfl Tryz.ntmps67 rfl ?_;intro w0)
 repeat (first|(refine Walk ?_;intros)|refine JC.block ?_|(refine JO.eff rfl rfl rfl (JEff.callV rfl (p_IndexFunc0 _ _ _) rfl ?_);intro _ _))
 (refine JX.ret1 Tryz.results67 (ResV.tmp rfl) (List.nil_sublist _) ?_)
 exact ⟨rfl,rfl⟩
end Go.Dr
namespace Go.Proofs
open Go.Shelf
def Tryz.lays189_ren:Go.Shelf.Ren:=⟨fun|189=>60|125=>124|257=>123|128=>188|129=>189|294=>179|295=>180|296=>181|297=>182|298=>183|299=>184|216=>185|300=>186|301=>187|328=>258|329=>259|330=>260|331=>261|332=>262|215=>216|343=>311|n=>n,fun|28=>27|3=>3|46=>157|0=>0|51=>240|53=>242|4=>4|183=>234|182=>233|131=>66|5=>5|9=>9|218=>283|222=>287|228=>319|229=>320|n=>n,fun|n=>n⟩
theorem Tryz.lays189:Go.Proofs.Lays.n189 Tryz.prog Tryz.lays189_ren:={
 mixed:=by kernel_rfl
 f125:=Tryz.func124.trans (congrArg some (by kernel_rfl))
 f128:=Tryz.func188.trans (congrArg some (by kernel_rfl))
 f129:=Tryz.func189.trans (congrArg some (by kernel_rfl))
 f189:=Tryz.func60.trans (congrArg some (by kernel_rfl))
 f215:=Tryz.func216.trans (congrArg some (by kernel_rfl))
 f216:=Tryz.func185.trans (congrArg some (by kernel_rfl))
 f257:=Tryz.func123.trans (congrArg some (by kernel_rfl))
 f294:=Tryz.func179.trans (congrArg some (by kernel_rfl))
 f295:=Tryz.func180.trans (congrArg some (by kernel_rfl))
 f296:=Tryz.func181.trans (congrArg some (by kernel_rfl))
 f297:=Tryz.func182.trans (congrArg some (by kernel_rfl))
 f298:=Tryz.func183.trans (congrArg some (by kernel_rfl))
 f299:=Tryz.func184.trans (congrArg some (by kernel_rfl))
 f300:=Tryz.func186.trans (congrArg some (by kernel_rfl))
 f301:=Tryz.func187.trans (congrArg some (by kernel_rfl))
 f328:=Tryz.func258.trans (congrArg some (by kernel_rfl))
 f329:=Tryz.func259.trans (congrArg some (by kernel_rfl))
 f330:=Tryz.func260.trans (congrArg some (by kernel_rfl))
 f331:=Tryz.func261.trans (congrArg some (by kernel_rfl))
 f332:=Tryz.func262.trans (congrArg some (by kernel_rfl))
 f343:=Tryz.func311.trans (congrArg some (by kernel_rfl))
 t0:=Tryz.underlying0
 a0:=Tryz.isAgg0
 z0:=Tryz.sizeOf0
 v0:=Tryz.zeroValue0
 t3:=Tryz.underlying3
 a3:=Tryz.isAgg3
 z3:=Tryz.sizeOf3
 v3:=Tryz.zeroValue3
 t4:=Tryz.underlying4
 a4:=Tryz.isAgg4
 z4:=Tryz.sizeOf4
 v4:=Tryz.zeroValue4
 t5:=Tryz.underlying5
 a5:=Tryz.isAgg5
 z5:=Tryz.sizeOf5
 v5:=Tryz.zeroValue5
 t9:=Tryz.underlying9
 a9:=Tryz.isAgg9
 z9:=Tryz.sizeOf9
 v9:=Tryz.zeroValue9
 t28:=Tryz.underlying27
 a28:=Tryz.isAgg27
 z28:=Tryz.sizeOf27
 v28:=Tryz.zeroValue27
 t46:=Tryz.underlying157
 a46:=Tryz.isAgg157
 z46:=Tryz.sizeOf157
 v46:=Tryz.zeroValue157
 t51:=Tryz.underlying240
 a51:=Tryz.isAgg240
 z51:=Tryz.sizeOf240
 v51:=Tryz.zeroValue240
 t53:=Tryz.underlying242
 a53:=Tryz.isAgg242
 z53:=Tryz.sizeOf242
 v53:=Tryz.zeroValue242
 t131:=Tryz.underlying66
 a131:=Tryz.isAgg66
 z131:=Tryz.sizeOf66
 v131:=Tryz.zeroValue66
 t182:=Tryz.underlying233
 a182:=Tryz.isAgg233
 z182:=Tryz.sizeOf233
 v182:=Tryz.zeroValue233
 t183:=Tryz.underlying234
 a183:=Tryz.isAgg234
 z183:=Tryz.sizeOf234
 v183:=Tryz.zeroValue234
 t218:=Tryz.underlying283
 a218:=Tryz.isAgg283
 z218:=Tryz.sizeOf283
 v218:=Tryz.zeroValue283
 t222:=Tryz.underlying287
 a222:=Tryz.isAgg287
 z222:=Tryz.sizeOf287
 v222:=Tryz.zeroValue287
 t228:=Tryz.underlying319
 a228:=Tryz.isAgg319
 z228:=Tryz.sizeOf319
 v228:=Tryz.zeroValue319
 t229:=Tryz.underlying320
 a229:=Tryz.isAgg320
 z229:=Tryz.sizeOf320
 v229:=Tryz.zeroValue320 }
def Tryz.laySF_ren:Go.Shelf.Ren:=⟨fun|6=>146|15=>124|14=>215|28=>188|29=>189|20=>276|21=>277|22=>278|23=>279|24=>280|25=>281|26=>282|27=>283|46=>315|47=>259|48=>260|49=>316|50=>317|57=>352|n=>n,fun|22=>27|24=>3|25=>64|3=>3|39=>157|0=>0|53=>240|55=>242|4=>4|46=>234|45=>233|50=>66|5=>5|9=>9|66=>283|70=>287|76=>319|77=>320|n=>n,fun|n=>n⟩
theorem Tryz.laySF:Go.Proofs.SlLaysF.n6 Tryz.prog Tryz.laySF_ren:={
 mixed:=by kernel_rfl
 f6:=⟨Tryz.f146.name,by decide,Tryz.func146.trans (congrArg some (by kernel_rfl))⟩
 f14:=⟨Tryz.f215.name,by decide,Tryz.func215.trans (congrArg some (by kernel_rfl))⟩
 f15:=Tryz.func124.trans (congrArg some (by kernel_rfl))
 f20:=⟨Tryz.f276.name,by decide,Tryz.func276.trans (congrArg some (by kernel_rfl))⟩
 f21:=⟨Tryz.f277.name,by decide,Tryz.func277.trans (congrArg some (by kernel_rfl))⟩
 f22:=⟨Tryz.f278.name,by decide,Tryz.func278.trans (congrArg some (by kernel_rfl))⟩
 f23:=⟨Tryz.f279.name,by decide,Tryz.func279.trans (congrArg some (by kernel_rfl))⟩
 f24:=⟨Tryz.f280.name,by decide,Tryz.func280.trans (congrArg some (by kernel_rfl))⟩
 f25:=⟨Tryz.f281.name,by decide,Tryz.func281.trans (congrArg some (by kernel_rfl))⟩
 f26:=⟨Tryz.f282.name,by decide,Tryz.func282.trans (congrArg some (by kernel_rfl))⟩
 f27:=⟨Tryz.f283.name,by decide,Tryz.func283.trans (congrArg some (by kernel_rfl))⟩
 f28:=Tryz.func188.trans (congrArg some (by kernel_rfl))
 f29:=Tryz.func189.trans (congrArg some (by kernel_rfl))
 f46:=⟨Tryz.f315.name,by decide,Tryz.func315.trans (congrArg some (by kernel_rfl))⟩
 f47:=Tryz.func259.trans (congrArg some (by kernel_rfl))
 f48:=Tryz.func260.trans (congrArg some (by kernel_rfl))
 f49:=⟨Tryz.f316.name,by decide,Tryz.func316.trans (congrArg some (by kernel_rfl))⟩
 f50:=⟨Tryz.f317.name,by decide,Tryz.func317.trans (congrArg some (by kernel_rfl))⟩
 f57:=⟨Tryz.f352.name,by decide,Tryz.func352.trans (congrArg some (by kernel_rfl))⟩
 t0:=Tryz.underlying0
 a0:=Tryz.isAgg0
 z0:=Tryz.sizeOf0
 v0:=Tryz.zeroValue0
 t3:=Tryz.underlying3
 a3:=Tryz.isAgg3
 z3:=Tryz.sizeOf3
 v3:=Tryz.zeroValue3
 t4:=Tryz.underlying4
 a4:=Tryz.isAgg4
 z4:=Tryz.sizeOf4
 v4:=Tryz.zeroValue4
 t5:=Tryz.underlying5
 a5:=Tryz.isAgg5
 z5:=Tryz.sizeOf5
 v5:=Tryz.zeroValue5
 t9:=Tryz.underlying9
 a9:=Tryz.isAgg9
 z9:=Tryz.sizeOf9
 v9:=Tryz.zeroValue9
 t22:=Tryz.underlying27
 a22:=Tryz.isAgg27
 z22:=Tryz.sizeOf27
 v22:=Tryz.zeroValue27
 a24:=Tryz.isAgg3
 z24:=Tryz.sizeOf3
 t25:=Tryz.underlying64
 a25:=Tryz.isAgg64
 z25:=Tryz.sizeOf64
 v25:=Tryz.zeroValue64
 t39:=Tryz.underlying157
 a39:=Tryz.isAgg157
 z39:=Tryz.sizeOf157
 v39:=Tryz.zeroValue157
 t45:=Tryz.underlying233
 a45:=Tryz.isAgg233
 z45:=Tryz.sizeOf233
 v45:=Tryz.zeroValue233
 t46:=Tryz.underlying234
 a46:=Tryz.isAgg234
 z46:=Tryz.sizeOf234
 v46:=Tryz.zeroValue234
 t50:=Tryz.underlying66
 a50:=Tryz.isAgg66
 z50:=Tryz.sizeOf66
 v50:=Tryz.zeroValue66
 t53:=Tryz.underlying240
 a53:=Tryz.isAgg240
 z53:=Tryz.sizeOf240
 v53:=Tryz.zeroValue240
 t55:=Tryz.underlying242
 a55:=Tryz.isAgg242
 z55:=Tryz.sizeOf242
 v55:=Tryz.zeroValue242
 t66:=Tryz.underlying283
 a66:=Tryz.isAgg283
 z66:=Tryz.sizeOf283
 v66:=Tryz.zeroValue283
 t70:=Tryz.underlying287
 a70:=Tryz.isAgg287
 z70:=Tryz.sizeOf287
 v70:=Tryz.zeroValue287
 t76:=Tryz.underlying319
 a76:=Tryz.isAgg319
 z76:=Tryz.sizeOf319
 v76:=Tryz.zeroValue319
 t77:=Tryz.underlying320
 a77:=Tryz.isAgg320
 z77:=Tryz.sizeOf320
 v77:=Tryz.zeroValue320 }
end Go.Proofs
namespace Go.Dr
open Go.Proofs
theorem p_SortInts {S:SHeap} {b cap n:Nat} {E:TypeId} {tl:List Value} (xs:List Int) (hn:n=xs.length) (hb:n≤1000000) :
  Fn Tryz.prog 60 #[.slice (some ⟨b,0,none⟩) n cap] S [.blk b (.cells (intsT xs tl) E (0,0))]
   (fun v S' M'=>v=.tuple #[]∧S'=S∧M'=[.blk b (.cells (intsT (xs.mergeSort fun x y=>decide (x≤y)) tl) E (0,0))]):=by
 subst hn
 exact sortInt_fn Tryz.lays189 xs (by omega)
theorem p_SortFunc {α:Type} [Inhabited α] (val:α→Int) (cf:α→α→Int) (hO:Sort.SWO (ltOf cf)) (hT:∀ x y,ltOf cf x y=false→ltOf cf y x=false→x=y) (g:Nat) (cb:Array Value)
  (eg:∀ args w,(callFunc g args).run Tryz.prog w=.ok (.enter g args) w) {S:SHeap} {b cap n:Nat} {E:TypeId} {tl:List Value} (d:List α) (hn:n=d.length) (hb:n≤1000000)
  (hcmp:∀ x y:α,FnV Tryz.prog g (#[.int .i64 (val x),.int .i64 (val y)]++cb) S (.int .i64 (cf x y))) :
  Fn Tryz.prog 146 #[.slice (some ⟨b,0,none⟩) n cap,.func (.func g) #[] cb] S [.blk b (.cells (intsT (d.map val) tl) E (0,0))]
   (fun v S' M'=>v=.tuple #[]∧S'=S∧M'=[.blk b (.cells (intsT ((d.mergeSort fun x y=>!(ltOf cf) y x).map val) tl) E (0,0))]):=by
 subst hn
 exact sortFunc_fn Tryz.laySF val cf hO hT g cb eg d (by omega) hcmp
theorem p_SortFunc0 {S:SHeap} (p:Option Addr) (cap:Nat) (fv:Value):FnV Tryz.prog 146 #[.slice p 0 cap,fv] S (.tuple #[]):=by
 intro w hg _ _ _
 refine (AnyF.slices_SortFunc_none { Tryz.laySF with } p cap fv w).mono ?_
 rintro e w' ⟨rfl,rfl⟩
 exact ⟨_,S,[],rfl,Wd.start0 hg,rfl,rfl⟩
theorem p_SortInts0 {S:SHeap} (p:Option Addr) (cap:Nat):FnV Tryz.prog 60 #[.slice p 0 cap] S (.tuple #[]):=by
 intro w hg _ _ _
 refine (Any.slices_Sort_int_none Tryz.lays189 p cap w).mono ?_
 rintro e w' ⟨rfl,rfl⟩
 exact ⟨_,S,[],rfl,Wd.start0 hg,rfl,rfl⟩
end Go.Dr
namespace Go.Dr
open Go.Proofs
set_option maxRecDepth 20000
set_option maxHeartbeats 2000000
set_option linter.unusedSimpArgs false
set_option linter.unusedVariables false
theorem p_isNaNi {S:SHeap} (a:Int):FnV Tryz.prog 216 #[.int .i64 a] S (.bool false):=by
 (refine Fn.enter (args:=[.int .i64 a]) Tryz.func216 rfl Tryz.ntmps216 rfl ?_;intro w0)
 repeat (first|(refine Walk ?_;intros)|refine JC.block ?_)
 rw [decide_eq_true (rfl:a=a)]
 (refine JX.ret1 Tryz.results216 (ResV.tmp rfl) (List.nil_sublist _) ?_)
 exact ⟨rfl,rfl⟩
theorem p_CompareI {S:SHeap} (a b:Int):FnV Tryz.prog 149 #[.int .i64 a,.int .i64 b] S (.int .i64 (cmpI a b)):=by
 (refine Fn.enter (args:=[.int .i64 a,.int .i64 b]) Tryz.func149 rfl Tryz.ntmps149 rfl ?_;intro w0)
 repeat (first|(refine Walk ?_;intros)|refine JC.block ?_|(refine JO.eff rfl rfl rfl (JEff.callV rfl (p_isNaNi _) rfl ?_);intro _ _))
 by_cases h1:a < b
 ·rw [decide_eq_true h1,show cmpI a b=-1 from if_pos h1]
  repeat (first|(refine Walk ?_;intros)|refine JC.block ?_|(refine JO.eff rfl rfl rfl (JEff.callV rfl (p_isNaNi _) rfl ?_);intro _ _))
  (refine JX.ret1 Tryz.results149 (ResV.tmp rfl) (List.nil_sublist _) ?_)
  exact ⟨rfl,rfl⟩
 ·rw [decide_eq_false h1]
  repeat (first|(refine Walk ?_;intros)|refine JC.block ?_|(refine JO.eff rfl rfl rfl (JEff.callV rfl (p_isNaNi _) rfl ?_);intro _ _))
  by_cases h2:b < a
  ·rw [decide_eq_true h2,show cmpI a b=1 by unfold cmpI;rw [if_neg h1,if_pos h2]]
   repeat (first|(refine Walk ?_;intros)|refine JC.block ?_|(refine JO.eff rfl rfl rfl (JEff.callV rfl (p_isNaNi _) rfl ?_);intro _ _))
   (refine JX.ret1 Tryz.results149 (ResV.tmp rfl) (List.nil_sublist _) ?_)
   exact ⟨rfl,rfl⟩
  ·rw [decide_eq_false h2,show cmpI a b=0 by unfold cmpI;rw [if_neg h1,if_neg h2]]
   repeat (first|(refine Walk ?_;intros)|refine JC.block ?_|(refine JO.eff rfl rfl rfl (JEff.callV rfl (p_isNaNi _) rfl ?_);intro _ _))
   (refine JX.ret1 Tryz.results149 (ResV.tmp rfl) (List.nil_sublist _) ?_)
   exact ⟨rfl,rfl⟩
theorem p14_by1 {S:SHeap} {q:Addr} {fs cs:Array Value} {g:FuncId} {key:Int→Int} (hp:PtrTo S q rVal (.func (.func g) fs cs)) (hE:Ent Tryz.prog g) (a b:Int)
  (ha:∀ S',S.le S'→FnV Tryz.prog g (fs.toList++[Value.int .i64 a]++cs.toList).toArray S' (.int .i64 (key a))) (hb:∀ S',S.le S'→FnV Tryz.prog g (fs.toList++[Value.int .i64 b]++cs.toList).toArray S' (.int .i64 (key b))) :
  FnV Tryz.prog 147 #[.int .i64 a,.int .i64 b,.pointer (some q)] S (.int .i64 (cfBy key a b)):=by
 haveI:TyR Tryz.prog 117 rVal:=⟨by kernel_rfl⟩
 (refine Fn.enter (args:=[.int .i64 a,.int .i64 b,.pointer (some q)]) Tryz.func147 rfl Tryz.ntmps147 rfl ?_;intro w0)
 repeat (first|(refine Walk ?_;intros)|refine JC.block ?_|refine JC.drawN 1 rfl [0,1,3,4,7,8,2,5,6,9,10,11,12] [0,1,12] Tryz_mixed (by decide +kernel) ?_|(refine JO.eff rfl rfl rfl (JEff.dynV rfl hE rfl (ha _ (by exact lea)) rfl ?_);intro _ _)|(refine JO.eff rfl rfl rfl (JEff.dynV rfl hE rfl (hb _ (by exact lea)) rfl ?_);intro _ _)|(refine JO.eff rfl rfl rfl (JEff.callV rfl (p_CompareI _ _) rfl ?_);intro _ _))
 (refine JO.eff rfl rfl rfl (JEff.buildS (bt:=8) (rep:=rI64) (ys:=[cmpI (key a) (key b),cmpI a b]) rfl rfl (⟨⟨V_i64.2 ⟨rfl,cmpI_rng _ _⟩,nna⟩,⟨V_i64.2 ⟨rfl,cmpI_rng _ _⟩,nna⟩,trivial⟩) rfl rfl rfl (by decide) rfl ?_);intro S9 a9 hl9 hV9)
 repeat (first|(refine Walk ?_;intros)|refine JC.block ?_|refine JC.drawN 1 rfl [0,1,3,4,7,8,2,5,6,9,10,11,12] [0,1,12] Tryz_mixed (by decide +kernel) ?_|(refine JO.eff rfl rfl rfl (JEff.callV rfl (p_Or2 hV9) rfl ?_);intro _ _)|(refine JO.eff rfl rfl rfl (JEff.callV rfl (p_CompareI _ _) rfl ?_);intro _ _))
 (refine JX.ret1 Tryz.results147 (ResV.tmp rfl) (List.nil_sublist _) ?_)
 exact ⟨rfl,rfl⟩
theorem p14_by {S:SHeap} {b cap n:Nat} {E:TypeId} {tl:List Value} {xs:List Int} {D:Int→Prop} {fs cs:Array Value} {g:FuncId} {key:Int→Int} (hE:Ent Tryz.prog g) (hn:n=xs.length) (hb:n≤1000000) (h0:xs≠[]) (hD:∀ x∈xs,D x)
  (hk:∀ x,D x→∀ S',S.le S'→FnV Tryz.prog g (fs.toList++[Value.int .i64 x]++cs.toList).toArray S' (.int .i64 (key x))) :
  Fn Tryz.prog 69 #[.slice (some ⟨b,0,none⟩) n cap,.func (.func g) fs cs] S [.blk b (.cells (intsT xs tl) E (0,0))]
   (fun v S' M'=>v=.slice (some ⟨b,0,none⟩) n cap∧M'=[.blk b (.cells (intsT (sortBy key xs) tl) E (0,0))]):=by
 haveI:TyR Tryz.prog 117 rVal:=⟨by kernel_rfl⟩
 obtain ⟨d,rfl⟩:∃ d:List (NumD D),d.map Subtype.val=xs:=⟨xs.pmap Subtype.mk hD,by rw [List.map_pmap];simp⟩
 obtain ⟨x0,_⟩:=List.exists_mem_of_ne_nil d (fun h=>h0 (by rw [h];rfl))
 haveI:Inhabited (NumD D):=⟨x0⟩
 have hnd:n=d.length:=by rw [hn,List.length_map]
 (refine Fn.enter (args:=[.slice (some ⟨b,0,none⟩) n cap,.func (.func g) fs cs]) Tryz.func69 rfl Tryz.ntmps69 rfl ?_;intro w0)
 repeat (first|(refine Walk ?_;intros)|refine JC.block ?_|(refine WBox ?_;intros))
 have hq:=(by assumption:PtrTo _ _ rVal (.func (.func g) fs cs))
 have hle:=(by assumption:SHeap.le S _)
 refine JO.eff rfl rfl rfl (JEff.callM (Mc:=[.blk b (.cells (intsT (d.map Subtype.val) tl) E (0,0))]) (Mr:=[]) rfl (List.Perm.refl _) (mayAll rfl) (p_SortFunc (α:=NumD D) Subtype.val (fun x y=>cfBy key x.1 y.1) (swoBy D key) (totBy D key) 147 #[.pointer (some _)] (enters_of Tryz.func147 (by kernel_rfl) rfl) d hnd hb (fun x y=>p14_by1 hq hE x.1 y.1 (fun S' h=>hk x.1 x.2 S' (hle.trans h)) (fun S' h=>hk y.1 y.2 S' (hle.trans h)))) rfl ?_)
 intro v S3 M3 hl3 hw
 obtain ⟨rfl,rfl,rfl⟩:=hw
 dsimp only [List.cons_append,List.nil_append]
 repeat (first|(refine Walk ?_;intros)|refine JC.block ?_|(refine WBox ?_;intros))
 refine JX.ret1 Tryz.results69 (ResV.tmp rfl) (List.Sublist.refl _) ?_
 exact ⟨rfl,by rw [sortBy_map]⟩
theorem p14_by0 {S:SHeap} {a:Option Addr} {c:Nat} {fs cs:Array Value} {g:FuncId}:FnV Tryz.prog 69 #[.slice a 0 c,.func (.func g) fs cs] S (.slice a 0 c):=by
 haveI:TyR Tryz.prog 117 rVal:=⟨by kernel_rfl⟩
 (refine Fn.enter (args:=[.slice a 0 c,.func (.func g) fs cs]) Tryz.func69 rfl Tryz.ntmps69 rfl ?_;intro w0)
 repeat (first|(refine Walk ?_;intros)|refine JC.block ?_|(refine JO.eff rfl rfl rfl (JEff.callV rfl (p_SortFunc0 _ _ _) rfl ?_);intro _ _)|(refine WBox ?_;intros))
 (refine JX.ret1 Tryz.results69 (ResV.tmp rfl) (List.nil_sublist _) ?_)
 exact ⟨rfl,rfl⟩
end Go.Dr
namespace Go.Dr
set_option linter.unusedSimpArgs false
set_option linter.unusedVariables false
theorem run_forIn_unit {P:Program} {α:Type} {g:α→PUnit→Sem (ForInStep PUnit)} {w:World}:∀ (l:List α),(∀ x∈l,(g x ⟨⟩).run P w=.ok (.yield ⟨⟩) w)→(forIn l PUnit.unit g).run P w=.ok ⟨⟩ w
 | [],_=>by simp [Sem.run_pure]
 | x::l,h=>by
  simp only [List.forIn_cons,Sem.run_bind,h x (by simp),Result.andThen_ok]
  exact run_forIn_unit l (fun y hy=>h y (by simp [hy]))
theorem flat_field {P:Program} {w:World}:∀ (fs:List Field) (ks:List Kd) (pre xs:List Value),flatB P pre.length fs ks=true→fits ks xs=true →
  ∀ f∈fs,∃ d v,P.underlying f.type=some d∧MapKept.IsKey d v∧(part f.type (pre++xs).toArray f.offset).run P w=.ok v w
 | [],_,_,_,_,_=>by intro f hf;cases hf
 | _::_,[],_,_,h,_=>by cases h
 | f0::fs,k::ks,pre,xs,h,h1=>by
  simp only [flatB,Bool.and_eq_true,Bool.not_eq_true'] at h
  obtain ⟨⟨⟨hn,ho⟩,hk⟩,hr⟩:=h
  have ho:=Nat.eq_of_beq_eq_true ho
  have hd:=kd_desc hk
  have ha:isAggD (kdD k)=false:=by cases k<;>rfl
  obtain ⟨x,xs',rfl,hx,h1'⟩:∃ x xs',xs=x::xs'∧MapKept.IsKey (kdD k) x∧fits ks xs'=true:=by
   cases k with
   | int=>match xs,h1 with|.int .i64 a::xs',h1=>exact ⟨_,_,rfl,by simp [kdD,MapKept.IsKey],h1⟩
   | str=>match xs,h1 with|.string a::xs',h1=>exact ⟨_,_,rfl,by simp [kdD,MapKept.IsKey],h1⟩
   | bool=>match xs,h1 with|.bool a::xs',h1=>exact ⟨_,_,rfl,by simp [kdD,MapKept.IsKey],h1⟩
  intro f hf
  rcases List.mem_cons.1 hf with rfl|hf
  ·exact ⟨_,x,hd,hx,by rw [ho];exact run_part1 hd ha pre x xs' w⟩
  ·have:=flat_field (w:=w) fs ks (pre++[x]) xs' (by simpa using hr) h1' f hf
   simpa using this
theorem check_flat {P:Program} {T:TypeId} {ks:List Kd} (h:FlatS P T ks) {xs:List Value} (hx:fits ks xs=true) (e:Bool) (w:World):(Instr.checkKey e 10000 T (.agg xs.toArray)).run P w=.ok () w:=by
 have hb:=h.b
 unfold flatT at hb
 split at hb
 ·rename_i fs hu
  have hfl:=flat_field (w:=w) fs.toList ks [] xs hb hx
  unfold Instr.checkKey
  simp only [Sem.run_bind,run_underlying hu,Result.andThen_ok]
  rw [← Array.forIn_toList]
  have:=run_forIn_unit (P:=P) (w:=w) (g:=fun (f:Field) (r:PUnit)=>(do
   if f.name ≠ "_" then Instr.checkKey e 9999 f.type (← part f.type xs.toArray f.offset)
   pure (ForInStep.yield PUnit.unit):Sem (ForInStep PUnit))) fs.toList (fun f hf=>by
    obtain ⟨d,v,hd,hv,hp⟩:=hfl f hf
    simp only [List.nil_append] at hp
    by_cases hn : f.name ≠ "_"
    ·simp only [if_pos hn,Sem.run_bind,hp,Result.andThen_ok,MapKept.run_checkKey hd hv,Sem.run_pure]
    ·simp only [if_neg hn,Sem.run_bind,Result.andThen_ok,Sem.run_pure])
  simp [Sem.run_bind,Sem.run_pure,Result.andThen_ok] at this ⊢
  rw [this]
  rfl
 ·cases hb
theorem find_asking {κ:Type} [DecidableEq κ] {P:Program} {T:TypeId} {ks:List Kd} (h:FlatS P T ks) {ls:κ→List Value} (hf:∀ k,fits ks (ls k)=true) (hc:∀ a b,ceqs (ls a) (ls b)=decide (a=b)) (s:κ) (w:World):∀ (l:List (κ × Value)) (n i:Nat),
  ((Instr.findAsking T (.agg (ls s).toArray) (esK (fun k=>.agg (ls k).toArray) n l) i).run P w=.ok none w∧∀ p∈l,p.1≠s) ∨
  ∃ j p,(Instr.findAsking T (.agg (ls s).toArray) (esK (fun k=>.agg (ls k).toArray) n l) i).run P w=.ok (some (i+j,p.2)) w∧l[j]?=some p∧p.1=s
 | [],n,i=>.inl ⟨by simp [Instr.findAsking,esK,Sem.run_pure],by intro p hp;cases hp⟩
 | (k,v)::l,n,i=>by
  have heq:(Op.equal T (.agg (ls s).toArray) (.agg (ls k).toArray)).run P w=.ok (decide (s=k)) w:=by
   have:=run_eq_flat h (hf s) (hf k) w
   rw [hc] at this
   exact this
  by_cases hs:s=k
  ·refine .inr ⟨0,(k,v),?_,rfl,hs.symm⟩
   simp only [esK,Instr.findAsking,Sem.run_bind,heq,Result.andThen_ok,decide_eq_true hs,if_true,Sem.run_pure]
   rfl
  ·have hstep:(Instr.findAsking T (.agg (ls s).toArray) (esK (fun k=>.agg (ls k).toArray) n ((k,v)::l)) i).run P w=(Instr.findAsking T (.agg (ls s).toArray) (esK (fun k=>.agg (ls k).toArray) (n+1) l) (i+1)).run P w:=by
    simp only [esK,Instr.findAsking,Sem.run_bind,heq,Result.andThen_ok,decide_eq_false hs,Bool.false_eq_true,if_false]
   rw [hstep]
   rcases find_asking h hf hc s w l (n+1) (i+1) with ⟨h1,h2⟩|⟨j,p,h1,h2,h3⟩
   ·refine .inl ⟨h1,fun p hp=>?_⟩
    rcases List.mem_cons.1 hp with rfl|hp
    ·exact fun e=>hs e.symm
    ·exact h2 p hp
   ·exact .inr ⟨j+1,p,by rw [h1];congr 3;omega,by simpa using h2,h3⟩
theorem sameBits_flat:∀ (ks:List Kd) (xs:List Value),fits ks xs=true→(xs.zip xs).all (fun (x,y)=>Instr.sameBits 9999 x y)=true
 | [],[],_=>rfl
 | .int::ks,.int .i64 a::vs,h=>by simp only [List.zip_cons_cons,List.all_cons,sameBits_flat ks vs h,Bool.and_true];simp [Instr.sameBits]
 | .str::ks,.string a::vs,h=>by simp only [List.zip_cons_cons,List.all_cons,sameBits_flat ks vs h,Bool.and_true];simp [Instr.sameBits,MapKept.bytes_beq]
 | .bool::ks,.bool a::vs,h=>by simp only [List.zip_cons_cons,List.all_cons,sameBits_flat ks vs h,Bool.and_true];simp [Instr.sameBits]
theorem key_flat {κ:Type} [DecidableEq κ] {P:Program} {T:TypeId} {ks:List Kd} (h:FlatS P T ks) {ls:κ→List Value} (hf:∀ k,fits ks (ls k)=true) (hc:∀ a b,ceqs (ls a) (ls b)=decide (a=b)):Key P T (fun k=>.agg (ls k).toArray) where
 check e k w:=check_flat h (hf k) e w
 find k l w:=by
  have hb:=h.b
  unfold flatT at hb
  split at hb
  ·rename_i fs hu
   have hask:(Instr.findKey T (.agg (ls k).toArray) (esK (fun k=>.agg (ls k).toArray) 0 l)).run P w=(Instr.findAsking T (.agg (ls k).toArray) (esK (fun k=>.agg (ls k).toArray) 0 l) 0).run P w:=by
    cases l with
    | nil=>simp [Instr.findKey,run_underlying hu,Result.andThen,esK,Instr.findNow,Instr.findAsking,Sem.run_pure]
    | cons p l=>simp [Instr.findKey,run_underlying hu,Result.andThen,esK,Instr.findNow,Instr.sameNow]
   rw [hask]
   rcases find_asking h hf hc k w l 0 0 with h1|⟨j,p,h1,h2⟩
   ·exact .inl h1
   ·exact .inr ⟨j,p,by rw [h1];simp,h2⟩
  ·cases hb
 stays k w:=by
  have:Instr.sameBits 10000 (.agg (ls k).toArray) (.agg (ls k).toArray)=true:=by
   simp only [Instr.sameBits,sameBits_flat ks _ (hf k)]
   simp
  simp [Instr.keyThatStays,this,Sem.run_pure]
section
variable {C:Cx} {R:Rg} {Q:Post} {S S' S1:SHeap} {M M':List MEnt} {e e':Env} {rest:List Nat}
variable {d:Nat} {ty:TypeId} {pos:String} {aft:Array Edge} {g:Option (Nat × Bool)} {an:Bool}
end
end Go.Dr
namespace Go.Dr
open Go.Proofs
set_option maxRecDepth 20000
set_option maxHeartbeats 2000000
set_option linter.unusedSimpArgs false
set_option linter.unusedVariables false
def nm (c:Clause):Step:=⟨c.kind,c.a,c.b⟩
def kvN (x:Step):Value:=.agg [Value.int .i64 x.kind,.int .i64 x.pod,.int .i64 x.node].toArray
instance:TyR Tryz.prog 110 rStep:=⟨by kernel_rfl⟩
instance:FlatS Tryz.prog 110 [.int,.int,.int]:=⟨by kernel_rfl,by kernel_rfl,by kernel_rfl⟩
instance:Key Tryz.prog 110 kvN:=key_flat (κ:=Step) (ls:=fun x=>[Value.int .i64 x.kind,.int .i64 x.pod,.int .i64 x.node]) (inferInstance:FlatS Tryz.prog 110 [.int,.int,.int]) (fun _=>rfl) (fun a b=>by cases a;cases b;rw [Bool.eq_iff_iff];simp [ceqs])
theorem nm_eq {c d:Clause}:nm c=nm d↔nameC c=nameC d:=by cases c;cases d;simp [nm,nameC]
theorem p9_of {S:SHeap} {u:Value} {x:Clause} (hu:rClause.V S u x):FnV Tryz.prog 66 #[u] S (kvN (nm x)):=by
 obtain ⟨rfl,h1,h2,h3,h4⟩:=V_clause.1 hu
 (refine Fn.enter (args:=[.agg #[.int .i64 x.kind,.int .i64 x.a,.int .i64 x.b,.int .i64 x.by_]]) Tryz.func66 rfl Tryz.ntmps66 rfl ?_;intro w0)
 repeat (first|(refine Walk ?_;intros)|refine JC.block ?_|(refine WBox ?_;intros))
 (refine JO.eff rfl rfl rfl (JEff.alloc rfl ?_);intro cb hcb)
 repeat (first|(refine Walk ?_;intros)|refine JC.block ?_|(refine WBox ?_;intros))
 have hV:∀ S,rStep.V S (kvN (nm x)) (nm x):=fun S=>V_step.2 ⟨rfl,h1,h2,h3⟩
 refine JO.eff rfl rfl rfl (JEff.storeW rfl rfl (hV _) nna (List.Perm.refl _) rfl (by intro l hl;cases hl) ?_)
 refine JO.freezeV (hV _) nna hcb (by intro l hl;cases hl) ?_;intro S2 hl2 hpo
 repeat (first|(refine Walk ?_;intros)|refine JC.block ?_|(refine WBox ?_;intros))
 exact JX.retCell Tryz.results66 rfl hpo (List.nil_sublist _) (fun w hw=>⟨rfl,by obtain ⟨rfl,_⟩:=V_step.1 hw;rfl⟩)
def bys (l:List Clause):List (Step × Value):=l.map (fun c=>(nm c,Value.int .i64 c.by_))
theorem bys_step {l:List Clause} {k:Nat} {x:Clause} (hx:l[k]?=some x):bys (l.take (k+1))=bys (l.take k)++[(nm x,Value.int .i64 x.by_)]:=by
 unfold bys
 rw [List.take_add_one,hx];simp
theorem bys_new {l:List Clause} (h:l.Pairwise (fun c d=>nameC c≠nameC d)) {k:Nat} {x:Clause} (hx:l[k]?=some x):∀ p∈bys (l.take k),p.1≠nm x:=by
 intro p hp e
 obtain ⟨c,hc,rfl⟩:=List.mem_map.1 hp
 obtain ⟨i,hi,hci⟩:=List.mem_take_iff_getElem.1 hc
 obtain ⟨hk,rfl⟩:=List.getElem?_eq_some_iff.1 hx
 exact List.pairwise_iff_getElem.1 h i k (by omega) hk (by omega) (by rw [hci];exact nm_eq.1 e)
theorem bys_distinct {l:List Clause} (h:l.Pairwise (fun c d=>nameC c≠nameC d)):DistinctK (bys l):=by
 intro i j p q hi hj hpq
 unfold bys at hi hj
 rw [List.getElem?_map] at hi hj
 obtain ⟨c,hc,rfl⟩:=Option.map_eq_some_iff.1 hi
 obtain ⟨d,hd,rfl⟩:=Option.map_eq_some_iff.1 hj
 obtain ⟨h1,rfl⟩:=List.getElem?_eq_some_iff.1 hc
 obtain ⟨h2,rfl⟩:=List.getElem?_eq_some_iff.1 hd
 have hpq:=nm_eq.1 hpq
 rcases Nat.lt_trichotomy i j with a|a|a
 ·exact absurd hpq (List.pairwise_iff_getElem.1 h i j h1 h2 a)
 ·exact a
 ·exact absurd hpq.symm (List.pairwise_iff_getElem.1 h j i h2 h1 a)
def LookAns (s:Snap) (p:List Int) (w:Value) (S':SHeap):Prop:=
 (¬ checkP s p=0∧w=.tuple #[.map none,.slice none 0 0,.int .i64 (checkP s p)]) ∨
 (checkP s p=0∧∃ b a c,w=.tuple #[.map (some b),.slice a (allL s p).length c,.int .i64 0]∧S' b=some (mapK kvN (bys (allL s p)))∧(rSlice 32 rClause).V S' (.slice a (allL s p).length c) (allL s p))
theorem s64_L9a {P K:Prop} (k:K) (h:Goal K→P:=by
 intro zk
 (first|refine Walk ?_|refine JC.block ?_|refine JC.drawN 8 rfl [0,1,3,4,2,5] [1] Tryz_mixed (by decide +kernel) ?_|(refine JO.eff rfl rfl rfl (JEff.callV rfl (p9_of (by exact vta)) rfl ?_);intro zqa zqb)|(refine JO.eff rfl rfl rfl (JEff.callLE rfl (p8_All (by exact vta) (by exact vta)) rfl ?_);intro zqa zqb zqc zqd zqe zqf)|(refine WBox ?_)|(refine WNew ?_)|(refine WPut ?_))
 (repeat (first|revert zqg|revert zqf|revert zqe|revert zqd|revert zqc|revert zqb|revert zqa))
 exact zk.k):P:=h ⟨k⟩
theorem p9_look {S:SHeap} {u v:Value} {s:Snap} {p:List Int} (hu:rSnap.V S u s) (hv:(rSlice 8 rI64).V S v p):FnR Tryz.prog 64 #[u,v] S (LookAns s p):=by
 (refine Fn.enter (args:=[u,v]) Tryz.func64 rfl Tryz.ntmps64 rfl ?_;intro w0)
 repeat (refine s64_L9a ?_;intros)
 refine JC.cond rfl (fun h1=>?_) (fun h1=>?_)
 ·have h1:¬ checkP s p=0:=by simpa using h1
  repeat (refine s64_L9a ?_;intros)
  (refine JX.ret3 Tryz.results64 (ResV.tmp rfl) (ResV.tmp rfl) (ResV.tmp rfl) (List.nil_sublist _) ?_)
  exact ⟨rfl,.inl ⟨h1,rfl⟩⟩
 have hok:checkP s p=0:=by simpa using h1
 have hnames:=allL_names s p
 obtain ⟨hLl,hLr⟩:=allL_rng s p
 generalize hL:allL s p=L at *
 have hb32:=slice_bytes (by assumption:(rSlice 32 rClause).V _ _ L)
 unfold big at hb32
 repeat (refine s64_L9a ?_;intros)
 refine JO.eff rfl rfl rfl (JEff.makeMapK kvN rfl ?_);intro mb hmb
 repeat (refine s64_L9a ?_;intros)
 refine JC.loopF (σ:=Nat) [(7,_),(9,_),(22,_),(23,_)] (fun q=>[(24,.int .i64 (q:Int))]) (fun q=>[.blk mb (mapK kvN (bys (L.take q)))]) (fun Si q=>q≤L.length) (fun q=>L.length - q) (0) (by exact sba) (by exact sba) rfl (Nat.zero_le _) ?_;rintro Si k hli hii;(try dsimp only at hii);dsimp only [List.cons_append,List.nil_append]
 repeat (refine s64_L9a ?_;intros)
 refine JC.cond rfl (fun hc=>?_) (fun hc=>?_)
 ·have hk':=dlt hc
  obtain ⟨x,hx,_⟩:=drop_at hk'
  have hst:=bys_step hx
  have hnew:=bys_new hnames hx
  repeat (refine s64_L9a ?_;intros)
  refine JO.eff rfl rfl rfl (JEff.putK (kv:=kvN) (s:=nm x) rfl rfl rfl (List.Perm.refl _) (by intro l hl;cases hl) (fun _=>?_) (fun j q hj hq=>absurd hq (hnew q (List.mem_of_getElem? hj))))
  rw [← hst]
  repeat (refine s64_L9a ?_;intros)
  exact JX.roundF (k+1) (by exact lea) (by omega) (by (try dsimp only);omega) rfl (by exact sba) (by exact sba)
 ·have hk':=dnlt hc
  obtain rfl:k=L.length:=by omega
  rw [List.take_length]
  refine JC.freeze hmb (fun S10 hl10 hS10=>?_)
  repeat (refine s64_L9a ?_;intros)
  (refine JX.ret3 Tryz.results64 (ResV.tmp rfl) (ResV.tmp rfl) (ResV.tmp rfl) (List.nil_sublist _) ?_)
  subst hL
  exact ⟨rfl,.inr ⟨hok,_,_,_,rfl,hS10,by exact vta⟩⟩
theorem bys_none {L:List Clause} {x:Clause} (h:∀ p∈bys L,p.1≠nm x):findC L x=0:=by
 unfold findC
 rw [List.find?_eq_none.2]
 intro c hc
 rw [isC_name]
 have:=h (nm c,Value.int .i64 c.by_) (List.mem_map.2 ⟨c,hc,rfl⟩)
 intro e
 exact this (nm_eq.2 (of_decide_eq_true e))
theorem bys_some {L:List Clause} (hn:L.Pairwise (fun c d=>nameC c≠nameC d)) {x:Clause} {j:Nat} {q:Step × Value} (hj:(bys L)[j]?=some q) (hq:q.1=nm x):q.2=.int .i64 (findC L x):=by
 unfold bys at hj
 rw [List.getElem?_map] at hj
 obtain ⟨c,hc,rfl⟩:=Option.map_eq_some_iff.1 hj
 have he:=nm_eq.1 hq
 have hf:=find_self hn (List.mem_of_getElem? hc)
 simp only [nameC,Prod.mk.injEq] at he
 unfold findC
 rw [← he.1,← he.2.1,← he.2.2,hf]
theorem s65_L9a {P K:Prop} (k:K) (h:Goal K→P:=by
 intro zk
 (first|refine Walk ?_|refine JC.block ?_|refine JC.drawN 1 rfl [0,1,2,3,4,5,6,7] [3,5,6,7] Tryz_mixed (by decide +kernel) ?_|(refine JO.eff rfl rfl rfl (JEff.callV rfl (p9_of (by exact vta)) rfl ?_);intro zqa zqb)|(refine WBox ?_))
 (repeat (first|revert zqg|revert zqf|revert zqe|revert zqd|revert zqc|revert zqb|revert zqa))
 exact zk.k):P:=h ⟨k⟩
theorem p9_Worse1 {S:SHeap} {u:Value} {x:Clause} {L:List Clause} {q:Addr} {b:Nat} (hn:L.Pairwise (fun c d=>nameC c≠nameC d)) (hu:rClause.V S u x) (hq:PtrTo S q rVal (.map (some b))) (hS:S b=some (mapK kvN (bys L))):FnV Tryz.prog 65 #[u,.pointer (some q)] S (.bool (worseF L x)):=by
 (refine Fn.enter (args:=[u,.pointer (some q)]) Tryz.func65 rfl Tryz.ntmps65 rfl ?_;intro w0)
 repeat (refine s65_L9a ?_;intros)
 refine JO.pure rfl rfl rfl (JPure.lookS (kv:=kvN) (s:=nm x) rfl rfl (by first|exact hS|exact (by assumption:SHeap.le _ _) _ _ hS|exact SHeap.le.trans (by assumption) (by assumption) _ _ hS) (bys_distinct hn) rfl (fun hno=>?_) (fun j q hj hq=>?_))
 ·have hf:=bys_none hno
  repeat (refine s65_L9a ?_;intros)
  (refine JX.ret1 Tryz.results65 (ResV.tmp rfl) (List.nil_sublist _) ?_)
  exact ⟨rfl,by simp [worseF,hf]⟩
 ·have hf:=bys_some hn hj hq
  rw [hf]
  repeat (refine s65_L9a ?_;intros)
  (refine JX.ret1 Tryz.results65 (ResV.tmp rfl) (List.nil_sublist _) ?_)
  exact ⟨rfl,by simp [worseF]⟩
theorem p9_Worse {S:SHeap} {u v v2:Value} {s:Snap} {p q:List Int} (hu:rSnap.V S u s) (hv:(rSlice 8 rI64).V S v p) (hv2:(rSlice 8 rI64).V S v2 q):FnLE Tryz.prog 18 #[u,v,v2] S 32 rClause (worseV s p q).1 (.int .i64 (worseV s p q).2):=by
 (refine Fn.enter (args:=[u,v,v2]) Tryz.func18 rfl Tryz.ntmps18 rfl ?_;intro w0)
 repeat (first|(refine Walk ?_;intros)|refine JC.block ?_|(refine WBox ?_;intros)|(refine WNew ?_;intros)|(refine WPut ?_;intros))
 (refine JO.eff rfl rfl rfl (JEff.callR rfl (p9_look (s:=s) (p:=p) (by exact vta) (by exact vta)) rfl ?_);intro w S2 hl2 hw)
 rcases hw with ⟨he,rfl⟩|⟨hok,b,a,c,rfl,hSb,hVb⟩
 ·repeat (first|(refine Walk ?_;intros)|refine JC.block ?_|(refine WBox ?_;intros)|(refine WNew ?_;intros)|(refine WPut ?_;intros))
  refine JC.cond rfl (fun h1=>?_) (fun h1=>?_)
  ·repeat (first|(refine Walk ?_;intros)|refine JC.block ?_|(refine WBox ?_;intros)|(refine WNew ?_;intros)|(refine WPut ?_;intros))
   (refine JX.ret2 Tryz.results18 (ResV.tmp rfl) (ResV.tmp rfl) (List.nil_sublist _) ?_)
   unfold worseV
   rw [if_pos he]
   exact ⟨rfl,_,rfl,V_nil⟩
  ·(exfalso;first|(simp only [decide_eq_true_eq,decide_eq_false_iff_not,Bool.not_eq_true',Bool.not_eq_false',Bool.and_eq_true,Bool.or_eq_true,Bool.and_eq_false_iff,Bool.or_eq_false_iff] at *;omega)|(simp_all;done)|(simp_all;omega))
 ·repeat (first|(refine Walk ?_;intros)|refine JC.block ?_|(refine WBox ?_;intros)|(refine WNew ?_;intros)|(refine WPut ?_;intros))
  (refine JO.eff rfl rfl rfl (JEff.callR rfl (p9_look (s:=s) (p:=q) (by exact vta) (by exact vta)) rfl ?_);intro w S3 hl3 hw)
  obtain ⟨m,a3,c3,rfl,hV3⟩:∃ m a c,w=.tuple #[m,.slice a (allL s q).length c,.int .i64 (checkP s q)]∧(rSlice 32 rClause).V S3 (.slice a (allL s q).length c) (allL s q):=by
   rcases hw with ⟨he,rfl⟩|⟨hokq,b3,a3,c3,rfl,_,hV3⟩
   ·have:allL s q=[]:=by unfold allL;rw [if_neg he]
    rw [this]
    exact ⟨_,_,_,rfl,V_nil⟩
   ·exact ⟨_,_,_,by rw [hokq],hV3⟩
  have hwv:worseV s p q=((allL s q).filter (worseF (allL s p)),checkP s q):=by
   unfold worseV
   rw [if_neg (by simpa using hok)]
   split
   ·rename_i he
    have:allL s q=[]:=by unfold allL;rw [if_neg he]
    rw [this];rfl
   ·rename_i he
    have he:checkP s q=0:=Classical.not_not.1 he
    rw [he]
  rw [hwv]
  have hnames:=allL_names s p
  generalize allL s p=LA at *
  generalize hL:allL s q=L at *
  have hb32:=slice_bytes hV3
  unfold big at hb32
  repeat (first|(refine Walk ?_;intros)|refine JC.block ?_|(refine WBox ?_;intros)|(refine WNew ?_;intros)|(refine WPut ?_;intros))
  (first|refine JC.newRow 41 (Rp.sz rClause) ?_|refine JO.newRow 41 (Rp.sz rClause) ?_|refine JX.newRow 41 (Rp.sz rClause) ?_)
  refine JC.loopF (σ:=Nat × Option Addr × Nat × List Value) [(7,_),(10,_),(33,_),(34,_)] (fun q=>[(6,.slice q.2.1 ((fun k=>(L.take k).filter (worseF LA)) q.1).length q.2.2.1),(35,((fun k=>.int .i64 k) q.1))]) (fun q=>[.row w0.heap.size 41 (Rp.sz rClause) (.slice q.2.1 ((fun k=>(L.take k).filter (worseF LA)) q.1).length q.2.2.1) ((fun k=>(L.take k).filter (worseF LA)) q.1).length (flatCells q.2.2.2)]) (fun Sk q=>q.1≤L.length∧allV rClause Sk q.2.2.2 ((fun k=>(L.take k).filter (worseF LA)) q.1)∧((fun k=>True) q.1)) (fun q=>L.length - q.1) (0,none,0,[]) (by exact sba) (by exact sba) (by first|rfl|simp) (⟨Nat.zero_le _,trivial,trivial⟩) ?_;rintro Sk ⟨k,rak,rck,vsk⟩ hlk ⟨hk,hvk,hik⟩;(try dsimp only at hk hvk hik);dsimp only [List.cons_append,List.nil_append]
  have hfl:=filter_len L (worseF LA) k
  repeat (first|(refine Walk ?_;intros)|refine JC.block ?_|(refine WBox ?_;intros)|(refine WNew ?_;intros)|(refine WPut ?_;intros))
  refine JC.cond rfl (fun hc=>?_) (fun hc=>?_)
  ·have hk':=dlt hc
   obtain ⟨x,hx,_⟩:=drop_at hk'
   have hst:=filter_step (f:=worseF LA) hx
   repeat (first|(refine Walk ?_;intros)|refine JC.block ?_|(refine WBox ?_;intros)|(refine WNew ?_;intros)|(refine WPut ?_;intros))
   (refine JO.eff rfl rfl rfl (JEff.dynV rfl inferInstance rfl (p9_Worse1 (x:=x) hnames (by exact vta) (by exact pta) ((show S2.le _ by exact lea) _ _ hSb)) rfl ?_);intro _ _)
   repeat (first|(refine Walk ?_;intros)|refine JC.block ?_|(refine WBox ?_;intros)|(refine WNew ?_;intros)|(refine WPut ?_;intros))
   refine JC.cond rfl (fun hq=>?_) (fun hq=>?_)
   ·rw [hq,if_pos rfl] at hst
    repeat (first|(refine Walk ?_;intros)|refine JC.block ?_|(refine WBox ?_;intros)|(refine WNew ?_;intros)|(refine WPut ?_;intros))
    have hvx:=(by assumption:rClause.V _ _ x)
    (refine JO.eff rfl rfl rfl (JEff.build (rep:=rClause) (ys:=[x]) rfl rfl ⟨⟨(hvx.mono (by exact lea)),nna⟩,trivial⟩ rfl rfl rfl rfl ?_);intro bb hbb hvv);(repeat (first|(refine Walk ?_;intros)|refine JC.block ?_));(refine JO.eff rfl rfl rfl (JEff.appendL (rep:=rClause) rfl rfl rfl rfl (List.Perm.swap _ _ _) (by exact hvv.flat) (by intro c hc;exact flat_one (fun v hv=>(hvv.size v hv).2) c hc) (by first|omega|(unfold big;omega)) (by unfold big;omega) (by first|exact rowT_ok|(intro l hl;cases hl)) rfl ?_);intro a2 c2;clear hvv hbb)
    repeat (first|(refine Walk ?_;intros)|refine JC.block ?_|(refine WBox ?_;intros)|(refine WNew ?_;intros)|(refine WPut ?_;intros))
    exact JX.roundF (k+1,a2,c2,vsk++[(_)]) (by exact lea) ⟨by omega,by (try dsimp only);rw [hst];exact allV_add (by exact lea) hvk (hvx.mono (by exact lea)) nna,(trivial)⟩ (by (try dsimp only);omega) (by (try dsimp only);rw [hst];(simp [flat_append]<;>omega)) (by (try dsimp only);rw [hst];simp only [List.length_append,List.length_cons,List.length_nil];exact sba) (by exact sba)
   ·rw [hq,if_neg (by simp),List.append_nil] at hst
    repeat (first|(refine Walk ?_;intros)|refine JC.block ?_|(refine WBox ?_;intros)|(refine WNew ?_;intros)|(refine WPut ?_;intros))
    exact JX.roundF (k+1,rak,rck,vsk) (by exact lea) ⟨by omega,by (try dsimp only);rw [hst];exact hvk.mono (by exact lea),(trivial)⟩ (by (try dsimp only);omega) (by (try dsimp only);rw [hst]) (by (try dsimp only);rw [hst];exact sba) (by exact sba)
  ·have hk':=dnlt hc
   obtain rfl:k=L.length:=by omega
   rw [List.take_length] at hvk hfl ⊢
   repeat (first|(refine Walk ?_;intros)|refine JC.block ?_|(refine WBox ?_;intros)|(refine WNew ?_;intros)|(refine WPut ?_;intros))
   refine JX.freezeRow (rep:=rClause) (bt:=32) hvk rfl (by unfold big;omega) (by unfold big;omega) (fun S9 hl9 hV9=>?_)
   (refine JX.ret2 Tryz.results18 (ResV.tmp rfl) (ResV.tmp rfl) (List.nil_sublist _) ?_)
   exact ⟨rfl,_,rfl,hV9⟩
end Go.Dr
namespace Go.Dr
open Go.Proofs
set_option maxRecDepth 20000
set_option maxHeartbeats 2000000
set_option linter.unusedSimpArgs false
set_option linter.unusedVariables false
theorem step_rng {S:SHeap} {v:Value} {x:Step} (h:rStep.V S v x):Rng x.kind∧Rng x.pod∧Rng x.node:=(V_step.1 h).2
end Go.Dr
namespace Go.Dr
open Go.Proofs
set_option maxRecDepth 20000
set_option maxHeartbeats 2000000
set_option linter.unusedSimpArgs false
set_option linter.unusedVariables false
theorem noC_rng:Rng noC.kind∧Rng noC.a∧Rng noC.b∧Rng noC.by_:=by simp [noC,Rng]
theorem V_noC {S:SHeap}:rClause.V S (.agg (flatCells [.int .i64 0,.int .i64 0,.int .i64 0,.int .i64 0]).toArray) noC:=V_clause.2 ⟨by simp [flatCells,Value.cells,noC],noC_rng⟩
theorem apply_ok {s:Snap} {p:List Int} {x:Step} (h:(applyP s p x).2=0):checkP s p=0∧(x.kind=2→0≤x.node∧x.node < s.nodes.length):=by
 unfold applyP at h
 split at h
 ·rename_i h1;simp [z0] at h1;exact absurd h h1
 ·rename_i h1
  have h1:checkP s p=0:=by simpa [z0] using h1
  refine ⟨h1,fun hk=>?_⟩
  split at h
  ·cases h
  ·split at h
   ·cases h
   ·rename_i h3
    simp [hk] at h3
    omega
def waysK (s:Snap) (p:List Int) (pod:Int) (k:Nat):List Int:=((List.range k).filter (fun (n:Nat)=>mayV s p ⟨2,pod,(n:Int)⟩)).map (fun (n:Nat)=>(n:Int))
theorem waysK_step (s:Snap) (p:List Int) (pod:Int) (k:Nat):waysK s p pod (k+1)=waysK s p pod k++(if mayV s p ⟨2,pod,k⟩=true then [(k:Int)] else []):=by
 unfold waysK
 rw [List.range_succ,List.filter_append,List.map_append]
 congr 1
 cases h:mayV s p ⟨2,pod,k⟩<;>simp [List.filter_cons,h]
theorem waysK_len (s:Snap) (p:List Int) (pod:Int) (k:Nat):(waysK s p pod k).length≤k:=by
 unfold waysK
 rw [List.length_map]
 exact Nat.le_trans (List.length_filter_le _ _) (by simp)
end Go.Dr
namespace Go.Dr
open Go.Proofs
set_option maxRecDepth 20000
set_option maxHeartbeats 2000000
set_option linter.unusedSimpArgs false
set_option linter.unusedVariables false
theorem p_Clone_int {S:SHeap} {u:Value} {l:List Int} (hu:(rSlice 8 rI64).V S u l):FnRow Tryz.prog 59 #[u] S 3 rI64 l:=by
 have hu0:=hu
 obtain ⟨a,c,rfl,_,hb16,hb,_⟩:=V_slice.1 hu
 unfold big at hb16 hb
 (refine FnRow.enter (args:=[.slice a l.length c]) Tryz.func59 rfl Tryz.ntmps59 rfl ?_;intro w0)
 repeat (first|(refine Walk ?_;intros)|refine JC.block ?_)
 refine JO.pure rfl rfl rfl (JPure.eqNil rfl rfl rfl ?_)
 repeat (first|(refine Walk ?_;intros)|refine JC.block ?_)
 refine JC.cond rfl (fun hn=>?_) (fun hn=>?_)
 ·have ha:a=none:=by simpa using hn
  subst ha
  have hl:l=[]:=nil_slice hu0
  subst hl
  repeat (first|(refine Walk ?_;intros)|refine JC.block ?_)
  (first|refine JC.newRow 3 (Rp.sz rI64) ?_|refine JO.newRow 3 (Rp.sz rI64) ?_|refine JX.newRow 3 (Rp.sz rI64) ?_)
  exact JX.retRow (vs:=[]) Tryz.results59 (ResV.tmp rfl) rfl trivial
 ·repeat (first|(refine Walk ?_;intros)|refine JC.block ?_)
  refine JO.eff rfl rfl rfl (JEff.build0 rI64 rfl ?_);intro b0
  repeat (first|(refine Walk ?_;intros)|refine JC.block ?_)
  (refine JO.eff rfl rfl rfl (JEff.appendS (rep:=rI64) rfl rfl (hu0.mono (by exact lea)) rfl rfl (List.Perm.refl _) (by unfold big;omega) (by unfold big;omega) (by intro l hl;cases hl) rfl ?_);intro a2 c2 us1 hus1)
  repeat (first|(refine Walk ?_;intros)|refine JC.block ?_)
  exact JX.retRow Tryz.results59 (ResV.tmp rfl) (Nat.zero_add _) hus1
end Go.Dr
namespace Go.Dr
open Go.Proofs
set_option maxRecDepth 20000
set_option maxHeartbeats 2000000
set_option linter.unusedSimpArgs false
set_option linter.unusedVariables false
def OwnAns (E:TypeId) (xs:List Int) (z:Int) (w:Value) (S':SHeap) (M':List MEnt):Prop:=
 ∃ a c,w=.tuple #[.slice a xs.length c,.int .i64 z]∧((xs=[]∧a=none∧M'=[])∨(∃ b tl,a=some ⟨b,0,none⟩∧xs.length≤c∧M'=[.blk b (.cells (intsT xs tl) E (0,0))]))
theorem s150_L7f {P K:Prop} (k:K) (h:Goal K→P:=by
 intro zk
 (first|refine Walk ?_|refine JC.block ?_|refine JC.drawN 9 rfl [0,1,2,3,4,5,6] [0,1,2,3,4,5,6] Tryz_mixed (by decide +kernel) ?_|(refine JO.eff rfl rfl rfl (JEff.callV rfl (p7_Check (by exact vta) (by exact vta)) rfl ?_);intro zqa zqb)|(refine JO.eff rfl rfl rfl (JEff.callRow rfl (p_Clone_int (by exact vta)) rfl ?_);intro zqa zqb zqc zqd zqe zqf)|(refine JO.eff rfl rfl rfl (JEff.callV rfl (p7_there _ _) rfl ?_);intro zqa zqb)|(refine WBox ?_))
 (repeat (first|revert zqg|revert zqf|revert zqe|revert zqd|revert zqc|revert zqb|revert zqa))
 exact zk.k):P:=h ⟨k⟩
theorem p7_Apply {S:SHeap} {u v xv:Value} {s:Snap} {p:List Int} {x:Step} (hu:rSnap.V S u s) (hv:(rSlice 8 rI64).V S v p) (hx:rStep.V S xv x):Fn Tryz.prog 150 #[u,v,xv] S [] (OwnAns 3 (applyP s p x).1 (applyP s p x).2):=by
 have hv0:=hv
 obtain ⟨a,c,rfl,_,hb8,hb,hpr⟩:=V_slice.1 hv
 unfold big at hb8 hb
 have hprn:∀ z∈p,Rng z:=fun z hz=>by
  obtain ⟨q,cs,h,_⟩:=slice_at hv z hz
  exact h.2
 obtain ⟨hxr1,hxr2,hxr3⟩:=step_rng hx
 (refine Fn.enter (args:=[u,.slice a p.length c,xv]) Tryz.func150 rfl Tryz.ntmps150 rfl ?_;intro w0)
 repeat (refine s150_L7f ?_;intros)
 refine JC.cond rfl (fun he=>?_) (fun he=>?_)
 ·have he:z0 (checkP s p)=false:=by simpa [z0] using he
  repeat (refine s150_L7f ?_;intros)
  (refine JX.ret2 Tryz.results150 (ResV.tmp rfl) (ResV.tmp rfl) (List.nil_sublist _) ?_)
  exact ⟨none,0,by rw [applyP,he];rfl,.inl ⟨by rw [applyP,he];rfl,rfl,rfl⟩⟩
 have he:z0 (checkP s p)=true:=by simpa [z0] using he
 have hok:checkP s p=0:=by simpa [z0] using he
 obtain ⟨hs,hlen,hodd⟩:=checkP_ok hok
 obtain ⟨hn8,hp24,ho8⟩:=shaped_small (checkS_ok hs).1
 obtain ⟨kd,pd,nd⟩:=x
 dsimp only at hxr1 hxr2 hxr3
 unfold Rng at hxr2 hxr3
 have hap0:applyP s p ⟨kd,pd,nd⟩=(if !decide (kd=1)&&!decide (kd=2) then ([],2)
  else if decide (pd < 0)||decide ((p.length:Int)≤pd)||decide (nd < 0)||(decide (kd=2)&&decide ((s.nodes.length:Int)≤nd))||(decide (kd=1)&&!decide (nd=0)) then ([],9)
  else if (decide (at0 p pd.toNat=-1)==decide (kd=1))||(decide (kd=2)&&lostAt s nd) then ([],110)
  else (p.set pd.toNat (if kd=2 then nd else -1),0)):=by rw [applyP,he];rfl
 by_cases hk1:kd=1
 ·subst hk1
  by_cases hbad:pd < 0∨(p.length:Int)≤pd∨nd < 0∨¬ nd=0
  ·have hap:applyP s p ⟨1,pd,nd⟩=([],9):=by rw [hap0];simp;intro h1 h2 h3 h4;omega
   rw [hap]
   repeat' (first|(refine s150_L7f ?_;intros)|(refine JO.guard rfl rfl rfl rfl ?_ ?_<;>intro _)|(refine JC.cond rfl ?_ ?_<;>intro _))
   all_goals first
    | ((refine JX.ret2 Tryz.results150 (ResV.tmp rfl) (ResV.tmp rfl) (List.nil_sublist _) ?_);exact ⟨none,0,rfl,.inl ⟨rfl,rfl,rfl⟩⟩)
    | (clear hap hap0;(exfalso;first|(simp only [decide_eq_true_eq,decide_eq_false_iff_not,Bool.not_eq_true',Bool.not_eq_false',Bool.and_eq_true,Bool.or_eq_true,Bool.and_eq_false_iff,Bool.or_eq_false_iff] at *;omega)|(simp_all;done)|(simp_all;omega)))
  ·obtain ⟨i,rfl⟩:∃ i:Nat,pd=i:=⟨pd.toNat,by omega⟩
   obtain rfl:nd=0:=by omega
   have hi:i < p.length:=by omega
   obtain ⟨z,hz,_⟩:=drop_at hi
   have ecast:((i:Int)).toNat=i:=by omega
   have hz0:=at0_some hz
   have hz':p[((i:Int)).toNat]?=some z:=by rw [ecast];exact hz
   have e1:decide ((i:Int) < 0)=false:=by simp
   have e2:decide ((p.length:Int)≤(i:Int))=false:=by simp;omega
   have hap:applyP s p ⟨1,i,0⟩=(if z=-1 then ([],110) else (p.set i (-1),0)):=by rw [hap0];simp only [e1,e2,ecast,hz0];by_cases h:z=-1<;>simp [h]
   have hzr:=hprn z (List.mem_of_getElem? hz)
   by_cases hz1:z=-1
   ·rw [hap,if_pos hz1]
    repeat' (first|(refine s150_L7f ?_;intros)|(refine JO.guard rfl rfl rfl rfl ?_ ?_<;>intro _)|(refine JC.cond rfl ?_ ?_<;>intro _))
    all_goals first
     | ((refine JX.ret2 Tryz.results150 (ResV.tmp rfl) (ResV.tmp rfl) (List.nil_sublist _) ?_);exact ⟨none,0,rfl,.inl ⟨rfl,rfl,rfl⟩⟩)
     | (clear hap hap0;(exfalso;first|(simp only [decide_eq_true_eq,decide_eq_false_iff_not,Bool.not_eq_true',Bool.not_eq_false',Bool.and_eq_true,Bool.or_eq_true,Bool.and_eq_false_iff,Bool.or_eq_false_iff] at *;omega)|(simp_all;done)|(simp_all;omega)))
   rw [hap,if_neg hz1]
   repeat' (first|(refine s150_L7f ?_;intros)|(refine JO.guard rfl rfl rfl rfl ?_ ?_<;>intro _)|(refine JC.cond rfl ?_ ?_<;>intro _))
   all_goals first
    | (clear hap hap0;(exfalso;first|(simp only [decide_eq_true_eq,decide_eq_false_iff_not,Bool.not_eq_true',Bool.not_eq_false',Bool.and_eq_true,Bool.or_eq_true,Bool.and_eq_false_iff,Bool.or_eq_false_iff] at *;omega)|(simp_all;done)|(simp_all;omega)))
    | skip
   repeat (refine s150_L7f ?_;intros)
   rw [flat_int (by assumption)]
   refine JO.rowBlk (by omega) (fun b tl hab hbb hnc=>?_)
   subst hab
   repeat (refine s150_L7f ?_;intros)
   refine JO.pure rfl rfl rfl (JPure.indexRI rfl rfl rfl (by dsimp only;omega) (by dsimp only;omega) ?_)
   refine JO.eff rfl rfl rfl (JEff.storeIT (i:=i) rfl rfl (by unfold Rng;omega) (List.Perm.refl _) (by omega) (by intro l hl;cases hl) ?_)
   repeat (refine s150_L7f ?_;intros)
   refine JX.ret2 Tryz.results150 (ResV.tmp rfl) (ResV.tmp rfl) (List.Sublist.refl _) ?_
   exact ⟨some ⟨b,0,none⟩,_,by rw [List.length_set],.inr ⟨b,tl,rfl,by rw [List.length_set];exact hnc,rfl⟩⟩
 ·by_cases hk2:kd=2
  ·subst hk2
   by_cases hbad:pd < 0∨(p.length:Int)≤pd∨nd < 0∨(s.nodes.length:Int)≤nd
   ·have hap:applyP s p ⟨2,pd,nd⟩=([],9):=by rw [hap0];simp;intro h1 h2 h3 h4;omega
    rw [hap]
    repeat' (first|(refine s150_L7f ?_;intros)|(refine JO.guard rfl rfl rfl rfl ?_ ?_<;>intro _)|(refine JC.cond rfl ?_ ?_<;>intro _))
    all_goals first
     | ((refine JX.ret2 Tryz.results150 (ResV.tmp rfl) (ResV.tmp rfl) (List.nil_sublist _) ?_);exact ⟨none,0,rfl,.inl ⟨rfl,rfl,rfl⟩⟩)
     | (clear hap hap0;(exfalso;first|(simp only [decide_eq_true_eq,decide_eq_false_iff_not,Bool.not_eq_true',Bool.not_eq_false',Bool.and_eq_true,Bool.or_eq_true,Bool.and_eq_false_iff,Bool.or_eq_false_iff] at *;omega)|(simp_all;done)|(simp_all;omega)))
   ·obtain ⟨i,rfl⟩:∃ i:Nat,pd=i:=⟨pd.toNat,by omega⟩
    obtain ⟨m,rfl⟩:∃ m:Nat,nd=m:=⟨nd.toNat,by omega⟩
    have hi:i < p.length:=by omega
    obtain ⟨z,hz,_⟩:=drop_at hi
    obtain ⟨nn,hnn,_⟩:=drop_at (l:=s.nodes) (show m < s.nodes.length by omega)
    have ecast:((i:Int)).toNat=i:=by omega
    have ecast2:((m:Int)).toNat=m:=by omega
    have hz0:=at0_some hz
    have hz':p[((i:Int)).toNat]?=some z:=by rw [ecast];exact hz
    have hnn':s.nodes[((m:Int)).toNat]?=some nn:=by rw [ecast2];exact hnn
    have hlo:lostAt s m=nn.lost:=by simp [lostAt,hnn]
    have e1:decide ((i:Int) < 0)=false:=by simp
    have e2:decide ((p.length:Int)≤(i:Int))=false:=by simp;omega
    have e3:decide ((m:Int) < 0)=false:=by simp
    have e4:decide ((s.nodes.length:Int)≤(m:Int))=false:=by simp;omega
    have hap:applyP s p ⟨2,i,m⟩=(if ¬ z=-1∨nn.lost=true then ([],110) else (p.set i m,0)):=by rw [hap0];simp only [e1,e2,e3,e4,ecast,hz0,hlo];by_cases h:z=-1<;>simp [h]
    have hzr:=hprn z (List.mem_of_getElem? hz)
    by_cases hst:¬ z=-1∨nn.lost=true
    ·rw [hap,if_pos hst]
     repeat' (first|(refine s150_L7f ?_;intros)|(refine JO.guard rfl rfl rfl rfl ?_ ?_<;>intro _)|(refine JC.cond rfl ?_ ?_<;>intro _))
     all_goals first
      | ((refine JX.ret2 Tryz.results150 (ResV.tmp rfl) (ResV.tmp rfl) (List.nil_sublist _) ?_);exact ⟨none,0,rfl,.inl ⟨rfl,rfl,rfl⟩⟩)
      | (clear hap hap0;(exfalso;first|(simp only [decide_eq_true_eq,decide_eq_false_iff_not,Bool.not_eq_true',Bool.not_eq_false',Bool.and_eq_true,Bool.or_eq_true,Bool.and_eq_false_iff,Bool.or_eq_false_iff] at *;omega)|(simp_all;done)|(simp_all;omega)))
    rw [hap,if_neg hst]
    repeat' (first|(refine s150_L7f ?_;intros)|(refine JO.guard rfl rfl rfl rfl ?_ ?_<;>intro _)|(refine JC.cond rfl ?_ ?_<;>intro _))
    all_goals first
     | (clear hap hap0;(exfalso;first|(simp only [decide_eq_true_eq,decide_eq_false_iff_not,Bool.not_eq_true',Bool.not_eq_false',Bool.and_eq_true,Bool.or_eq_true,Bool.and_eq_false_iff,Bool.or_eq_false_iff] at *;omega)|(simp_all;done)|(simp_all;omega)))
     | skip
    repeat (refine s150_L7f ?_;intros)
    rw [flat_int (by assumption)]
    refine JO.rowBlk (by omega) (fun b tl hab hbb hnc=>?_)
    subst hab
    repeat (refine s150_L7f ?_;intros)
    refine JO.pure rfl rfl rfl (JPure.indexRI rfl rfl rfl (by dsimp only;omega) (by dsimp only;omega) ?_)
    refine JO.eff rfl rfl rfl (JEff.storeIT (i:=i) rfl rfl (by unfold Rng;omega) (List.Perm.refl _) (by omega) (by intro l hl;cases hl) ?_)
    repeat (refine s150_L7f ?_;intros)
    refine JX.ret2 Tryz.results150 (ResV.tmp rfl) (ResV.tmp rfl) (List.Sublist.refl _) ?_
    exact ⟨some ⟨b,0,none⟩,_,by rw [List.length_set],.inr ⟨b,tl,rfl,by rw [List.length_set];exact hnc,rfl⟩⟩
  ·have hap:applyP s p ⟨kd,pd,nd⟩=([],2):=by rw [hap0];simp [hk1,hk2]
   rw [hap]
   repeat' (first|(refine s150_L7f ?_;intros)|(refine JO.guard rfl rfl rfl rfl ?_ ?_<;>intro _)|(refine JC.cond rfl ?_ ?_<;>intro _))
   all_goals first
    | ((refine JX.ret2 Tryz.results150 (ResV.tmp rfl) (ResV.tmp rfl) (List.nil_sublist _) ?_);exact ⟨none,0,rfl,.inl ⟨rfl,rfl,rfl⟩⟩)
    | (clear hap hap0;(exfalso;first|(simp only [decide_eq_true_eq,decide_eq_false_iff_not,Bool.not_eq_true',Bool.not_eq_false',Bool.and_eq_true,Bool.or_eq_true,Bool.and_eq_false_iff,Bool.or_eq_false_iff] at *;omega)|(simp_all;done)|(simp_all;omega)))
end Go.Dr
namespace Go.Dr
open Go.Proofs
set_option maxRecDepth 20000
set_option maxHeartbeats 2000000
set_option linter.unusedSimpArgs false
set_option linter.unusedVariables false
def StepRaw (E Te Tc:TypeId) (s:Snap) (p:List Int) (x:Step) (w:Value) (S':SHeap) (M':List MEnt):Prop:=
 (∃ e,¬ e=0∧stepV s p x=([],noC,e)∧w=.tuple #[.slice none 0 0,.iface Te (.int .i64 e)]∧M'=[]) ∨
 (∃ c,(Rng c.kind∧Rng c.a∧Rng c.b∧Rng c.by_)∧stepV s p x=([],c,100)∧w=.tuple #[.slice none 0 0,.iface Tc (clV c)]∧M'=[]) ∨
 (∃ q b tl cap,stepV s p x=(q,noC,0)∧(∀ z∈q,Rng z)∧q.length=p.length∧w=.tuple #[.slice (some ⟨b,0,none⟩) q.length cap,.nilIface]∧q.length≤cap∧M'=[.blk b (.cells (intsT q tl) E (0,0))])
theorem s73_L10a {P K:Prop} (k:K) (h:Goal K→P:=by
 intro zk
 (first|refine Walk ?_|refine JC.block ?_|refine JC.drawN 10 rfl [0,1,2,3,4,5] [0,1,2,3,4,5] Tryz_mixed (by decide +kernel) ?_|(refine JO.eff rfl rfl rfl (JEff.callLE rfl (p9_Worse (by exact vta) (by exact vta) (by exact vta)) rfl ?_);intro zqa zqb zqc zqd zqe zqf)|(refine WBox ?_))
 (repeat (first|revert zqg|revert zqf|revert zqe|revert zqd|revert zqc|revert zqb|revert zqa))
 exact zk.k):P:=h ⟨k⟩
theorem p10_step {S:SHeap} {u v xv:Value} {s:Snap} {p:List Int} {x:Step} (hu:rSnap.V S u s) (hv:(rSlice 8 rI64).V S v p) (hx:rStep.V S xv x):Fn Tryz.prog 73 #[u,v,xv] S [] (StepRaw 3 31 41 s p x):=by
 (refine Fn.enter (args:=[u,v,xv]) Tryz.func73 rfl Tryz.ntmps73 rfl ?_;intro w0)
 repeat (refine s73_L10a ?_;intros)
 refine JO.eff rfl rfl rfl (JEff.callM (Mc:=[]) rfl (List.Perm.refl _) (mayAll rfl) (p7_Apply (s:=s) (p:=p) (x:=x) (by exact vta) (by exact vta) (by exact vta)) rfl ?_);intro w S2 M2 hl2 hw
 obtain ⟨aa,ca,rfl,hw⟩:=hw
 by_cases he:(applyP s p x).2=0
 ·obtain ⟨hcq,hql,hp0⟩:=apply_check he
  obtain ⟨hok,hnode⟩:=apply_ok he
  rcases hw with ⟨h1,_,_⟩|⟨b,tl,rfl,hqc,rfl⟩
  ·rw [h1] at hql;simp at hql;omega
  have hW2:(worseV s p (applyP s p x).1).2=0:=by rw [worse_ok hok hcq]
  have he':¬ ¬ (applyP s p x).2=0:=by simpa using he
  obtain ⟨_,_,hp24,_,_,_,hqr⟩:=placed_hyps hcq
  have hql2:(applyP s p x).1.length≤24:=hp24
  dsimp only [List.cons_append,List.nil_append]
  refine JO.blkNew rfl (fun hb0 hbb=>?_)
  refine JO.freeze hbb (by intro l hl;cases hl) (fun S3 hl3 hS3=>?_)
  have hVq:=blk_slice (SHeap.le.refl S3) hS3 rfl hqc (by unfold big;omega) hqr
  by_cases hk:x.kind=2
  ·obtain ⟨h0,h1⟩:=hnode hk
   obtain ⟨nd,hnd,_⟩:=drop_at (l:=s.nodes) (show x.node.toNat < s.nodes.length by omega)
   have hco:cordonAt s x.node=nd.cordon:=by simp [cordonAt,hnd]
   repeat (refine s73_L10a ?_;intros)
   refine JC.cond rfl (fun g0=>?_) (fun g0=>?_)
   ·(exfalso;first|(simp only [decide_eq_true_eq,decide_eq_false_iff_not,Bool.not_eq_true',Bool.not_eq_false',Bool.and_eq_true,Bool.or_eq_true,Bool.and_eq_false_iff,Bool.or_eq_false_iff] at *;omega)|(simp_all;done)|(simp_all;omega))
   repeat (refine s73_L10a ?_;intros)
   refine JO.guard rfl rfl rfl rfl (fun g1=>?_) (fun g1=>?_)
   ·repeat (refine s73_L10a ?_;intros)
    refine JC.cond rfl (fun g2=>?_) (fun g2=>?_)
    ·repeat (refine s73_L10a ?_;intros)
     refine JO.pure rfl rfl rfl (JPure.mkIface rfl rfl ?_)
     repeat (refine s73_L10a ?_;intros)
     refine JX.ret2 Tryz.results73 (ResV.tmp rfl) (ResV.tmp rfl) (List.nil_sublist _) ?_
     exact .inl ⟨100,by decide,by rw [stepV,if_neg he',if_pos ⟨hk,by rw [hco];exact g2⟩],rfl,rfl⟩
    ·have hnc:¬ (x.kind=2∧cordonAt s x.node=true):=by rw [hco,g2];simp
     repeat (refine s73_L10a ?_;intros)
     refine JC.cond rfl (fun g3=>?_) (fun g3=>?_)
     ·exfalso
      simp [hW2] at g3
     repeat (refine s73_L10a ?_;intros)
     refine JC.cond rfl (fun g4=>?_) (fun g4=>?_)
     ·obtain ⟨y,L',hL⟩:∃ y L',(worseV s p (applyP s p x).1).1=y::L':=by
       cases hh:(worseV s p (applyP s p x).1).1 with
       | nil=>rw [hh] at g4;simp at g4
       | cons y L'=>exact ⟨y,L',rfl⟩
      have hy0:(worseV s p (applyP s p x).1).1[(0:Int).toNat]?=some y:=by rw [hL];rfl
      repeat (refine s73_L10a ?_;intros)
      have hvy:=(by assumption:rClause.V _ _ y)
      obtain ⟨hy1,hyr⟩:=V_clause.1 hvy
      refine JO.pure rfl rfl rfl (JPure.mkIface rfl rfl ?_)
      repeat (refine s73_L10a ?_;intros)
      refine JX.ret2 Tryz.results73 (ResV.tmp rfl) (ResV.tmp rfl) (List.nil_sublist _) ?_
      exact .inr (.inl ⟨y,hyr,by rw [stepV,if_neg he',if_neg hnc,hL],by rw [hy1];rfl,rfl⟩)
     ·have hL:(worseV s p (applyP s p x).1).1=[]:=by
       cases hh:(worseV s p (applyP s p x).1).1 with
       | nil=>rfl
       | cons y L'=>rw [hh] at g4;simp at g4
      repeat (refine s73_L10a ?_;intros)
      refine JX.thaw hb0 hbb ((by exact lea:SHeap.le S3 _) _ _ hS3) ?_
      refine JX.ret2 Tryz.results73 (ResV.tmp rfl) (ResV.tmp rfl) (List.Sublist.refl _) ?_
      exact .inr (.inr ⟨(applyP s p x).1,b,tl,ca,by rw [stepV,if_neg he',if_neg hnc,hL],hqr,hql,rfl,hqc,rfl⟩)
   ·(exfalso;first|(simp only [decide_eq_true_eq,decide_eq_false_iff_not,Bool.not_eq_true',Bool.not_eq_false',Bool.and_eq_true,Bool.or_eq_true,Bool.and_eq_false_iff,Bool.or_eq_false_iff] at *;omega)|(simp_all;done)|(simp_all;omega))
  ·have hnc:¬ (x.kind=2∧cordonAt s x.node=true):=fun h=>hk h.1
   repeat (refine s73_L10a ?_;intros)
   refine JC.cond rfl (fun g0=>?_) (fun g0=>?_)
   ·(exfalso;first|(simp only [decide_eq_true_eq,decide_eq_false_iff_not,Bool.not_eq_true',Bool.not_eq_false',Bool.and_eq_true,Bool.or_eq_true,Bool.and_eq_false_iff,Bool.or_eq_false_iff] at *;omega)|(simp_all;done)|(simp_all;omega))
   repeat (refine s73_L10a ?_;intros)
   refine JO.guard rfl rfl rfl rfl (fun g1=>?_) (fun g1=>?_)
   ·(exfalso;first|(simp only [decide_eq_true_eq,decide_eq_false_iff_not,Bool.not_eq_true',Bool.not_eq_false',Bool.and_eq_true,Bool.or_eq_true,Bool.and_eq_false_iff,Bool.or_eq_false_iff] at *;omega)|(simp_all;done)|(simp_all;omega))
   ·repeat (refine s73_L10a ?_;intros)
    refine JC.cond rfl (fun g3=>?_) (fun g3=>?_)
    ·exfalso
     simp [hW2] at g3
    repeat (refine s73_L10a ?_;intros)
    refine JC.cond rfl (fun g4=>?_) (fun g4=>?_)
    ·obtain ⟨y,L',hL⟩:∃ y L',(worseV s p (applyP s p x).1).1=y::L':=by
      cases hh:(worseV s p (applyP s p x).1).1 with
      | nil=>rw [hh] at g4;simp at g4
      | cons y L'=>exact ⟨y,L',rfl⟩
     have hy0:(worseV s p (applyP s p x).1).1[(0:Int).toNat]?=some y:=by rw [hL];rfl
     repeat (refine s73_L10a ?_;intros)
     have hvy:=(by assumption:rClause.V _ _ y)
     obtain ⟨hy1,hyr⟩:=V_clause.1 hvy
     refine JO.pure rfl rfl rfl (JPure.mkIface rfl rfl ?_)
     repeat (refine s73_L10a ?_;intros)
     refine JX.ret2 Tryz.results73 (ResV.tmp rfl) (ResV.tmp rfl) (List.nil_sublist _) ?_
     exact .inr (.inl ⟨y,hyr,by rw [stepV,if_neg he',if_neg hnc,hL],by rw [hy1];rfl,rfl⟩)
    ·have hL:(worseV s p (applyP s p x).1).1=[]:=by
      cases hh:(worseV s p (applyP s p x).1).1 with
      | nil=>rfl
      | cons y L'=>rw [hh] at g4;simp at g4
     repeat (refine s73_L10a ?_;intros)
     refine JX.thaw hb0 hbb ((by exact lea:SHeap.le S3 _) _ _ hS3) ?_
     refine JX.ret2 Tryz.results73 (ResV.tmp rfl) (ResV.tmp rfl) (List.Sublist.refl _) ?_
     exact .inr (.inr ⟨(applyP s p x).1,b,tl,ca,by rw [stepV,if_neg he',if_neg hnc,hL],hqr,hql,rfl,hqc,rfl⟩)
 ·have hst:stepV s p x=([],noC,(applyP s p x).2):=by rw [stepV,if_pos he]
  repeat (refine s73_L10a ?_;intros)
  refine JC.cond rfl (fun g0=>?_) (fun g0=>?_)
  ·repeat (refine s73_L10a ?_;intros)
   refine JO.pure rfl rfl rfl (JPure.mkIface rfl rfl ?_)
   repeat (refine s73_L10a ?_;intros)
   refine JX.ret2 Tryz.results73 (ResV.tmp rfl) (ResV.tmp rfl) (List.nil_sublist _) ?_
   exact .inl ⟨_,he,hst,rfl,rfl⟩
  ·(exfalso;first|(simp only [decide_eq_true_eq,decide_eq_false_iff_not,Bool.not_eq_true',Bool.not_eq_false',Bool.and_eq_true,Bool.or_eq_true,Bool.and_eq_false_iff,Bool.or_eq_false_iff] at *;omega)|(simp_all;done)|(simp_all;omega))
end Go.Dr
namespace Go.Dr
open Go.Proofs
set_option maxRecDepth 20000
set_option maxHeartbeats 2000000
set_option linter.unusedSimpArgs false
set_option linter.unusedVariables false
instance:IfaceT Tryz.prog 119:=⟨by kernel_rfl⟩
def StepAns (E:TypeId) (s:Snap) (p:List Int) (x:Step) (w:Value) (S':SHeap) (M':List MEnt):Prop:=
 (∃ c e,¬ e=0∧(Rng c.kind∧Rng c.a∧Rng c.b∧Rng c.by_)∧stepV s p x=([],c,e)∧w=.tuple #[.slice none 0 0,clV c,.int .i64 e]∧M'=[]) ∨
 (∃ q b tl cap,stepV s p x=(q,noC,0)∧(∀ z∈q,Rng z)∧q.length=p.length∧w=.tuple #[.slice (some ⟨b,0,none⟩) q.length cap,clV noC,.int .i64 0]∧q.length≤cap∧M'=[.blk b (.cells (intsT q tl) E (0,0))])
theorem s22_L10b {P K:Prop} (k:K) (h:Goal K→P:=by
 intro zk
 (first|refine Walk ?_|refine JC.block ?_|refine JC.drawN 6 rfl [0,1,2,3] [0,1,3] Tryz_mixed (by decide +kernel) ?_|refine JC.drawN 7 rfl [0,1,2,3,4,5] [0,3,5] Tryz_mixed (by decide +kernel) ?_|(refine WBox ?_))
 (repeat (first|revert zqg|revert zqf|revert zqe|revert zqd|revert zqc|revert zqb|revert zqa))
 exact zk.k):P:=h ⟨k⟩
theorem p10_Step {S:SHeap} {u v xv:Value} {s:Snap} {p:List Int} {x:Step} (hu:rSnap.V S u s) (hv:(rSlice 8 rI64).V S v p) (hx:rStep.V S xv x):Fn Tryz.prog 22 #[u,v,xv] S [] (StepAns 3 s p x):=by
 (refine Fn.enter (args:=[u,v,xv]) Tryz.func22 rfl Tryz.ntmps22 rfl ?_;intro w0)
 repeat (refine s22_L10b ?_;intros)
 (refine JO.eff rfl rfl rfl (JEff.alloc rfl ?_);intro b7 hb7)
 repeat (refine s22_L10b ?_;intros)
 refine JO.eff rfl rfl rfl (JEff.callM (Mc:=[]) rfl (List.Perm.refl _) (mayAll rfl) (p10_step (s:=s) (p:=p) (x:=x) (by exact vta) (by exact vta) (by exact vta)) rfl ?_);intro w S2 M2 hl2 hw
 rcases hw with ⟨e,he,hst,rfl,rfl⟩|⟨c,hcr,hst,rfl,rfl⟩|⟨q,b,tl,cap,hst,hqr,hql,rfl,hqc,rfl⟩
 ·dsimp only [List.nil_append]
  have hN0:rClause.V S2 (.agg #[.int .i64 0,.int .i64 0,.int .i64 0,.int .i64 0]) noC:=V_clV noC_rng
  have hN:=V_noC (S:=S2)
  repeat (first|(refine Walk ?_;intros)|refine JC.block ?_|refine JC.drawN 6 rfl [0,1,2,3] [0,1,3] Tryz_mixed (by decide +kernel) ?_|refine JC.drawN 7 rfl [0,1,2,3,4,5] [0,3,5] Tryz_mixed (by decide +kernel) ?_|refine JO.pure rfl rfl rfl (JPure.eqNilF rfl rfl ?_)|refine JO.pure rfl rfl rfl (JPure.assertF rfl rfl rfl ?_)|(refine WBox ?_;intros))
  (refine JO.eff rfl rfl rfl (JEff.alloc rfl ?_);intro b10 hb10)
  refine JO.eff rfl rfl rfl (JEff.storeW rfl rfl hN0 nna (List.Perm.refl _) rfl (by intro l hl;cases hl) ?_)
  refine JO.freezeV hN0 nna hb10 (by intro l hl;cases hl) ?_;intro S3 hl3 hp10
  repeat (first|(refine Walk ?_;intros)|refine JC.block ?_|refine JC.drawN 6 rfl [0,1,2,3] [0,1,3] Tryz_mixed (by decide +kernel) ?_|refine JC.drawN 7 rfl [0,1,2,3,4,5] [0,3,5] Tryz_mixed (by decide +kernel) ?_|refine JO.pure rfl rfl rfl (JPure.assertT rfl rfl ?_)|(refine WBox ?_;intros))
  have hN2:=V_noC (S:=S3)
  (refine JO.eff rfl rfl rfl (JEff.storeW rfl rfl (by exact vta) nna pma rfl (by intro l hl;cases hl) ?_))
  repeat (refine s22_L10b ?_;intros)
  refine JX.ret3 Tryz.results22 (ResV.tmp rfl) (ResV.clause (S1:=S3) rfl (by (first|exact List.mem_cons_self|exact List.mem_cons_of_mem _ List.mem_cons_self|exact List.mem_cons_of_mem _ (List.mem_cons_of_mem _ List.mem_cons_self))) V_noC) (ResV.tmp rfl) (List.nil_sublist _) ?_
  exact .inl ⟨noC,e,he,noC_rng,hst,rfl,rfl⟩
 ·dsimp only [List.nil_append]
  have hN:=V_clV (S:=S2) hcr
  repeat (first|(refine Walk ?_;intros)|refine JC.block ?_|refine JC.drawN 6 rfl [0,1,2,3] [0,1,3] Tryz_mixed (by decide +kernel) ?_|refine JC.drawN 7 rfl [0,1,2,3,4,5] [0,3,5] Tryz_mixed (by decide +kernel) ?_|refine JO.pure rfl rfl rfl (JPure.eqNilF rfl rfl ?_)|refine JO.pure rfl rfl rfl (JPure.assertT rfl rfl ?_)|(refine WBox ?_;intros))
  (refine JO.eff rfl rfl rfl (JEff.alloc rfl ?_);intro b10 hb10)
  refine JO.eff rfl rfl rfl (JEff.storeW rfl rfl hN nna (List.Perm.refl _) rfl (by intro l hl;cases hl) ?_)
  refine JO.freezeV hN nna hb10 (by intro l hl;cases hl) ?_;intro S3 hl3 hp10
  repeat (refine s22_L10b ?_;intros)
  have hvy:=(by assumption:rClause.V _ _ c)
  (refine JO.eff rfl rfl rfl (JEff.storeW rfl rfl (by exact vta) nna pma rfl (by intro l hl;cases hl) ?_))
  repeat (refine s22_L10b ?_;intros)
  refine JX.ret3 Tryz.results22 (ResV.tmp rfl) (ResV.clause rfl (by (first|exact List.mem_cons_self|exact List.mem_cons_of_mem _ List.mem_cons_self|exact List.mem_cons_of_mem _ (List.mem_cons_of_mem _ List.mem_cons_self))) hvy) (ResV.tmp rfl) (List.nil_sublist _) ?_
  exact .inl ⟨c,100,by decide,hcr,hst,rfl,rfl⟩
 ·dsimp only [List.cons_append,List.nil_append]
  have hN:=V_noC (S:=S2)
  repeat (first|(refine Walk ?_;intros)|refine JC.block ?_|refine JC.drawN 6 rfl [0,1,2,3] [0,1,3] Tryz_mixed (by decide +kernel) ?_|refine JC.drawN 7 rfl [0,1,2,3,4,5] [0,3,5] Tryz_mixed (by decide +kernel) ?_|refine JO.pure rfl rfl rfl (JPure.eqNilT rfl rfl ?_)|(refine WBox ?_;intros))
  refine JO.eff rfl rfl rfl (JEff.storeW rfl rfl hN nna (List.Perm.swap _ _ _) rfl (by intro l hl;cases hl) ?_)
  repeat (refine s22_L10b ?_;intros)
  refine JX.ret3 Tryz.results22 (ResV.tmp rfl) (ResV.clause (S1:=S2) rfl (by (first|exact List.mem_cons_self|exact List.mem_cons_of_mem _ List.mem_cons_self|exact List.mem_cons_of_mem _ (List.mem_cons_of_mem _ List.mem_cons_self))) V_noC) (ResV.tmp rfl) (List.sublist_cons_self _ _) ?_
  exact .inr ⟨q,b,tl,cap,hst,hqr,hql,rfl,hqc,rfl⟩
theorem p10_May {S:SHeap} {u v xv:Value} {s:Snap} {p:List Int} {x:Step} (hu:rSnap.V S u s) (hv:(rSlice 8 rI64).V S v p) (hx:rStep.V S xv x):FnV Tryz.prog 72 #[u,v,xv] S (.bool (mayV s p x)):=by
 (refine Fn.enter (args:=[u,v,xv]) Tryz.func72 rfl Tryz.ntmps72 rfl ?_;intro w0)
 repeat (first|(refine Walk ?_;intros)|refine JC.block ?_|(refine WBox ?_;intros))
 refine JO.eff rfl rfl rfl (JEff.callM (Mc:=[]) rfl (List.Perm.refl _) (mayAll rfl) (p10_step (s:=s) (p:=p) (x:=x) (by exact vta) (by exact vta) (by exact vta)) rfl ?_);intro w S2 M2 hl2 hw
 rcases hw with ⟨e,he,hst,rfl,rfl⟩|⟨c,hcr,hst,rfl,rfl⟩|⟨q,b,tl,cap,hst,hqr,hql,rfl,hqc,rfl⟩
 all_goals unfold mayV;rw [hst]
 ·repeat (first|(refine Walk ?_;intros)|refine JC.block ?_|refine JO.pure rfl rfl rfl (JPure.eqNilF rfl rfl ?_)|(refine WBox ?_;intros))
  (refine JX.ret1 Tryz.results72 (ResV.tmp rfl) (List.nil_sublist _) ?_)
  exact ⟨rfl,by simp [he]⟩
 ·repeat (first|(refine Walk ?_;intros)|refine JC.block ?_|refine JO.pure rfl rfl rfl (JPure.eqNilF rfl rfl ?_)|(refine WBox ?_;intros))
  (refine JX.ret1 Tryz.results72 (ResV.tmp rfl) (List.nil_sublist _) ?_)
  exact ⟨rfl,by simp⟩
 ·repeat (first|(refine Walk ?_;intros)|refine JC.block ?_|refine JO.pure rfl rfl rfl (JPure.eqNilT rfl rfl ?_)|(refine WBox ?_;intros))
  (refine JX.ret1 Tryz.results72 (ResV.tmp rfl) (List.nil_sublist _) ?_)
  exact ⟨rfl,by simp⟩
end Go.Dr
namespace Go.Dr
open Go.Proofs
set_option maxRecDepth 20000
set_option maxHeartbeats 2000000
set_option linter.unusedSimpArgs false
set_option linter.unusedVariables false
end Go.Dr
namespace Go.Dr
open Go.Proofs
set_option maxRecDepth 20000
set_option maxHeartbeats 2000000
set_option linter.unusedSimpArgs false
set_option linter.unusedVariables false
theorem s21_L10c {P K:Prop} (k:K) (h:Goal K→P:=by
 intro zk
 (first|refine Walk ?_|refine JC.block ?_|(refine JO.eff rfl rfl rfl (JEff.callV rfl (p10_May (by exact vta) (by exact vta) (by exact vta)) rfl ?_);intro zqa zqb)|(refine WBox ?_))
 (repeat (first|revert zqg|revert zqf|revert zqe|revert zqd|revert zqc|revert zqb|revert zqa))
 exact zk.k):P:=h ⟨k⟩
theorem p10_Ways {S:SHeap} {u v:Value} {s:Snap} {p:List Int} (pod:Int) (hu:rSnap.V S u s) (hv:(rSlice 8 rI64).V S v p) (hn:s.nodes.length≤1000) (hpr:Rng pod):FnL Tryz.prog 21 #[u,v,.int .i64 pod] S 8 rI64 (waysV s p pod):=by
 (refine Fn.enter (args:=[u,v,.int .i64 pod]) Tryz.func21 rfl Tryz.ntmps21 rfl ?_;intro w0)
 repeat (refine s21_L10c ?_;intros)
 (first|refine JC.newRow 3 1 ?_|refine JO.newRow 3 1 ?_|refine JX.newRow 3 1 ?_)
 refine JC.loopF (σ:=Nat × Option Addr × Nat × List Value) [(1,_),(2,_),(3,_),(10,_)] (fun q=>[(6,.slice q.2.1 ((fun k=>waysK s p pod k) q.1).length q.2.2.1),(11,((fun k=>.int .i64 k) q.1))]) (fun q=>[.row w0.heap.size 3 (Rp.sz rI64) (.slice q.2.1 ((fun k=>waysK s p pod k) q.1).length q.2.2.1) ((fun k=>waysK s p pod k) q.1).length (flatCells q.2.2.2)]) (fun Sk q=>q.1≤s.nodes.length∧allV rI64 Sk q.2.2.2 ((fun k=>waysK s p pod k) q.1)∧((fun k=>True) q.1)) (fun q=>s.nodes.length - q.1) (0,none,0,[]) (by exact sba) (by exact sba) (by first|rfl|simp) (⟨Nat.zero_le _,trivial,trivial⟩) ?_;rintro Sk ⟨k,rak,rck,vsk⟩ hlk ⟨hk,hvk,hik⟩;(try dsimp only at hk hvk hik);dsimp only [List.cons_append,List.nil_append]
 have hfl:=waysK_len s p pod k
 repeat (refine s21_L10c ?_;intros)
 refine JC.cond rfl (fun hc=>?_) (fun hc=>?_)
 ·have hk':=dlt hc
  have hst:=waysK_step s p pod k
  have hxv:rStep.V Sk (.agg (flatCells [.int .i64 2,.int .i64 pod,.int .i64 k]).toArray) ⟨2,pod,k⟩:=V_step.2 ⟨by simp [flatCells,Value.cells],by simp [Rng],hpr,by unfold Rng;dsimp only;omega⟩
  repeat (refine s21_L10c ?_;intros)
  refine JC.cond rfl (fun hf=>?_) (fun hf=>?_)
  ·rw [hf,if_pos rfl] at hst
   repeat (refine s21_L10c ?_;intros)
   (refine JO.eff rfl rfl rfl (JEff.build (rep:=rI64) (ys:=[(k:Int)]) rfl rfl ⟨⟨(V_i64.2 ⟨rfl,by unfold Rng;omega⟩),nna⟩,trivial⟩ rfl rfl rfl rfl ?_);intro bb hbb hvv);(repeat (first|(refine Walk ?_;intros)|refine JC.block ?_));(refine JO.eff rfl rfl rfl (JEff.appendL (rep:=rI64) rfl rfl rfl rfl (List.Perm.swap _ _ _) (by exact hvv.flat) (by intro c hc;exact flat_one (fun v hv=>(hvv.size v hv).2) c hc) (by first|omega|(unfold big;omega)) (by unfold big;omega) (by first|exact rowT_ok|(intro l hl;cases hl)) rfl ?_);intro a2 c2;clear hvv hbb)
   repeat (refine s21_L10c ?_;intros)
   exact JX.roundF (k+1,a2,c2,vsk++[(.int .i64 k)]) (by exact lea) ⟨by omega,by (try dsimp only);rw [hst];exact allV_add (by exact lea) hvk (V_i64.2 ⟨rfl,by unfold Rng;omega⟩) nna,(trivial)⟩ (by (try dsimp only);omega) (by (try dsimp only);rw [hst];(simp [flat_append]<;>omega)) (by (try dsimp only);rw [hst];simp only [List.length_append,List.length_cons,List.length_nil];exact sba) (by exact sba)
  ·rw [hf,if_neg (by simp),List.append_nil] at hst
   repeat (refine s21_L10c ?_;intros)
   exact JX.roundF (k+1,rak,rck,vsk) (by exact lea) ⟨by omega,by (try dsimp only);rw [hst];exact hvk.mono (by exact lea),(trivial)⟩ (by (try dsimp only);omega) (by (try dsimp only);rw [hst]) (by (try dsimp only);rw [hst];exact sba) (by exact sba)
 ·have hk':=dnlt hc
  obtain rfl:k=s.nodes.length:=by omega
  repeat (refine s21_L10c ?_;intros)
  refine JX.freezeRow (rep:=rI64) (bt:=8) hvk rfl (by unfold big;omega) (by unfold big;omega) (fun S9 hl9 hV9=>?_)
  (refine JX.ret1 Tryz.results21 (ResV.tmp rfl) (List.nil_sublist _) ?_)
  exact ⟨rfl,hV9⟩
end Go.Dr
namespace Go.Dr
open Go.Proofs
set_option maxRecDepth 20000
set_option maxHeartbeats 2000000
set_option linter.unusedSimpArgs false
set_option linter.unusedVariables false
structure OfferD where
 s:Snap
 p:List Int
 pod:Int
def rOffer:Rp OfferD:=rMap (fun x:OfferD=>(x.s,x.p,x.pod)) (rSeq rSnap (rSeq (rSlice 8 rI64) rI64))
instance:Fld rOffer 0 rSnap OfferD.s:=⟨(Part.map Part.first)⟩
instance:Fld rOffer 3 (rSlice 8 rI64) OfferD.p:=⟨(Part.map (Part.next Part.first rfl))⟩
instance:Fld rOffer 4 rI64 OfferD.pod:=⟨(Part.map (Part.next (Part.last rfl) rfl))⟩
instance:TyR Tryz.prog 173 rOffer:=⟨by kernel_rfl⟩
theorem s122_L14o {P K:Prop} (k:K) (h:Goal K→P:=by
 intro zk
 (first|refine Walk ?_|refine JC.block ?_|(refine JO.eff rfl rfl rfl (JEff.callV rfl (p14_Left _ (by exact vta) (by exact vta)) rfl ?_);intro zqa zqb)|(refine JO.eff rfl rfl rfl (JEff.callRow rfl (p_Clone_int (by exact vta)) rfl ?_);intro zqa zqb zqc zqd zqe zqf)|(refine WBox ?_))
 (repeat (first|revert zqg|revert zqf|revert zqe|revert zqd|revert zqc|revert zqb|revert zqa))
 exact zk.k):P:=h ⟨k⟩
theorem p14_left {S:SHeap} {ov:Value} {s:Snap} {p:List Int} {pod:Int} (node:Int) (ho:rOffer.V S ov ⟨s,p,pod⟩) (h0:0≤pod) (h1:pod < p.length) (hr:Rng node):FnV Tryz.prog 122 #[ov,.int .i64 node] S (.int .i64 (leftAt s p pod node)):=by
 obtain ⟨i,rfl⟩:∃ i:Nat,pod=i:=⟨pod.toNat,by omega⟩
 (refine Fn.enter (args:=[ov,.int .i64 node]) Tryz.func122 rfl Tryz.ntmps122 rfl ?_;intro w0)
 repeat (refine s122_L14o ?_;intros)
 rw [flat_int (by assumption)]
 have hVp:=(by assumption:(rSlice 8 rI64).V _ _ (OfferD.mk s p i).p)
 obtain ⟨_,_,_,_,hp8,hp9,_⟩:=V_slice.1 hVp
 have hpr:∀ z∈p,Rng z:=fun z hz=>by
  obtain ⟨q,cs,h,_⟩:=slice_at hVp z hz
  exact h.2
 dsimp only at hp8 hp9
 refine JO.rowBlk (by dsimp only;omega) (fun b tl hab hbb hnc=>?_)
 subst hab
 dsimp only at hnc
 repeat (refine s122_L14o ?_;intros)
 refine JO.pure rfl rfl rfl (JPure.indexRI rfl rfl rfl (by dsimp only;omega) (by dsimp only;omega) ?_)
 refine JO.eff rfl rfl rfl (JEff.storeIT (i:=i) rfl rfl hr (List.Perm.refl _) (by dsimp only;omega) (by intro l hl;cases hl) ?_)
 refine JO.freeze hbb (by intro l hl;cases hl) (fun S9 hl9 hS9=>?_)
 have hq:(p.set i node).length=p.length:=by simp
 have hVq:(rSlice 8 rI64).V S9 (.slice (some ⟨b,0,none⟩) p.length _) (p.set i node):=blk_slice (SHeap.le.refl S9) hS9 hq.symm hnc hp8 (fun z hz=>by
  rcases List.mem_or_eq_of_mem_set hz with h|rfl
  ·exact hpr z h
  ·exact hr)
 repeat (first|(refine Walk ?_;intros)|refine JC.block ?_|(refine JO.eff rfl rfl rfl (JEff.callV rfl (p14_Left node (by exact vta) hVq) rfl ?_);intro _ _)|(refine JO.eff rfl rfl rfl (JEff.callV rfl (p14_Left _ (by exact vta) (by exact vta)) rfl ?_);intro _ _)|(refine JO.eff rfl rfl rfl (JEff.callRow rfl (p_Clone_int (by exact vta)) rfl ?_);intro _ _ _ _ _ _)|(refine WBox ?_;intros))
 (refine JX.ret1 Tryz.results122 (ResV.tmp rfl) (List.nil_sublist _) ?_)
 exact ⟨rfl,by unfold leftAt;rw [Int.toNat_natCast]⟩
theorem s21_L14o {P K:Prop} (k:K) (h:Goal K→P:=by
 intro zk
 (first|refine Walk ?_|refine JC.block ?_|(refine JO.eff rfl rfl rfl (JEff.callV rfl (p10_May (by exact vta) (by exact vta) (by exact vta)) rfl ?_);intro zqa zqb)|(refine WBox ?_))
 (repeat (first|revert zqg|revert zqf|revert zqe|revert zqd|revert zqc|revert zqb|revert zqa))
 exact zk.k):P:=h ⟨k⟩
theorem p10_WaysR {S:SHeap} {u v:Value} {s:Snap} {p:List Int} (pod:Int) (hu:rSnap.V S u s) (hv:(rSlice 8 rI64).V S v p) (hn:s.nodes.length≤1000) (hpr:Rng pod):FnRow Tryz.prog 21 #[u,v,.int .i64 pod] S 3 rI64 (waysV s p pod):=by
 (refine FnRow.enter (args:=[u,v,.int .i64 pod]) Tryz.func21 rfl Tryz.ntmps21 rfl ?_;intro w0)
 repeat (refine s21_L14o ?_;intros)
 (first|refine JC.newRow 3 1 ?_|refine JO.newRow 3 1 ?_|refine JX.newRow 3 1 ?_)
 refine JC.loopF (σ:=Nat × Option Addr × Nat × List Value) [(1,_),(2,_),(3,_),(10,_)] (fun q=>[(6,.slice q.2.1 ((fun k=>waysK s p pod k) q.1).length q.2.2.1),(11,((fun k=>.int .i64 k) q.1))]) (fun q=>[.row w0.heap.size 3 (Rp.sz rI64) (.slice q.2.1 ((fun k=>waysK s p pod k) q.1).length q.2.2.1) ((fun k=>waysK s p pod k) q.1).length (flatCells q.2.2.2)]) (fun Sk q=>q.1≤s.nodes.length∧allV rI64 Sk q.2.2.2 ((fun k=>waysK s p pod k) q.1)∧((fun k=>True) q.1)) (fun q=>s.nodes.length - q.1) (0,none,0,[]) (by exact sba) (by exact sba) (by first|rfl|simp) (⟨Nat.zero_le _,trivial,trivial⟩) ?_;rintro Sk ⟨k,rak,rck,vsk⟩ hlk ⟨hk,hvk,hik⟩;(try dsimp only at hk hvk hik);dsimp only [List.cons_append,List.nil_append]
 have hfl:=waysK_len s p pod k
 repeat (refine s21_L14o ?_;intros)
 refine JC.cond rfl (fun hc=>?_) (fun hc=>?_)
 ·have hk':=dlt hc
  have hst:=waysK_step s p pod k
  have hxv:rStep.V Sk (.agg (flatCells [.int .i64 2,.int .i64 pod,.int .i64 k]).toArray) ⟨2,pod,k⟩:=V_step.2 ⟨by simp [flatCells,Value.cells],by simp [Rng],hpr,by unfold Rng;dsimp only;omega⟩
  repeat (refine s21_L14o ?_;intros)
  refine JC.cond rfl (fun hf=>?_) (fun hf=>?_)
  ·rw [hf,if_pos rfl] at hst
   repeat (refine s21_L14o ?_;intros)
   (refine JO.eff rfl rfl rfl (JEff.build (rep:=rI64) (ys:=[(k:Int)]) rfl rfl ⟨⟨(V_i64.2 ⟨rfl,by unfold Rng;omega⟩),nna⟩,trivial⟩ rfl rfl rfl rfl ?_);intro bb hbb hvv);(repeat (first|(refine Walk ?_;intros)|refine JC.block ?_));(refine JO.eff rfl rfl rfl (JEff.appendL (rep:=rI64) rfl rfl rfl rfl (List.Perm.swap _ _ _) (by exact hvv.flat) (by intro c hc;exact flat_one (fun v hv=>(hvv.size v hv).2) c hc) (by first|omega|(unfold big;omega)) (by unfold big;omega) (by first|exact rowT_ok|(intro l hl;cases hl)) rfl ?_);intro a2 c2;clear hvv hbb)
   repeat (refine s21_L14o ?_;intros)
   exact JX.roundF (k+1,a2,c2,vsk++[(.int .i64 k)]) (by exact lea) ⟨by omega,by (try dsimp only);rw [hst];exact allV_add (by exact lea) hvk (V_i64.2 ⟨rfl,by unfold Rng;omega⟩) nna,(trivial)⟩ (by (try dsimp only);omega) (by (try dsimp only);rw [hst];(simp [flat_append]<;>omega)) (by (try dsimp only);rw [hst];simp only [List.length_append,List.length_cons,List.length_nil];exact sba) (by exact sba)
  ·rw [hf,if_neg (by simp),List.append_nil] at hst
   repeat (refine s21_L14o ?_;intros)
   exact JX.roundF (k+1,rak,rck,vsk) (by exact lea) ⟨by omega,by (try dsimp only);rw [hst];exact hvk.mono (by exact lea),(trivial)⟩ (by (try dsimp only);omega) (by (try dsimp only);rw [hst]) (by (try dsimp only);rw [hst];exact sba) (by exact sba)
 ·have hk':=dnlt hc
  obtain rfl:k=s.nodes.length:=by omega
  repeat (refine s21_L14o ?_;intros)
  exact JX.retRow Tryz.results21 (ResV.tmp rfl) rfl hvk
end Go.Dr
namespace Go.Dr
open Go.Proofs
set_option maxRecDepth 20000
set_option maxHeartbeats 2000000
set_option linter.unusedSimpArgs false
set_option linter.unusedVariables false
theorem snap_form {S:SHeap} {v:Value} {s:Snap} (h:rSnap.V S v s):∃ a1 n1 c1 a2 n2 c2 a3 n3 c3,v=.agg #[.slice a1 n1 c1,.slice a2 n2 c2,.slice a3 n3 c3]∧rSnap.R S [.slice a1 n1 c1,.slice a2 n2 c2,.slice a3 n3 c3] s:=by
 obtain ⟨cs,rfl,hR⟩:=V_agg rfl h
 have hR0:=hR
 obtain ⟨_,_,rfl,⟨a1,n1,c1,rfl,_⟩,_,_,rfl,⟨a2,n2,c2,rfl,_⟩,⟨a3,n3,c3,rfl,_⟩⟩:=hR
 exact ⟨a1,n1,c1,a2,n2,c2,a3,n3,c3,rfl,hR0⟩
def cX (a b c:Value) (ms:List Int):Array Value:=(a::b::c::ms.map (fun x=>Value.int .i64 x)).toArray
theorem cX_set (a b c:Value) {ms:List Int} {k:Nat} {z:Int} (h:k < ms.length):((cX a b c ms).toList.take (3+k)++(Value.int .i64 z).cells.toList++(cX a b c ms).toList.drop (3+k+1)).toArray=cX a b c (ms.set k z):=by
 unfold cX
 congr 1
 have e1:3+k=k+3:=by omega
 have e2:3+k+1=(k+1)+3:=by omega
 rw [List.toList_toArray,e2,e1]
 simp only [List.take_succ_cons,List.drop_succ_cons,List.cons_append,Value.cells,List.toList_toArray]
 congr 3
 rw [List.map_set,List.set_eq_take_append_cons_drop,if_pos (by simpa using h)]
 simp
theorem cX_at (a b c:Value) {ms:List Int} {k:Nat} {z:Int} (h:ms[k]?=some z):((cX a b c ms).toList.drop (3+k)).take 1=[.int .i64 z]:=by
 unfold cX
 have hk:=(List.getElem?_eq_some_iff.1 h).1
 rw [List.toList_toArray,show 3+k=k+3 by omega]
 simp only [List.drop_succ_cons]
 rw [List.drop_eq_getElem_cons (by simpa using hk)]
 have:=(List.getElem?_eq_some_iff.1 h).2
 simp [this]
theorem cX_size (a b c:Value) (ms:List Int):(cX a b c ms).size=ms.length+3:=by simp [cX]
def mostRow (s:Snap) (i:Nat):List Int:=(List.range 5).map (fun k=>mostTo s k i)
def mostRow2 (s:Snap) (i k:Nat):List Int:=(List.range 5).map (fun j=>if j < k then mostTo s j (i+1) else mostTo s j i)
theorem mostRow2_0 (s:Snap) (i:Nat):mostRow2 s i 0=mostRow s i:=by unfold mostRow2 mostRow;simp
theorem mostRow2_5 (s:Snap) (i:Nat):mostRow2 s i 5=mostRow s (i+1):=by
 unfold mostRow2 mostRow
 refine List.map_congr_left fun j hj=>?_
 rw [if_pos (List.mem_range.1 hj)]
theorem mostRow2_at (s:Snap) (i:Nat) {k:Nat} (h:k < 5):(mostRow2 s i k)[k]?=some (mostTo s k i):=by
 unfold mostRow2
 rw [List.getElem?_map,List.getElem?_range h]
 simp
theorem mostRow2_step (s:Snap) (i:Nat) {k:Nat} (h:k < 5):mostRow2 s i (k+1)=(mostRow2 s i k).set k (mostTo s k (i+1)):=by
 refine List.ext_getElem? fun j=>?_
 unfold mostRow2
 rw [List.getElem?_set]
 by_cases hj:j < 5
 ·rw [List.getElem?_map,List.getElem?_map,List.getElem?_range hj]
  by_cases e:k=j
  ·subst e;simp [h]
  ·simp only [e,if_false,Option.map_some]
   by_cases h1:j < k
   ·rw [if_pos (by omega),if_pos h1]
   ·rw [if_neg (by omega),if_neg h1]
 ·rw [List.getElem?_eq_none (by simp;omega)]
  by_cases e:k=j
  ·omega
  ·rw [if_neg e,List.getElem?_eq_none (by simp;omega)]
theorem compact_len (xs:List Int):(Lib.compact xs).length≤xs.length:=by
 unfold Lib.compact Lib.compactUpTo
 rw [List.length_map]
 have:=List.length_filter_le (Lib.keeps xs.toArray) (List.range xs.length)
 simpa using this
theorem s20_L14g {P K:Prop} (k:K) (h:Goal K→P:=by
 intro zk
 (first|refine Walk ?_|refine JC.block ?_|refine JC.drawN 15 rfl [0,2,3,1,4,5] [0,5] Tryz_mixed (by decide +kernel) ?_|(refine JO.eff rfl rfl rfl (JEff.callRow rfl (p_Clone_int (by exact vta)) rfl ?_);intro zqa zqb zqc zqd zqe zqf)|(refine JO.eff rfl rfl rfl (JEff.callV rfl (p5_Check (by exact vta)) rfl ?_);intro zqa zqb)|(refine WBox ?_))
 (repeat (first|revert zqg|revert zqf|revert zqe|revert zqd|revert zqc|revert zqb|revert zqa))
 exact zk.k):P:=h ⟨k⟩
theorem p14_Order {S:SHeap} {u v:Value} {s:Snap} {pods:List Int} (hu:rSnap.V S u s) (hv:(rSlice 8 rI64).V S v pods) (hpl:pods.length≤1000):FnL Tryz.prog 20 #[u,v] S 8 rI64 (orderV s pods):=by
 have hv0:=hv
 obtain ⟨pa,pc,rfl,_⟩:=V_slice.1 hv
 (refine Fn.enter (args:=[u,.slice pa pods.length pc]) Tryz.func20 rfl Tryz.ntmps20 rfl ?_;intro w0)
 repeat (refine s20_L14g ?_;intros)
 by_cases hs:checkS s=0
 ·rw [decide_eq_true hs]
  repeat (refine s20_L14g ?_;intros)
  obtain ⟨a1,n1,c1,a2,n2,c2,a3,n3,c3,hzv,hR⟩:=snap_form (by assumption:rSnap.V _ _ s)
  subst hzv
  have hV0:∀ ms:List Int,ms.length=5→(∀ z∈ms,Rng z)→rSizes.R _ [.slice a1 n1 c1,.slice a2 n2 c2,.slice a3 n3 c3,.int .i64 0,.int .i64 0,.int .i64 0,.int .i64 0,.int .i64 0] (s,[0,0,0,0,0]):=fun _ _ _=>⟨[_,_,_],[_,_,_,_,_],rfl,hR,rfl,rfl,by simp [Rng]⟩
  have hVx:rSizes.V _ (.agg #[.slice a1 n1 c1,.slice a2 n2 c2,.slice a3 n3 c3,.int .i64 0,.int .i64 0,.int .i64 0,.int .i64 0,.int .i64 0]) (s,[0,0,0,0,0]):=⟨_,hV0 [0,0,0,0,0] rfl (by simp [Rng]),rfl⟩
  (refine JO.eff rfl rfl rfl (JEff.alloc rfl ?_);intro xb hxb)
  refine JO.eff rfl rfl rfl (JEff.storeTo (cX (.slice a1 n1 c1) (.slice a2 n2 c2) (.slice a3 n3 c3) (mostRow s 0)) (rep:=rSizes) rfl rfl hVx nna pma (Nat.le_of_ble_eq_true rfl) (by intro l hl;cases hl) rfl ?_)
  repeat (refine s20_L14g ?_;intros)
  refine JC.loopF (σ:=Nat) [(1,_),(2,_),(5,_),(17,_),(18,_)] (fun q=>[(19,.int .i64 q)]) (fun q=>[.blk xb (.cells (cX (.slice a1 n1 c1) (.slice a2 n2 c2) (.slice a3 n3 c3) (mostRow s q)) 114 (0,0))]) (fun Si q=>q≤s.nodes.length) (fun q=>s.nodes.length - q) (0) (by exact sba) (by exact sba) rfl (Nat.zero_le _) ?_;rintro Si i hli hii;(try dsimp only at hii);dsimp only [List.cons_append,List.nil_append]
  repeat (refine s20_L14g ?_;intros)
  refine JC.cond rfl (fun hc=>?_) (fun hc=>?_)
  ·have hi':=dlt hc
   obtain ⟨x,hx,_⟩:=drop_at hi'
   have hxm:=List.mem_of_getElem? hx
   have hxr:=shaped_cap (checkS_ok hs).1 x hxm
   have hcap:capOf s i=x.cap:=by simp [capOf,hx]
   repeat (first|(refine Walk ?_;intros)|refine JC.block ?_|refine JC.drawN 15 rfl [0,2,3,1,4,5] [0,5] Tryz_mixed (by decide +kernel) ?_|(refine WNew ?_;intros)|(refine WPut ?_;intros)|(refine JO.eff rfl rfl rfl (JEff.callRow rfl (p_Clone_int (by exact vta)) rfl ?_);intro _ _ _ _ _ _)|(refine JO.eff rfl rfl rfl (JEff.callV rfl (p5_Check (by exact vta)) rfl ?_);intro _ _)|(refine WBox ?_;intros))
   obtain ⟨rfl,hcl,_⟩:=V_arr.1 (by assumption:(rArr 5).V _ _ x.cap)
   rw [← mostRow2_0 s i]
   refine JC.loopF (σ:=Nat) [(1,_),(2,_),(5,_),(17,_),(18,_),(19,_),(24,_)] (fun q=>[(25,.int .i64 q)]) (fun q=>[.blk xb (.cells (cX (.slice a1 n1 c1) (.slice a2 n2 c2) (.slice a3 n3 c3) (mostRow2 s i q)) 114 (0,0))]) (fun Sj q=>q≤5) (fun q=>5 - q) (0) (by exact sba) (by exact sba) rfl (by omega) ?_;rintro Sj k hlj hij;(try dsimp only at hij);dsimp only [List.cons_append,List.nil_append]
   repeat (refine s20_L14g ?_;intros)
   refine JC.cond rfl (fun hc2=>?_) (fun hc2=>?_)
   ·have hk':=dlt5 hc2
    obtain ⟨y,hy⟩:∃ y,x.cap[k]?=some y:=⟨_,List.getElem?_eq_getElem (by omega)⟩
    have hyr:=hxr y (List.mem_of_getElem? hy)
    have hy0:=at0_some hy
    have hm:=mostRow2_at s i hk'
    have hmr:=mostTo_rng hs k i
    have hst:mostTo s k (i+1)=max (mostTo s k i) y:=by simp only [mostTo,hcap,hy0]
    have hrl:(mostRow2 s i k).length=5:=by simp [mostRow2]
    have e:0+3+((k:Int)).toNat*1=3+k:=by omega
    unfold Qty at hyr hmr
    repeat (refine s20_L14g ?_;intros)
    refine JO.pure rfl rfl rfl (JPure.indexV rfl rfl rfl (by omega) (by omega) (by simpa using hy) ?_)
    repeat (refine s20_L14g ?_;intros)
    refine JO.pure rfl rfl rfl (JPure.fieldP rfl rfl ?_)
    refine JO.pure rfl rfl rfl (JPure.indexB (off:=0+3) rI64 rfl rfl rfl (by omega) (by omega) ?_)
    refine JO.pure rfl rfl rfl (JPure.loadM (off:=0+3+((k:Int)).toNat*1) (rep:=rI64) (x0:=mostTo s k i) (mid:=[.int .i64 (mostTo s k i)]) rfl (by (first|exact List.mem_cons_self|exact List.mem_cons_of_mem _ List.mem_cons_self|exact List.mem_cons_of_mem _ (List.mem_cons_of_mem _ List.mem_cons_self))) (by rw [e];exact cX_at _ _ _ hm) ⟨rfl,by unfold Rng;omega⟩ (.inl rfl) rfl ?_)
    repeat (refine s20_L14g ?_;intros)
    refine JO.pure rfl rfl rfl (JPure.fieldP rfl rfl ?_)
    refine JO.pure rfl rfl rfl (JPure.indexB (off:=0+3) rI64 rfl rfl rfl (by omega) (by omega) ?_)
    refine JO.eff rfl rfl rfl (JEff.storeTo (off:=0+3+((k:Int)).toNat*1) (cX (.slice a1 n1 c1) (.slice a2 n2 c2) (.slice a3 n3 c3) (mostRow2 s i (k+1))) (rep:=rI64) (x0:=max (mostTo s k i) y) rfl rfl (V_i64.2 ⟨rfl,by unfold Rng;omega⟩) nna pma (by rw [cX_size,e];show 3+k+1≤_;omega) (by intro l hl;cases hl) (by rw [e,mostRow2_step s i hk',hst];exact cX_set _ _ _ (by omega)) ?_)
    repeat (refine s20_L14g ?_;intros)
    exact JX.roundF (k+1) (by exact lea) (by omega) (by (try dsimp only);omega) rfl (by exact sba) (by exact sba)
   ·have hk':=dnlt5 hc2
    obtain rfl:k=5:=by omega
    rw [mostRow2_5]
    repeat (refine s20_L14g ?_;intros)
    exact JX.roundF (i+1) (by exact lea) (by omega) (by (try dsimp only);omega) rfl (by exact sba) (by exact sba)
  ·have hi':=dnlt hc
   obtain rfl:i=s.nodes.length:=by omega
   refine JC.freeze hxb (fun S7 hl7 hS7=>?_)
   have hPx:PtrTo S7 ⟨xb,0,none⟩ rSizes (s,mostL s):=cells_ptr (v:=.agg (cX (.slice a1 n1 c1) (.slice a2 n2 c2) (.slice a3 n3 c3) (mostL s))) hS7 ⟨[_,_,_],(mostL s).map (fun x=>Value.int .i64 x),rfl,rSnap.mono (by exact lea) hR,R_arr (by simp [mostL]) (fun z hz=>by
    obtain ⟨k,_,rfl⟩:=List.mem_map.1 hz
    have:=mostTo_rng hs k s.nodes.length
    unfold Qty at this
    unfold mostV Rng;omega)⟩
   have hrl:∀ x∈s.pods,x.req.length=5:=fun x hx=>(snap_reqs (by assumption:PtrTo _ _ rSnap s) x hx).1
   have hin:=order_in s.pods.length pods
   have hord:orderV s pods=sortBy (fun i=>-sizeV s i) (inPods s.pods.length pods):=if_pos hs
   have hq:=(by assumption:PtrTo _ _ rSnap s)
   repeat (refine s20_L14g ?_;intros)
   rw [flat_int (by assumption)]
   by_cases hp0:pods=[]
   ·have ho0:orderV s pods=[]:=by
     rw [hord,hp0]
     have:inPods s.pods.length []=[]:=by unfold inPods;simp
     rw [this];simp [sortBy]
    rw [ho0,hp0]
    repeat (first|(refine Walk ?_;intros)|refine JC.block ?_|refine JC.drawN 15 rfl [0,2,3,1,4,5] [0,5] Tryz_mixed (by decide +kernel) ?_|(refine JO.eff rfl rfl rfl (JEff.callV rfl (p_DeleteFuncI0 _ _ _) rfl ?_);intro _ _)|(refine JO.eff rfl rfl rfl (JEff.callV rfl (p_SortInts0 _ _) rfl ?_);intro _ _)|(refine JO.eff rfl rfl rfl (JEff.callV rfl (p_CompactI0 _ _) rfl ?_);intro _ _)|(refine JO.eff rfl rfl rfl (JEff.callV rfl (p14_by0) rfl ?_);intro _ _)|(refine JO.eff rfl rfl rfl (JEff.callRow rfl (p_Clone_int (by exact vta)) rfl ?_);intro _ _ _ _ _ _)|(refine JO.eff rfl rfl rfl (JEff.callV rfl (p5_Check (by exact vta)) rfl ?_);intro _ _)|(refine WBox ?_;intros))
    (refine JX.ret1 Tryz.results20 (ResV.tmp rfl) (List.nil_sublist _) ?_)
    exact ⟨rfl,V_slice.2 ⟨_,_,rfl,by simp,by simp,by simp,by simp⟩⟩
   ·have hpos:=List.length_pos_iff.2 hp0
    refine JO.rowBlk (by omega) (fun pb tl hab hpb hnc=>?_)
    subst hab
    have hfl:=List.length_filter_le (fun x=>!(decide (x < 0)||decide ((s.pods.length:Int)≤x))) pods
    refine JO.eff rfl rfl rfl (JEff.callM (Mc:=[.blk pb (.cells (intsT pods tl) 3 (0,0))]) (Mr:=[]) rfl (List.Perm.refl _) (mayAll rfl) (p_DeleteFunc pods (fun x=>decide (x < 0)||decide ((s.pods.length:Int)≤x)) 68 #[.pointer (some _)] (enters_of Tryz.func68 (by kernel_rfl) rfl) rfl (by omega) hnc (p14_in (hq.mono (by exact lea)))) rfl ?_)
    intro w1 S1 M1 hl1 hw1
    obtain ⟨rfl,rfl,tl1,rfl⟩:=hw1
    dsimp only [List.cons_append,List.nil_append]
    generalize hfx:pods.filter (fun x=>!(decide (x < 0)||decide ((s.pods.length:Int)≤x)))=fx at *
    repeat (refine s20_L14g ?_;intros)
    refine JO.eff rfl rfl rfl (JEff.callM (Mc:=[.blk pb (.cells (intsT fx tl1) 3 (0,0))]) (Mr:=[]) rfl (List.Perm.refl _) (mayAll rfl) (p_SortInts fx rfl (by omega)) rfl ?_)
    intro w2 S2 M2 hl2 hw2
    obtain ⟨rfl,rfl,rfl⟩:=hw2
    dsimp only [List.cons_append,List.nil_append]
    have hsl:(fx.mergeSort fun x y=>decide (x≤y)).length=fx.length:=List.length_mergeSort _
    generalize fx.mergeSort (fun x y=>decide (x≤y))=sx at *
    repeat (refine s20_L14g ?_;intros)
    have hcl:=compact_len sx
    refine JO.eff rfl rfl rfl (JEff.callM (Mc:=[.blk pb (.cells (intsT sx tl1) 3 (0,0))]) (Mr:=[]) rfl (List.Perm.refl _) (mayAll rfl) (p_CompactI sx hsl.symm (by omega) (by omega)) rfl ?_)
    intro w3 S3 M3 hl3 hw3
    obtain ⟨rfl,rfl,tl3,rfl⟩:=hw3
    dsimp only [List.cons_append,List.nil_append]
    rw [hin] at hcl ⊢
    have hxs:=(by assumption:rSizes.V _ _ (s,mostL s))
    rw [hord]
    by_cases hi0:inPods s.pods.length pods=[]
    ·rw [hi0]
     repeat (first|(refine Walk ?_;intros)|refine JC.block ?_|refine JC.drawN 15 rfl [0,2,3,1,4,5] [0,5] Tryz_mixed (by decide +kernel) ?_|(refine JO.eff rfl rfl rfl (JEff.callV rfl (p14_by0) rfl ?_);intro _ _)|(refine JO.eff rfl rfl rfl (JEff.callRow rfl (p_Clone_int (by exact vta)) rfl ?_);intro _ _ _ _ _ _)|(refine JO.eff rfl rfl rfl (JEff.callV rfl (p5_Check (by exact vta)) rfl ?_);intro _ _)|(refine WBox ?_;intros))
     (refine JX.ret1 Tryz.results20 (ResV.tmp rfl) (List.nil_sublist _) ?_)
     exact ⟨rfl,by rw [show sortBy (fun i=>-sizeV s i) []=[] by simp [sortBy]];exact V_slice.2 ⟨_,_,rfl,by simp,by simp,by simp,by simp⟩⟩
    ·have hD:∀ x∈inPods s.pods.length pods,0≤x∧x < s.pods.length:=fun x hx=>⟨(in_mem.1 hx).1,(in_mem.1 hx).2.1⟩
     refine JO.eff rfl rfl rfl (JEff.callM (Mc:=[.blk pb (.cells (intsT (inPods s.pods.length pods) tl3) 3 (0,0))]) (Mr:=[]) rfl (List.Perm.refl _) (mayAll rfl) (p14_by (D:=fun x=>0≤x∧x < s.pods.length) (key:=fun i=>-sizeV s i) inferInstance rfl (by omega) hi0 hD (fun x hx S' h=>p14_small (hxs.mono (by exact lea)) hs hx.1 hx.2 hrl)) rfl ?_)
     intro w4 S4 M4 hl4 hw4
     obtain ⟨rfl,rfl⟩:=hw4
     dsimp only [List.cons_append,List.nil_append]
     refine JO.freeze hpb (by intro l hl;cases hl) (fun S9 hl9 hS9=>?_)
     have hpm:(sortBy (fun i=>-sizeV s i) (inPods s.pods.length pods)).Perm (inPods s.pods.length pods):=List.mergeSort_perm _ _
     have hsm:=(checkS_ok hs).1
     obtain ⟨_,hp24,_⟩:=shaped_small hsm
     repeat (refine s20_L14g ?_;intros)
     (refine JX.ret1 Tryz.results20 (ResV.tmp rfl) (List.nil_sublist _) ?_)
     exact ⟨rfl,blk_slice (SHeap.le.refl S9) hS9 hpm.length_eq.symm (by omega) (by unfold big;omega) (fun z hz=>by have:=hD z (hpm.mem_iff.1 hz);unfold Rng;omega)⟩
 ·rw [decide_eq_false hs,show orderV s pods=[] from if_neg hs]
  repeat (refine s20_L14g ?_;intros)
  (refine JX.ret1 Tryz.results20 (ResV.tmp rfl) (List.nil_sublist _) ?_)
  exact ⟨rfl,V_nil⟩
end Go.Dr
