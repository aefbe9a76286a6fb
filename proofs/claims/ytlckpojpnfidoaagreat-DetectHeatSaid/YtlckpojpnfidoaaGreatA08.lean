/- Part 9 of the rules and of the walks that the proofs of this seat rest on; no condition. -/
import Derived.Test.YtlckpojpnfidoaaGreatA07
import Derived.Deep.Slices
import Derived.OpenShut
import Derived.SizedLaws
import Derived.Carry
import Derived.Below
set_option linter.unusedVariables false
set_option linter.unusedSimpArgs false
namespace Go.Dr
open Go.Proofs
set_option maxRecDepth 20000
set_option maxHeartbeats 2000000
set_option linter.unusedSimpArgs false
set_option linter.unusedVariables false
theorem snap_small {S:SHeap} {u:Value} {s:Snap} (hu:rSnap.V S u s):s.nodes.length≤1300000000000∧s.pods.length≤1300000000000∧s.owners.length≤3000000000000:=by
 obtain ⟨cs,rfl,hR⟩:=V_agg rfl hu
 obtain ⟨_,_,rfl,⟨a1,n1,c1,rfl,e1,k1,h1,_⟩,_,_,rfl,⟨a2,n2,c2,rfl,e2,k2,h2,_⟩,⟨a3,n3,c3,rfl,e3,k3,h3,_⟩⟩:=hR
 unfold big at h1 h2 h3
 dsimp only at e1 e2 e3
 omega
theorem p5_each_PI {S:SHeap} {u:Value} {l:List Pod} {f:FuncId} {fs cs:Array Value} (g:Pod→Int) (hn:l.length≤1300000000000) (hu:(rSlice 240 rPod).V S u l) (hE:Ent Tryz.prog f) (hV:∀ S v x,(rPod).V S v x→(rI64).V S (Value.int .i64 (g x)) (g x))
  (hf:∀ S',S.le S'→∀ u x,(rPod).V S' u x→FnV Tryz.prog f (fs.toList++[u]++cs.toList).toArray S' (Value.int .i64 (g x))):FnL Tryz.prog 97 #[u,.func (.func f) fs cs] S 8 rI64 (l.map g):=by
 obtain ⟨a,c,rfl,_,_,hb,_⟩:=V_slice.1 hu
 unfold big at hb
 (refine Fn.enter (args:=[.slice a l.length c,.func (.func f) fs cs]) Tryz.func97 rfl Tryz.ntmps97 rfl ?_;intro w0)
 repeat (first|(refine Walk ?_;intros)|refine JC.block ?_|(refine WNew ?_;intros)|(refine WPut ?_;intros))
 refine JO.eff rfl rfl rfl (JEff.makeRow (rep:=rI64) rfl rfl (by unfold big;omega) (by unfold big;omega) rfl ?_);intro a0
 repeat (first|(refine Walk ?_;intros)|refine JC.block ?_|(refine WNew ?_;intros)|(refine WPut ?_;intros))
 refine JC.loopF (σ:=Nat × Option Addr × Nat × List Value) [(1,_),(11,_),(12,_)] (fun q=>[(5,.slice q.2.1 ((fun k=>(l.take k).map g) q.1).length q.2.2.1),(13,((fun k=>.int .i64 k) q.1))]) (fun q=>[.row w0.heap.size 3 (Rp.sz rI64) (.slice q.2.1 ((fun k=>(l.take k).map g) q.1).length q.2.2.1) ((fun k=>(l.take k).map g) q.1).length (flatCells q.2.2.2)]) (fun Sk q=>q.1≤l.length∧allV rI64 Sk q.2.2.2 ((fun k=>(l.take k).map g) q.1)∧((fun k=>True) q.1)) (fun q=>l.length - q.1) (0,a0,l.length,[]) (by exact sba) (by exact sba) (by first|rfl|simp) (⟨Nat.zero_le _,trivial,trivial⟩) ?_;rintro Sk ⟨k,rak,rck,vsk⟩ hlk ⟨hk,hvk,hik⟩;(try dsimp only at hk hvk hik);dsimp only [List.cons_append,List.nil_append]
 have hkl:((l.take k).map g).length≤k:=by rw [List.length_map,List.length_take];omega
 repeat (first|(refine Walk ?_;intros)|refine JC.block ?_|(refine WNew ?_;intros)|(refine WPut ?_;intros))
 refine JC.cond rfl (fun hc=>?_) (fun hc=>?_)
 ·have hk':=dlt hc
  obtain ⟨x,hx,_⟩:=drop_at hk'
  have hst:(l.take (k+1)).map g=(l.take k).map g++[g x]:=by rw [List.take_add_one,hx];simp
  repeat (first|(refine Walk ?_;intros)|refine JC.block ?_|(refine WNew ?_;intros)|(refine WPut ?_;intros))
  have hvx:=(by assumption:(rPod).V _ _ x)
  (refine JO.eff rfl rfl rfl (JEff.dynV rfl (by assumption) rfl ((hf _ (by exact lea) _ x (by exact vta))) rfl ?_);intro _ _)
  repeat (first|(refine Walk ?_;intros)|refine JC.block ?_|(refine WNew ?_;intros)|(refine WPut ?_;intros))
  (refine JO.eff rfl rfl rfl (JEff.build (rep:=rI64) (ys:=[g x]) rfl rfl ⟨⟨((hV _ _ x hvx).mono (by exact lea)),nna⟩,trivial⟩ rfl rfl rfl rfl ?_);intro bb hbb hvv);(repeat (first|(refine Walk ?_;intros)|refine JC.block ?_));(refine JO.eff rfl rfl rfl (JEff.appendL (rep:=rI64) rfl rfl rfl rfl (List.Perm.swap _ _ _) (by exact hvv.flat) (by intro c hc;exact flat_one (fun v hv=>(hvv.size v hv).2) c hc) (by first|omega|(unfold big;omega)) (by unfold big;omega) (by first|exact rowT_ok|(intro l hl;cases hl)) rfl ?_);intro a2 c2;clear hvv hbb)
  repeat (first|(refine Walk ?_;intros)|refine JC.block ?_|(refine WNew ?_;intros)|(refine WPut ?_;intros))
  exact JX.roundF (k+1,a2,c2,vsk++[((Value.int .i64 (g x)))]) (by exact lea) ⟨by omega,by (try dsimp only);rw [hst];exact allV_add (by exact lea) hvk ((hV _ _ x hvx).mono (by exact lea)) nna,(trivial)⟩ (by (try dsimp only);omega) (by (try dsimp only);rw [hst];(simp [flat_append]<;>omega)) (by (try dsimp only);rw [hst];simp only [List.length_append,List.length_cons,List.length_nil];exact sba) (by exact sba)
 ·have hk':=dnlt hc
  rw [List.take_of_length_le hk'] at hvk hkl ⊢
  repeat (first|(refine Walk ?_;intros)|refine JC.block ?_|(refine WNew ?_;intros)|(refine WPut ?_;intros))
  refine JX.freezeRow (rep:=rI64) (bt:=8) hvk rfl (by unfold big;rw [List.length_map];omega) (by unfold big;rw [List.length_map];omega) (fun S9 hl9 hV9=>?_)
  (refine JX.ret1 Tryz.results97 (ResV.tmp rfl) (List.nil_sublist _) ?_)
  exact ⟨rfl,hV9⟩
theorem s98_L5z {P K:Prop} (k:K) (h:Goal K→P:=by
 intro zk
 (first|refine Walk ?_|refine JC.block ?_|(refine JO.eff rfl rfl rfl (JEff.callV rfl (p5_Node _ (by exact vta) (by omega)) rfl ?_);intro zqa zqb)|(refine WBox ?_))
 (repeat (first|revert zqg|revert zqf|revert zqe|revert zqd|revert zqc|revert zqb|revert zqa))
 exact zk.k):P:=h ⟨k⟩
theorem p5_place1 {S:SHeap} {u:Value} {x:Pod} {s:Snap} {q:Addr} (hu:rPod.V S u x) (hq:PtrTo S q rSnap s):FnV Tryz.prog 98 #[u,.pointer (some q)] S (.int .i64 (whereV s x)):=by
 have hnl:s.nodes.length≤1300000000000:=by
  obtain ⟨cs,hR,_⟩:=hq
  exact (snap_small (Rp.val_V hR)).1
 (refine Fn.enter (args:=[u,.pointer (some q)]) Tryz.func98 rfl Tryz.ntmps98 rfl ?_;intro w0)
 repeat (refine s98_L5z ?_;intros)
 by_cases h:x.on=noS
 ·rw [decide_eq_true (show x.on=⟨#[]⟩ from h)]
  repeat (refine s98_L5z ?_;intros)
  (refine JX.ret1 Tryz.results98 (ResV.tmp rfl) (List.nil_sublist _) ?_)
  exact ⟨rfl,by unfold whereV;rw [if_pos h]⟩
 ·rw [decide_eq_false (show ¬ x.on=⟨#[]⟩ from h)]
  repeat (refine s98_L5z ?_;intros)
  (refine JX.ret1 Tryz.results98 (ResV.tmp rfl) (List.nil_sublist _) ?_)
  exact ⟨rfl,by unfold whereV;rw [if_neg h]⟩
theorem p5_Placement {S:SHeap} {u:Value} {s:Snap} (hu:rSnap.V S u s):FnL Tryz.prog 35 #[u] S 8 rI64 (placeV s):=by
 obtain ⟨hn,hp,_⟩:=snap_small hu
 (refine Fn.enter (args:=[u]) Tryz.func35 rfl Tryz.ntmps35 rfl ?_;intro w0)
 repeat (first|(refine Walk ?_;intros)|refine JC.block ?_|(refine WBox ?_;intros))
 have hq:=(by assumption:PtrTo _ _ rSnap s)
 (refine JO.eff rfl rfl rfl (JEff.callR rfl (p5_each_PI (l:=s.pods) (whereV s) hp (by exact vta) inferInstance (fun S v x _=>V_i64.2 ⟨rfl,by have:=whereV_rng s x;unfold Rng;omega⟩) (fun S' h u x hx=>p5_place1 hx (hq.mono (by exact lea)))) rfl ?_);intro w S2 hl2 hV)
 repeat (first|(refine Walk ?_;intros)|refine JC.block ?_|(refine WBox ?_;intros))
 (refine JX.ret1 Tryz.results35 (ResV.tmp rfl) (List.nil_sublist _) ?_)
 exact ⟨rfl,hV⟩
end Go.Dr
namespace Go.Dr
open Go.Proofs
set_option maxRecDepth 20000
set_option maxHeartbeats 2000000
set_option linter.unusedSimpArgs false
set_option linter.unusedVariables false
theorem V_nodeG {S:SHeap} {n:ByteArray} {c d:Int} {a:Option Addr} {m k:Nat} {ts:List Label} (hn:n.size≤big) (hc:Rng c) (hd:Rng d) (ht:(rSlice 32 rLabel).V S (.slice a m k) ts) :
  rNode.V S (.agg (flatCells [.string n,.agg (flatCells [.int .i64 c,.int .i64 d,.int .i64 0,.int .i64 0,.int .i64 0]).toArray,.slice none 0 0,.slice a m k,.bool false,.bool false]).toArray) ⟨n,[c,d,0,0,0],[],ts,false,false⟩:=
 ⟨[_,_,_,_,_,_,_,_,_,_],map_R (seq1 (R_str hn) (seq5 (R_vec (by simp [Rng] at *;omega)) (seq1 (V_nil.one rfl) (seq1 (ht.one rfl) (seq1 R_bool R_bool))))),rfl⟩
theorem V_podG {S:SHeap} {n:ByteArray} {c d:Int} {a:Option Addr} {m k:Nat} {ts:List Term} (hn:n.size≤big) (hc:Rng c) (hd:Rng d) (ht:(rSlice 40 rTerm).V S (.slice a m k) ts) :
  rPod.V S (.agg (flatCells [.string n,.string ⟨#[]⟩,.agg (flatCells [.int .i64 c,.int .i64 d,.int .i64 0,.int .i64 0,.int .i64 0]).toArray,.slice none 0 0,.slice a m k,.slice none 0 0,.agg #[.string ⟨#[]⟩,.slice none 0 0],.agg #[.string ⟨#[]⟩,.slice none 0 0],.string ⟨#[]⟩]).toArray) ⟨n,noS,[c,d,0,0,0],[],ts,[],noNr13,noNr13,noS⟩:=
 ⟨[_,_,_,_,_,_,_,_,_,_,_,_,_,_,_],map_R (seq1 (R_str hn) (seq1 (R_str sz0) (seq5 (R_vec (by simp [Rng] at *;omega)) (seq1 (V_nil.one rfl) (seq1 (ht.one rfl) (seq1 (V_nil.one rfl)
  (seq2 (map_R (seq1 (R_str sz0) (V_nil.one rfl))) (seq2 (map_R (seq1 (R_str sz0) (V_nil.one rfl))) (R_str sz0))))))))),rfl⟩
theorem V_termG {S:SHeap} {k:Int} {a b:ByteArray} (h0:Rng k) (h1:a.size≤big) (h2:b.size≤big):rTerm.V S (.agg (flatCells [.int .i64 k,.string a,.string b]).toArray) ⟨k,a,b⟩:=⟨_,map_R (seq1 ((V_i64.2 ⟨rfl,h0⟩).one rfl) (seq1 (R_str h1) (R_str h2))),rfl⟩
theorem q13_example {S:SHeap}:FnR Tryz.prog 95 #[] S (fun w S'=>rSnap.V S' w ex13):=by
 (refine Fn.enter (args:=[]) Tryz.func95 rfl Tryz.ntmps95 rfl ?_;intro w0)
 repeat (first|(refine Walk ?_;intros)|refine JC.block ?_)
 (refine JO.eff rfl rfl rfl (JEff.alloc rfl ?_);intro rb hrb)
 repeat (first|(refine Walk ?_;intros)|refine JC.block ?_)
 (refine JO.eff rfl rfl rfl (JEff.buildS (bt:=32) (rep:=rLabel) (ys:=[(⟨⟨#[107]⟩,⟨#[118]⟩⟩:Label)]) rfl rfl (⟨⟨V_lab (by decide) (by decide),nna⟩,trivial⟩) rfl rfl rfl (by decide) rfl ?_);intro S2 a2 hl2 hV2)
 repeat (first|(refine Walk ?_;intros)|refine JC.block ?_)
 (refine JO.eff rfl rfl rfl (JEff.buildS (bt:=112) (rep:=rNode) (ys:=ex13.nodes) rfl rfl ⟨⟨V_nodeG (sz1 _) (by simp [Rng]) (by simp [Rng]) V_nil,nna⟩,⟨V_nodeG (sz1 _) (by simp [Rng]) (by simp [Rng]) hV2,nna⟩,trivial⟩ rfl rfl rfl (by decide) rfl ?_);intro S4 a4 hl4 hV4)
 repeat (first|(refine Walk ?_;intros)|refine JC.block ?_)
 (refine JO.eff rfl rfl rfl (JEff.buildS (bt:=40) (rep:=rTerm) (ys:=[(⟨1,⟨#[110,111,110,101]⟩,⟨#[49]⟩⟩:Term)]) rfl rfl (⟨⟨V_termG (by simp [Rng]) (by decide) (by decide),nna⟩,trivial⟩) rfl rfl rfl (by decide) rfl ?_);intro S5 a5 hl5 hV5)
 repeat (first|(refine Walk ?_;intros)|refine JC.block ?_)
 (refine JO.eff rfl rfl rfl (JEff.buildS (bt:=240) (rep:=rPod) (ys:=ex13.pods) rfl rfl ⟨⟨V_podG (sz1 _) (by simp [Rng]) (by simp [Rng]) V_nil,nna⟩,⟨V_podG (sz1 _) (by simp [Rng]) (by simp [Rng]) hV5,nna⟩,trivial⟩ rfl rfl rfl (by decide) rfl ?_);intro S6 a6 hl6 hV6)
 repeat (first|(refine Walk ?_;intros)|refine JC.block ?_)
 refine JO.eff rfl rfl rfl (JEff.storeW rfl rfl (V_snap (x:=ex13) (hV4.mono (by exact lea)) (hV6.mono (by exact lea)) V_nil) nna (List.Perm.refl _) rfl (by intro l hl;cases hl) ?_)
 refine JO.freezeV (V_snap (x:=ex13) (hV4.mono (by exact lea)) (hV6.mono (by exact lea)) V_nil) nna hrb (by intro l hl;cases hl) ?_;intro S11 hl11 hpo
 repeat (first|(refine Walk ?_;intros)|refine JC.block ?_)
 exact JX.retCell Tryz.results95 rfl hpo (List.nil_sublist _) (fun w hw=>⟨rfl,hw⟩)
theorem s96_L13l {P K:Prop} (k:K) (h:Goal K→P:=by
 intro zk
 (first|refine Walk ?_|refine JC.block ?_|refine JC.drawN 6 rfl [0,1,2,3,4,5,6,7,8,9,10,11,12,13,14,15,16,17,18,19,20,21,22] [0,1,2,3,4,5,6,7,8,9,10,11,12,13,14,15,16,17,18,19,20,21,22] Tryz_mixed (by decide +kernel) ?_)
 (repeat (first|revert zqg|revert zqf|revert zqe|revert zqd|revert zqc|revert zqb|revert zqa))
 exact zk.k):P:=h ⟨k⟩
theorem q13_told {S:SHeap} {u v:Value} {l:List Wrong} (hu:(rSlice 24 rWrong).V S u l) (hv:(rSlice 8 rI64).V S v (trip l)):FnV Tryz.prog 96 #[u,v] S (.bool true):=by
 obtain ⟨a,c,rfl,_,_,hb,_⟩:=V_slice.1 hu
 obtain ⟨a2,c2,rfl,_,_,hb2,_⟩:=V_slice.1 hv
 unfold big at hb hb2
 have hlen:=trip_len l
 (refine Fn.enter (args:=[.slice a l.length c,.slice a2 (trip l).length c2]) Tryz.func96 rfl Tryz.ntmps96 rfl ?_;intro w0)
 repeat (refine s96_L13l ?_;intros)
 rw [decide_eq_true (show 3*(l.length:Int)=(trip l).length by omega)]
 repeat (refine s96_L13l ?_;intros)
 refine JC.loopF0 [(0,_),(1,_)] (fun (i:Nat)=>[(5,.int .i64 i)]) (fun Si i=>i≤l.length∧(True)) (fun i=>l.length - i) 0 (by exact sba) (by exact sba) ⟨Nat.zero_le _,trivial⟩ ?_;intro Si i hli hii;obtain ⟨hi,hii⟩:=hii;(try dsimp only at hi hii);dsimp only [List.cons_append,List.nil_append]
 repeat (refine s96_L13l ?_;intros)
 refine JC.cond rfl (fun hc=>?_) (fun hc=>?_)
 ·have hk':=dlt hc
  obtain ⟨x,hx,_⟩:=drop_at hk'
  obtain ⟨t0,t1,t2⟩:=trip_at l i x hx
  have t0':(trip l)[(3*(i:Int)).toNat]?=some x.why:=by rw [show (3*(i:Int)).toNat=3*i by omega];exact t0
  have t1':(trip l)[(3*(i:Int)+1).toNat]?=some x.pod:=by rw [show (3*(i:Int)+1).toNat=3*i+1 by omega];exact t1
  have t2':(trip l)[(3*(i:Int)+2).toNat]?=some x.node:=by rw [show (3*(i:Int)+2).toNat=3*i+2 by omega];exact t2
  repeat (refine s96_L13l ?_;intros)
  have hwx:=(by assumption:rWrong.V _ _ x)
  have hokx:=(V_wr.1 hwx).2
  repeat (first|(refine Walk ?_;intros)|refine JC.block ?_|refine JC.drawN 6 rfl [0,1,2,3,4,5,6,7,8,9,10,11,12,13,14,15,16,17,18,19,20,21,22] [0,1,2,3,4,5,6,7,8,9,10,11,12,13,14,15,16,17,18,19,20,21,22] Tryz_mixed (by decide +kernel) ?_|refine JO.pure rfl rfl rfl (JPure.neR rfl hwx rfl ((V_wr (x:=x)).2 ⟨rfl,hokx⟩) rfl rfl ?_))
  rw [show (!decide (x=x))=false by simp]
  repeat (refine s96_L13l ?_;intros)
  exact JX.roundF (i+1) (by exact lea) ⟨by omega,(trivial)⟩ (by (try dsimp only);omega) rfl (by exact sba) (by exact sba)
 ·have hk':=dnlt hc
  repeat (refine s96_L13l ?_;intros)
  (refine JX.ret1 Tryz.results96 (ResV.tmp rfl) (List.nil_sublist _) ?_)
  exact ⟨rfl,rfl⟩
theorem V_polG {S:SHeap} {a b:Int} {on:Int} {p:Option Addr} {m k:Nat} {ds:List ByteArray} (ha:Rng a) (hb:Rng b) (hon:Rng on) (hd:(rSlice 16 rStr).V S (.slice p m k) ds) :
  rPol.V S (.agg #[.int .i64 0,.int .i64 0,.int .i64 a,.int .i64 b,.int .i64 on,.slice p m k,.int .i64 0,.int .i64 0,.bool false]) ⟨[0,0],[a,b],on,ds,0,0,false⟩:=
 ⟨[_,_,_,_,_,_,_,_,_],map_R (seq2 ⟨rfl,rfl,by simp [Rng]⟩ (seq2 ⟨rfl,rfl,by simp [Rng] at *;omega⟩ (seq1 ((V_i64.2 ⟨rfl,hon⟩).one rfl) (seq1 (hd.one rfl) (seq1 ((V_i64.2 ⟨rfl,by simp [Rng]⟩).one rfl) (seq1 ((V_i64.2 ⟨rfl,by simp [Rng]⟩).one rfl) R_bool)))))),rfl⟩
theorem w13_Pods {S:SHeap} {u v w:Value} {s:Snap} {p:List Int} {g:Pol} {l:List Wrong} (h:wrongsV s p g=l) (hu:rSnap.V S u s) (hv:(rSlice 8 rI64).V S v p) (hw:rPol.V S w g):FnL Tryz.prog 27 #[u,v,w] S 24 rWrong l:=by
 rw [← h];exact p13_Pods hu hv hw
theorem w13_Why {S:SHeap} {u v w:Value} {s:Snap} {p:List Int} {g:Pol} {i n:Int} (h:whyV s p g i=n) (hu:rSnap.V S u s) (hv:(rSlice 8 rI64).V S v p) (hw:rPol.V S w g):FnV Tryz.prog 31 #[u,v,w,.int .i64 i] S (.int .i64 n):=by
 rw [← h];exact p13_Why i hu hv hw
theorem n2 {S:SHeap} (a b:Int) (ha:Rng a:=by simp [Rng]) (hb:Rng b:=by simp [Rng]):allV rI64 S [.int .i64 a,.int .i64 b] [a,b]:=⟨⟨V_i64.2 ⟨rfl,ha⟩,nna⟩,⟨V_i64.2 ⟨rfl,hb⟩,nna⟩,trivial⟩
theorem s34_L13l {P K:Prop} (k:K) (h:Goal K→P:=by
 intro zk
 (first|refine Walk ?_|refine JC.block ?_|(refine JO.eff rfl rfl rfl (JEff.callL rfl (p13_Pods (by exact vta) (by exact vta) (by exact vta)) rfl ?_);intro zqa zqb zqc zqd zqe zqf)|(refine JO.eff rfl rfl rfl (JEff.callV rfl (p13_Why _ (by exact vta) (by exact vta) (by exact vta)) rfl ?_);intro zqa zqb)|(refine JO.eff rfl rfl rfl (JEff.callR rfl (q13_example) rfl ?_);intro zqa zqb zqc zqd)|(refine JO.eff rfl rfl rfl (JEff.callV rfl (q13_told (by exact vta) (by exact vta)) rfl ?_);intro zqa zqb)|(refine WNew ?_)|(refine WPut ?_))
 (repeat (first|revert zqg|revert zqf|revert zqe|revert zqd|revert zqc|revert zqb|revert zqa))
 exact zk.k):P:=h ⟨k⟩
theorem q13_works {S:SHeap}:FnV Tryz.prog 34 #[] S (.bool true):=by
 (refine Fn.enter (args:=[]) Tryz.func34 rfl Tryz.ntmps34 rfl ?_;intro w0)
 repeat (refine s34_L13l ?_;intros)
 (refine JO.eff rfl rfl rfl (JEff.buildS (bt:=8) (rep:=rI64) (ys:=[(1:Int),1]) rfl rfl (⟨⟨V_num,nna⟩,⟨V_num,nna⟩,trivial⟩) rfl rfl rfl (by decide) rfl ?_);intro S2 a2 hl2 hV2)
 repeat (first|(refine Walk ?_;intros)|refine JC.block ?_|(refine JO.eff rfl rfl rfl (JEff.callL rfl (w13_Pods f13_1 (by exact vta) hV2 (V_polG (by simp [Rng]) (by simp [Rng]) (by simp [Rng]) V_nil)) rfl ?_);intro _ _ _ _ _ _)|(refine JO.eff rfl rfl rfl (JEff.callL rfl (p13_Pods (by exact vta) (by exact vta) (by exact vta)) rfl ?_);intro _ _ _ _ _ _)|(refine JO.eff rfl rfl rfl (JEff.callV rfl (p13_Why _ (by exact vta) (by exact vta) (by exact vta)) rfl ?_);intro _ _)|(refine JO.eff rfl rfl rfl (JEff.callR rfl (q13_example) rfl ?_);intro _ _ _ _)|(refine JO.eff rfl rfl rfl (JEff.callV rfl (q13_told (by exact vta) (by exact vta)) rfl ?_);intro _ _)|(refine WNew ?_;intros)|(refine WPut ?_;intros))
 (refine JO.eff rfl rfl rfl (JEff.buildS (bt:=8) (rep:=rI64) (ys:=[(2:Int),1,1]) rfl rfl (⟨⟨V_num,nna⟩,⟨V_num,nna⟩,⟨V_num,nna⟩,trivial⟩) rfl rfl rfl (by decide) rfl ?_);intro S3 a3 hl3 hV3)
 repeat (first|(refine Walk ?_;intros)|refine JC.block ?_|(refine JO.eff rfl rfl rfl (JEff.callV rfl (q13_told (by exact vta) hV3) rfl ?_);intro _ _)|(refine JO.eff rfl rfl rfl (JEff.callL rfl (p13_Pods (by exact vta) (by exact vta) (by exact vta)) rfl ?_);intro _ _ _ _ _ _)|(refine JO.eff rfl rfl rfl (JEff.callV rfl (p13_Why _ (by exact vta) (by exact vta) (by exact vta)) rfl ?_);intro _ _)|(refine JO.eff rfl rfl rfl (JEff.callR rfl (q13_example) rfl ?_);intro _ _ _ _)|(refine JO.eff rfl rfl rfl (JEff.callV rfl (q13_told (by exact vta) (by exact vta)) rfl ?_);intro _ _)|(refine WNew ?_;intros)|(refine WPut ?_;intros))
 (refine JO.eff rfl rfl rfl (JEff.buildS (bt:=8) (rep:=rI64) (ys:=[(1:Int),1]) rfl rfl (⟨⟨V_num,nna⟩,⟨V_num,nna⟩,trivial⟩) rfl rfl rfl (by decide) rfl ?_);intro S4 a4 hl4 hV4)
 repeat (first|(refine Walk ?_;intros)|refine JC.block ?_|(refine JO.eff rfl rfl rfl (JEff.callL rfl (w13_Pods f13_2 (by exact vta) hV4 (V_polG (by simp [Rng]) (by simp [Rng]) (by simp [Rng]) V_nil)) rfl ?_);intro _ _ _ _ _ _)|(refine JO.eff rfl rfl rfl (JEff.callL rfl (p13_Pods (by exact vta) (by exact vta) (by exact vta)) rfl ?_);intro _ _ _ _ _ _)|(refine JO.eff rfl rfl rfl (JEff.callV rfl (p13_Why _ (by exact vta) (by exact vta) (by exact vta)) rfl ?_);intro _ _)|(refine JO.eff rfl rfl rfl (JEff.callR rfl (q13_example) rfl ?_);intro _ _ _ _)|(refine JO.eff rfl rfl rfl (JEff.callV rfl (q13_told (by exact vta) (by exact vta)) rfl ?_);intro _ _)|(refine WNew ?_;intros)|(refine WPut ?_;intros))
 (refine JO.eff rfl rfl rfl (JEff.buildS (bt:=8) (rep:=rI64) (ys:=[(2:Int),0,1,2,1,1]) rfl rfl (⟨⟨V_num,nna⟩,⟨V_num,nna⟩,⟨V_num,nna⟩,⟨V_num,nna⟩,⟨V_num,nna⟩,⟨V_num,nna⟩,trivial⟩) rfl rfl rfl (by decide) rfl ?_);intro S5 a5 hl5 hV5)
 repeat (first|(refine Walk ?_;intros)|refine JC.block ?_|(refine JO.eff rfl rfl rfl (JEff.callV rfl (q13_told (by exact vta) hV5) rfl ?_);intro _ _)|(refine JO.eff rfl rfl rfl (JEff.callL rfl (p13_Pods (by exact vta) (by exact vta) (by exact vta)) rfl ?_);intro _ _ _ _ _ _)|(refine JO.eff rfl rfl rfl (JEff.callV rfl (p13_Why _ (by exact vta) (by exact vta) (by exact vta)) rfl ?_);intro _ _)|(refine JO.eff rfl rfl rfl (JEff.callR rfl (q13_example) rfl ?_);intro _ _ _ _)|(refine JO.eff rfl rfl rfl (JEff.callV rfl (q13_told (by exact vta) (by exact vta)) rfl ?_);intro _ _)|(refine WNew ?_;intros)|(refine WPut ?_;intros))
 (refine JO.eff rfl rfl rfl (JEff.buildS (bt:=8) (rep:=rI64) (ys:=[(1:Int),0]) rfl rfl (⟨⟨V_num,nna⟩,⟨V_num,nna⟩,trivial⟩) rfl rfl rfl (by decide) rfl ?_);intro S6 a6 hl6 hV6)
 repeat (refine s34_L13l ?_;intros)
 (refine JO.eff rfl rfl rfl (JEff.buildS (bt:=16) (rep:=rStr) (ys:=[(⟨#[98]⟩:ByteArray)]) rfl rfl (⟨⟨V_str.2 ⟨rfl,sz1 _⟩,nna⟩,trivial⟩) rfl rfl rfl (by decide) rfl ?_);intro S7 a7 hl7 hV7)
 repeat (first|(refine Walk ?_;intros)|refine JC.block ?_|(refine JO.eff rfl rfl rfl (JEff.callL rfl (w13_Pods f13_3 (by exact vta) (hV6.mono (by exact lea)) (V_polG (by simp [Rng]) (by simp [Rng]) (by simp [Rng]) hV7)) rfl ?_);intro _ _ _ _ _ _)|(refine JO.eff rfl rfl rfl (JEff.callL rfl (p13_Pods (by exact vta) (by exact vta) (by exact vta)) rfl ?_);intro _ _ _ _ _ _)|(refine JO.eff rfl rfl rfl (JEff.callV rfl (p13_Why _ (by exact vta) (by exact vta) (by exact vta)) rfl ?_);intro _ _)|(refine JO.eff rfl rfl rfl (JEff.callR rfl (q13_example) rfl ?_);intro _ _ _ _)|(refine JO.eff rfl rfl rfl (JEff.callV rfl (q13_told (by exact vta) (by exact vta)) rfl ?_);intro _ _)|(refine WNew ?_;intros)|(refine WPut ?_;intros))
 (refine JO.eff rfl rfl rfl (JEff.buildS (bt:=8) (rep:=rI64) (ys:=[(1:Int),0,1,2,1,0]) rfl rfl (⟨⟨V_num,nna⟩,⟨V_num,nna⟩,⟨V_num,nna⟩,⟨V_num,nna⟩,⟨V_num,nna⟩,⟨V_num,nna⟩,trivial⟩) rfl rfl rfl (by decide) rfl ?_);intro S8 a8 hl8 hV8)
 repeat (first|(refine Walk ?_;intros)|refine JC.block ?_|(refine JO.eff rfl rfl rfl (JEff.callV rfl (q13_told (by exact vta) hV8) rfl ?_);intro _ _)|(refine JO.eff rfl rfl rfl (JEff.callL rfl (p13_Pods (by exact vta) (by exact vta) (by exact vta)) rfl ?_);intro _ _ _ _ _ _)|(refine JO.eff rfl rfl rfl (JEff.callV rfl (p13_Why _ (by exact vta) (by exact vta) (by exact vta)) rfl ?_);intro _ _)|(refine JO.eff rfl rfl rfl (JEff.callR rfl (q13_example) rfl ?_);intro _ _ _ _)|(refine JO.eff rfl rfl rfl (JEff.callV rfl (q13_told (by exact vta) (by exact vta)) rfl ?_);intro _ _)|(refine WNew ?_;intros)|(refine WPut ?_;intros))
 (refine JO.eff rfl rfl rfl (JEff.buildS (bt:=8) (rep:=rI64) (ys:=[(0:Int),-1]) rfl rfl (⟨⟨V_num,nna⟩,⟨V_num,nna⟩,trivial⟩) rfl rfl rfl (by decide) rfl ?_);intro S9 a9 hl9 hV9)
 repeat (refine s34_L13l ?_;intros)
 (refine JO.eff rfl rfl rfl (JEff.buildS (bt:=16) (rep:=rStr) (ys:=[(⟨#[97]⟩:ByteArray)]) rfl rfl (⟨⟨V_str.2 ⟨rfl,sz1 _⟩,nna⟩,trivial⟩) rfl rfl rfl (by decide) rfl ?_);intro S10 a10 hl10 hV10)
 repeat (first|(refine Walk ?_;intros)|refine JC.block ?_|(refine JO.eff rfl rfl rfl (JEff.callV rfl (w13_Why f13_4 (by exact vta) (hV9.mono (by exact lea)) (V_polG (by simp [Rng]) (by simp [Rng]) (by simp [Rng]) hV10)) rfl ?_);intro _ _)|(refine JO.eff rfl rfl rfl (JEff.callL rfl (p13_Pods (by exact vta) (by exact vta) (by exact vta)) rfl ?_);intro _ _ _ _ _ _)|(refine JO.eff rfl rfl rfl (JEff.callV rfl (p13_Why _ (by exact vta) (by exact vta) (by exact vta)) rfl ?_);intro _ _)|(refine JO.eff rfl rfl rfl (JEff.callR rfl (q13_example) rfl ?_);intro _ _ _ _)|(refine JO.eff rfl rfl rfl (JEff.callV rfl (q13_told (by exact vta) (by exact vta)) rfl ?_);intro _ _)|(refine WNew ?_;intros)|(refine WPut ?_;intros))
 (refine JX.ret1 Tryz.results34 (ResV.tmp rfl) (List.nil_sublist _) ?_)
 exact ⟨rfl,rfl⟩
end Go.Dr
namespace Go.Dr
theorem mid_mem {s:Snap} {p:List Int} {c:Clause} (hc:c∈allL s p) (h2:2≤c.kind) (h6:c.kind≤6):∃ t i:Nat,t < 5∧i < p.length∧c=⟨(t:Int)+2,i,0,(of8 s p ((t:Int)+2) i).1⟩∧(of8 s p ((t:Int)+2) i).2=true:=by
 unfold allL at hc
 split at hc
 ·unfold allC at hc
  simp only [List.mem_append] at hc
  rcases hc with ((hc|hc)|hc)|hc
  ·obtain ⟨n,k,_,_,rfl⟩:=mem_caps hc
   simp [capN] at h2
  ·obtain ⟨t,i,ht,hi,rfl,h⟩:=mem_kinds hc
   exact ⟨t,i,ht,hi,rfl,h⟩
  ·obtain ⟨o,_,rfl,_⟩:=mem_spread hc
   simp at h6
  ·obtain ⟨o,_,rfl⟩:=mem_min hc
   simp [minC1] at h6
 ·cases hc
theorem of8_no {s:Snap} {p:List Int} {kind:Int} {i:Nat} (h:(of8 s p kind i).2=false):of8 s p kind i=(0,false):=by
 unfold of8 at *
 repeat' split
 all_goals first
  | rfl
  | (simp_all;done)
theorem ofC_mid {s:Snap} {p:List Int} {t i:Nat} (hok:checkP s p=0) (ht:t < 5) (hi:i < p.length):ofC s p ((t:Int)+2) i 0=of8 s p ((t:Int)+2) i:=by
 unfold ofC
 cases hf:(allL s p).find? (isC ((t:Int)+2) i 0) with
 | none=>
  dsimp only
  cases h8:(of8 s p ((t:Int)+2) i).2 with
  | false=>exact (of8_no h8).symm
  | true=>
   have hm:=in_kinds hok ht hi h8
   have:=List.find?_eq_none.1 hf _ hm
   simp [isC] at this
 | some c=>
  dsimp only
  have hc:=List.mem_of_find?_eq_some hf
  have hp:=List.find?_some hf
  simp only [isC,Bool.and_eq_true,decide_eq_true_eq] at hp
  obtain ⟨t',i',ht',hi',e,h8⟩:=mid_mem hc (by omega) (by omega)
  rw [e] at hp
  dsimp only at hp
  have e1:t'=t:=by omega
  have e2:i'=i:=by omega
  subst e1;subst e2
  rw [e]
  dsimp only
  rw [← h8]
theorem of8_wait {s:Snap} {p:List Int} {kind:Int} {i:Nat} (h:at0 p i=-1) (hi:i < p.length):of8 s p kind i=(0,false):=by
 unfold of8
 have e:p[i]?=some (-1):=by
  rw [List.getElem?_eq_getElem hi]
  unfold at0 at h
  rw [List.getD_eq_getElem?_getD,List.getElem?_eq_getElem hi] at h
  simpa using h
 rw [e]
 cases s.pods[i]?<;>simp
theorem high_mem {s:Snap} {p:List Int} {g:Pol} {x:Int} (h:x∈highV s p g):0≤x:=by
 unfold highV pickV at h
 split at h
 ·exact (pickK_mem.1 h).1
 ·cases h
def polH (a b:Int):Pol:=⟨[0,0],[a,b],0,[],0,0,false⟩
theorem polH_ok {a b:Int} (ha:0≤a∧a≤1000) (hb:0≤b∧b≤1000):checkG (polH a b)=0:=by
 unfold checkG
 rw [if_pos]
 simp [polB,polB0,loTo,loHi,drTo,withinB,polH,at0,ha,hb]
theorem bit0 (b:Nat):bitB 0 b=false:=by simp [bitB]
theorem heat_why {s:Snap} {p:List Int} {a b:Int} {i:Nat} (hok:checkP s p=0) (ha:0≤a∧a≤1000) (hb:0≤b∧b≤1000) (hi:i < p.length) :
  whyV s p (polH a b) i=if 0 < (ofC s p 2 i 0).1 then 2 else if at0 p i∈highV s p (polH a b) then 6 else 0:=by
 have hm:mayD s p (polH a b)=true:=by unfold mayD;rw [hok,polH_ok ha hb];rfl
 by_cases hw:at0 p i=-1
 ·have h1:(ofC s p 2 i 0).1=0:=by
   have:=ofC_mid (t:=0) hok (by omega) hi
   rw [show ((0:Nat):Int)+2=2 from rfl] at this
   rw [this,of8_wait hw hi]
  have h2:¬ at0 p i∈highV s p (polH a b):=fun h=>by have:=high_mem h;omega
  rw [if_neg (by omega),if_neg h2]
  unfold whyV
  rw [if_neg]
  rintro ⟨_,_,_,h⟩
  exact h (by rw [Int.toNat_natCast];exact hw)
 ·unfold whyV
  rw [if_pos ⟨hm,by omega,by omega,by rw [Int.toNat_natCast];exact hw⟩]
  unfold whyL
  simp only [firstW_cons,show (polH a b).on=0 from rfl,bit0,Bool.false_and,Bool.false_eq_true,if_false]
  have hd:drainsB (polH a b) (nodeName s (at0 p (i:Int).toNat))=false:=rfl
  rw [hd,Int.toNat_natCast]
  simp only [Bool.false_eq_true,if_false,brk,decide_eq_true_eq]
  congr 1
end Go.Dr
namespace Go.Dr
open Go.Proofs
set_option maxRecDepth 20000
set_option maxHeartbeats 2000000
set_option linter.unusedSimpArgs false
set_option linter.unusedVariables false
theorem anyB_step {l:List Int} {k:Nat} {x y:Int} (h:l[k]?=some x):(l.take (k+1)).any (fun z=>decide (z=y))=((l.take k).any (fun z=>decide (z=y))||decide (x=y)):=by
 rw [List.take_add_one,h];simp
theorem anyB_all {l:List Int} {y:Int}:l.any (fun z=>decide (z=y))=decide (y∈l):=by
 rw [Bool.eq_iff_iff];simp
theorem s5_L013a {P K:Prop} (k:K) (h:Goal K→P:=by
 intro zk
 (first|refine Walk ?_|refine JC.block ?_|refine JC.drawN 13 rfl [0,1,2,3,4,5,6,7,8,9,10,11,12] [0,1,2,3,4,5,6,7,8,9,10,11,12] Tryz_mixed (by decide +kernel) ?_|(refine JO.eff rfl rfl rfl (JEff.callV rfl (p7_Check (by exact vta) (by exact vta)) rfl ?_);intro zqa zqb)|(refine JO.eff rfl rfl rfl (JEff.callV rfl (p13_Why _ (by exact vta) (by exact vta) (by exact vta)) rfl ?_);intro zqa zqb)|(refine JO.eff rfl rfl rfl (JEff.callV rfl (q13_works) rfl ?_);intro zqa zqb)|(refine JO.eff rfl rfl rfl (JEff.callL rfl (p5_Placement (by exact vta)) rfl ?_);intro zqa zqb zqc zqd zqe zqf)|(refine JO.eff rfl rfl rfl (JEff.callV rfl (r0_Bring _ _ (by omega) (by omega) (by assumption)) rfl ?_);intro zqa zqb)|(refine JO.eff rfl rfl rfl (JEff.callL rfl (p12_High (by exact vta) (by exact vta) (by exact vta)) rfl ?_);intro zqa zqb zqc zqd zqe zqf)|(refine JO.eff rfl rfl rfl (JEff.callV rfl (p8_Of _ _ _ (by first|assumption|(unfold Rng;omega)) (by first|assumption|(unfold Rng;omega)) (by first|assumption|(unfold Rng;omega)) (by exact vta) (by exact vta)) rfl ?_);intro zqa zqb)|(refine WBox ?_)|(refine WNew ?_)|(refine WPut ?_))
 (repeat (first|revert zqg|revert zqf|revert zqe|revert zqd|revert zqc|revert zqb|revert zqa))
 exact zk.k):P:=h ⟨k⟩
theorem a13_DetectHeat {S:SHeap} {u v:Value} {s:Snap} {hs:List Int} (hu:rSnap.V S u s) (hv:(rArr 2).V S v hs):FnV Tryz.prog 5 #[u,v] S (.bool true):=by
 obtain ⟨_,hhl,hhr⟩:=V_arr.1 hv
 obtain ⟨hh0,hh1⟩:=two_at hhl
 (refine Fn.enter (args:=[u,v]) Tryz.func5 rfl Tryz.ntmps5 rfl ?_;intro w0)
 repeat (refine s5_L013a ?_;intros)
 by_cases hok:checkP s (placeV s)=0
 ·rw [decide_eq_true hok]
  have hb0:=bring_rng (at0 hs 0) (show (0:Int) < 1001 by omega)
  have hb1:=bring_rng (at0 hs 1) (show (0:Int) < 1001 by omega)
  have hVg:∀ {S':SHeap},rPol.V S' (.agg #[.int .i64 0,.int .i64 0,.int .i64 (bring (at0 hs 0) 1001),.int .i64 (bring (at0 hs 1) 1001),.int .i64 0,.slice none 0 0,.int .i64 0,.int .i64 0,.bool false]) (polH (bring (at0 hs 0) 1001) (bring (at0 hs 1) 1001)):=V_polG (by unfold Rng;omega) (by unfold Rng;omega) (by simp [Rng]) V_nil
  obtain ⟨hs0,hpl,hpl24,hnl,hol,hpr,_⟩:=placed_hyps hok
  repeat (refine s5_L013a ?_;intros)
  refine JC.partF0 (σ:=Addr) [(2,_),(5,_)] (fun z=>[(6,.pointer (some z))]) (fun SA z=>PtrTo SA z rPol (polH (bring (at0 hs 0) 1001) (bring (at0 hs 1) 1001))) ?_ (by exact sba) ?_;rotate_left;rintro SA gp hlA hiA;(try dsimp only at hiA);dsimp only [List.cons_append,List.nil_append];rotate_left
  ·refine JC.drawTree 4 rfl [] [0,1,3,4] (.alt (ofL [2] (.alt (ofL [5,6,7,8,9] .nil) (ofL [8,5,6,7,9] .nil))) (ofL [8,2,5,6,7,9] .nil)) Tryz_mixed (by decide +kernel) ?_
   repeat' (first|(refine Walk ?_;intros)|refine JC.block ?_|refine JC.drawN 13 rfl [0,1,2,3,4,5,6,7,8,9,10,11,12] [0,1,2,3,4,5,6,7,8,9,10,11,12] Tryz_mixed (by decide +kernel) ?_|((refine JO.eff rfl rfl rfl (JEff.storeW rfl rfl hVg nna pma rfl (by intro l hl;cases hl) ?_));refine JO.freezeV hVg nna (by assumption) (by intro l hl;cases hl) ?_;intro _ _ _)|refine JO.alt ?_ ?_|(refine JO.eff rfl rfl rfl (JEff.callV rfl (p7_Check (by exact vta) (by exact vta)) rfl ?_);intro _ _)|(refine JO.eff rfl rfl rfl (JEff.callV rfl (p13_Why _ (by exact vta) (by exact vta) (by exact vta)) rfl ?_);intro _ _)|(refine JO.eff rfl rfl rfl (JEff.callV rfl (q13_works) rfl ?_);intro _ _)|(refine JO.eff rfl rfl rfl (JEff.callL rfl (p5_Placement (by exact vta)) rfl ?_);intro _ _ _ _ _ _)|(refine JO.eff rfl rfl rfl (JEff.callV rfl (r0_Bring _ _ (by omega) (by omega) (by assumption)) rfl ?_);intro _ _)|(refine JO.eff rfl rfl rfl (JEff.callL rfl (p12_High (by exact vta) (by exact vta) (by exact vta)) rfl ?_);intro _ _ _ _ _ _)|(refine JO.eff rfl rfl rfl (JEff.callV rfl (p8_Of _ _ _ (by first|assumption|(unfold Rng;omega)) (by first|assumption|(unfold Rng;omega)) (by first|assumption|(unfold Rng;omega)) (by exact vta) (by exact vta)) rfl ?_);intro _ _)|(refine WBox ?_;intros)|(refine WNew ?_;intros)|(refine WPut ?_;intros)|(refine JO.guard rfl rfl rfl rfl ?_ ?_<;>intro _)|(refine JC.cond rfl ?_ ?_<;>intro _))
   all_goals exact JX.partF ((_)) (by exact lea) (by exact pta) rfl (by exact sba) (by exact sba)
  repeat (refine s5_L013a ?_;intros)
  have hgp:=(by assumption:PtrTo _ _ rPol (polH (bring (at0 hs 0) 1001) (bring (at0 hs 1) 1001)))
  generalize hge:polH (bring (at0 hs 0) 1001) (bring (at0 hs 1) 1001)=g at *
  have hhl2:(highV s (placeV s) g).length≤1000:=by
   have:=pickK_len (highB s (placeV s) g) s.nodes.length
   unfold highV pickV
   split
   ·omega
   ·simp
  refine JC.loopF0 [(2,_),(5,_),(6,_),(7,_)] (fun (i:Nat)=>[(8,.int .i64 i)]) (fun Si i=>i≤(placeV s).length∧(True)) (fun i=>(placeV s).length - i) 0 (by exact sba) (by exact sba) ⟨Nat.zero_le _,trivial⟩ ?_;intro Si i hli hii;obtain ⟨hi,hii⟩:=hii;(try dsimp only at hi hii);dsimp only [List.cons_append,List.nil_append]
  repeat (refine s5_L013a ?_;intros)
  refine JC.cond rfl (fun hc=>?_) (fun hc=>?_)
  ·have hk':=dlt hc
   obtain ⟨x,hx,_⟩:=drop_at hk'
   have hx0:=at0_some hx
   repeat (refine s5_L013a ?_;intros)
   refine JC.loopF0 [(2,_),(5,_),(6,_),(7,_),(8,_)] (fun (k:Nat)=>[(9,.bool (((highV s (placeV s) g).take k).any (fun z=>decide (z=x)))),(10,.int .i64 k)]) (fun Sk k=>k≤(highV s (placeV s) g).length∧(True)) (fun k=>(highV s (placeV s) g).length - k) 0 (by exact sba) (by exact sba) ⟨Nat.zero_le _,trivial⟩ ?_;intro Sk k hlk hik;obtain ⟨hk,hik⟩:=hik;(try dsimp only at hk hik);dsimp only [List.cons_append,List.nil_append]
   repeat (refine s5_L013a ?_;intros)
   refine JC.cond rfl (fun hc2=>?_) (fun hc2=>?_)
   ·have hk2:=dlt hc2
    obtain ⟨y,hy,_⟩:=drop_at hk2
    have hst:=anyB_step (y:=x) hy
    cases hb:((highV s (placeV s) g).take k).any (fun z=>decide (z=x))
    ·rw [hb] at hst
     repeat (refine s5_L013a ?_;intros)
     (refine JX.roundF (k+1) (by exact lea) ⟨by omega,(trivial)⟩ (by (try dsimp only);omega) rfl ?_ (by exact sba);(try dsimp only);rw [hst,Bool.false_or];exact sba;done)
    ·rw [hb] at hst
     repeat (refine s5_L013a ?_;intros)
     (refine JX.roundF (k+1) (by exact lea) ⟨by omega,(trivial)⟩ (by (try dsimp only);omega) rfl ?_ (by exact sba);(try dsimp only);rw [hst,Bool.true_or];exact sba;done)
   ·have hk2:=dnlt hc2
    rw [List.take_of_length_le hk2,anyB_all]
    repeat (refine s5_L013a ?_;intros)
    have hw:whyV s (placeV s) g i=if 0 < (ofC s (placeV s) 2 i 0).1 then 2 else if x∈highV s (placeV s) g then 6 else 0:=by
     have h:=heat_why (s:=s) (p:=placeV s) (a:=bring (at0 hs 0) 1001) (b:=bring (at0 hs 1) 1001) (i:=i) hok (by omega) (by omega) hk'
     rw [hge,hx0] at h;exact h
    by_cases hin:x∈highV s (placeV s) g
    ·rw [decide_eq_true hin]
     rw [if_pos hin] at hw
     repeat (refine s5_L013a ?_;intros)
     by_cases hby:0 < (ofC s (placeV s) 2 i 0).1
     ·rw [if_pos hby] at hw
      rw [show decide ((ofC s (placeV s) 2 i 0).1 > 0)=true from decide_eq_true hby]
      repeat (refine s5_L013a ?_;intros)
      rw [hw]
      repeat (refine s5_L013a ?_;intros)
      exact JX.roundF (i+1) (by exact lea) ⟨by omega,(trivial)⟩ (by (try dsimp only);omega) rfl (by exact sba) (by exact sba)
     ·rw [if_neg hby] at hw
      rw [show decide ((ofC s (placeV s) 2 i 0).1 > 0)=false from decide_eq_false hby]
      repeat (refine s5_L013a ?_;intros)
      rw [hw]
      repeat (refine s5_L013a ?_;intros)
      exact JX.roundF (i+1) (by exact lea) ⟨by omega,(trivial)⟩ (by (try dsimp only);omega) rfl (by exact sba) (by exact sba)
    ·rw [decide_eq_false hin]
     rw [if_neg hin] at hw
     repeat (refine s5_L013a ?_;intros)
     by_cases hby:0 < (ofC s (placeV s) 2 i 0).1
     ·rw [if_pos hby] at hw
      rw [show decide ((ofC s (placeV s) 2 i 0).1 > 0)=true from decide_eq_true hby]
      repeat (refine s5_L013a ?_;intros)
      rw [hw]
      repeat (refine s5_L013a ?_;intros)
      exact JX.roundF (i+1) (by exact lea) ⟨by omega,(trivial)⟩ (by (try dsimp only);omega) rfl (by exact sba) (by exact sba)
     ·rw [if_neg hby] at hw
      rw [show decide ((ofC s (placeV s) 2 i 0).1 > 0)=false from decide_eq_false hby]
      repeat (refine s5_L013a ?_;intros)
      rw [hw]
      repeat (refine s5_L013a ?_;intros)
      exact JX.roundF (i+1) (by exact lea) ⟨by omega,(trivial)⟩ (by (try dsimp only);omega) rfl (by exact sba) (by exact sba)
  ·repeat (refine s5_L013a ?_;intros)
   (refine JX.ret1 Tryz.results5 (ResV.tmp rfl) (List.nil_sublist _) ?_)
   exact ⟨rfl,rfl⟩
 ·rw [decide_eq_false hok]
  repeat (refine s5_L013a ?_;intros)
  (refine JX.ret1 Tryz.results5 (ResV.tmp rfl) (List.nil_sublist _) ?_)
  exact ⟨rfl,rfl⟩
end Go.Dr
namespace Go.Dr
open Go.RowKit
def heapS (w:World):SHeap:=fun b=>w.heap[b]?
theorem agree_heapS (w:World):Agree (heapS w) w:=fun _ _ h=>h
theorem heapS_cell {w:World} {a:Addr} {v:Value} (h:w.cell? a=some v):(heapS w).cell? a=some v:=by
 unfold World.cell? at h
 unfold SHeap.cell? heapS
 exact h
class RdR {α:Type} (P:Program) (T:TypeId) (rep:Rp α):Prop where
 rd:∀ {H:Type} {enc:TypeId × Value→H} {w:World} {base:Nat} {spare:Nat→Bool} {held:Bool} {fuel:Nat} {cs:List Value} {d:DataW H} {ps:List MemPlace},
  DataW.trod enc P w base spare held fuel T cs=some (d,ps)→(∀ n∈d.weights P T,n≤reachBytes)→∃ x,rep.R (heapS w) cs x
theorem cells_sz {α:Type} {P:Program} {T:TypeId} {rep:Rp α} (h:TyR P T rep):P.cellsOf T=rep.sz:=by
 obtain ⟨i,hi,hs⟩:=h.i
 unfold Program.cellsOf
 rw [hi]
 exact hs
theorem bytes_of {P:Program} {E:TypeId} {bt:Nat} (h:Byt P E bt):P.bytesOf E=bt:=by
 have:=h.h
 unfold Program.bytesOf
 rw [this];rfl
instance {P:Program} {T:TypeId} [h:Und P T (.int .i64)]:RdR P T rI64 where
 rd ht _:=by
  obtain ⟨n,rfl,_,hw⟩:=DataW.trod_int h.h ht
  refine ⟨n,rfl,?_⟩
  simp only [Lit.wf,Bool.and_eq_true,decide_eq_true_eq] at hw
  exact hw
instance {P:Program} {T:TypeId} [h:Und P T .bool]:RdR P T rBool where
 rd ht _:=by
  obtain ⟨b,rfl,_⟩:=DataW.trod_bool h.h ht
  exact ⟨b,rfl⟩
theorem reach_big:reachBytes≤big:=by decide
instance {P:Program} {T:TypeId} [h:Und P T .string]:RdR P T rStr where
 rd ht hw:=by
  obtain ⟨s,rfl,hd,hs⟩:=DataW.trod_string h.h ht
  cases hd
  refine ⟨s,rfl,?_⟩
  have:=hw s.data.toList.length (by simp [DataW.weights])
  have e:s.data.toList.length=s.size:=Array.length_toList
  have:=reach_big
  omega
theorem list_of {α:Type}:∀ {n:Nat} {q:Nat→α→Prop},(∀ i,i < n→∃ x,q i x)→∃ l:List α,l.length=n∧∀ i x,l[i]?=some x→q i x
 | 0,_,_=>⟨[],rfl,fun i x h=>by simp at h⟩
 | n+1,q,h=>by
  obtain ⟨x,hx⟩:=h 0 (by omega)
  obtain ⟨l,hl,hq⟩:=list_of (n:=n) (q:=fun i=>q (i+1)) (fun i hi=>h (i+1) (by omega))
  refine ⟨x::l,by simp [hl],fun i y hy=>?_⟩
  cases i with
  | zero=>cases hy;exact hx
  | succ i=>exact hq i y hy
theorem weights_all {H:Type} {P:Program} {e:TypeId}:∀ {l:List (DataW H)} {d:DataW H} {n:Nat},d∈l→n∈d.weights P e→n∈DataW.weightsAll P e l
 | a::l,d,n,hd,hn=>by
  simp only [DataW.weightsAll,List.mem_append]
  rcases List.mem_cons.1 hd with rfl|hd
  ·exact .inl hn
  ·exact .inr (weights_all hd hn)
instance {α:Type} {P:Program} {T E:TypeId} {bt:Nat} {rep:Rp α} [hu:Und P T (.slice E)] [hr:RdR P E rep] [ht:TyR P E rep] [hb:Byt P E bt] [hz:NeZero bt]:RdR P T (rSlice bt rep) where
 rd h hw:=by
  rcases Deep.open_slice hu.h h with ⟨rfl,_⟩|⟨a,len,cap,m,n,D,Pl,rfl,_,hlc,hcm,hm,hx,hel⟩
  ·exact ⟨[],none,0,0,rfl,rfl,Nat.le_refl _,by simp,Nat.zero_le _,fun i x h=>by simp at h⟩
  ·cases hx
   have hmb:len≤m:=by rw [hm];split<;>omega
   have hrb:=reach_big
   have hbt1:1≤bt:=Nat.one_le_iff_ne_zero.2 hz.out
   have hlen1:len*1≤len*bt:=Nat.mul_le_mul_left _ hbt1
   have hwt:=hw ((((List.range len).map D).length+((List.range (m - len)).map fun j=>D (len+j)).length)*P.bytesOf E) (by simp [DataW.weights,hu.h])
   rw [bytes_of hb] at hwt
   simp only [List.length_map,List.length_range] at hwt
   have hlen:len*bt≤(len+(m - len))*bt:=Nat.mul_le_mul_right _ (by omega)
   obtain ⟨xs,hxl,hxs⟩:=list_of (n:=len) (q:=fun i x=>PtrTo (heapS _) (a.add (i*rep.sz)) rep x) (fun i hi=>by
    obtain ⟨cs',h1,h2⟩:=hel i (by omega)
    obtain ⟨_,hcl,hcs⟩:=World.cells?_some h1
    obtain ⟨x,hx⟩:=hr.rd h2 (fun k hk=>hw k (by
     simp only [DataW.weights,hu.h,List.mem_cons,List.mem_append]
     exact .inr (.inl (weights_all (List.mem_map.2 ⟨i,by simpa using hi,rfl⟩) hk))))
    rw [cells_sz ht] at hcs hcl
    refine ⟨x,cs',hx,fun j v hv=>heapS_cell ?_⟩
    have hj:=(List.getElem?_eq_some_iff.1 hv).1
    rw [hcs j (by omega)];exact hv)
   refine ⟨xs,some a,len,cap,rfl,hxl,hlc,by omega,by omega,fun i x h=>⟨a,rfl,hxs i x h⟩⟩
instance {P:Program} {T E:TypeId} {n:Nat} [hu:Und P T (.array n E)] [he:Und P E (.int .i64)] [ht:TyR P E rI64] [htt:TyR P T (rArr n)]:RdR P T (rArr n) where
 rd h _:=by
  rename_i cs d ps _
  obtain ⟨xs,m,rfl,_,hcl,hxl,hx⟩:=DataW.trod_array hu.h h
  have hsz:P.cellsOf E=1:=cells_sz ht
  rw [cells_sz htt] at hcl
  have hcl:cs.length=n:=hcl
  obtain ⟨l,hll,hl⟩:=list_of (n:=n) (q:=fun i (z:Int)=>cs[i]?=some (.int .i64 z)∧Rng z) (fun i hi=>by
   have h1:=hx i hi
   rw [hsz,Nat.mul_one,List.getElem?_eq_getElem (by omega)] at h1
   obtain ⟨z,hz,_,hw⟩:=DataW.trod_int he.h h1
   refine ⟨z,?_,?_⟩
   ·have:((cs.drop i).take 1)[0]?=some (.int .i64 z):=by rw [hz];rfl
    rw [List.getElem?_take,if_pos (by omega),List.getElem?_drop] at this
    simpa using this
   ·simp only [Lit.wf,Bool.and_eq_true,decide_eq_true_eq] at hw
    exact hw)
  refine ⟨l,hll,?_,fun x hx=>?_⟩
  ·apply List.ext_getElem?
   intro i
   rw [List.getElem?_map]
   by_cases hi:i < n
   ·have hg:l[i]?=some l[i]:=List.getElem?_eq_getElem (by omega)
    rw [hg,(hl i _ hg).1];rfl
   ·rw [List.getElem?_eq_none (by omega),List.getElem?_eq_none (by omega)];rfl
  ·obtain ⟨i,hi⟩:=List.getElem?_of_mem hx
   exact (hl i x hi).2
structure RdF {α:Type} (P:Program) (off:Nat) (fs:List Field) (rep:Rp α):Prop where
 run:∀ {H:Type} {enc:TypeId × Value→H} {w:World} {base:Nat} {spare:Nat→Bool} {held:Bool} {m:Nat} {cs:List Value} {xs:List (DataW H × List MemPlace)},cs.length=off+rep.sz→xs.length=fs.length →
  (∀ (i:Nat) (f:Field),fs[i]?=some f→DataW.trod enc P w base spare held m f.type ((cs.drop f.offset).take (P.cellsOf f.type))=xs[i]?) →
  (∀ n∈DataW.weightsEach P (fs.map (·.type)) (xs.map (·.1)),n≤reachBytes)→∃ x,rep.R (heapS w) (cs.drop off) x
theorem RdF.last {α:Type} {P:Program} {off:Nat} {f:Field} {rep:Rp α} (ho:f.offset=off) (hr:RdR P f.type rep) (hs:P.cellsOf f.type=rep.sz):RdF P off [f] rep:=⟨by
 intro H enc w base spare held m cs xs hc hl hx hw
 match xs,hl with
 | [y],_=>
  have h1:=hx 0 f rfl
  rw [ho,hs,List.take_of_length_le (by rw [List.length_drop];omega)] at h1
  refine hr.rd (d:=y.1) (ps:=y.2) h1 (fun n hn=>hw n ?_)
  simp only [List.map_cons,DataW.weightsEach,List.mem_append]
  exact .inl hn⟩
theorem RdF.cons {α β:Type} {P:Program} {off:Nat} {f:Field} {fs:List Field} {a:Rp α} {b:Rp β} (ho:f.offset=off) (hr:RdR P f.type a) (hs:P.cellsOf f.type=a.sz) (h:RdF P (off+a.sz) fs b):RdF P off (f::fs) (rSeq a b):=⟨by
 intro H enc w base spare held m cs xs hc hl hx hw
 match xs,hl with
 | y::ys,hl=>
  have hc:cs.length=off+(a.sz+b.sz):=hc
  have h1:=hx 0 f rfl
  rw [ho,hs] at h1
  obtain ⟨x1,hx1⟩:=hr.rd (d:=y.1) (ps:=y.2) h1 (fun n hn=>hw n (by
   simp only [List.map_cons,DataW.weightsEach,List.mem_append]
   exact .inl hn))
  obtain ⟨x2,hx2⟩:=h.run (cs:=cs) (xs:=ys) (by omega) (by simpa using hl) (fun i g hg=>hx (i+1) g hg) (fun n hn=>hw n (by
   simp only [List.map_cons,DataW.weightsEach,List.mem_append]
   exact .inr hn))
  refine ⟨(x1,x2),(cs.drop off).take a.sz,cs.drop (off+a.sz),?_,hx1,hx2⟩
  rw [← List.drop_drop,List.take_append_drop]⟩
theorem RdR.struct {α:Type} {P:Program} {T:TypeId} {fs:Array Field} {rep:Rp α} (hu:P.underlying T=some (.struct fs)) (hs:P.cellsOf T=rep.sz) (h:RdF P 0 fs.toList rep):RdR P T rep where
 rd ht hw:=by
  obtain ⟨xs,n,rfl,hx,hcl,hxl,hel⟩:=DataW.trod_struct hu ht
  cases hx
  obtain ⟨x,hx⟩:=h.run (xs:=xs) (by rw [hcl,hs];omega) (by simpa using hxl) (fun i f hf=>hel i f (by simpa using hf)) (fun k hk=>hw k (by simpa [DataW.weights,hu] using hk))
  exact ⟨x,by simpa using hx⟩
theorem RdR.map {α γ:Type} {P:Program} {T:TypeId} {a:Rp α} {f:γ→α} (g:α→γ) (hg:∀ y,f (g y)=y) (h:RdR P T a):RdR P T (rMap f a) where
 rd ht hw:=by
  obtain ⟨x,hx⟩:=h.rd ht hw
  exact ⟨g x,by show a.R _ _ (f (g x));rw [hg];exact hx⟩
theorem notAgg_ok {P:Program} {W:World} {base:Nat} {T:TypeId} {v:Value} {d:TypeDesc} (hu:P.underlying T=some d) (ha:isAggD d=false) (h:Value.okWide P W .any base T v):∀ cs,v≠.agg cs:=by
 rintro cs rfl
 unfold Value.okWide at h
 rw [hu] at h
 cases d<;>first|(cases ha;done)|(simp only [Cell.okWide,Cell.ok,hu] at h;done)|(simp [Cell.okWide,Cell.ok,hu] at h)
theorem agg_ok {P:Program} {W:World} {base:Nat} {T:TypeId} {v:Value} {d:TypeDesc} (hu:P.underlying T=some d) (ha:isAggD d=true) (h:Value.okWide P W .any base T v):∃ cs,v=.agg cs:=by
 unfold Value.okWide at h
 rw [hu] at h
 cases d<;>first|(cases ha;done)|(obtain ⟨cs,h,_⟩:=h;exact ⟨cs,h⟩)
theorem rd_arg {α:Type} {H:Type} {enc:TypeId × Value→H} {P:Program} {W:World} {base:Nat} {T:TypeId} {v:Value} {d:DataW H} {ps:List MemPlace} (rep:Rp α) [ht:TyR P T rep] [hr:RdR P T rep] (hok:Value.okWide P W .any base T v)
  (h:DataW.Trod enc P W 0 (fun _=>true) true T v d ps) (hw:∀ n∈d.weights P T,n≤reachBytes):∃ x,rep.V (heapS W) v x:=by
 obtain ⟨fuel,hf⟩:=h
 obtain ⟨x,hx⟩:=hr.rd hf hw
 obtain ⟨dd,hd,ha⟩:=ht.u
 cases hag:rep.agg with
 | true=>
  obtain ⟨cs,rfl⟩:=agg_ok hd (ha.trans hag) hok
  exact ⟨x,cs.toList,by simpa [Value.cells] using hx,by simp [hag]⟩
 | false=>
  have hn:=notAgg_ok hd (ha.trans hag) hok
  have hc:v.cells=#[v]:=by cases v<;>first|rfl|exact absurd rfl (hn _)
  rw [hc] at hx
  exact ⟨x,[v],hx,by simp [hag]⟩
theorem sized_arg {H:Type} {P:Program} {ts:List TypeId} {ds:List (DataW H)} (h:(DataW.weightsEach P ts ds).all (·≤reachBytes)=true) {j:Nat} {t:TypeId} {d:DataW H} (ht:ts[j]?=some t) (hd:ds[j]?=some d):∀ n∈d.weights P t,n≤reachBytes:=fun n hn=>by
 have:=List.all_eq_true.1 h _ (DataW.weights_mem_each ht hd n hn)
 simpa using this
theorem FnV.calls {P:Program} {f:FuncId} {args:Array Value} {r:Value} {W:World} (h:FnV P f args (heapS W) r):Calls P f args W fun e W'=>e=.returned r∧Below W.heap.size W W':=by
 refine (h W (agree_heapS W) (by simp) .nil (by simp)).mono ?_
 rintro e w' ⟨v,S',M',rfl,hw,rfl,rfl⟩
 exact ⟨rfl,hw.below⟩
end Go.Dr
namespace Go.Dr
open Go.Proofs
set_option maxRecDepth 20000
instance:RdR Tryz.prog 213 rLabel:=RdR.map (fun y=>⟨y.1,y.2⟩) (fun _=>rfl) (RdR.struct Tryz.underlying213 (by kernel_rfl) (RdF.cons rfl (show RdR Tryz.prog 9 rStr from inferInstance) (by kernel_rfl) (RdF.last rfl (show RdR Tryz.prog 9 rStr from inferInstance) (by kernel_rfl))))
instance:RdR Tryz.prog 215 rTerm:=RdR.map (fun y=>⟨y.1,y.2.1,y.2.2⟩) (fun _=>rfl) (RdR.struct Tryz.underlying215 (by kernel_rfl) (RdF.cons rfl (show RdR Tryz.prog 3 rI64 from inferInstance) (by kernel_rfl) (RdF.cons rfl (show RdR Tryz.prog 9 rStr from inferInstance) (by kernel_rfl) (RdF.last rfl (show RdR Tryz.prog 9 rStr from inferInstance) (by kernel_rfl)))))
instance:RdR Tryz.prog 125 rNear:=RdR.map (fun y=>⟨y.1,y.2⟩) (fun _=>rfl) (RdR.struct Tryz.underlying125 (by kernel_rfl) (RdF.cons rfl (show RdR Tryz.prog 9 rStr from inferInstance) (by kernel_rfl) (RdF.last rfl (show RdR Tryz.prog 123 (rSlice 40 rTerm) from inferInstance) (by kernel_rfl))))
instance:RdR Tryz.prog 94 rNode:=RdR.map (fun y=>⟨y.1,y.2.1,y.2.2.1,y.2.2.2.1,y.2.2.2.2.1,y.2.2.2.2.2⟩) (fun _=>rfl) (RdR.struct Tryz.underlying94 (by kernel_rfl) (RdF.cons rfl (show RdR Tryz.prog 9 rStr from inferInstance) (by kernel_rfl) (RdF.cons rfl (show RdR Tryz.prog 91 (rArr 5) from inferInstance) (by kernel_rfl) (RdF.cons rfl (show RdR Tryz.prog 92 (rSlice 32 rLabel) from inferInstance) (by kernel_rfl) (RdF.cons rfl (show RdR Tryz.prog 92 (rSlice 32 rLabel) from inferInstance) (by kernel_rfl) (RdF.cons rfl (show RdR Tryz.prog 4 rBool from inferInstance) (by kernel_rfl) (RdF.last rfl (show RdR Tryz.prog 4 rBool from inferInstance) (by kernel_rfl))))))))
instance:RdR Tryz.prog 127 rPod:=RdR.map (fun y=>⟨y.1,y.2.1,y.2.2.1,y.2.2.2.1,y.2.2.2.2.1,y.2.2.2.2.2.1,y.2.2.2.2.2.2.1,y.2.2.2.2.2.2.2.1,y.2.2.2.2.2.2.2.2⟩) (fun _=>rfl) (RdR.struct Tryz.underlying127 (by kernel_rfl) (RdF.cons rfl (show RdR Tryz.prog 9 rStr from inferInstance) (by kernel_rfl) (RdF.cons rfl (show RdR Tryz.prog 9 rStr from inferInstance) (by kernel_rfl) (RdF.cons rfl (show RdR Tryz.prog 91 (rArr 5) from inferInstance) (by kernel_rfl) (RdF.cons rfl (show RdR Tryz.prog 92 (rSlice 32 rLabel) from inferInstance) (by kernel_rfl) (RdF.cons rfl (show RdR Tryz.prog 123 (rSlice 40 rTerm) from inferInstance) (by kernel_rfl) (RdF.cons rfl (show RdR Tryz.prog 92 (rSlice 32 rLabel) from inferInstance) (by kernel_rfl) (RdF.cons rfl (show RdR Tryz.prog 125 rNear from inferInstance) (by kernel_rfl) (RdF.cons rfl (show RdR Tryz.prog 125 rNear from inferInstance) (by kernel_rfl) (RdF.last rfl (show RdR Tryz.prog 9 rStr from inferInstance) (by kernel_rfl)))))))))))
instance:RdR Tryz.prog 147 rOwner:=RdR.map (fun y=>⟨y.1,y.2.1,y.2.2.1,y.2.2.2.1,y.2.2.2.2⟩) (fun _=>rfl) (RdR.struct Tryz.underlying147 (by kernel_rfl) (RdF.cons rfl (show RdR Tryz.prog 9 rStr from inferInstance) (by kernel_rfl) (RdF.cons rfl (show RdR Tryz.prog 3 rI64 from inferInstance) (by kernel_rfl) (RdF.cons rfl (show RdR Tryz.prog 9 rStr from inferInstance) (by kernel_rfl) (RdF.cons rfl (show RdR Tryz.prog 3 rI64 from inferInstance) (by kernel_rfl) (RdF.last rfl (show RdR Tryz.prog 4 rBool from inferInstance) (by kernel_rfl)))))))
instance:RdR Tryz.prog 26 rSnap:=RdR.map (fun y=>⟨y.1,y.2.1,y.2.2⟩) (fun _=>rfl) (RdR.struct Tryz.underlying26 (by kernel_rfl) (RdF.cons rfl (show RdR Tryz.prog 22 (rSlice 112 rNode) from inferInstance) (by kernel_rfl) (RdF.cons rfl (show RdR Tryz.prog 23 (rSlice 240 rPod) from inferInstance) (by kernel_rfl) (RdF.last rfl (show RdR Tryz.prog 24 (rSlice 56 rOwner) from inferInstance) (by kernel_rfl)))))
instance:RdR Tryz.prog 45 rStep:=RdR.map (fun y=>⟨y.1,y.2.1,y.2.2⟩) (fun _=>rfl) (RdR.struct Tryz.underlying45 (by kernel_rfl) (RdF.cons rfl (show RdR Tryz.prog 3 rI64 from inferInstance) (by kernel_rfl) (RdF.cons rfl (show RdR Tryz.prog 3 rI64 from inferInstance) (by kernel_rfl) (RdF.last rfl (show RdR Tryz.prog 3 rI64 from inferInstance) (by kernel_rfl)))))
instance:RdR Tryz.prog 41 rClause:=RdR.map (fun y=>⟨y.1,y.2.1,y.2.2.1,y.2.2.2⟩) (fun _=>rfl) (RdR.struct Tryz.underlying41 (by kernel_rfl) (RdF.cons rfl (show RdR Tryz.prog 3 rI64 from inferInstance) (by kernel_rfl) (RdF.cons rfl (show RdR Tryz.prog 3 rI64 from inferInstance) (by kernel_rfl) (RdF.cons rfl (show RdR Tryz.prog 3 rI64 from inferInstance) (by kernel_rfl) (RdF.last rfl (show RdR Tryz.prog 3 rI64 from inferInstance) (by kernel_rfl))))))
instance:RdR Tryz.prog 78 rMove:=RdR.map (fun y=>⟨y.1,y.2⟩) (fun _=>rfl) (RdR.struct Tryz.underlying78 (by kernel_rfl) (RdF.cons rfl (show RdR Tryz.prog 3 rI64 from inferInstance) (by kernel_rfl) (RdF.last rfl (show RdR Tryz.prog 3 rI64 from inferInstance) (by kernel_rfl))))
instance:RdR Tryz.prog 60 rWrong:=RdR.map (fun y=>⟨y.1,y.2.1,y.2.2⟩) (fun _=>rfl) (RdR.struct Tryz.underlying60 (by kernel_rfl) (RdF.cons rfl (show RdR Tryz.prog 3 rI64 from inferInstance) (by kernel_rfl) (RdF.cons rfl (show RdR Tryz.prog 3 rI64 from inferInstance) (by kernel_rfl) (RdF.last rfl (show RdR Tryz.prog 3 rI64 from inferInstance) (by kernel_rfl)))))
end Go.Dr
