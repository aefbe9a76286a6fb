/- Part 9 of the rules and of the walks that the proofs of this seat rest on; no condition. -/
import Derived.Test.YtlckpojpnfidoaaGreatA07
import Derived.Shelf.SlSortCmp.NoneTotal
import Derived.Shelf.Sort.Plain
import Derived.Lib.QuietBelow
set_option linter.unusedVariables false
set_option linter.unusedSimpArgs false
namespace Go.Dr
open Go.Proofs
set_option maxRecDepth 20000
set_option maxHeartbeats 2000000
set_option linter.unusedSimpArgs false
set_option linter.unusedVariables false
def ownC1 (s:Snap) (p:List Int) (kind:Int) (o:Nat):List Clause:=if kind=8 then [minC1 s p o] else spreadC1 s p o
theorem maxmin_rng {L:List Int} (hne:L≠[]) (hr:∀ x∈L,0≤x∧x≤1000000):(0≤maxL L∧maxL L≤1000000)∧(0≤minL L∧minL L≤1000000):=by
 cases L with
 | nil=>exact absurd rfl hne
 | cons x L=>
  have r1:=fold_rng min_or (lo:=0) (hi:=1000000) (l:=L) (z:=x) (hr x (by simp)).1 (hr x (by simp)).2 (fun y hy=>hr y (by simp [hy]))
  have r2:=fold_rng max_or (lo:=0) (hi:=1000000) (l:=L) (z:=x) (hr x (by simp)).1 (hr x (by simp)).2 (fun y hy=>hr y (by simp [hy]))
  exact ⟨r2,r1⟩
theorem s250_L8h {P K:Prop} (k:K) (h:Goal K→P:=by
 intro zk
 (first|refine Walk ?_|refine JC.block ?_|refine JC.drawN 8 rfl [0,1,2,3,4,5,6,7,8,9,10,11,12,13,14,15,16,17,18] [0,15,17] Tryz_mixed (by decide +kernel) ?_|refine JC.drawN 24 rfl [0,1,2,3,4,5,6,7,8,9,10,11,12,13,14,15] [2,3,4,5,6,7,8,9,10,12,13,14] Tryz_mixed (by decide +kernel) ?_|refine JC.drawN 27 rfl [0,1,2,3,4,5,6,7,8,9,10] [0,1,2,3,4,5,6,7,8,10] Tryz_mixed (by decide +kernel) ?_|refine JC.drawN 29 rfl [0,2,5,6,1,3,4,7,8,9,10] [0,4,7,8,9] Tryz_mixed (by decide +kernel) ?_|(refine JO.eff rfl rfl rfl (JEff.callV rfl (p_Max (by exact vta) (by first|assumption|simp)) rfl ?_);intro zqa zqb)|(refine JO.eff rfl rfl rfl (JEff.callV rfl (p_Min (by exact vta) (by first|assumption|simp)) rfl ?_);intro zqa zqb)|(refine JO.eff rfl rfl rfl (JEff.callL rfl (p7_Spread _ (by exact vta) (by exact vta)) rfl ?_);intro zqa zqb zqc zqd zqe zqf))
 (repeat (first|revert zqg|revert zqf|revert zqe|revert zqd|revert zqc|revert zqb|revert zqa))
 exact zk.k):P:=h ⟨k⟩
theorem p8_ofMin {S:SHeap} {kp:Addr} {s:Snap} {p:List Int} {us:List (List Int)} {mb:Nat} {l:List (ByteArray × Value)} {o:Nat} (hok:checkP s p=0) (ho:o < s.owners.length)
  (hL:PtrTo S kp rLook ⟨s,p,us,.map (some mb)⟩) (hco:Cache s S l) :
  FnC Tryz.prog 250 #[.pointer (some kp),.iface 280 (.int .i64 o),.int .i64 8] S Value.string mb (Cache s) l (fun w S'=>(rSlice 32 rClause).V S' w [minC1 s p o]):=by
 obtain ⟨hs,hlen,hp24,hn8,ho8,hpr,hprn⟩:=placed_hyps hok
 have hor:Rng (o:Int):=by unfold Rng;omega
 obtain ⟨ow,how,_⟩:=drop_at ho
 have hmo:minOf s o=ow.min:=by simp [minOf,how]
 have hsr:=shaped_owner (checkS_ok hs).1 ow (List.mem_of_getElem? how)
 have hplr:=placed_rng (s:=s) (p:=p) (o:=o) hlen
 have hV0:∀ S,rClause.V S (.agg (flatCells [.int .i64 8,.int .i64 o,.int .i64 0,.int .i64 0]).toArray) ⟨8,o,0,0⟩:=fun S=>V_clause.2 ⟨by simp [flatCells,Value.cells],by unfold Rng;dsimp only;omega,hor,by unfold Rng;dsimp only;omega,by unfold Rng;dsimp only;omega⟩
 (refine Fn.enter (args:=[.pointer (some kp),.iface 280 (.int .i64 o),.int .i64 8]) Tryz.func250 rfl Tryz.ntmps250 rfl ?_;intro w0)
 repeat (refine s250_L8h ?_;intros)
 refine JO.eff rfl rfl rfl (JEff.method rfl rfl (m8_O _) (p8_numO _) rfl ?_);intro S1 hl1
 repeat (refine s250_L8h ?_;intros)
 (refine JO.eff rfl rfl rfl (JEff.alloc rfl ?_);intro cb hcb)
 repeat (refine s250_L8h ?_;intros)
 refine JO.eff rfl rfl rfl (JEff.storeW rfl rfl (hV0 _) nna (List.Perm.refl _) rfl (by intro l hl;cases hl) ?_)
 repeat (refine s250_L8h ?_;intros)
 refine JO.pure rfl rfl rfl (JPure.assertF rfl rfl rfl ?_)
 repeat (refine s250_L8h ?_;intros)
 refine JO.pure rfl rfl rfl (JPure.assertF rfl rfl rfl ?_)
 repeat (refine s250_L8h ?_;intros)
 refine JO.pure rfl rfl rfl (JPure.assertT rfl rfl ?_)
 repeat (refine s250_L8h ?_;intros)
 (refine JO.eff rfl rfl rfl (JEff.alloc rfl ?_);intro ob hob)
 repeat (refine s250_L8h ?_;intros)
 refine JO.eff rfl rfl rfl (JEff.storeW rfl rfl (by exact vta) nna (List.Perm.refl _) rfl (by intro l hl;cases hl) ?_)
 refine JO.freezeV (by exact vta) nna hob (by intro l hl;cases hl) ?_;intro S2 hl2 hpo
 repeat (refine s250_L8h ?_;intros)
 refine JO.eff rfl rfl rfl (JEff.callV rfl (p7_Placed (s:=s) (p:=p) o (by exact vta) (by exact vta)) rfl ?_);intro S3 hl3
 have hpl:(if (z0 (checkP s p)&&(decide ((0:Int)≤o)&&decide ((o:Int) < s.owners.length)))=true then placedN s p ((o:Int)).toNat else 0)=placedN s p o:=by
  rw [if_pos (by simp [z0,hok,ho])];rfl
 rw [hpl]
 repeat (refine s250_L8h ?_;intros)
 refine JO.pure rfl rfl rfl (JPure.fieldP rfl rfl ?_)
 refine JO.eff rfl rfl rfl (JEff.storeI (i:=3) (xs:=[8,o,0,0]) rfl rfl (by unfold Rng;omega) (List.Perm.refl _) (by simp) (by intro l hl;cases hl) ?_)
 have hp1:[minC1 s p o]=[⟨8,o,0,max 0 (ow.min - placedN s p o)⟩]:=by rw [minC1,hmo]
 repeat (refine s250_L8h ?_;intros)
 refine JO.pure rfl rfl rfl (JPure.loadCl (c:=⟨8,o,0,max 0 (ow.min - placedN s p o)⟩) rfl (by (first|exact List.mem_cons_self|exact List.mem_cons_of_mem _ List.mem_cons_self|exact List.mem_cons_of_mem _ (List.mem_cons_of_mem _ List.mem_cons_self))) rfl ⟨by unfold Rng;dsimp only;omega,hor,by unfold Rng;dsimp only;omega,by unfold Rng;dsimp only;omega⟩ (.inl rfl) rfl ?_);intro hV
 (refine JO.eff rfl rfl rfl (JEff.buildS (bt:=32) (rep:=rClause) (ys:=[(⟨8,o,0,max 0 (ow.min - placedN s p o)⟩:Clause)]) rfl rfl (⟨⟨hV,nna⟩,trivial⟩) rfl rfl rfl (by decide) rfl ?_);intro S4 a4 hl4 hV4)
 repeat (refine s250_L8h ?_;intros)
 refine JX.ret1 Tryz.results250 (ResV.tmp rfl) (M':=[_]) (List.sublist_cons_self _ _) ?_
 exact ⟨by rw [hp1];exact hV4,_,rfl,hco.mono (by exact lea)⟩
theorem p8_ofSpread {S:SHeap} {kp:Addr} {s:Snap} {p:List Int} {us:List (List Int)} {mb:Nat} {l:List (ByteArray × Value)} {o:Nat} (hok:checkP s p=0) (ho:o < s.owners.length)
  (hL:PtrTo S kp rLook ⟨s,p,us,.map (some mb)⟩) (hco:Cache s S l) :
  FnC Tryz.prog 250 #[.pointer (some kp),.iface 280 (.int .i64 o),.int .i64 7] S Value.string mb (Cache s) l (fun w S'=>(rSlice 32 rClause).V S' w (spreadC1 s p o)):=by
 obtain ⟨hs,hlen,hp24,hn8,ho8,hpr,hprn⟩:=placed_hyps hok
 have hor:Rng (o:Int):=by unfold Rng;omega
 obtain ⟨ow,how,_⟩:=drop_at ho
 have htp:topoOf s o=ow.topo:=by simp [topoOf,how]
 have hsko:skewOf s o=ow.skew:=by simp [skewOf,how]
 have hsr:=shaped_owner (checkS_ok hs).1 ow (List.mem_of_getElem? how)
 have hspr:=spread_rng (s:=s) (p:=p) (o:=o) (by omega) hlen (by omega)
 have hV0:∀ S,rClause.V S (.agg (flatCells [.int .i64 7,.int .i64 o,.int .i64 0,.int .i64 0]).toArray) ⟨7,o,0,0⟩:=fun S=>V_clause.2 ⟨by simp [flatCells,Value.cells],by unfold Rng;dsimp only;omega,hor,by unfold Rng;dsimp only;omega,by unfold Rng;dsimp only;omega⟩
 have hspp:spreadP s p o=spreadL s p o:=by unfold spreadP;rw [if_pos (by simp [z0,hok,ho])];rfl
 (refine Fn.enter (args:=[.pointer (some kp),.iface 280 (.int .i64 o),.int .i64 7]) Tryz.func250 rfl Tryz.ntmps250 rfl ?_;intro w0)
 repeat (refine s250_L8h ?_;intros)
 refine JO.eff rfl rfl rfl (JEff.method rfl rfl (m8_O _) (p8_numO _) rfl ?_);intro S1 hl1
 repeat (refine s250_L8h ?_;intros)
 (refine JO.eff rfl rfl rfl (JEff.alloc rfl ?_);intro cb hcb)
 repeat (refine s250_L8h ?_;intros)
 refine JO.eff rfl rfl rfl (JEff.storeW rfl rfl (hV0 _) nna (List.Perm.refl _) rfl (by intro l hl;cases hl) ?_)
 repeat (refine s250_L8h ?_;intros)
 refine JO.pure rfl rfl rfl (JPure.assertF rfl rfl rfl ?_)
 repeat (refine s250_L8h ?_;intros)
 refine JO.pure rfl rfl rfl (JPure.assertF rfl rfl rfl ?_)
 repeat (refine s250_L8h ?_;intros)
 refine JO.pure rfl rfl rfl (JPure.assertT rfl rfl ?_)
 repeat (refine s250_L8h ?_;intros)
 (refine JO.eff rfl rfl rfl (JEff.alloc rfl ?_);intro ob hob)
 repeat (refine s250_L8h ?_;intros)
 refine JO.eff rfl rfl rfl (JEff.storeW rfl rfl (by exact vta) nna (List.Perm.refl _) rfl (by intro l hl;cases hl) ?_)
 refine JO.freezeV (by exact vta) nna hob (by intro l hl;cases hl) ?_;intro S2 hl2 hpo
 repeat (refine s250_L8h ?_;intros)
 refine JC.cond rfl (fun ht=>?_) (fun ht=>?_)
 ·have ht:topoOf s o=noS:=by rw [htp];simpa [noS] using ht
  have hp1:spreadC1 s p o=[]:=by rw [spreadC1,if_pos ht]
  repeat (refine s250_L8h ?_;intros)
  refine JX.ret1 Tryz.results250 (ResV.tmp rfl) (M':=[_]) (List.sublist_cons_self _ _) ?_
  exact ⟨by rw [hp1];exact V_nil,_,rfl,hco.mono (by exact lea)⟩
 ·have ht:¬ topoOf s o=noS:=by rw [htp];simpa [noS] using ht
  repeat (refine s250_L8h ?_;intros)
  have hVs:=(by assumption:(rSlice 8 rI64).V _ _ (spreadP s p o))
  rw [hspp] at hVs
  rw [hspp]
  refine JC.cond rfl (fun hle=>?_) (fun hle=>?_)
  ·have hne:spreadL s p o≠[]:=by intro h;rw [h] at hle;simp at hle
   have hne2:¬ (spreadL s p o).length=0:=by intro h;exact hne (List.length_eq_zero_iff.1 h)
   have hsk:skewV s p o=max 0 (maxL (spreadL s p o) - minL (spreadL s p o) - ow.skew):=by rw [skewV,if_neg hne2,hsko]
   obtain ⟨hmx,hmn⟩:=maxmin_rng hne hspr
   repeat (refine s250_L8h ?_;intros)
   refine JO.pure rfl rfl rfl (JPure.fieldP rfl rfl ?_)
   refine JO.eff rfl rfl rfl (JEff.storeI (i:=3) (xs:=[7,o,0,0]) rfl rfl (by unfold Rng;omega) (List.Perm.refl _) (by simp) (by intro l hl;cases hl) ?_)
   have hp1:spreadC1 s p o=[⟨7,o,0,max 0 (maxL (spreadL s p o) - minL (spreadL s p o) - ow.skew)⟩]:=by rw [spreadC1,if_neg ht,hsk]
   repeat (refine s250_L8h ?_;intros)
   refine JO.pure rfl rfl rfl (JPure.loadCl (c:=⟨7,o,0,max 0 (maxL (spreadL s p o) - minL (spreadL s p o) - ow.skew)⟩) rfl (by (first|exact List.mem_cons_self|exact List.mem_cons_of_mem _ List.mem_cons_self|exact List.mem_cons_of_mem _ (List.mem_cons_of_mem _ List.mem_cons_self))) rfl ⟨by unfold Rng;dsimp only;omega,hor,by unfold Rng;dsimp only;omega,by unfold Rng;dsimp only;omega⟩ (.inl rfl) rfl ?_);intro hV
   (refine JO.eff rfl rfl rfl (JEff.buildS (bt:=32) (rep:=rClause) (ys:=[(⟨7,o,0,max 0 (maxL (spreadL s p o) - minL (spreadL s p o) - ow.skew)⟩:Clause)]) rfl rfl (⟨⟨hV,nna⟩,trivial⟩) rfl rfl rfl (by decide) rfl ?_);intro S4 a4 hl4 hV4)
   repeat (refine s250_L8h ?_;intros)
   refine JX.ret1 Tryz.results250 (ResV.tmp rfl) (M':=[_]) (List.sublist_cons_self _ _) ?_
   exact ⟨by rw [hp1];exact hV4,_,rfl,hco.mono (by exact lea)⟩
  ·have hz:(spreadL s p o).length=0:=by
    have:¬ (0:Int) < ((spreadL s p o).length:Int):=by simpa using hle
    omega
   have hsk:skewV s p o=0:=by rw [skewV,if_pos hz]
   have hp1:spreadC1 s p o=[⟨7,o,0,0⟩]:=by rw [spreadC1,if_neg ht,hsk]
   repeat (refine s250_L8h ?_;intros)
   refine JO.pure rfl rfl rfl (JPure.loadCl (c:=⟨7,o,0,0⟩) rfl (by (first|exact List.mem_cons_self|exact List.mem_cons_of_mem _ List.mem_cons_self|exact List.mem_cons_of_mem _ (List.mem_cons_of_mem _ List.mem_cons_self))) rfl ⟨by unfold Rng;dsimp only;omega,hor,by unfold Rng;dsimp only;omega,by unfold Rng;dsimp only;omega⟩ (.inl rfl) rfl ?_);intro hV
   (refine JO.eff rfl rfl rfl (JEff.buildS (bt:=32) (rep:=rClause) (ys:=[(⟨7,o,0,0⟩:Clause)]) rfl rfl (⟨⟨hV,nna⟩,trivial⟩) rfl rfl rfl (by decide) rfl ?_);intro S4 a4 hl4 hV4)
   repeat (refine s250_L8h ?_;intros)
   refine JX.ret1 Tryz.results250 (ResV.tmp rfl) (M':=[_]) (List.sublist_cons_self _ _) ?_
   exact ⟨by rw [hp1];exact hV4,_,rfl,hco.mono (by exact lea)⟩
end Go.Dr
namespace Go.Dr
open Go.Proofs
set_option maxRecDepth 20000
set_option maxHeartbeats 2000000
set_option linter.unusedSimpArgs false
set_option linter.unusedVariables false
def usedK (s:Snap) (p:List Int) (k:Nat):List (List Int):=(List.range k).map (fun (n:Nat)=>usedV s p n)
theorem usedK_step (s:Snap) (p:List Int) (k:Nat):usedK s p (k+1)=usedK s p k++[usedV s p k]:=by unfold usedK;rw [List.range_succ];simp
theorem usedK_len (s:Snap) (p:List Int) (k:Nat):(usedK s p k).length=k:=by simp [usedK]
def SeeAns (s:Snap) (p:List Int) (w:Value) (S':SHeap) (M':List MEnt):Prop:=
 (¬ checkP s p=0∧w=.tuple #[.pointer none,.int .i64 (checkP s p)]∧M'=[]) ∨
 (checkP s p=0∧∃ kp mb,w=.tuple #[.pointer (some kp),.int .i64 0]∧PtrTo S' kp rLook ⟨s,p,usedAll s p,.map (some mb)⟩∧M'=[.blk mb (mapK Value.string [])])
theorem s167_L8i {P K:Prop} (k:K) (h:Goal K→P:=by
 intro zk
 (first|refine Walk ?_|refine JC.block ?_|(refine JO.eff rfl rfl rfl (JEff.callV rfl (p7_Check (by exact vta) (by exact vta)) rfl ?_);intro zqa zqb))
 (repeat (first|revert zqg|revert zqf|revert zqe|revert zqd|revert zqc|revert zqb|revert zqa))
 exact zk.k):P:=h ⟨k⟩
theorem p8_see {S:SHeap} {u v:Value} {s:Snap} {p:List Int} (hu:rSnap.V S u s) (hv:(rSlice 8 rI64).V S v p):Fn Tryz.prog 167 #[u,v] S [] (SeeAns s p):=by
 haveI:TyR Tryz.prog 188 rVal:=⟨(inferInstance:TyR Tryz.prog 188 (rSlice 40 (rArr 5))).b⟩
 obtain ⟨a,c,rfl,_⟩:=V_slice.1 hv
 (refine Fn.enter (args:=[u,.slice a p.length c]) Tryz.func167 rfl Tryz.ntmps167 rfl ?_;intro w0)
 repeat (refine s167_L8i ?_;intros)
 (refine JO.eff rfl rfl rfl (JEff.boxS rfl (by exact vta) nna rfl ?_);intro S0 pa l0 hp0)
 repeat (refine s167_L8i ?_;intros)
 refine JC.cond rfl (fun he=>?_) (fun he=>?_)
 ·have he:¬ checkP s p=0:=by simpa using he
  repeat (refine s167_L8i ?_;intros)
  refine JX.ret2 Tryz.results167 (ResV.tmp rfl) (ResV.tmp rfl) (List.nil_sublist _) ?_
  exact .inl ⟨he,rfl,rfl⟩
 have hok:checkP s p=0:=by simpa using he
 obtain ⟨hs,hlen,hp24,hn8,ho8,hpr,hprn⟩:=placed_hyps hok
 repeat (refine s167_L8i ?_;intros)
 obtain ⟨cs,rfl,hcs⟩:=V_agg rfl (by assumption:rSnap.V _ _ s)
 obtain ⟨n1,n2,n3,rfl⟩:∃ n1 n2 n3,cs=[n1,n2,n3]:=by
  have h3:cs.length=3:=rSnap.len hcs
  match cs,h3 with
  | [n1,n2,n3],_=>exact ⟨n1,n2,n3,rfl⟩
 refine JO.eff rfl rfl rfl (JEff.makeMapK Value.string rfl ?_);intro mb hmb
 repeat (refine s167_L8i ?_;intros)
 refine JO.eff rfl rfl rfl (JEff.box rfl rfl ?_);intro kb hkb
 repeat (refine s167_L8i ?_;intros)
 refine JC.newRow 91 (Rp.sz (rArr 5)) ?_
 refine JC.loopF (σ:=Nat × Option Addr × Nat × List Value) [(1,_),(2,_),(7,_),(22,_)] (fun q=>[(23,.int .i64 q.1)])
  (fun q=>[.row w0.heap.size 91 (Rp.sz (rArr 5)) (.slice q.2.1 q.1 q.2.2.1) q.1 (flatCells q.2.2.2),.blk kb (.cells #[n1,n2,n3,.slice a p.length c,.slice q.2.1 q.1 q.2.2.1,.map (some mb)] 276 (0,0)),.blk mb (mapK Value.string [])])
  (fun Sk q=>q.1≤s.nodes.length∧allV (rArr 5) Sk q.2.2.2 (usedK s p q.1)) (fun q=>s.nodes.length - q.1) (0,none,0,[]) (by exact sba) (by exact sba) (by rfl) ⟨Nat.zero_le _,trivial⟩ ?_
 rintro Sk ⟨k,ra,rc,vs⟩ hlk ⟨hk,hv1⟩
 dsimp only at hk hv1
 dsimp only [List.cons_append,List.nil_append]
 repeat (refine s167_L8i ?_;intros)
 refine JC.cond rfl (fun hc=>?_) (fun hc=>?_)
 ·have hk':=dlt hc
  have hst:=usedK_step s p k
  obtain ⟨hul,hur⟩:=used_fine hs hlen k
  have hU:∀ S,(rArr 5).V S (.agg (ints (usedV s p k))) (usedV s p k):=fun S=>V_arr.2 ⟨rfl,hul,fun z hz=>by have:=hur z hz;unfold Qty at this;unfold Rng;omega⟩
  have hup:usedP s p k=usedV s p k:=by unfold usedP;rw [if_pos (by simp [z0,hok,hk'])]
  have hkl:=usedK_len s p k
  have hvl:=hv1.length
  rw [hkl] at hvl
  repeat (refine s167_L8i ?_;intros)
  refine JC.drawTreeF 8 rfl [11,12] [4] [0,1,2,3,5,6,7] (.alt (ofL [4,8,9,10,11,12,13] .nil) (ofL [8] (.alt (ofL [4,9,10,11,12,13] .nil) (ofL [9,4,10,11,12,13] .nil)))) Tryz_mixed (by decide +kernel) ?_
  repeat (refine s167_L8i ?_;intros)
  refine JO.pure rfl rfl rfl (JPure.fieldP rfl rfl ?_)
  repeat (refine s167_L8i ?_;intros)
  refine JO.alt ?_ ?_
  ·refine JO.eff rfl rfl rfl (JEff.loadE (rVal) (x0:=.slice ra k rc) rfl (by (first|exact List.mem_cons_self|exact List.mem_cons_of_mem _ List.mem_cons_self|exact List.mem_cons_of_mem _ (List.mem_cons_of_mem _ List.mem_cons_self))) rfl ⟨rfl,rfl⟩ inferInstance rfl ?_)
   repeat (refine s167_L8i ?_;intros)
   refine JO.eff rfl rfl rfl (JEff.callV rfl (p7_Used (s:=s) (p:=p) k (by exact vta) (by exact vta)) rfl ?_);intro S3 hl3
   rw [hup]
   repeat (refine s167_L8i ?_;intros)
   (refine JO.eff rfl rfl rfl (JEff.build (rep:=rArr 5) (ys:=[usedV s p k]) rfl rfl ⟨⟨hU _,nna⟩,trivial⟩ rfl rfl rfl rfl ?_);intro bb hbb hvv)
   (refine JO.eff rfl rfl rfl (JEff.appendL (rep:=rArr 5) rfl rfl rfl rfl (List.Perm.swap _ _ _) (by exact hvv.flat) (by intro c hc;exact flat_one (fun v hv=>(hvv.size v hv).2) c hc) (by unfold big;omega) (by unfold big;omega) (by first|exact rowT_ok|(intro l hl;cases hl)) rfl ?_);intro a2 c2;clear hvv hbb)
   repeat (refine s167_L8i ?_;intros)
   refine JO.pure rfl rfl rfl (JPure.fieldP rfl rfl ?_)
   refine JO.eff rfl rfl rfl (JEff.store (rep:=rVal) (x0:=.slice a2 (k+1) c2) rfl rfl (V_val.2 ⟨rfl,rfl⟩) nna (List.Perm.swap _ _ _) (by simp [rVal]) (by intro l hl;cases hl) ?_)
   repeat (refine s167_L8i ?_;intros)
   refine JX.perm (M':=[_,_,_]) (List.Perm.swap _ _ _) ?_
   exact JX.roundF (k+1,a2,c2,vs++[.agg (ints (usedV s p k))]) (by exact lea) ⟨by dsimp only;omega,by (try dsimp only);rw [hst];exact allV_add (by exact lea) hv1 (hU _) nna⟩ (by (try dsimp only);omega) (by simp [flat_append];rfl) (by exact sba) (by exact sba)
  ·refine JO.eff rfl rfl rfl (JEff.callV rfl (p7_Used (s:=s) (p:=p) k (by exact vta) (by exact vta)) rfl ?_);intro S3 hl3
   rw [hup]
   repeat (refine s167_L8i ?_;intros)
   refine JO.alt ?_ ?_
   ·refine JO.eff rfl rfl rfl (JEff.loadE (rVal) (x0:=.slice ra k rc) rfl (by (first|exact List.mem_cons_self|exact List.mem_cons_of_mem _ List.mem_cons_self|exact List.mem_cons_of_mem _ (List.mem_cons_of_mem _ List.mem_cons_self))) rfl ⟨rfl,rfl⟩ inferInstance rfl ?_)
    (refine JO.eff rfl rfl rfl (JEff.build (rep:=rArr 5) (ys:=[usedV s p k]) rfl rfl ⟨⟨hU _,nna⟩,trivial⟩ rfl rfl rfl rfl ?_);intro bb hbb hvv)
    (refine JO.eff rfl rfl rfl (JEff.appendL (rep:=rArr 5) rfl rfl rfl rfl (List.Perm.swap _ _ _) (by exact hvv.flat) (by intro c hc;exact flat_one (fun v hv=>(hvv.size v hv).2) c hc) (by unfold big;omega) (by unfold big;omega) (by first|exact rowT_ok|(intro l hl;cases hl)) rfl ?_);intro a2 c2;clear hvv hbb)
    repeat (refine s167_L8i ?_;intros)
    refine JO.pure rfl rfl rfl (JPure.fieldP rfl rfl ?_)
    refine JO.eff rfl rfl rfl (JEff.store (rep:=rVal) (x0:=.slice a2 (k+1) c2) rfl rfl (V_val.2 ⟨rfl,rfl⟩) nna (List.Perm.swap _ _ _) (by simp [rVal]) (by intro l hl;cases hl) ?_)
    repeat (refine s167_L8i ?_;intros)
    refine JX.perm (M':=[_,_,_]) (List.Perm.swap _ _ _) ?_
    exact JX.roundF (k+1,a2,c2,vs++[.agg (ints (usedV s p k))]) (by exact lea) ⟨by dsimp only;omega,by (try dsimp only);rw [hst];exact allV_add (by exact lea) hv1 (hU _) nna⟩ (by (try dsimp only);omega) (by simp [flat_append];rfl) (by exact sba) (by exact sba)
   ·(refine JO.eff rfl rfl rfl (JEff.build (rep:=rArr 5) (ys:=[usedV s p k]) rfl rfl ⟨⟨hU _,nna⟩,trivial⟩ rfl rfl rfl rfl ?_);intro bb hbb hvv)
    refine JO.eff rfl rfl rfl (JEff.loadE (rVal) (x0:=.slice ra k rc) rfl (by (first|exact List.mem_cons_self|exact List.mem_cons_of_mem _ List.mem_cons_self|exact List.mem_cons_of_mem _ (List.mem_cons_of_mem _ List.mem_cons_self))) rfl ⟨rfl,rfl⟩ inferInstance rfl ?_)
    (refine JO.eff rfl rfl rfl (JEff.appendL (rep:=rArr 5) rfl rfl rfl rfl (List.Perm.swap _ _ _) (by exact hvv.flat) (by intro c hc;exact flat_one (fun v hv=>(hvv.size v hv).2) c hc) (by unfold big;omega) (by unfold big;omega) (by first|exact rowT_ok|(intro l hl;cases hl)) rfl ?_);intro a2 c2;clear hvv hbb)
    repeat (refine s167_L8i ?_;intros)
    refine JO.pure rfl rfl rfl (JPure.fieldP rfl rfl ?_)
    refine JO.eff rfl rfl rfl (JEff.store (rep:=rVal) (x0:=.slice a2 (k+1) c2) rfl rfl (V_val.2 ⟨rfl,rfl⟩) nna (List.Perm.swap _ _ _) (by simp [rVal]) (by intro l hl;cases hl) ?_)
    repeat (refine s167_L8i ?_;intros)
    refine JX.perm (M':=[_,_,_]) (List.Perm.swap _ _ _) ?_
    exact JX.roundF (k+1,a2,c2,vs++[.agg (ints (usedV s p k))]) (by exact lea) ⟨by dsimp only;omega,by (try dsimp only);rw [hst];exact allV_add (by exact lea) hv1 (hU _) nna⟩ (by (try dsimp only);omega) (by simp [flat_append];rfl) (by exact sba) (by exact sba)
 ·have hk':=dnlt hc
  obtain rfl:k=s.nodes.length:=by omega
  have hkl:=usedK_len s p s.nodes.length
  refine JC.freezeRow (rep:=rArr 5) (bt:=40) hv1 hkl.symm (by unfold big;omega) (by unfold big;omega) (fun S9 hl9 hV9=>?_)
  refine JC.freeze hkb (fun S10 hl10 hS10=>?_)
  have hfin:PtrTo S10 ⟨kb,0,none⟩ rLook ⟨s,p,usedAll s p,.map (some mb)⟩:=
   cells_ptr (v:=.agg #[n1,n2,n3,.slice a p.length c,.slice ra s.nodes.length rc,.map (some mb)]) hS10
    ⟨[n1,n2,n3],_,rfl,rSnap.mono (by exact lea) hcs,[_],_,rfl,Rp.V.one rfl (hv.mono (by exact lea)),[_],[_],rfl,Rp.V.one rfl (hV9.mono (by exact lea)),rfl,rfl⟩
  repeat (refine s167_L8i ?_;intros)
  refine JX.ret2 Tryz.results167 (ResV.tmp rfl) (ResV.tmp rfl) (List.Sublist.refl _) ?_
  exact .inr ⟨hok,_,_,rfl,hfin,rfl⟩
end Go.Dr
namespace Go.Dr
open Go.Proofs
set_option maxRecDepth 20000
set_option maxHeartbeats 2000000
set_option linter.unusedSimpArgs false
set_option linter.unusedVariables false
theorem capTo_next (s:Snap) (p:List Int) (n:Nat):capTo s p (n+1) 0=capTo s p n 0++capsK s p n 5:=by
 unfold capTo capsK
 rw [List.range_succ (n:=n)];simp
def ownTo (s:Snap) (p:List Int):Nat→Nat→List Clause
 | 0,o=>capsC s p++kindsTo s p 5++spreadTo s p o
 | 1,o=>capsC s p++kindsTo s p 5++spreadTo s p s.owners.length++minTo s p o
 | _+2,_=>capsC s p++kindsTo s p 5++spreadTo s p s.owners.length++minTo s p s.owners.length
theorem ownTo_next (s:Snap) (p:List Int) (t:Nat):ownTo s p t s.owners.length=ownTo s p (t+1) 0:=by
 match t with
 | 0=>simp [ownTo,minTo]
 | 1=>simp [ownTo]
 | t+2=>simp [ownTo]
theorem ownTo_step (s:Snap) (p:List Int) (t o:Nat) (ht:t < 2):ownTo s p t (o+1)=ownTo s p t o++ownC1 s p ((t:Int)+7) o:=by
 match t with
 | 0=>
  have:¬ ((0:Nat):Int)+7=8:=by omega
  unfold ownC1
  rw [if_neg this]
  show capsC s p++kindsTo s p 5++spreadTo s p (o+1)=capsC s p++kindsTo s p 5++spreadTo s p o++spreadC1 s p o
  rw [spreadTo_step,List.append_assoc (capsC s p++kindsTo s p 5)]
 | 1=>
  have:((1:Nat):Int)+7=8:=by omega
  unfold ownC1
  rw [if_pos this]
  show capsC s p++kindsTo s p 5++spreadTo s p s.owners.length++minTo s p (o+1)=capsC s p++kindsTo s p 5++spreadTo s p s.owners.length++minTo s p o++[minC1 s p o]
  rw [minTo_step,List.append_assoc (capsC s p++kindsTo s p 5++spreadTo s p s.owners.length)]
theorem ownTo_len (s:Snap) (p:List Int) (hok:checkP s p=0) (t o:Nat) (ht:t≤2) (ho:o≤s.owners.length):(ownTo s p t o).length≤400:=by
 obtain ⟨hs,hlen,hp24,hn8,ho8,hpr,hprn⟩:=placed_hyps hok
 have hcl:(capsC s p).length≤40:=by unfold capsC;rw [capTo_len];omega
 have hkl:=kindsTo_len s p 5
 have h1:=spreadTo_len s p o
 have h2:=minTo_len s p o
 have h3:=spreadTo_len s p s.owners.length
 have h4:=minTo_len s p s.owners.length
 match t with
 | 0=>simp only [ownTo,List.length_append];omega
 | 1=>simp only [ownTo,List.length_append];omega
 | t+2=>simp only [ownTo,List.length_append];omega
theorem ownC1_len (s:Snap) (p:List Int) (kind:Int) (o:Nat):(ownC1 s p kind o).length≤1:=by
 unfold ownC1 spreadC1
 split
 ·simp
 ·split<;>simp
theorem p8_ofOwner {S:SHeap} {kp:Addr} {s:Snap} {p:List Int} {us:List (List Int)} {mb:Nat} {l:List (ByteArray × Value)} {o t:Nat} (hok:checkP s p=0) (ho:o < s.owners.length) (ht:t < 2)
  (hL:PtrTo S kp rLook ⟨s,p,us,.map (some mb)⟩) (hco:Cache s S l) :
  FnC Tryz.prog 250 #[.pointer (some kp),.iface 280 (.int .i64 o),.int .i64 ((t:Int)+7)] S Value.string mb (Cache s) l (fun w S'=>(rSlice 32 rClause).V S' w (ownC1 s p ((t:Int)+7) o)):=by
 match t with
 | 0=>exact p8_ofSpread hok ho hL hco
 | 1=>exact p8_ofMin hok ho hL hco
theorem p8_all {S:SHeap} {kp:Addr} {s:Snap} {p:List Int} {mb:Nat} {l:List (ByteArray × Value)} (hok:checkP s p=0)
  (hL:PtrTo S kp rLook ⟨s,p,usedAll s p,.map (some mb)⟩) (hco:Cache s S l) :
  FnC Tryz.prog 168 #[.pointer (some kp)] S Value.string mb (Cache s) l (fun w S'=>(rSlice 32 rClause).V S' w (allC s p)):=by
 obtain ⟨hs,hlen,hp24,hn8,ho8,hpr,hprn⟩:=placed_hyps hok
 (refine Fn.enter (args:=[.pointer (some kp)]) Tryz.func168 rfl Tryz.ntmps168 rfl ?_;intro w0)
 repeat (first|(refine Walk ?_;intros)|refine JC.block ?_)
 (first|refine JC.newRow 41 (Rp.sz rClause) ?_|refine JO.newRow 41 (Rp.sz rClause) ?_|refine JX.newRow 41 (Rp.sz rClause) ?_)
 refine JC.loopF (σ:=Nat × Option Addr × Nat × List Value × List (ByteArray × Value)) [(0,_),(13,_)] (fun q=>[(2,.slice q.2.1 ((fun n=>capTo s p n 0) q.1).length q.2.2.1),(14,((fun n=>.int .i64 n) q.1))]) (fun q=>[.row w0.heap.size 41 (Rp.sz rClause) (.slice q.2.1 ((fun n=>capTo s p n 0) q.1).length q.2.2.1) ((fun n=>capTo s p n 0) q.1).length (flatCells q.2.2.2.1),.blk mb (mapK Value.string q.2.2.2.2)]) (fun Sn q=>q.1≤s.nodes.length∧allV rClause Sn q.2.2.2.1 ((fun n=>capTo s p n 0) q.1)∧Cache s Sn q.2.2.2.2) (fun q=>s.nodes.length - q.1) (0,none,0,[],l) (by exact sba) (by exact sba) (by first|rfl|simp) (⟨Nat.zero_le _,trivial,hco⟩) ?_;rintro Sn ⟨n,ran,rcn,vsn,lmn⟩ hln ⟨hn,hvn,hcon⟩;(try dsimp only at hn hvn hcon);dsimp only [List.cons_append,List.nil_append]
 have hxl:=capTo_len s p n 0
 repeat (first|(refine Walk ?_;intros)|refine JC.block ?_)
 refine JC.cond rfl (fun hc=>?_) (fun hc=>?_)
 ·have hn':=dlt hc
  have hst:=capTo_next s p n
  have hcl:=capsK_len s p n 5
  repeat (first|(refine Walk ?_;intros)|refine JC.block ?_)
  refine JO.pure rfl rfl rfl (JPure.mkIface rfl rfl ?_)
  repeat (first|(refine Walk ?_;intros)|refine JC.block ?_)
  refine JO.eff rfl rfl rfl (JEff.callC (kv:=Value.string) rfl (List.Perm.swap _ _ _) (by intro l hl;cases hl) (p8_ofNode hok hn' (by exact pta) (hcon.mono (by exact lea))) rfl ?_);intro w S2 l2 hl2 hw hco2
  obtain ⟨wa,wc,rfl,_⟩:=V_slice.1 hw
  repeat (first|(refine Walk ?_;intros)|refine JC.block ?_)
  refine JO.eff rfl rfl rfl (JEff.appendS (rep:=rClause) rfl rfl hw rfl rfl (List.Perm.swap _ _ _) (by unfold big;omega) (by unfold big;omega) (by intro l hl;cases hl) rfl ?_);intro a2 c2 us1 hus1
  repeat (first|(refine Walk ?_;intros)|refine JC.block ?_)
  exact JX.roundF (n+1,a2,c2,vsn++us1,l2) (by exact lea) ⟨by omega,by (try dsimp only);rw [hst];exact allV.append hus1 (hvn.mono (by exact lea)),hco2.mono (by exact lea)⟩ (by (try dsimp only);omega) (by (try dsimp only);rw [hst];simp [flat_append]) (by (try dsimp only);rw [hst,List.length_append];exact sba) (by exact sba)
 ·have hn':=dnlt hc
  obtain rfl:n=s.nodes.length:=by omega
  have hcl:(capsC s p).length≤40:=by unfold capsC;rw [capTo_len];omega
  repeat (first|(refine Walk ?_;intros)|refine JC.block ?_)
  have h0:capTo s p s.nodes.length 0=capsC s p++kindsTo s p 0:=by simp [kindsTo,capsC]
  rw [h0] at hvn
  rw [h0]
  refine JC.loopF (σ:=Nat × Option Addr × Nat × List Value × List (ByteArray × Value)) [(0,_)] (fun q=>[(2,.slice q.2.1 ((fun j=>capsC s p++kindsTo s p j) q.1).length q.2.2.1),(4,((fun j=>.int .i64 ((j:Int)+2)) q.1))]) (fun q=>[.row w0.heap.size 41 (Rp.sz rClause) (.slice q.2.1 ((fun j=>capsC s p++kindsTo s p j) q.1).length q.2.2.1) ((fun j=>capsC s p++kindsTo s p j) q.1).length (flatCells q.2.2.2.1),.blk mb (mapK Value.string q.2.2.2.2)]) (fun Sj q=>q.1≤5∧allV rClause Sj q.2.2.2.1 ((fun j=>capsC s p++kindsTo s p j) q.1)∧Cache s Sj q.2.2.2.2) (fun q=>5 - q.1) (0,ran,rcn,vsn,lmn) (by exact sba) (by exact sba) (by first|rfl|simp) (⟨Nat.zero_le _,hvn,hcon⟩) ?_;rintro Sj ⟨j,raj,rcj,vsj,lmj⟩ hlj ⟨hj,hvj,hcoj⟩;(try dsimp only at hj hvj hcoj);dsimp only [List.cons_append,List.nil_append]
  have hkl:=kindsTo_len s p j
  have hkl2:j*p.length≤5*24:=Nat.mul_le_mul (by omega) (by omega)
  have hXl:(capsC s p++kindsTo s p j).length≤200:=by rw [List.length_append];omega
  repeat (first|(refine Walk ?_;intros)|refine JC.block ?_)
  refine JC.cond rfl (fun hc=>?_) (fun hc=>?_)
  ·have hj':j < 5:=by have:=of_decide_eq_true hc;omega
   repeat (first|(refine Walk ?_;intros)|refine JC.block ?_)
   have h1:capsC s p++kindsTo s p j=capsC s p++kindsTo s p j++podsTo s p ((j:Int)+2) 0:=by simp [podsTo]
   rw [h1] at hvj
   rw [h1]
   refine JC.loopF (σ:=Nat × Option Addr × Nat × List Value × List (ByteArray × Value)) [(0,_),(4,_),(32,_)] (fun q=>[(2,.slice q.2.1 ((fun i=>capsC s p++kindsTo s p j++podsTo s p ((j:Int)+2) i) q.1).length q.2.2.1),(33,((fun i=>.int .i64 i) q.1))]) (fun q=>[.row w0.heap.size 41 (Rp.sz rClause) (.slice q.2.1 ((fun i=>capsC s p++kindsTo s p j++podsTo s p ((j:Int)+2) i) q.1).length q.2.2.1) ((fun i=>capsC s p++kindsTo s p j++podsTo s p ((j:Int)+2) i) q.1).length (flatCells q.2.2.2.1),.blk mb (mapK Value.string q.2.2.2.2)]) (fun Si q=>q.1≤p.length∧allV rClause Si q.2.2.2.1 ((fun i=>capsC s p++kindsTo s p j++podsTo s p ((j:Int)+2) i) q.1)∧Cache s Si q.2.2.2.2) (fun q=>p.length - q.1) (0,raj,rcj,vsj,lmj) (by exact sba) (by exact sba) (by first|rfl|simp) (⟨Nat.zero_le _,hvj.mono (by exact lea),hcoj.mono (by exact lea)⟩) ?_;rintro Si ⟨i,rai,rci,vsi,lmi⟩ hli ⟨hi,hvi,hcoi⟩;(try dsimp only at hi hvi hcoi);dsimp only [List.cons_append,List.nil_append]
   have hpl:=podsTo_len s p ((j:Int)+2) i
   have hp1:=podC1_len s p ((j:Int)+2) i
   have hYl:(capsC s p++kindsTo s p j++podsTo s p ((j:Int)+2) i).length≤300:=by rw [List.length_append];omega
   repeat (first|(refine Walk ?_;intros)|refine JC.block ?_)
   refine JC.cond rfl (fun hc2=>?_) (fun hc2=>?_)
   ·have hi':=dlt hc2
    have hst:capsC s p++kindsTo s p j++podsTo s p ((j:Int)+2) (i+1)=capsC s p++kindsTo s p j++podsTo s p ((j:Int)+2) i++podC1 s p ((j:Int)+2) i:=by rw [podsTo_step,List.append_assoc (capsC s p++kindsTo s p j)]
    repeat (first|(refine Walk ?_;intros)|refine JC.block ?_)
    refine JO.pure rfl rfl rfl (JPure.mkIface rfl rfl ?_)
    repeat (first|(refine Walk ?_;intros)|refine JC.block ?_)
    refine JO.eff rfl rfl rfl (JEff.callC (kv:=Value.string) rfl (List.Perm.swap _ _ _) (by intro l hl;cases hl) (p8_ofPod hok hi' (by omega) (by omega) (by exact pta) (hcoi.mono (by exact lea))) rfl ?_);intro w S2 l2 hl2 hw hco2
    obtain ⟨wa,wc,rfl,_⟩:=V_slice.1 hw
    repeat (first|(refine Walk ?_;intros)|refine JC.block ?_)
    refine JO.eff rfl rfl rfl (JEff.appendS (rep:=rClause) rfl rfl hw rfl rfl (List.Perm.swap _ _ _) (by unfold big;omega) (by unfold big;omega) (by intro l hl;cases hl) rfl ?_);intro a2 c2 us1 hus1
    repeat (first|(refine Walk ?_;intros)|refine JC.block ?_)
    exact JX.roundF (i+1,a2,c2,vsi++us1,l2) (by exact lea) ⟨by omega,by (try dsimp only);rw [hst];exact allV.append hus1 (hvi.mono (by exact lea)),hco2.mono (by exact lea)⟩ (by (try dsimp only);omega) (by (try dsimp only);rw [hst];(simp [flat_append]<;>omega)) (by (try dsimp only);rw [hst,List.length_append (bs:=podC1 s p ((j:Int)+2) i)];exact sba) (by exact sba)
   ·have hi':=dnlt hc2
    obtain rfl:i=p.length:=by omega
    have h2:capsC s p++kindsTo s p j++podsTo s p ((j:Int)+2) p.length=capsC s p++kindsTo s p (j+1):=by rw [kindsTo_step,List.append_assoc]
    rw [h2] at hvi
    rw [h2]
    repeat (first|(refine Walk ?_;intros)|refine JC.block ?_)
    exact JX.roundF (j+1,rai,rci,vsi,lmi) (by exact lea) ⟨by omega,hvi.mono (by exact lea),hcoi.mono (by exact lea)⟩ (by (try dsimp only);omega) rfl (by exact sba) (by exact sba)
  ·obtain rfl:j=5:=by have:=of_decide_eq_false hc;omega
   repeat (first|(refine Walk ?_;intros)|refine JC.block ?_)
   have h3:capsC s p++kindsTo s p 5=ownTo s p 0 0:=by simp [ownTo,spreadTo,minTo]
   rw [h3] at hvj
   rw [h3]
   refine JC.loopF (σ:=Nat × Option Addr × Nat × List Value × List (ByteArray × Value)) [(0,_)] (fun q=>[(2,.slice q.2.1 ((fun t=>ownTo s p t 0) q.1).length q.2.2.1),(6,((fun t=>.int .i64 ((t:Int)+7)) q.1))]) (fun q=>[.row w0.heap.size 41 (Rp.sz rClause) (.slice q.2.1 ((fun t=>ownTo s p t 0) q.1).length q.2.2.1) ((fun t=>ownTo s p t 0) q.1).length (flatCells q.2.2.2.1),.blk mb (mapK Value.string q.2.2.2.2)]) (fun St q=>q.1≤2∧allV rClause St q.2.2.2.1 ((fun t=>ownTo s p t 0) q.1)∧Cache s St q.2.2.2.2) (fun q=>2 - q.1) (0,raj,rcj,vsj,lmj) (by exact sba) (by exact sba) (by first|rfl|simp) (⟨Nat.zero_le _,hvj.mono (by exact lea),hcoj.mono (by exact lea)⟩) ?_;rintro St ⟨t,rat,rct,vst,lmt⟩ hlt ⟨ht,hvt,hcot⟩;(try dsimp only at ht hvt hcot);dsimp only [List.cons_append,List.nil_append]
   have hXl:=ownTo_len s p hok t 0 (by omega) (by omega)
   repeat (first|(refine Walk ?_;intros)|refine JC.block ?_)
   refine JC.cond rfl (fun hc=>?_) (fun hc=>?_)
   ·have ht':t < 2:=by have:=of_decide_eq_true hc;omega
    repeat (first|(refine Walk ?_;intros)|refine JC.block ?_)
    refine JC.loopF (σ:=Nat × Option Addr × Nat × List Value × List (ByteArray × Value)) [(0,_),(6,_),(53,_)] (fun q=>[(2,.slice q.2.1 ((fun o=>ownTo s p t o) q.1).length q.2.2.1),(54,((fun o=>.int .i64 o) q.1))]) (fun q=>[.row w0.heap.size 41 (Rp.sz rClause) (.slice q.2.1 ((fun o=>ownTo s p t o) q.1).length q.2.2.1) ((fun o=>ownTo s p t o) q.1).length (flatCells q.2.2.2.1),.blk mb (mapK Value.string q.2.2.2.2)]) (fun So q=>q.1≤s.owners.length∧allV rClause So q.2.2.2.1 ((fun o=>ownTo s p t o) q.1)∧Cache s So q.2.2.2.2) (fun q=>s.owners.length - q.1) (0,rat,rct,vst,lmt) (by exact sba) (by exact sba) (by first|rfl|simp) (⟨Nat.zero_le _,hvt.mono (by exact lea),hcot.mono (by exact lea)⟩) ?_;rintro So ⟨o,rao,rco,vso,lmo⟩ hlo ⟨ho,hvo,hcoo⟩;(try dsimp only at ho hvo hcoo);dsimp only [List.cons_append,List.nil_append]
    have hYl:=ownTo_len s p hok t o (by omega) (by omega)
    repeat (first|(refine Walk ?_;intros)|refine JC.block ?_)
    refine JC.cond rfl (fun hc2=>?_) (fun hc2=>?_)
    ·have ho':=dlt hc2
     have hst:=ownTo_step s p t o ht'
     have hp1:=ownC1_len s p ((t:Int)+7) o
     repeat (first|(refine Walk ?_;intros)|refine JC.block ?_)
     refine JO.pure rfl rfl rfl (JPure.mkIface rfl rfl ?_)
     repeat (first|(refine Walk ?_;intros)|refine JC.block ?_)
     refine JO.eff rfl rfl rfl (JEff.callC (kv:=Value.string) rfl (List.Perm.swap _ _ _) (by intro l hl;cases hl) (p8_ofOwner hok ho' (by omega) (by exact pta) (hcoo.mono (by exact lea))) rfl ?_);intro w S2 l2 hl2 hw hco2
     obtain ⟨wa,wc,rfl,_⟩:=V_slice.1 hw
     repeat (first|(refine Walk ?_;intros)|refine JC.block ?_)
     refine JO.eff rfl rfl rfl (JEff.appendS (rep:=rClause) rfl rfl hw rfl rfl (List.Perm.swap _ _ _) (by unfold big;omega) (by unfold big;omega) (by intro l hl;cases hl) rfl ?_);intro a2 c2 us1 hus1
     repeat (first|(refine Walk ?_;intros)|refine JC.block ?_)
     exact JX.roundF (o+1,a2,c2,vso++us1,l2) (by exact lea) ⟨by omega,by (try dsimp only);rw [hst];exact allV.append hus1 (hvo.mono (by exact lea)),hco2.mono (by exact lea)⟩ (by (try dsimp only);omega) (by (try dsimp only);rw [hst];simp [flat_append]) (by (try dsimp only);rw [hst,List.length_append];exact sba) (by exact sba)
    ·have ho':=dnlt hc2
     obtain rfl:o=s.owners.length:=by omega
     rw [ownTo_next] at hvo
     rw [ownTo_next]
     repeat (first|(refine Walk ?_;intros)|refine JC.block ?_)
     exact JX.roundF (t+1,rao,rco,vso,lmo) (by exact lea) ⟨by omega,hvo.mono (by exact lea),hcoo.mono (by exact lea)⟩ (by (try dsimp only);omega) rfl (by exact sba) (by exact sba)
   ·obtain rfl:t=2:=by have:=of_decide_eq_false hc;omega
    have hfin:ownTo s p 2 0=allC s p:=by simp [ownTo,allC]
    rw [hfin] at hvt hXl
    rw [hfin]
    repeat (first|(refine Walk ?_;intros)|refine JC.block ?_)
    refine JX.freezeRow (rep:=rClause) (bt:=32) hvt rfl (by unfold big;omega) (by unfold big;omega) (fun S9 hl9 hV9=>?_)
    refine JX.ret1 Tryz.results168 (ResV.tmp rfl) (List.Sublist.refl _) ?_
    exact ⟨hV9,_,rfl,hcot.mono (by exact lea)⟩
end Go.Dr
namespace Go.Dr
open Go.Proofs
set_option maxRecDepth 20000
set_option maxHeartbeats 2000000
set_option linter.unusedSimpArgs false
set_option linter.unusedVariables false
theorem p8_All {S:SHeap} {u v:Value} {s:Snap} {p:List Int} (hu:rSnap.V S u s) (hv:(rSlice 8 rI64).V S v p):FnLE Tryz.prog 103 #[u,v] S 32 rClause (allL s p) (.int .i64 (checkP s p)):=by
 obtain ⟨a,c,rfl,_⟩:=V_slice.1 hv
 (refine Fn.enter (args:=[u,.slice a p.length c]) Tryz.func103 rfl Tryz.ntmps103 rfl ?_;intro w0)
 repeat (first|(refine Walk ?_;intros)|refine JC.block ?_|(refine WBox ?_;intros))
 refine JO.eff rfl rfl rfl (JEff.callM (Mc:=[]) rfl (List.Perm.refl _) (mayAll rfl) (p8_see (s:=s) (p:=p) (by exact vta) (by exact vta)) rfl ?_);intro w S2 M2 hl2 hw
 rcases hw with ⟨he,rfl,rfl⟩|⟨hok,kp,mb,rfl,hL,rfl⟩
 ·have he2:decide (checkP s p=0)=false:=by simpa using he
  repeat (first|(refine Walk ?_;intros)|refine JC.block ?_|(refine WBox ?_;intros))
  refine JC.cond rfl (fun h1=>?_) (fun h1=>?_)
  ·repeat (first|(refine Walk ?_;intros)|refine JC.block ?_|(refine WBox ?_;intros))
   (refine JX.ret2 Tryz.results103 (ResV.tmp rfl) (ResV.tmp rfl) (List.nil_sublist _) ?_)
   exact ⟨rfl,_,rfl,by rw [allL,if_neg he];exact V_nil⟩
  ·(exfalso;first|(simp only [decide_eq_true_eq,decide_eq_false_iff_not,Bool.not_eq_true',Bool.not_eq_false',Bool.and_eq_true,Bool.or_eq_true,Bool.and_eq_false_iff,Bool.or_eq_false_iff] at *;omega)|(simp_all;done)|(simp_all;omega))
 ·repeat (first|(refine Walk ?_;intros)|refine JC.block ?_|(refine WBox ?_;intros))
  refine JO.eff rfl rfl rfl (JEff.callC (kv:=Value.string) rfl (List.Perm.refl _) (by intro l hl;cases hl) (p8_all hok hL Cache.nil) rfl ?_);intro w S3 l3 hl3 hw hco3
  repeat (first|(refine Walk ?_;intros)|refine JC.block ?_|(refine WBox ?_;intros))
  (refine JX.ret2 Tryz.results103 (ResV.tmp rfl) (ResV.tmp rfl) (List.nil_sublist _) ?_)
  exact ⟨rfl,_,by rw [hok],by rw [allL,if_pos hok];exact hw⟩
end Go.Dr
namespace Go.Dr
def ltC (c d:Clause):Prop:=c.kind < d.kind∨(c.kind=d.kind∧(c.a < d.a∨(c.a=d.a∧c.b < d.b)))
theorem pw_flat {f:Nat→List Clause} {R:Clause→Clause→Prop}:∀ {n:Nat},(∀ i,i < n→(f i).Pairwise R)→(∀ i j,i < j→j < n→∀ x∈f i,∀ y∈f j,R x y)→((List.range n).flatMap f).Pairwise R
 | 0,_,_=>by simp
 | n+1,h1,h2=>by
  rw [List.range_succ,List.flatMap_append]
  refine List.pairwise_append.2 ⟨pw_flat (fun i hi=>h1 i (by omega)) (fun i j hij hj=>h2 i j hij (by omega)),by simpa using h1 n (by omega),?_⟩
  intro x hx y hy
  obtain ⟨i,hi,hxi⟩:=List.mem_flatMap.1 hx
  have hi:i < n:=by simpa using hi
  exact h2 i n hi (by omega) x hxi y (by simpa using hy)
theorem mem_pods {s:Snap} {p:List Int} {kind:Int} {n:Nat} {c:Clause} (h:c∈podsTo s p kind n):∃ i,i < n∧c=⟨kind,i,0,(of8 s p kind i).1⟩∧(of8 s p kind i).2=true:=by
 obtain ⟨i,hi,hc⟩:=List.mem_flatMap.1 h
 unfold podC1 at hc
 split at hc
 ·rename_i h1
  exact ⟨i,by simpa using hi,by simpa using hc,h1⟩
 ·simp at hc
theorem mem_caps {s:Snap} {p:List Int} {c:Clause} (h:c∈capsC s p):∃ n k,n < s.nodes.length∧k < 5∧c=capN s p n k:=by
 unfold capsC capTo at h
 simp only [List.range_zero,List.map_nil,List.append_nil] at h
 obtain ⟨n,hn,hc⟩:=List.mem_flatMap.1 h
 obtain ⟨k,hk,rfl⟩:=List.mem_map.1 hc
 exact ⟨n,k,by simpa using hn,by simpa using hk,rfl⟩
theorem mem_kinds {s:Snap} {p:List Int} {c:Clause} {j:Nat} (h:c∈kindsTo s p j):∃ t i,t < j∧i < p.length∧c=⟨(t:Int)+2,i,0,(of8 s p ((t:Int)+2) i).1⟩∧(of8 s p ((t:Int)+2) i).2=true:=by
 obtain ⟨t,ht,hc⟩:=List.mem_flatMap.1 h
 obtain ⟨i,hi,hc,h2⟩:=mem_pods hc
 exact ⟨t,i,by simpa using ht,hi,hc,h2⟩
theorem mem_spread {s:Snap} {p:List Int} {c:Clause} {n:Nat} (h:c∈spreadTo s p n):∃ o,o < n∧c=⟨7,o,0,skewV s p o⟩∧topoOf s o≠noS:=by
 obtain ⟨o,ho,hc⟩:=List.mem_flatMap.1 h
 unfold spreadC1 at hc
 split at hc
 ·simp at hc
 ·rename_i h1
  exact ⟨o,by simpa using ho,by simpa using hc,h1⟩
theorem mem_min {s:Snap} {p:List Int} {c:Clause} {n:Nat} (h:c∈minTo s p n):∃ o,o < n∧c=minC1 s p o:=by
 obtain ⟨o,ho,hc⟩:=List.mem_map.1 h
 exact ⟨o,by simpa using ho,hc.symm⟩
theorem allC_order (s:Snap) (p:List Int):(allC s p).Pairwise ltC:=by
 have h1:(capsC s p).Pairwise ltC:=by
  unfold capsC capTo
  simp only [List.range_zero,List.map_nil,List.append_nil]
  refine pw_flat (fun n _=>?_) (fun i j hij hj x hx y hy=>?_)
  ·refine List.pairwise_map.2 (List.Pairwise.imp ?_ List.pairwise_lt_range)
   intro a b hab
   exact .inr ⟨rfl,.inr ⟨rfl,by show (a:Int) < b;omega⟩⟩
  ·obtain ⟨a,_,rfl⟩:=List.mem_map.1 hx
   obtain ⟨b,_,rfl⟩:=List.mem_map.1 hy
   exact .inr ⟨rfl,.inl (by show (i:Int) < j;omega)⟩
 have h2:(kindsTo s p 5).Pairwise ltC:=by
  refine pw_flat (fun t _=>?_) (fun i j hij hj x hx y hy=>?_)
  ·refine pw_flat (fun i _=>?_) (fun i j hij hj x hx y hy=>?_)
   ·unfold podC1;split<;>simp
   ·unfold podC1 at hx hy
    split at hx<;>split at hy<;>first|(simp at hx;done)|(simp at hy;done)|skip
    simp only [List.mem_singleton] at hx hy
    subst hx;subst hy
    exact .inr ⟨rfl,.inl (by show (i:Int) < j;omega)⟩
  ·obtain ⟨a,_,rfl,_⟩:=mem_pods hx
   obtain ⟨b,_,rfl,_⟩:=mem_pods hy
   exact .inl (by show (i:Int)+2 < (j:Int)+2;omega)
 have h3:(spreadTo s p s.owners.length).Pairwise ltC:=by
  refine pw_flat (fun o _=>?_) (fun i j hij hj x hx y hy=>?_)
  ·unfold spreadC1;split<;>simp
  ·unfold spreadC1 at hx hy
   split at hx<;>split at hy<;>first|(simp at hx;done)|(simp at hy;done)|skip
   simp only [List.mem_singleton] at hx hy
   subst hx;subst hy
   exact .inr ⟨rfl,.inl (by show (i:Int) < j;omega)⟩
 have h4:(minTo s p s.owners.length).Pairwise ltC:=by
  refine List.pairwise_map.2 (List.Pairwise.imp ?_ List.pairwise_lt_range)
  intro a b hab
  exact .inr ⟨rfl,.inl (by show (a:Int) < b;omega)⟩
 unfold allC
 refine List.pairwise_append.2 ⟨List.pairwise_append.2 ⟨List.pairwise_append.2 ⟨h1,h2,?_⟩,h3,?_⟩,h4,?_⟩
 ·intro x hx y hy
  obtain ⟨n,k,_,_,rfl⟩:=mem_caps hx
  obtain ⟨t,i,_,_,rfl,_⟩:=mem_kinds hy
  exact .inl (by show (1:Int) < (t:Int)+2;omega)
 ·intro x hx y hy
  obtain ⟨o,_,rfl,_⟩:=mem_spread hy
  rcases List.mem_append.1 hx with hx|hx
  ·obtain ⟨n,k,_,_,rfl⟩:=mem_caps hx
   exact .inl (by show (1:Int) < 7;omega)
  ·obtain ⟨t,i,_,_,rfl,_⟩:=mem_kinds hx
   exact .inl (by show (t:Int)+2 < 7;omega)
 ·intro x hx y hy
  obtain ⟨o,_,rfl⟩:=mem_min hy
  rcases List.mem_append.1 hx with hx|hx
  ·rcases List.mem_append.1 hx with hx|hx
   ·obtain ⟨n,k,_,_,rfl⟩:=mem_caps hx
    exact .inl (by show (1:Int) < 8;omega)
   ·obtain ⟨t,i,_,_,rfl,_⟩:=mem_kinds hx
    exact .inl (by show (t:Int)+2 < 8;omega)
  ·obtain ⟨o',_,rfl,_⟩:=mem_spread hx
   exact .inl (by show (7:Int) < 8;omega)
theorem allL_order (s:Snap) (p:List Int):(allL s p).Pairwise ltC:=by
 unfold allL
 split
 ·exact allC_order s p
 ·exact .nil
def nameC (c:Clause):Int × Int × Int:=(c.kind,c.a,c.b)
theorem ltC_name {c d:Clause} (h:ltC c d):nameC c≠nameC d:=by
 intro e
 simp only [nameC,Prod.mk.injEq] at e
 unfold ltC at h
 omega
theorem allL_names (s:Snap) (p:List Int):(allL s p).Pairwise (fun c d=>nameC c≠nameC d):=(allL_order s p).imp ltC_name
theorem isC_name (c d:Clause):isC c.kind c.a c.b d=decide (nameC d=nameC c):=by
 unfold isC nameC
 rw [Bool.eq_iff_iff]
 simp [and_assoc]
theorem find_self {l:List Clause} (h:l.Pairwise (fun c d=>nameC c≠nameC d)) {c:Clause} (hc:c∈l):l.find? (isC c.kind c.a c.b)=some c:=by
 induction l with
 | nil=>cases hc
 | cons x l ih=>
  obtain ⟨h1,h2⟩:=List.pairwise_cons.1 h
  rw [List.find?_cons,isC_name]
  rcases List.mem_cons.1 hc with rfl|hc
  ·simp
  ·have:=h1 c hc
   rw [decide_eq_false this]
   exact ih h2 hc
end Go.Dr
namespace Go.Dr
set_option linter.unusedSimpArgs false
set_option linter.unusedVariables false
theorem run_forIn_unit {P:Program} {α:Type} {g:α→PUnit→Sem (ForInStep PUnit)} {w:World}:∀ (l:List α),(∀ x∈l,(g x ⟨⟩).run P w=.ok (.yield ⟨⟩) w)→(forIn l PUnit.unit g).run P w=.ok ⟨⟩ w
 | [],_=>by simp [Sem.run_pure]
 | x::l,h=>by
  simp only [List.forIn_cons,Sem.run_bind,h x (by simp),Result.andThen_ok]
  exact run_forIn_unit l (fun y hy=>h y (by simp [hy]))
theorem flat_field {P:Program} {w:World}:∀ (fs:List Field) (ks:List Kd) (pre xs:List Value),flatB P pre.length fs ks=true→fits ks xs=true →
  ∀ f∈fs,∃ d v,P.underlying f.type=some d∧MapKept.IsKey d v∧(part f.type (pre++xs).toArray f.offset).run P w=.ok v w
 | [],_,_,_,_,_=>by intro f hf;cases hf
 | _::_,[],_,_,h,_=>by cases h
 | f0::fs,k::ks,pre,xs,h,h1=>by
  simp only [flatB,Bool.and_eq_true,Bool.not_eq_true'] at h
  obtain ⟨⟨⟨hn,ho⟩,hk⟩,hr⟩:=h
  have ho:=Nat.eq_of_beq_eq_true ho
  have hd:=kd_desc hk
  have ha:isAggD (kdD k)=false:=by cases k<;>rfl
  obtain ⟨x,xs',rfl,hx,h1'⟩:∃ x xs',xs=x::xs'∧MapKept.IsKey (kdD k) x∧fits ks xs'=true:=by
   cases k with
   | int=>match xs,h1 with|.int .i64 a::xs',h1=>exact ⟨_,_,rfl,by simp [kdD,MapKept.IsKey],h1⟩
   | str=>match xs,h1 with|.string a::xs',h1=>exact ⟨_,_,rfl,by simp [kdD,MapKept.IsKey],h1⟩
   | bool=>match xs,h1 with|.bool a::xs',h1=>exact ⟨_,_,rfl,by simp [kdD,MapKept.IsKey],h1⟩
  intro f hf
  rcases List.mem_cons.1 hf with rfl|hf
  ·exact ⟨_,x,hd,hx,by rw [ho];exact run_part1 hd ha pre x xs' w⟩
  ·have:=flat_field (w:=w) fs ks (pre++[x]) xs' (by simpa using hr) h1' f hf
   simpa using this
theorem check_flat {P:Program} {T:TypeId} {ks:List Kd} (h:FlatS P T ks) {xs:List Value} (hx:fits ks xs=true) (e:Bool) (w:World):(Instr.checkKey e 10000 T (.agg xs.toArray)).run P w=.ok () w:=by
 have hb:=h.b
 unfold flatT at hb
 split at hb
 ·rename_i fs hu
  have hfl:=flat_field (w:=w) fs.toList ks [] xs hb hx
  unfold Instr.checkKey
  simp only [Sem.run_bind,run_underlying hu,Result.andThen_ok]
  rw [← Array.forIn_toList]
  have:=run_forIn_unit (P:=P) (w:=w) (g:=fun (f:Field) (r:PUnit)=>(do
   if f.name ≠ "_" then Instr.checkKey e 9999 f.type (← part f.type xs.toArray f.offset)
   pure (ForInStep.yield PUnit.unit):Sem (ForInStep PUnit))) fs.toList (fun f hf=>by
    obtain ⟨d,v,hd,hv,hp⟩:=hfl f hf
    simp only [List.nil_append] at hp
    by_cases hn : f.name ≠ "_"
    ·simp only [if_pos hn,Sem.run_bind,hp,Result.andThen_ok,MapKept.run_checkKey hd hv,Sem.run_pure]
    ·simp only [if_neg hn,Sem.run_bind,Result.andThen_ok,Sem.run_pure])
  simp [Sem.run_bind,Sem.run_pure,Result.andThen_ok] at this ⊢
  rw [this]
  rfl
 ·cases hb
theorem find_asking {κ:Type} [DecidableEq κ] {P:Program} {T:TypeId} {ks:List Kd} (h:FlatS P T ks) {ls:κ→List Value} (hf:∀ k,fits ks (ls k)=true) (hc:∀ a b,ceqs (ls a) (ls b)=decide (a=b)) (s:κ) (w:World):∀ (l:List (κ × Value)) (n i:Nat),
  ((Instr.findAsking T (.agg (ls s).toArray) (esK (fun k=>.agg (ls k).toArray) n l) i).run P w=.ok none w∧∀ p∈l,p.1≠s) ∨
  ∃ j p,(Instr.findAsking T (.agg (ls s).toArray) (esK (fun k=>.agg (ls k).toArray) n l) i).run P w=.ok (some (i+j,p.2)) w∧l[j]?=some p∧p.1=s
 | [],n,i=>.inl ⟨by simp [Instr.findAsking,esK,Sem.run_pure],by intro p hp;cases hp⟩
 | (k,v)::l,n,i=>by
  have heq:(Op.equal T (.agg (ls s).toArray) (.agg (ls k).toArray)).run P w=.ok (decide (s=k)) w:=by
   have:=run_eq_flat h (hf s) (hf k) w
   rw [hc] at this
   exact this
  by_cases hs:s=k
  ·refine .inr ⟨0,(k,v),?_,rfl,hs.symm⟩
   simp only [esK,Instr.findAsking,Sem.run_bind,heq,Result.andThen_ok,decide_eq_true hs,if_true,Sem.run_pure]
   rfl
  ·have hstep:(Instr.findAsking T (.agg (ls s).toArray) (esK (fun k=>.agg (ls k).toArray) n ((k,v)::l)) i).run P w=(Instr.findAsking T (.agg (ls s).toArray) (esK (fun k=>.agg (ls k).toArray) (n+1) l) (i+1)).run P w:=by
    simp only [esK,Instr.findAsking,Sem.run_bind,heq,Result.andThen_ok,decide_eq_false hs,Bool.false_eq_true,if_false]
   rw [hstep]
   rcases find_asking h hf hc s w l (n+1) (i+1) with ⟨h1,h2⟩|⟨j,p,h1,h2,h3⟩
   ·refine .inl ⟨h1,fun p hp=>?_⟩
    rcases List.mem_cons.1 hp with rfl|hp
    ·exact fun e=>hs e.symm
    ·exact h2 p hp
   ·exact .inr ⟨j+1,p,by rw [h1];congr 3;omega,by simpa using h2,h3⟩
theorem sameBits_flat:∀ (ks:List Kd) (xs:List Value),fits ks xs=true→(xs.zip xs).all (fun (x,y)=>Instr.sameBits 9999 x y)=true
 | [],[],_=>rfl
 | .int::ks,.int .i64 a::vs,h=>by simp only [List.zip_cons_cons,List.all_cons,sameBits_flat ks vs h,Bool.and_true];simp [Instr.sameBits]
 | .str::ks,.string a::vs,h=>by simp only [List.zip_cons_cons,List.all_cons,sameBits_flat ks vs h,Bool.and_true];simp [Instr.sameBits,MapKept.bytes_beq]
 | .bool::ks,.bool a::vs,h=>by simp only [List.zip_cons_cons,List.all_cons,sameBits_flat ks vs h,Bool.and_true];simp [Instr.sameBits]
theorem key_flat {κ:Type} [DecidableEq κ] {P:Program} {T:TypeId} {ks:List Kd} (h:FlatS P T ks) {ls:κ→List Value} (hf:∀ k,fits ks (ls k)=true) (hc:∀ a b,ceqs (ls a) (ls b)=decide (a=b)):Key P T (fun k=>.agg (ls k).toArray) where
 check e k w:=check_flat h (hf k) e w
 find k l w:=by
  have hb:=h.b
  unfold flatT at hb
  split at hb
  ·rename_i fs hu
   have hask:(Instr.findKey T (.agg (ls k).toArray) (esK (fun k=>.agg (ls k).toArray) 0 l)).run P w=(Instr.findAsking T (.agg (ls k).toArray) (esK (fun k=>.agg (ls k).toArray) 0 l) 0).run P w:=by
    cases l with
    | nil=>simp [Instr.findKey,run_underlying hu,Result.andThen,esK,Instr.findNow,Instr.findAsking,Sem.run_pure]
    | cons p l=>simp [Instr.findKey,run_underlying hu,Result.andThen,esK,Instr.findNow,Instr.sameNow]
   rw [hask]
   rcases find_asking h hf hc k w l 0 0 with h1|⟨j,p,h1,h2⟩
   ·exact .inl h1
   ·exact .inr ⟨j,p,by rw [h1];simp,h2⟩
  ·cases hb
 stays k w:=by
  have:Instr.sameBits 10000 (.agg (ls k).toArray) (.agg (ls k).toArray)=true:=by
   simp only [Instr.sameBits,sameBits_flat ks _ (hf k)]
   simp
  simp [Instr.keyThatStays,this,Sem.run_pure]
section
variable {C:Cx} {R:Rg} {Q:Post} {S S' S1:SHeap} {M M':List MEnt} {e e':Env} {rest:List Nat}
variable {d:Nat} {ty:TypeId} {pos:String} {aft:Array Edge} {g:Option (Nat × Bool)} {an:Bool}
end
end Go.Dr
namespace Go.Dr
open Go.Proofs
set_option maxRecDepth 20000
set_option maxHeartbeats 2000000
set_option linter.unusedSimpArgs false
set_option linter.unusedVariables false
def nm (c:Clause):Step:=⟨c.kind,c.a,c.b⟩
def kvN (x:Step):Value:=.agg [Value.int .i64 x.kind,.int .i64 x.pod,.int .i64 x.node].toArray
instance:TyR Tryz.prog 110 rStep:=⟨by kernel_rfl⟩
instance:FlatS Tryz.prog 110 [.int,.int,.int]:=⟨by kernel_rfl,by kernel_rfl,by kernel_rfl⟩
instance:Key Tryz.prog 110 kvN:=key_flat (κ:=Step) (ls:=fun x=>[Value.int .i64 x.kind,.int .i64 x.pod,.int .i64 x.node]) (inferInstance:FlatS Tryz.prog 110 [.int,.int,.int]) (fun _=>rfl) (fun a b=>by cases a;cases b;rw [Bool.eq_iff_iff];simp [ceqs])
theorem nm_eq {c d:Clause}:nm c=nm d↔nameC c=nameC d:=by cases c;cases d;simp [nm,nameC]
theorem p9_of {S:SHeap} {u:Value} {x:Clause} (hu:rClause.V S u x):FnV Tryz.prog 66 #[u] S (kvN (nm x)):=by
 obtain ⟨rfl,h1,h2,h3,h4⟩:=V_clause.1 hu
 (refine Fn.enter (args:=[.agg #[.int .i64 x.kind,.int .i64 x.a,.int .i64 x.b,.int .i64 x.by_]]) Tryz.func66 rfl Tryz.ntmps66 rfl ?_;intro w0)
 repeat (first|(refine Walk ?_;intros)|refine JC.block ?_|(refine WBox ?_;intros))
 (refine JO.eff rfl rfl rfl (JEff.alloc rfl ?_);intro cb hcb)
 repeat (first|(refine Walk ?_;intros)|refine JC.block ?_|(refine WBox ?_;intros))
 have hV:∀ S,rStep.V S (kvN (nm x)) (nm x):=fun S=>V_step.2 ⟨rfl,h1,h2,h3⟩
 refine JO.eff rfl rfl rfl (JEff.storeW rfl rfl (hV _) nna (List.Perm.refl _) rfl (by intro l hl;cases hl) ?_)
 refine JO.freezeV (hV _) nna hcb (by intro l hl;cases hl) ?_;intro S2 hl2 hpo
 repeat (first|(refine Walk ?_;intros)|refine JC.block ?_|(refine WBox ?_;intros))
 exact JX.retCell Tryz.results66 rfl hpo (List.nil_sublist _) (fun w hw=>⟨rfl,by obtain ⟨rfl,_⟩:=V_step.1 hw;rfl⟩)
def bys (l:List Clause):List (Step × Value):=l.map (fun c=>(nm c,Value.int .i64 c.by_))
theorem bys_step {l:List Clause} {k:Nat} {x:Clause} (hx:l[k]?=some x):bys (l.take (k+1))=bys (l.take k)++[(nm x,Value.int .i64 x.by_)]:=by
 unfold bys
 rw [List.take_add_one,hx];simp
theorem bys_new {l:List Clause} (h:l.Pairwise (fun c d=>nameC c≠nameC d)) {k:Nat} {x:Clause} (hx:l[k]?=some x):∀ p∈bys (l.take k),p.1≠nm x:=by
 intro p hp e
 obtain ⟨c,hc,rfl⟩:=List.mem_map.1 hp
 obtain ⟨i,hi,hci⟩:=List.mem_take_iff_getElem.1 hc
 obtain ⟨hk,rfl⟩:=List.getElem?_eq_some_iff.1 hx
 exact List.pairwise_iff_getElem.1 h i k (by omega) hk (by omega) (by rw [hci];exact nm_eq.1 e)
theorem bys_distinct {l:List Clause} (h:l.Pairwise (fun c d=>nameC c≠nameC d)):DistinctK (bys l):=by
 intro i j p q hi hj hpq
 unfold bys at hi hj
 rw [List.getElem?_map] at hi hj
 obtain ⟨c,hc,rfl⟩:=Option.map_eq_some_iff.1 hi
 obtain ⟨d,hd,rfl⟩:=Option.map_eq_some_iff.1 hj
 obtain ⟨h1,rfl⟩:=List.getElem?_eq_some_iff.1 hc
 obtain ⟨h2,rfl⟩:=List.getElem?_eq_some_iff.1 hd
 have hpq:=nm_eq.1 hpq
 rcases Nat.lt_trichotomy i j with a|a|a
 ·exact absurd hpq (List.pairwise_iff_getElem.1 h i j h1 h2 a)
 ·exact a
 ·exact absurd hpq.symm (List.pairwise_iff_getElem.1 h j i h2 h1 a)
def LookAns (s:Snap) (p:List Int) (w:Value) (S':SHeap):Prop:=
 (¬ checkP s p=0∧w=.tuple #[.map none,.slice none 0 0,.int .i64 (checkP s p)]) ∨
 (checkP s p=0∧∃ b a c,w=.tuple #[.map (some b),.slice a (allL s p).length c,.int .i64 0]∧S' b=some (mapK kvN (bys (allL s p)))∧(rSlice 32 rClause).V S' (.slice a (allL s p).length c) (allL s p))
theorem s64_L9a {P K:Prop} (k:K) (h:Goal K→P:=by
 intro zk
 (first|refine Walk ?_|refine JC.block ?_|refine JC.drawN 8 rfl [0,1,3,4,2,5] [1] Tryz_mixed (by decide +kernel) ?_|(refine JO.eff rfl rfl rfl (JEff.callV rfl (p9_of (by exact vta)) rfl ?_);intro zqa zqb)|(refine JO.eff rfl rfl rfl (JEff.callLE rfl (p8_All (by exact vta) (by exact vta)) rfl ?_);intro zqa zqb zqc zqd zqe zqf)|(refine WBox ?_)|(refine WNew ?_)|(refine WPut ?_))
 (repeat (first|revert zqg|revert zqf|revert zqe|revert zqd|revert zqc|revert zqb|revert zqa))
 exact zk.k):P:=h ⟨k⟩
theorem p9_look {S:SHeap} {u v:Value} {s:Snap} {p:List Int} (hu:rSnap.V S u s) (hv:(rSlice 8 rI64).V S v p):FnR Tryz.prog 64 #[u,v] S (LookAns s p):=by
 (refine Fn.enter (args:=[u,v]) Tryz.func64 rfl Tryz.ntmps64 rfl ?_;intro w0)
 repeat (refine s64_L9a ?_;intros)
 refine JC.cond rfl (fun h1=>?_) (fun h1=>?_)
 ·have h1:¬ checkP s p=0:=by simpa using h1
  repeat (refine s64_L9a ?_;intros)
  (refine JX.ret3 Tryz.results64 (ResV.tmp rfl) (ResV.tmp rfl) (ResV.tmp rfl) (List.nil_sublist _) ?_)
  exact ⟨rfl,.inl ⟨h1,rfl⟩⟩
 have hok:checkP s p=0:=by simpa using h1
 have hnames:=allL_names s p
 obtain ⟨hLl,hLr⟩:=allL_rng s p
 generalize hL:allL s p=L at *
 have hb32:=slice_bytes (by assumption:(rSlice 32 rClause).V _ _ L)
 unfold big at hb32
 repeat (refine s64_L9a ?_;intros)
 refine JO.eff rfl rfl rfl (JEff.makeMapK kvN rfl ?_);intro mb hmb
 repeat (refine s64_L9a ?_;intros)
 refine JC.loopF (σ:=Nat) [(7,_),(9,_),(22,_),(23,_)] (fun q=>[(24,.int .i64 (q:Int))]) (fun q=>[.blk mb (mapK kvN (bys (L.take q)))]) (fun Si q=>q≤L.length) (fun q=>L.length - q) (0) (by exact sba) (by exact sba) rfl (Nat.zero_le _) ?_;rintro Si k hli hii;(try dsimp only at hii);dsimp only [List.cons_append,List.nil_append]
 repeat (refine s64_L9a ?_;intros)
 refine JC.cond rfl (fun hc=>?_) (fun hc=>?_)
 ·have hk':=dlt hc
  obtain ⟨x,hx,_⟩:=drop_at hk'
  have hst:=bys_step hx
  have hnew:=bys_new hnames hx
  repeat (refine s64_L9a ?_;intros)
  refine JO.eff rfl rfl rfl (JEff.putK (kv:=kvN) (s:=nm x) rfl rfl rfl (List.Perm.refl _) (by intro l hl;cases hl) (fun _=>?_) (fun j q hj hq=>absurd hq (hnew q (List.mem_of_getElem? hj))))
  rw [← hst]
  repeat (refine s64_L9a ?_;intros)
  exact JX.roundF (k+1) (by exact lea) (by omega) (by (try dsimp only);omega) rfl (by exact sba) (by exact sba)
 ·have hk':=dnlt hc
  obtain rfl:k=L.length:=by omega
  rw [List.take_length]
  refine JC.freeze hmb (fun S10 hl10 hS10=>?_)
  repeat (refine s64_L9a ?_;intros)
  (refine JX.ret3 Tryz.results64 (ResV.tmp rfl) (ResV.tmp rfl) (ResV.tmp rfl) (List.nil_sublist _) ?_)
  subst hL
  exact ⟨rfl,.inr ⟨hok,_,_,_,rfl,hS10,by exact vta⟩⟩
theorem bys_none {L:List Clause} {x:Clause} (h:∀ p∈bys L,p.1≠nm x):findC L x=0:=by
 unfold findC
 rw [List.find?_eq_none.2]
 intro c hc
 rw [isC_name]
 have:=h (nm c,Value.int .i64 c.by_) (List.mem_map.2 ⟨c,hc,rfl⟩)
 intro e
 exact this (nm_eq.2 (of_decide_eq_true e))
theorem bys_some {L:List Clause} (hn:L.Pairwise (fun c d=>nameC c≠nameC d)) {x:Clause} {j:Nat} {q:Step × Value} (hj:(bys L)[j]?=some q) (hq:q.1=nm x):q.2=.int .i64 (findC L x):=by
 unfold bys at hj
 rw [List.getElem?_map] at hj
 obtain ⟨c,hc,rfl⟩:=Option.map_eq_some_iff.1 hj
 have he:=nm_eq.1 hq
 have hf:=find_self hn (List.mem_of_getElem? hc)
 simp only [nameC,Prod.mk.injEq] at he
 unfold findC
 rw [← he.1,← he.2.1,← he.2.2,hf]
theorem s65_L9a {P K:Prop} (k:K) (h:Goal K→P:=by
 intro zk
 (first|refine Walk ?_|refine JC.block ?_|refine JC.drawN 1 rfl [0,1,2,3,4,5,6,7] [3,5,6,7] Tryz_mixed (by decide +kernel) ?_|(refine JO.eff rfl rfl rfl (JEff.callV rfl (p9_of (by exact vta)) rfl ?_);intro zqa zqb)|(refine WBox ?_))
 (repeat (first|revert zqg|revert zqf|revert zqe|revert zqd|revert zqc|revert zqb|revert zqa))
 exact zk.k):P:=h ⟨k⟩
theorem p9_Worse1 {S:SHeap} {u:Value} {x:Clause} {L:List Clause} {q:Addr} {b:Nat} (hn:L.Pairwise (fun c d=>nameC c≠nameC d)) (hu:rClause.V S u x) (hq:PtrTo S q rVal (.map (some b))) (hS:S b=some (mapK kvN (bys L))):FnV Tryz.prog 65 #[u,.pointer (some q)] S (.bool (worseF L x)):=by
 (refine Fn.enter (args:=[u,.pointer (some q)]) Tryz.func65 rfl Tryz.ntmps65 rfl ?_;intro w0)
 repeat (refine s65_L9a ?_;intros)
 refine JO.pure rfl rfl rfl (JPure.lookS (kv:=kvN) (s:=nm x) rfl rfl (by first|exact hS|exact (by assumption:SHeap.le _ _) _ _ hS|exact SHeap.le.trans (by assumption) (by assumption) _ _ hS) (bys_distinct hn) rfl (fun hno=>?_) (fun j q hj hq=>?_))
 ·have hf:=bys_none hno
  repeat (refine s65_L9a ?_;intros)
  (refine JX.ret1 Tryz.results65 (ResV.tmp rfl) (List.nil_sublist _) ?_)
  exact ⟨rfl,by simp [worseF,hf]⟩
 ·have hf:=bys_some hn hj hq
  rw [hf]
  repeat (refine s65_L9a ?_;intros)
  (refine JX.ret1 Tryz.results65 (ResV.tmp rfl) (List.nil_sublist _) ?_)
  exact ⟨rfl,by simp [worseF]⟩
theorem p9_Worse {S:SHeap} {u v v2:Value} {s:Snap} {p q:List Int} (hu:rSnap.V S u s) (hv:(rSlice 8 rI64).V S v p) (hv2:(rSlice 8 rI64).V S v2 q):FnLE Tryz.prog 18 #[u,v,v2] S 32 rClause (worseV s p q).1 (.int .i64 (worseV s p q).2):=by
 (refine Fn.enter (args:=[u,v,v2]) Tryz.func18 rfl Tryz.ntmps18 rfl ?_;intro w0)
 repeat (first|(refine Walk ?_;intros)|refine JC.block ?_|(refine WBox ?_;intros)|(refine WNew ?_;intros)|(refine WPut ?_;intros))
 (refine JO.eff rfl rfl rfl (JEff.callR rfl (p9_look (s:=s) (p:=p) (by exact vta) (by exact vta)) rfl ?_);intro w S2 hl2 hw)
 rcases hw with ⟨he,rfl⟩|⟨hok,b,a,c,rfl,hSb,hVb⟩
 ·repeat (first|(refine Walk ?_;intros)|refine JC.block ?_|(refine WBox ?_;intros)|(refine WNew ?_;intros)|(refine WPut ?_;intros))
  refine JC.cond rfl (fun h1=>?_) (fun h1=>?_)
  ·repeat (first|(refine Walk ?_;intros)|refine JC.block ?_|(refine WBox ?_;intros)|(refine WNew ?_;intros)|(refine WPut ?_;intros))
   (refine JX.ret2 Tryz.results18 (ResV.tmp rfl) (ResV.tmp rfl) (List.nil_sublist _) ?_)
   unfold worseV
   rw [if_pos he]
   exact ⟨rfl,_,rfl,V_nil⟩
  ·(exfalso;first|(simp only [decide_eq_true_eq,decide_eq_false_iff_not,Bool.not_eq_true',Bool.not_eq_false',Bool.and_eq_true,Bool.or_eq_true,Bool.and_eq_false_iff,Bool.or_eq_false_iff] at *;omega)|(simp_all;done)|(simp_all;omega))
 ·repeat (first|(refine Walk ?_;intros)|refine JC.block ?_|(refine WBox ?_;intros)|(refine WNew ?_;intros)|(refine WPut ?_;intros))
  (refine JO.eff rfl rfl rfl (JEff.callR rfl (p9_look (s:=s) (p:=q) (by exact vta) (by exact vta)) rfl ?_);intro w S3 hl3 hw)
  obtain ⟨m,a3,c3,rfl,hV3⟩:∃ m a c,w=.tuple #[m,.slice a (allL s q).length c,.int .i64 (checkP s q)]∧(rSlice 32 rClause).V S3 (.slice a (allL s q).length c) (allL s q):=by
   rcases hw with ⟨he,rfl⟩|⟨hokq,b3,a3,c3,rfl,_,hV3⟩
   ·have:allL s q=[]:=by unfold allL;rw [if_neg he]
    rw [this]
    exact ⟨_,_,_,rfl,V_nil⟩
   ·exact ⟨_,_,_,by rw [hokq],hV3⟩
  have hwv:worseV s p q=((allL s q).filter (worseF (allL s p)),checkP s q):=by
   unfold worseV
   rw [if_neg (by simpa using hok)]
   split
   ·rename_i he
    have:allL s q=[]:=by unfold allL;rw [if_neg he]
    rw [this];rfl
   ·rename_i he
    have he:checkP s q=0:=Classical.not_not.1 he
    rw [he]
  rw [hwv]
  have hnames:=allL_names s p
  generalize allL s p=LA at *
  generalize hL:allL s q=L at *
  have hb32:=slice_bytes hV3
  unfold big at hb32
  repeat (first|(refine Walk ?_;intros)|refine JC.block ?_|(refine WBox ?_;intros)|(refine WNew ?_;intros)|(refine WPut ?_;intros))
  (first|refine JC.newRow 41 (Rp.sz rClause) ?_|refine JO.newRow 41 (Rp.sz rClause) ?_|refine JX.newRow 41 (Rp.sz rClause) ?_)
  refine JC.loopF (σ:=Nat × Option Addr × Nat × List Value) [(7,_),(10,_),(33,_),(34,_)] (fun q=>[(6,.slice q.2.1 ((fun k=>(L.take k).filter (worseF LA)) q.1).length q.2.2.1),(35,((fun k=>.int .i64 k) q.1))]) (fun q=>[.row w0.heap.size 41 (Rp.sz rClause) (.slice q.2.1 ((fun k=>(L.take k).filter (worseF LA)) q.1).length q.2.2.1) ((fun k=>(L.take k).filter (worseF LA)) q.1).length (flatCells q.2.2.2)]) (fun Sk q=>q.1≤L.length∧allV rClause Sk q.2.2.2 ((fun k=>(L.take k).filter (worseF LA)) q.1)∧((fun k=>True) q.1)) (fun q=>L.length - q.1) (0,none,0,[]) (by exact sba) (by exact sba) (by first|rfl|simp) (⟨Nat.zero_le _,trivial,trivial⟩) ?_;rintro Sk ⟨k,rak,rck,vsk⟩ hlk ⟨hk,hvk,hik⟩;(try dsimp only at hk hvk hik);dsimp only [List.cons_append,List.nil_append]
  have hfl:=filter_len L (worseF LA) k
  repeat (first|(refine Walk ?_;intros)|refine JC.block ?_|(refine WBox ?_;intros)|(refine WNew ?_;intros)|(refine WPut ?_;intros))
  refine JC.cond rfl (fun hc=>?_) (fun hc=>?_)
  ·have hk':=dlt hc
   obtain ⟨x,hx,_⟩:=drop_at hk'
   have hst:=filter_step (f:=worseF LA) hx
   repeat (first|(refine Walk ?_;intros)|refine JC.block ?_|(refine WBox ?_;intros)|(refine WNew ?_;intros)|(refine WPut ?_;intros))
   (refine JO.eff rfl rfl rfl (JEff.dynV rfl inferInstance rfl (p9_Worse1 (x:=x) hnames (by exact vta) (by exact pta) ((show S2.le _ by exact lea) _ _ hSb)) rfl ?_);intro _ _)
   repeat (first|(refine Walk ?_;intros)|refine JC.block ?_|(refine WBox ?_;intros)|(refine WNew ?_;intros)|(refine WPut ?_;intros))
   refine JC.cond rfl (fun hq=>?_) (fun hq=>?_)
   ·rw [hq,if_pos rfl] at hst
    repeat (first|(refine Walk ?_;intros)|refine JC.block ?_|(refine WBox ?_;intros)|(refine WNew ?_;intros)|(refine WPut ?_;intros))
    have hvx:=(by assumption:rClause.V _ _ x)
    (refine JO.eff rfl rfl rfl (JEff.build (rep:=rClause) (ys:=[x]) rfl rfl ⟨⟨(hvx.mono (by exact lea)),nna⟩,trivial⟩ rfl rfl rfl rfl ?_);intro bb hbb hvv);(repeat (first|(refine Walk ?_;intros)|refine JC.block ?_));(refine JO.eff rfl rfl rfl (JEff.appendL (rep:=rClause) rfl rfl rfl rfl (List.Perm.swap _ _ _) (by exact hvv.flat) (by intro c hc;exact flat_one (fun v hv=>(hvv.size v hv).2) c hc) (by first|omega|(unfold big;omega)) (by unfold big;omega) (by first|exact rowT_ok|(intro l hl;cases hl)) rfl ?_);intro a2 c2;clear hvv hbb)
    repeat (first|(refine Walk ?_;intros)|refine JC.block ?_|(refine WBox ?_;intros)|(refine WNew ?_;intros)|(refine WPut ?_;intros))
    exact JX.roundF (k+1,a2,c2,vsk++[(_)]) (by exact lea) ⟨by omega,by (try dsimp only);rw [hst];exact allV_add (by exact lea) hvk (hvx.mono (by exact lea)) nna,(trivial)⟩ (by (try dsimp only);omega) (by (try dsimp only);rw [hst];(simp [flat_append]<;>omega)) (by (try dsimp only);rw [hst];simp only [List.length_append,List.length_cons,List.length_nil];exact sba) (by exact sba)
   ·rw [hq,if_neg (by simp),List.append_nil] at hst
    repeat (first|(refine Walk ?_;intros)|refine JC.block ?_|(refine WBox ?_;intros)|(refine WNew ?_;intros)|(refine WPut ?_;intros))
    exact JX.roundF (k+1,rak,rck,vsk) (by exact lea) ⟨by omega,by (try dsimp only);rw [hst];exact hvk.mono (by exact lea),(trivial)⟩ (by (try dsimp only);omega) (by (try dsimp only);rw [hst]) (by (try dsimp only);rw [hst];exact sba) (by exact sba)
  ·have hk':=dnlt hc
   obtain rfl:k=L.length:=by omega
   rw [List.take_length] at hvk hfl ⊢
   repeat (first|(refine Walk ?_;intros)|refine JC.block ?_|(refine WBox ?_;intros)|(refine WNew ?_;intros)|(refine WPut ?_;intros))
   refine JX.freezeRow (rep:=rClause) (bt:=32) hvk rfl (by unfold big;omega) (by unfold big;omega) (fun S9 hl9 hV9=>?_)
   (refine JX.ret2 Tryz.results18 (ResV.tmp rfl) (ResV.tmp rfl) (List.nil_sublist _) ?_)
   exact ⟨rfl,_,rfl,hV9⟩
end Go.Dr
namespace Go.Dr
open Go.Proofs
set_option maxRecDepth 20000
set_option maxHeartbeats 2000000
set_option linter.unusedSimpArgs false
set_option linter.unusedVariables false
theorem p_Clone_int {S:SHeap} {u:Value} {l:List Int} (hu:(rSlice 8 rI64).V S u l):FnRow Tryz.prog 59 #[u] S 3 rI64 l:=by
 have hu0:=hu
 obtain ⟨a,c,rfl,_,hb16,hb,_⟩:=V_slice.1 hu
 unfold big at hb16 hb
 (refine FnRow.enter (args:=[.slice a l.length c]) Tryz.func59 rfl Tryz.ntmps59 rfl ?_;intro w0)
 repeat (first|(refine Walk ?_;intros)|refine JC.block ?_)
 refine JO.pure rfl rfl rfl (JPure.eqNil rfl rfl rfl ?_)
 repeat (first|(refine Walk ?_;intros)|refine JC.block ?_)
 refine JC.cond rfl (fun hn=>?_) (fun hn=>?_)
 ·have ha:a=none:=by simpa using hn
  subst ha
  have hl:l=[]:=nil_slice hu0
  subst hl
  repeat (first|(refine Walk ?_;intros)|refine JC.block ?_)
  (first|refine JC.newRow 3 (Rp.sz rI64) ?_|refine JO.newRow 3 (Rp.sz rI64) ?_|refine JX.newRow 3 (Rp.sz rI64) ?_)
  exact JX.retRow (vs:=[]) Tryz.results59 (ResV.tmp rfl) rfl trivial
 ·repeat (first|(refine Walk ?_;intros)|refine JC.block ?_)
  refine JO.eff rfl rfl rfl (JEff.build0 rI64 rfl ?_);intro b0
  repeat (first|(refine Walk ?_;intros)|refine JC.block ?_)
  (refine JO.eff rfl rfl rfl (JEff.appendS (rep:=rI64) rfl rfl (hu0.mono (by exact lea)) rfl rfl (List.Perm.refl _) (by unfold big;omega) (by unfold big;omega) (by intro l hl;cases hl) rfl ?_);intro a2 c2 us1 hus1)
  repeat (first|(refine Walk ?_;intros)|refine JC.block ?_)
  exact JX.retRow Tryz.results59 (ResV.tmp rfl) (Nat.zero_add _) hus1
end Go.Dr
namespace Go.Dr
open Go.Proofs
set_option maxRecDepth 20000
set_option maxHeartbeats 2000000
set_option linter.unusedSimpArgs false
set_option linter.unusedVariables false
def OwnAns (E:TypeId) (xs:List Int) (z:Int) (w:Value) (S':SHeap) (M':List MEnt):Prop:=
 ∃ a c,w=.tuple #[.slice a xs.length c,.int .i64 z]∧((xs=[]∧a=none∧M'=[])∨(∃ b tl,a=some ⟨b,0,none⟩∧xs.length≤c∧M'=[.blk b (.cells (intsT xs tl) E (0,0))]))
theorem s150_L7f {P K:Prop} (k:K) (h:Goal K→P:=by
 intro zk
 (first|refine Walk ?_|refine JC.block ?_|refine JC.drawN 9 rfl [0,1,2,3,4,5,6] [0,1,2,3,4,5,6] Tryz_mixed (by decide +kernel) ?_|(refine JO.eff rfl rfl rfl (JEff.callV rfl (p7_Check (by exact vta) (by exact vta)) rfl ?_);intro zqa zqb)|(refine JO.eff rfl rfl rfl (JEff.callRow rfl (p_Clone_int (by exact vta)) rfl ?_);intro zqa zqb zqc zqd zqe zqf)|(refine JO.eff rfl rfl rfl (JEff.callV rfl (p7_there _ _) rfl ?_);intro zqa zqb)|(refine WBox ?_))
 (repeat (first|revert zqg|revert zqf|revert zqe|revert zqd|revert zqc|revert zqb|revert zqa))
 exact zk.k):P:=h ⟨k⟩
theorem p7_Apply {S:SHeap} {u v xv:Value} {s:Snap} {p:List Int} {x:Step} (hu:rSnap.V S u s) (hv:(rSlice 8 rI64).V S v p) (hx:rStep.V S xv x):Fn Tryz.prog 150 #[u,v,xv] S [] (OwnAns 3 (applyP s p x).1 (applyP s p x).2):=by
 have hv0:=hv
 obtain ⟨a,c,rfl,_,hb8,hb,hpr⟩:=V_slice.1 hv
 unfold big at hb8 hb
 have hprn:∀ z∈p,Rng z:=fun z hz=>by
  obtain ⟨q,cs,h,_⟩:=slice_at hv z hz
  exact h.2
 obtain ⟨hxr1,hxr2,hxr3⟩:=step_rng hx
 (refine Fn.enter (args:=[u,.slice a p.length c,xv]) Tryz.func150 rfl Tryz.ntmps150 rfl ?_;intro w0)
 repeat (refine s150_L7f ?_;intros)
 refine JC.cond rfl (fun he=>?_) (fun he=>?_)
 ·have he:z0 (checkP s p)=false:=by simpa [z0] using he
  repeat (refine s150_L7f ?_;intros)
  (refine JX.ret2 Tryz.results150 (ResV.tmp rfl) (ResV.tmp rfl) (List.nil_sublist _) ?_)
  exact ⟨none,0,by rw [applyP,he];rfl,.inl ⟨by rw [applyP,he];rfl,rfl,rfl⟩⟩
 have he:z0 (checkP s p)=true:=by simpa [z0] using he
 have hok:checkP s p=0:=by simpa [z0] using he
 obtain ⟨hs,hlen,hodd⟩:=checkP_ok hok
 obtain ⟨hn8,hp24,ho8⟩:=shaped_small (checkS_ok hs).1
 obtain ⟨kd,pd,nd⟩:=x
 dsimp only at hxr1 hxr2 hxr3
 unfold Rng at hxr2 hxr3
 have hap0:applyP s p ⟨kd,pd,nd⟩=(if !decide (kd=1)&&!decide (kd=2) then ([],2)
  else if decide (pd < 0)||decide ((p.length:Int)≤pd)||decide (nd < 0)||(decide (kd=2)&&decide ((s.nodes.length:Int)≤nd))||(decide (kd=1)&&!decide (nd=0)) then ([],9)
  else if (decide (at0 p pd.toNat=-1)==decide (kd=1))||(decide (kd=2)&&lostAt s nd) then ([],110)
  else (p.set pd.toNat (if kd=2 then nd else -1),0)):=by rw [applyP,he];rfl
 by_cases hk1:kd=1
 ·subst hk1
  by_cases hbad:pd < 0∨(p.length:Int)≤pd∨nd < 0∨¬ nd=0
  ·have hap:applyP s p ⟨1,pd,nd⟩=([],9):=by rw [hap0];simp;intro h1 h2 h3 h4;omega
   rw [hap]
   repeat' (first|(refine s150_L7f ?_;intros)|(refine JO.guard rfl rfl rfl rfl ?_ ?_<;>intro _)|(refine JC.cond rfl ?_ ?_<;>intro _))
   all_goals first
    | ((refine JX.ret2 Tryz.results150 (ResV.tmp rfl) (ResV.tmp rfl) (List.nil_sublist _) ?_);exact ⟨none,0,rfl,.inl ⟨rfl,rfl,rfl⟩⟩)
    | (clear hap hap0;(exfalso;first|(simp only [decide_eq_true_eq,decide_eq_false_iff_not,Bool.not_eq_true',Bool.not_eq_false',Bool.and_eq_true,Bool.or_eq_true,Bool.and_eq_false_iff,Bool.or_eq_false_iff] at *;omega)|(simp_all;done)|(simp_all;omega)))
  ·obtain ⟨i,rfl⟩:∃ i:Nat,pd=i:=⟨pd.toNat,by omega⟩
   obtain rfl:nd=0:=by omega
   have hi:i < p.length:=by omega
   obtain ⟨z,hz,_⟩:=drop_at hi
   have ecast:((i:Int)).toNat=i:=by omega
   have hz0:=at0_some hz
   have hz':p[((i:Int)).toNat]?=some z:=by rw [ecast];exact hz
   have e1:decide ((i:Int) < 0)=false:=by simp
   have e2:decide ((p.length:Int)≤(i:Int))=false:=by simp;omega
   have hap:applyP s p ⟨1,i,0⟩=(if z=-1 then ([],110) else (p.set i (-1),0)):=by rw [hap0];simp only [e1,e2,ecast,hz0];by_cases h:z=-1<;>simp [h]
   have hzr:=hprn z (List.mem_of_getElem? hz)
   by_cases hz1:z=-1
   ·rw [hap,if_pos hz1]
    repeat' (first|(refine s150_L7f ?_;intros)|(refine JO.guard rfl rfl rfl rfl ?_ ?_<;>intro _)|(refine JC.cond rfl ?_ ?_<;>intro _))
    all_goals first
     | ((refine JX.ret2 Tryz.results150 (ResV.tmp rfl) (ResV.tmp rfl) (List.nil_sublist _) ?_);exact ⟨none,0,rfl,.inl ⟨rfl,rfl,rfl⟩⟩)
     | (clear hap hap0;(exfalso;first|(simp only [decide_eq_true_eq,decide_eq_false_iff_not,Bool.not_eq_true',Bool.not_eq_false',Bool.and_eq_true,Bool.or_eq_true,Bool.and_eq_false_iff,Bool.or_eq_false_iff] at *;omega)|(simp_all;done)|(simp_all;omega)))
   rw [hap,if_neg hz1]
   repeat' (first|(refine s150_L7f ?_;intros)|(refine JO.guard rfl rfl rfl rfl ?_ ?_<;>intro _)|(refine JC.cond rfl ?_ ?_<;>intro _))
   all_goals first
    | (clear hap hap0;(exfalso;first|(simp only [decide_eq_true_eq,decide_eq_false_iff_not,Bool.not_eq_true',Bool.not_eq_false',Bool.and_eq_true,Bool.or_eq_true,Bool.and_eq_false_iff,Bool.or_eq_false_iff] at *;omega)|(simp_all;done)|(simp_all;omega)))
    | skip
   repeat (refine s150_L7f ?_;intros)
   rw [flat_int (by assumption)]
   refine JO.rowBlk (by omega) (fun b tl hab hbb hnc=>?_)
   subst hab
   repeat (refine s150_L7f ?_;intros)
   refine JO.pure rfl rfl rfl (JPure.indexRI rfl rfl rfl (by dsimp only;omega) (by dsimp only;omega) ?_)
   refine JO.eff rfl rfl rfl (JEff.storeIT (i:=i) rfl rfl (by unfold Rng;omega) (List.Perm.refl _) (by omega) (by intro l hl;cases hl) ?_)
   repeat (refine s150_L7f ?_;intros)
   refine JX.ret2 Tryz.results150 (ResV.tmp rfl) (ResV.tmp rfl) (List.Sublist.refl _) ?_
   exact ⟨some ⟨b,0,none⟩,_,by rw [List.length_set],.inr ⟨b,tl,rfl,by rw [List.length_set];exact hnc,rfl⟩⟩
 ·by_cases hk2:kd=2
  ·subst hk2
   by_cases hbad:pd < 0∨(p.length:Int)≤pd∨nd < 0∨(s.nodes.length:Int)≤nd
   ·have hap:applyP s p ⟨2,pd,nd⟩=([],9):=by rw [hap0];simp;intro h1 h2 h3 h4;omega
    rw [hap]
    repeat' (first|(refine s150_L7f ?_;intros)|(refine JO.guard rfl rfl rfl rfl ?_ ?_<;>intro _)|(refine JC.cond rfl ?_ ?_<;>intro _))
    all_goals first
     | ((refine JX.ret2 Tryz.results150 (ResV.tmp rfl) (ResV.tmp rfl) (List.nil_sublist _) ?_);exact ⟨none,0,rfl,.inl ⟨rfl,rfl,rfl⟩⟩)
     | (clear hap hap0;(exfalso;first|(simp only [decide_eq_true_eq,decide_eq_false_iff_not,Bool.not_eq_true',Bool.not_eq_false',Bool.and_eq_true,Bool.or_eq_true,Bool.and_eq_false_iff,Bool.or_eq_false_iff] at *;omega)|(simp_all;done)|(simp_all;omega)))
   ·obtain ⟨i,rfl⟩:∃ i:Nat,pd=i:=⟨pd.toNat,by omega⟩
    obtain ⟨m,rfl⟩:∃ m:Nat,nd=m:=⟨nd.toNat,by omega⟩
    have hi:i < p.length:=by omega
    obtain ⟨z,hz,_⟩:=drop_at hi
    obtain ⟨nn,hnn,_⟩:=drop_at (l:=s.nodes) (show m < s.nodes.length by omega)
    have ecast:((i:Int)).toNat=i:=by omega
    have ecast2:((m:Int)).toNat=m:=by omega
    have hz0:=at0_some hz
    have hz':p[((i:Int)).toNat]?=some z:=by rw [ecast];exact hz
    have hnn':s.nodes[((m:Int)).toNat]?=some nn:=by rw [ecast2];exact hnn
    have hlo:lostAt s m=nn.lost:=by simp [lostAt,hnn]
    have e1:decide ((i:Int) < 0)=false:=by simp
    have e2:decide ((p.length:Int)≤(i:Int))=false:=by simp;omega
    have e3:decide ((m:Int) < 0)=false:=by simp
    have e4:decide ((s.nodes.length:Int)≤(m:Int))=false:=by simp;omega
    have hap:applyP s p ⟨2,i,m⟩=(if ¬ z=-1∨nn.lost=true then ([],110) else (p.set i m,0)):=by rw [hap0];simp only [e1,e2,e3,e4,ecast,hz0,hlo];by_cases h:z=-1<;>simp [h]
    have hzr:=hprn z (List.mem_of_getElem? hz)
    by_cases hst:¬ z=-1∨nn.lost=true
    ·rw [hap,if_pos hst]
     repeat' (first|(refine s150_L7f ?_;intros)|(refine JO.guard rfl rfl rfl rfl ?_ ?_<;>intro _)|(refine JC.cond rfl ?_ ?_<;>intro _))
     all_goals first
      | ((refine JX.ret2 Tryz.results150 (ResV.tmp rfl) (ResV.tmp rfl) (List.nil_sublist _) ?_);exact ⟨none,0,rfl,.inl ⟨rfl,rfl,rfl⟩⟩)
      | (clear hap hap0;(exfalso;first|(simp only [decide_eq_true_eq,decide_eq_false_iff_not,Bool.not_eq_true',Bool.not_eq_false',Bool.and_eq_true,Bool.or_eq_true,Bool.and_eq_false_iff,Bool.or_eq_false_iff] at *;omega)|(simp_all;done)|(simp_all;omega)))
    rw [hap,if_neg hst]
    repeat' (first|(refine s150_L7f ?_;intros)|(refine JO.guard rfl rfl rfl rfl ?_ ?_<;>intro _)|(refine JC.cond rfl ?_ ?_<;>intro _))
    all_goals first
     | (clear hap hap0;(exfalso;first|(simp only [decide_eq_true_eq,decide_eq_false_iff_not,Bool.not_eq_true',Bool.not_eq_false',Bool.and_eq_true,Bool.or_eq_true,Bool.and_eq_false_iff,Bool.or_eq_false_iff] at *;omega)|(simp_all;done)|(simp_all;omega)))
     | skip
    repeat (refine s150_L7f ?_;intros)
    rw [flat_int (by assumption)]
    refine JO.rowBlk (by omega) (fun b tl hab hbb hnc=>?_)
    subst hab
    repeat (refine s150_L7f ?_;intros)
    refine JO.pure rfl rfl rfl (JPure.indexRI rfl rfl rfl (by dsimp only;omega) (by dsimp only;omega) ?_)
    refine JO.eff rfl rfl rfl (JEff.storeIT (i:=i) rfl rfl (by unfold Rng;omega) (List.Perm.refl _) (by omega) (by intro l hl;cases hl) ?_)
    repeat (refine s150_L7f ?_;intros)
    refine JX.ret2 Tryz.results150 (ResV.tmp rfl) (ResV.tmp rfl) (List.Sublist.refl _) ?_
    exact ⟨some ⟨b,0,none⟩,_,by rw [List.length_set],.inr ⟨b,tl,rfl,by rw [List.length_set];exact hnc,rfl⟩⟩
  ·have hap:applyP s p ⟨kd,pd,nd⟩=([],2):=by rw [hap0];simp [hk1,hk2]
   rw [hap]
   repeat' (first|(refine s150_L7f ?_;intros)|(refine JO.guard rfl rfl rfl rfl ?_ ?_<;>intro _)|(refine JC.cond rfl ?_ ?_<;>intro _))
   all_goals first
    | ((refine JX.ret2 Tryz.results150 (ResV.tmp rfl) (ResV.tmp rfl) (List.nil_sublist _) ?_);exact ⟨none,0,rfl,.inl ⟨rfl,rfl,rfl⟩⟩)
    | (clear hap hap0;(exfalso;first|(simp only [decide_eq_true_eq,decide_eq_false_iff_not,Bool.not_eq_true',Bool.not_eq_false',Bool.and_eq_true,Bool.or_eq_true,Bool.and_eq_false_iff,Bool.or_eq_false_iff] at *;omega)|(simp_all;done)|(simp_all;omega)))
end Go.Dr
namespace Go.Dr
theorem checkP_set {s:Snap} {p:List Int} {i:Nat} {v:Int} (h:checkP s p=0) (hv:oddP s v=false):checkP s (p.set i v)=0:=by
 obtain ⟨h1,h2,h3⟩:=checkP_ok h
 unfold checkP
 have e1:z0 (checkS s)=true:=by simp [z0,h1]
 have e2:(p.set i v).any (oddP s)=false:=by
  rw [List.any_eq_false]
  intro x hx
  rcases List.mem_or_eq_of_mem_set hx with hx|rfl
  ·rw [h3 x hx];simp
  ·rw [hv];simp
 rw [e1,e2,List.length_set,h2]
 simp
theorem odd_none (s:Snap):oddP s (-1)=false:=by simp [oddP];omega
theorem apply_set {s:Snap} {p:List Int} {x:Step} (h:(applyP s p x).2=0):∃ v,(applyP s p x).1=p.set x.pod.toNat v∧x.pod.toNat < p.length∧0≤x.pod∧oddP s v=false∧checkP s p=0 ∧
  ((x.kind=1∧v=-1∧x.node=0∧at0 p x.pod.toNat≠-1)∨(x.kind=2∧v=x.node∧0≤x.node∧x.node < s.nodes.length∧lostAt s x.node=false∧at0 p x.pod.toNat=-1)):=by
 unfold applyP at h ⊢
 split at h
 ·rename_i h1;simp [z0] at h1;exact absurd h h1
 rename_i h1
 rw [if_neg h1]
 have hok:checkP s p=0:=by simpa [z0] using h1
 split at h
 ·cases h
 rename_i h2
 rw [if_neg h2]
 split at h
 ·cases h
 rename_i h3
 rw [if_neg h3]
 split at h
 ·cases h
 rename_i h4
 rw [if_neg h4]
 simp only [Bool.and_eq_true,Bool.not_eq_true',decide_eq_false_iff_not,not_and,Classical.not_not] at h2
 simp only [Bool.or_eq_true,decide_eq_true_eq,Bool.and_eq_true,Bool.not_eq_true',decide_eq_false_iff_not,not_or,not_and,Classical.not_not] at h3
 obtain ⟨⟨⟨⟨a1,a2⟩,a3⟩,a4⟩,a5⟩:=h3
 have hp:x.pod.toNat < p.length:=by omega
 by_cases hk:x.kind=2
 ·have hk1:¬ x.kind=1:=by omega
  simp only [hk,Bool.or_eq_true,Bool.and_eq_true,not_or,not_and,Bool.not_eq_true,decide_true,true_implies] at h4
  obtain ⟨b1,b2⟩:=h4
  have b1:at0 p x.pod.toNat=-1:=by
   by_cases e:at0 p x.pod.toNat=-1
   ·exact e
   ·rw [decide_eq_false e] at b1;simp at b1
  refine ⟨x.node,by rw [if_pos hk],hp,by omega,?_,hok,.inr ⟨hk,rfl,by omega,by have:=a4 hk;omega,b2,b1⟩⟩
  unfold oddP
  have:=a4 hk
  simp [b2];omega
 ·have hk1:x.kind=1:=by
   by_cases e:x.kind=1
   ·exact e
   ·exact absurd (h2 e) hk
  have b1:¬ at0 p x.pod.toNat=-1:=by
   intro e
   apply h4
   rw [decide_eq_true e,decide_eq_true hk1];simp
  exact ⟨-1,by rw [if_neg hk],hp,by omega,odd_none s,hok,.inl ⟨hk1,rfl,a5 hk1,b1⟩⟩
theorem apply_check {s:Snap} {p:List Int} {x:Step} (h:(applyP s p x).2=0):checkP s (applyP s p x).1=0∧(applyP s p x).1.length=p.length∧0 < p.length:=by
 obtain ⟨v,h1,h2,_,h3,h4,_⟩:=apply_set h
 rw [h1]
 exact ⟨checkP_set h4 h3,by simp,by omega⟩
theorem worse_ok {s:Snap} {p q:List Int} (h1:checkP s p=0) (h2:checkP s q=0):worseV s p q=((allL s q).filter (worseF (allL s p)),0):=by
 unfold worseV;rw [if_neg (by simpa using h1),if_neg (by simpa using h2)]
end Go.Dr
namespace Go.Dr
set_option linter.unusedSimpArgs false
set_option linter.unusedVariables false
def SHeap.del (S:SHeap) (b:Nat):SHeap:=fun k=>if k=b then none else S k
theorem SHeap.del_self (S:SHeap) (b:Nat):S.del b b=none:=by simp [SHeap.del]
theorem SHeap.del_other {S:SHeap} {b k:Nat} (h:k≠b):S.del b k=S k:=by simp [SHeap.del,h]
theorem SHeap.le_del {S S':SHeap} {b:Nat} (h:S.le S') (hb:S b=none):S.le (S'.del b):=fun k o hk=>by
 have hne:k≠b:=fun e=>by rw [e,hb] at hk;cases hk
 rw [SHeap.del_other hne];exact h k o hk
theorem Wd.thaw {w0 w:World} {B0:List Nat} {S0 S:SHeap} {M:List MEnt} {b:Nat} {o:Obj} (h:Wd w0 B0 S0 S M w) (h0:S0 b=none) (hb:w0.heap.size≤b) (hS:S b=some o):Wd w0 B0 S0 (S.del b) (.blk b o::M) w where
 os:=h.os
 tape:=h.tape
 output:=h.output
 size:=h.size
 drawn:=h.drawn
 keep:=h.keep
 le:=SHeap.le_del h.le h0
 new:=fun k hk=>by
  by_cases e:k=b
  ·subst e;exact .inr hb
  ·exact h.new k (by rwa [SHeap.del_other e] at hk)
 agree:=fun k o' hk=>by
  have hne:k≠b:=fun e=>by rw [e,SHeap.del_self] at hk;cases hk
  rw [SHeap.del_other hne] at hk;exact h.agree k o' hk
 ok:=fun m hm=>by
  rcases List.mem_cons.1 hm with rfl|hm
  ·exact h.agree b o hS
  ·exact h.ok m hm
 sep:=by
  refine List.pairwise_cons.2 ⟨?_,h.sep⟩
  intro m hm k hk hk'
  simp only [MEnt.own,Option.some.injEq] at hk
  subst hk
  have:=(h.out m hm _ hk').1
  rw [hS] at this;cases this
 out:=fun m hm k hk=>by
  rcases List.mem_cons.1 hm with rfl|hm
  ·simp only [MEnt.own,Option.some.injEq] at hk
   subst hk
   exact ⟨SHeap.del_self _ _,.inl hb⟩
  ·obtain ⟨h1,h2⟩:=h.out m hm k hk
   refine ⟨?_,h2⟩
   unfold SHeap.del
   split
   ·rfl
   ·exact h1
theorem Fn.lend {P:Program} {f:FuncId} {args:Array Value} {S:SHeap} {b:Nat} {o:Obj} {PP:Value→SHeap→List MEnt→Prop} (h:Fn P f args (S.put b o) [] PP) :
  Fn P f args S [.blk b o] (fun v S' M'=>∃ S'' M'',PP v S'' M''∧(S.put b o).le S''∧S'=S''.del b∧M'=[.blk b o]):=fun w hg hok hs ho=>by
 have hSb:S b=none:=ho (.blk b o) (by simp) b rfl
 have hwb:w.heap[b]?=some o:=hok (.blk b o) (by simp)
 have hg':Agree (S.put b o) w:=fun k o' hk=>by
  by_cases e:k=b
  ·subst e
   rw [SHeap.put_self] at hk;cases hk;exact hwb
  ·exact hg k o' (by simpa [SHeap.put,e] using hk)
 refine (h w hg' (by simp) List.Pairwise.nil (by simp)).mono ?_
 rintro e w' ⟨v,S'',M'',rfl,hw,hp⟩
 have hSb2:S'' b=some o:=hw.le b o (SHeap.put_self _ _ _)
 refine ⟨v,S''.del b,[.blk b o],rfl,?_,S'',M'',hp,hw.le,rfl,rfl⟩
 have hle:S.le S'':=(SHeap.le_put o hSb).trans hw.le
 exact {
  os:=hw.os
  tape:=hw.tape
  output:=hw.output
  size:=hw.size
  drawn:=hw.drawn
  keep:=fun k hk hkb=>hw.keep k hk (by simp)
  le:=SHeap.le_del hle hSb
  new:=fun k hk=>by
   by_cases e:k=b
   ·subst e;rw [SHeap.del_self] at hk;exact absurd rfl hk
   ·rw [SHeap.del_other e] at hk
    rcases hw.new k hk with h1|h1
    ·exact .inl (by simpa [SHeap.put,e] using h1)
    ·exact .inr h1
  agree:=fun k o' hk=>by
   have hne:k≠b:=fun e=>by rw [e,SHeap.del_self] at hk;cases hk
   rw [SHeap.del_other hne] at hk;exact hw.agree k o' hk
  ok:=fun m hm=>by
   rw [List.mem_singleton] at hm;subst hm
   exact hw.agree b o hSb2
  sep:=List.pairwise_singleton _ _
  out:=fun m hm k hk=>by
   rw [List.mem_singleton] at hm;subst hm
   simp only [MEnt.own,Option.some.injEq] at hk
   subst hk
   exact ⟨SHeap.del_self _ _,.inr (by simp [MEnt.own])⟩ }
theorem Fn.frozen {P:Program} {f:FuncId} {args:Array Value} {S:SHeap} {PP:Value→SHeap→List MEnt→Prop} {QQ:Value→SHeap→Prop} (h:Fn P f args S [] PP)
  (hq:∀ v S' M',PP v S' M'→(M'=[]∧QQ v S')∨∃ b o,M'=[.blk b o]∧∀ S'',S'.le S''→S'' b=some o→QQ v S''):FnR P f args S QQ:=fun w hg hok hs ho=>by
 refine (h w hg hok hs ho).mono ?_
 rintro e w' ⟨v,S',M',rfl,hw,hp⟩
 rcases hq v S' M' hp with ⟨rfl,h1⟩|⟨b,o,rfl,h1⟩
 ·exact ⟨v,S',[],rfl,hw,rfl,h1⟩
 ·have h2:=hw.out (.blk b o) (by simp) b rfl
  have hb:w.heap.size≤b:=h2.2.resolve_right (by simp)
  exact ⟨v,S'.put b o,[],rfl,hw.freeze hb,rfl,h1 _ (SHeap.le_put o h2.1) (SHeap.put_self _ _ _)⟩
section
variable {C:Cx} {R:Rg} {Q:Post} {S S':SHeap} {M M':List MEnt} {e:Env} {rest:List Nat} {L:List Nat}
variable {d:Nat} {ty:TypeId} {pos:String} {aft:Array Edge} {g:Option (Nat × Bool)}
theorem JEff.lendV {f:FuncId} [Ent C.P f] {args:Array Operand} {ts:Array TypeId} {vs:List Value} {b:Nat} {o:Obj} {Mr:List MEnt} {r:Value} (hargs:evs e args.toList=some vs) (hM:(MEnt.blk b o::Mr).Perm M) (hT:∀ l,R.T=some l→b∈l) (hb:∀ m∈M,∀ k,m.own=some k→S k=none)
  (hf:∀ S1:SHeap,S.le S1→S1 b=some o→FnV C.P f vs.toArray S1 r) (hdN:Nat.blt d C.N=true)
  (k:∀ S',S.le S'→JO C R rest Q S' (.blk b o::Mr) ((d,r)::e)):JEff C R ⟨some d,.call { callee:=.value (.func f),args,argTypes:=ts },ty,pos,aft,g⟩ rest Q S M e:=by
 have hSb:S b=none:=hb (.blk b o) (hM.mem_iff.1 (by simp)) b rfl
 refine JEff.fn (Mc:=[.blk b o]) (sem_call hargs _ _ _ _ _) rfl rfl hdN hM (by intro t ht m hm k hk;rw [List.mem_singleton] at hm;subst hm;simp only [MEnt.own,Option.some.injEq] at hk;subst hk;exact hT t ht)
  (Fn.lend (hf (S.put b o) (SHeap.le_put o hSb) (SHeap.put_self _ _ _))) fun v S' M' hl hp=>?_
 obtain ⟨S'',M'',hp,hle,rfl,rfl⟩:=hp
 obtain ⟨-,rfl⟩:=hp
 exact k _ hl
theorem JO.out (k:(∀ m∈M,∀ b,m.own=some b→S b=none)→JO C R L Q S M e):JO C R L Q S M e:=⟨fun a w hw=>(k fun m hm b hb=>(hw.wd.out m hm b hb).1).run a w hw⟩
theorem JO.blkNew {b:Nat} {o:Obj} (h0:C.B0=[]) (k:C.S0 b=none→C.w0.heap.size≤b→JO C R L Q S (.blk b o::M) e):JO C R L Q S (.blk b o::M) e:=⟨fun a w hw=>by
 have h1:=hw.wd.out (.blk b o) (by simp) b rfl
 have h2:=h1.2
 rw [h0] at h2
 refine (k ?_ (h2.resolve_right (by simp))).run a w hw
 cases h:C.S0 b with
 | none=>rfl
 | some o'=>have:=hw.wd.le b o' h;rw [h1.1] at this;cases this⟩
theorem JC.blkNew {x:Code} {b:Nat} {o:Obj} (h0:C.B0=[]) (k:C.S0 b=none→C.w0.heap.size≤b→JC C x Q S (.blk b o::M) e):JC C x Q S (.blk b o::M) e:=⟨fun a w hw=>by
 have h1:=hw.wd.out (.blk b o) (by simp) b rfl
 have h2:=h1.2
 rw [h0] at h2
 refine (k ?_ (h2.resolve_right (by simp))).run a w hw
 cases h:C.S0 b with
 | none=>rfl
 | some o'=>have:=hw.wd.le b o' h;rw [h1.1] at this;cases this⟩
theorem JX.thaw {x:Exit} {b:Nat} {o:Obj} (h0:C.S0 b=none) (hb:C.w0.heap.size≤b) (hS:S b=some o) (k:JX C x Q (S.del b) (.blk b o::M) e):JX C x Q S M e:=⟨fun a w hw=>k.run a w ⟨hw.env,hw.defers,hw.wd.thaw h0 hb hS⟩⟩
class IfaceT (P:Program) (T:TypeId):Prop where
 h:P.underlying T=some (.interface (P.methodsAt T))
theorem JPure.eqNilT {an:Bool} {T t':TypeId} {x:Operand} (hx:ev e x=some .nilIface) [hi:IfaceT C.P T] (hdN:Nat.blt d C.N=true) (k:JO C R rest Q S M ((d,.bool true)::e)):JPure C R an ⟨some d,.binOp .eql T x (.const .nilIface) t',ty,pos,aft,g⟩ rest Q S M e:=
 JPure.of rfl hdN (fun a w' h=>by
  simp only [execOp,h.eval hx,h.eval (show ev e (.const .nilIface)=some .nilIface from rfl),Sem.run_bind,eqGuard_nil_constR,Sem.run_pure,Result.andThen_ok,run_eql_nil_nil w' T hi.h]) k
theorem JPure.eqNilF {an:Bool} {T t' u:TypeId} {x:Operand} {v:Value} (hx:ev e x=some (.iface u v)) [hi:IfaceT C.P T] (hdN:Nat.blt d C.N=true) (k:JO C R rest Q S M ((d,.bool false)::e)):JPure C R an ⟨some d,.binOp .eql T x (.const .nilIface) t',ty,pos,aft,g⟩ rest Q S M e:=
 JPure.of rfl hdN (fun a w' h=>by
  have hg:eqGuard .eql T x (.const .nilIface) (.iface u v) .nilIface=pure ():=by rfl
  simp only [execOp,h.eval hx,h.eval (show ev e (.const .nilIface)=some .nilIface from rfl),Sem.run_bind,hg,Sem.run_pure,Result.andThen_ok,run_eql_held_nil w' T u v hi.h]) k
end
end Go.Dr
namespace Go.Dr
open Go.Proofs
set_option maxRecDepth 20000
set_option maxHeartbeats 2000000
set_option linter.unusedSimpArgs false
set_option linter.unusedVariables false
def StepRaw (E Te Tc:TypeId) (s:Snap) (p:List Int) (x:Step) (w:Value) (S':SHeap) (M':List MEnt):Prop:=
 (∃ e,¬ e=0∧stepV s p x=([],noC,e)∧w=.tuple #[.slice none 0 0,.iface Te (.int .i64 e)]∧M'=[]) ∨
 (∃ c,(Rng c.kind∧Rng c.a∧Rng c.b∧Rng c.by_)∧stepV s p x=([],c,100)∧w=.tuple #[.slice none 0 0,.iface Tc (clV c)]∧M'=[]) ∨
 (∃ q b tl cap,stepV s p x=(q,noC,0)∧(∀ z∈q,Rng z)∧q.length=p.length∧w=.tuple #[.slice (some ⟨b,0,none⟩) q.length cap,.nilIface]∧q.length≤cap∧M'=[.blk b (.cells (intsT q tl) E (0,0))])
theorem s73_L10a {P K:Prop} (k:K) (h:Goal K→P:=by
 intro zk
 (first|refine Walk ?_|refine JC.block ?_|refine JC.drawN 10 rfl [0,1,2,3,4,5] [0,1,2,3,4,5] Tryz_mixed (by decide +kernel) ?_|(refine JO.eff rfl rfl rfl (JEff.callLE rfl (p9_Worse (by exact vta) (by exact vta) (by exact vta)) rfl ?_);intro zqa zqb zqc zqd zqe zqf)|(refine WBox ?_))
 (repeat (first|revert zqg|revert zqf|revert zqe|revert zqd|revert zqc|revert zqb|revert zqa))
 exact zk.k):P:=h ⟨k⟩
theorem p10_step {S:SHeap} {u v xv:Value} {s:Snap} {p:List Int} {x:Step} (hu:rSnap.V S u s) (hv:(rSlice 8 rI64).V S v p) (hx:rStep.V S xv x):Fn Tryz.prog 73 #[u,v,xv] S [] (StepRaw 3 31 41 s p x):=by
 (refine Fn.enter (args:=[u,v,xv]) Tryz.func73 rfl Tryz.ntmps73 rfl ?_;intro w0)
 repeat (refine s73_L10a ?_;intros)
 refine JO.eff rfl rfl rfl (JEff.callM (Mc:=[]) rfl (List.Perm.refl _) (mayAll rfl) (p7_Apply (s:=s) (p:=p) (x:=x) (by exact vta) (by exact vta) (by exact vta)) rfl ?_);intro w S2 M2 hl2 hw
 obtain ⟨aa,ca,rfl,hw⟩:=hw
 by_cases he:(applyP s p x).2=0
 ·obtain ⟨hcq,hql,hp0⟩:=apply_check he
  obtain ⟨hok,hnode⟩:=apply_ok he
  rcases hw with ⟨h1,_,_⟩|⟨b,tl,rfl,hqc,rfl⟩
  ·rw [h1] at hql;simp at hql;omega
  have hW2:(worseV s p (applyP s p x).1).2=0:=by rw [worse_ok hok hcq]
  have he':¬ ¬ (applyP s p x).2=0:=by simpa using he
  obtain ⟨_,_,hp24,_,_,_,hqr⟩:=placed_hyps hcq
  have hql2:(applyP s p x).1.length≤24:=hp24
  dsimp only [List.cons_append,List.nil_append]
  refine JO.blkNew rfl (fun hb0 hbb=>?_)
  refine JO.freeze hbb (by intro l hl;cases hl) (fun S3 hl3 hS3=>?_)
  have hVq:=blk_slice (SHeap.le.refl S3) hS3 rfl hqc (by unfold big;omega) hqr
  by_cases hk:x.kind=2
  ·obtain ⟨h0,h1⟩:=hnode hk
   obtain ⟨nd,hnd,_⟩:=drop_at (l:=s.nodes) (show x.node.toNat < s.nodes.length by omega)
   have hco:cordonAt s x.node=nd.cordon:=by simp [cordonAt,hnd]
   repeat (refine s73_L10a ?_;intros)
   refine JC.cond rfl (fun g0=>?_) (fun g0=>?_)
   ·(exfalso;first|(simp only [decide_eq_true_eq,decide_eq_false_iff_not,Bool.not_eq_true',Bool.not_eq_false',Bool.and_eq_true,Bool.or_eq_true,Bool.and_eq_false_iff,Bool.or_eq_false_iff] at *;omega)|(simp_all;done)|(simp_all;omega))
   repeat (refine s73_L10a ?_;intros)
   refine JO.guard rfl rfl rfl rfl (fun g1=>?_) (fun g1=>?_)
   ·repeat (refine s73_L10a ?_;intros)
    refine JC.cond rfl (fun g2=>?_) (fun g2=>?_)
    ·repeat (refine s73_L10a ?_;intros)
     refine JO.pure rfl rfl rfl (JPure.mkIface rfl rfl ?_)
     repeat (refine s73_L10a ?_;intros)
     refine JX.ret2 Tryz.results73 (ResV.tmp rfl) (ResV.tmp rfl) (List.nil_sublist _) ?_
     exact .inl ⟨100,by decide,by rw [stepV,if_neg he',if_pos ⟨hk,by rw [hco];exact g2⟩],rfl,rfl⟩
    ·have hnc:¬ (x.kind=2∧cordonAt s x.node=true):=by rw [hco,g2];simp
     repeat (refine s73_L10a ?_;intros)
     refine JC.cond rfl (fun g3=>?_) (fun g3=>?_)
     ·exfalso
      simp [hW2] at g3
     repeat (refine s73_L10a ?_;intros)
     refine JC.cond rfl (fun g4=>?_) (fun g4=>?_)
     ·obtain ⟨y,L',hL⟩:∃ y L',(worseV s p (applyP s p x).1).1=y::L':=by
       cases hh:(worseV s p (applyP s p x).1).1 with
       | nil=>rw [hh] at g4;simp at g4
       | cons y L'=>exact ⟨y,L',rfl⟩
      have hy0:(worseV s p (applyP s p x).1).1[(0:Int).toNat]?=some y:=by rw [hL];rfl
      repeat (refine s73_L10a ?_;intros)
      have hvy:=(by assumption:rClause.V _ _ y)
      obtain ⟨hy1,hyr⟩:=V_clause.1 hvy
      refine JO.pure rfl rfl rfl (JPure.mkIface rfl rfl ?_)
      repeat (refine s73_L10a ?_;intros)
      refine JX.ret2 Tryz.results73 (ResV.tmp rfl) (ResV.tmp rfl) (List.nil_sublist _) ?_
      exact .inr (.inl ⟨y,hyr,by rw [stepV,if_neg he',if_neg hnc,hL],by rw [hy1];rfl,rfl⟩)
     ·have hL:(worseV s p (applyP s p x).1).1=[]:=by
       cases hh:(worseV s p (applyP s p x).1).1 with
       | nil=>rfl
       | cons y L'=>rw [hh] at g4;simp at g4
      repeat (refine s73_L10a ?_;intros)
      refine JX.thaw hb0 hbb ((by exact lea:SHeap.le S3 _) _ _ hS3) ?_
      refine JX.ret2 Tryz.results73 (ResV.tmp rfl) (ResV.tmp rfl) (List.Sublist.refl _) ?_
      exact .inr (.inr ⟨(applyP s p x).1,b,tl,ca,by rw [stepV,if_neg he',if_neg hnc,hL],hqr,hql,rfl,hqc,rfl⟩)
   ·(exfalso;first|(simp only [decide_eq_true_eq,decide_eq_false_iff_not,Bool.not_eq_true',Bool.not_eq_false',Bool.and_eq_true,Bool.or_eq_true,Bool.and_eq_false_iff,Bool.or_eq_false_iff] at *;omega)|(simp_all;done)|(simp_all;omega))
  ·have hnc:¬ (x.kind=2∧cordonAt s x.node=true):=fun h=>hk h.1
   repeat (refine s73_L10a ?_;intros)
   refine JC.cond rfl (fun g0=>?_) (fun g0=>?_)
   ·(exfalso;first|(simp only [decide_eq_true_eq,decide_eq_false_iff_not,Bool.not_eq_true',Bool.not_eq_false',Bool.and_eq_true,Bool.or_eq_true,Bool.and_eq_false_iff,Bool.or_eq_false_iff] at *;omega)|(simp_all;done)|(simp_all;omega))
   repeat (refine s73_L10a ?_;intros)
   refine JO.guard rfl rfl rfl rfl (fun g1=>?_) (fun g1=>?_)
   ·(exfalso;first|(simp only [decide_eq_true_eq,decide_eq_false_iff_not,Bool.not_eq_true',Bool.not_eq_false',Bool.and_eq_true,Bool.or_eq_true,Bool.and_eq_false_iff,Bool.or_eq_false_iff] at *;omega)|(simp_all;done)|(simp_all;omega))
   ·repeat (refine s73_L10a ?_;intros)
    refine JC.cond rfl (fun g3=>?_) (fun g3=>?_)
    ·exfalso
     simp [hW2] at g3
    repeat (refine s73_L10a ?_;intros)
    refine JC.cond rfl (fun g4=>?_) (fun g4=>?_)
    ·obtain ⟨y,L',hL⟩:∃ y L',(worseV s p (applyP s p x).1).1=y::L':=by
      cases hh:(worseV s p (applyP s p x).1).1 with
      | nil=>rw [hh] at g4;simp at g4
      | cons y L'=>exact ⟨y,L',rfl⟩
     have hy0:(worseV s p (applyP s p x).1).1[(0:Int).toNat]?=some y:=by rw [hL];rfl
     repeat (refine s73_L10a ?_;intros)
     have hvy:=(by assumption:rClause.V _ _ y)
     obtain ⟨hy1,hyr⟩:=V_clause.1 hvy
     refine JO.pure rfl rfl rfl (JPure.mkIface rfl rfl ?_)
     repeat (refine s73_L10a ?_;intros)
     refine JX.ret2 Tryz.results73 (ResV.tmp rfl) (ResV.tmp rfl) (List.nil_sublist _) ?_
     exact .inr (.inl ⟨y,hyr,by rw [stepV,if_neg he',if_neg hnc,hL],by rw [hy1];rfl,rfl⟩)
    ·have hL:(worseV s p (applyP s p x).1).1=[]:=by
      cases hh:(worseV s p (applyP s p x).1).1 with
      | nil=>rfl
      | cons y L'=>rw [hh] at g4;simp at g4
     repeat (refine s73_L10a ?_;intros)
     refine JX.thaw hb0 hbb ((by exact lea:SHeap.le S3 _) _ _ hS3) ?_
     refine JX.ret2 Tryz.results73 (ResV.tmp rfl) (ResV.tmp rfl) (List.Sublist.refl _) ?_
     exact .inr (.inr ⟨(applyP s p x).1,b,tl,ca,by rw [stepV,if_neg he',if_neg hnc,hL],hqr,hql,rfl,hqc,rfl⟩)
 ·have hst:stepV s p x=([],noC,(applyP s p x).2):=by rw [stepV,if_pos he]
  repeat (refine s73_L10a ?_;intros)
  refine JC.cond rfl (fun g0=>?_) (fun g0=>?_)
  ·repeat (refine s73_L10a ?_;intros)
   refine JO.pure rfl rfl rfl (JPure.mkIface rfl rfl ?_)
   repeat (refine s73_L10a ?_;intros)
   refine JX.ret2 Tryz.results73 (ResV.tmp rfl) (ResV.tmp rfl) (List.nil_sublist _) ?_
   exact .inl ⟨_,he,hst,rfl,rfl⟩
  ·(exfalso;first|(simp only [decide_eq_true_eq,decide_eq_false_iff_not,Bool.not_eq_true',Bool.not_eq_false',Bool.and_eq_true,Bool.or_eq_true,Bool.and_eq_false_iff,Bool.or_eq_false_iff] at *;omega)|(simp_all;done)|(simp_all;omega))
end Go.Dr
namespace Go.Dr
open Go.Proofs
set_option maxRecDepth 20000
set_option maxHeartbeats 2000000
set_option linter.unusedSimpArgs false
set_option linter.unusedVariables false
instance:IfaceT Tryz.prog 119:=⟨by kernel_rfl⟩
def StepAns (E:TypeId) (s:Snap) (p:List Int) (x:Step) (w:Value) (S':SHeap) (M':List MEnt):Prop:=
 (∃ c e,¬ e=0∧(Rng c.kind∧Rng c.a∧Rng c.b∧Rng c.by_)∧stepV s p x=([],c,e)∧w=.tuple #[.slice none 0 0,clV c,.int .i64 e]∧M'=[]) ∨
 (∃ q b tl cap,stepV s p x=(q,noC,0)∧(∀ z∈q,Rng z)∧q.length=p.length∧w=.tuple #[.slice (some ⟨b,0,none⟩) q.length cap,clV noC,.int .i64 0]∧q.length≤cap∧M'=[.blk b (.cells (intsT q tl) E (0,0))])
theorem s22_L10b {P K:Prop} (k:K) (h:Goal K→P:=by
 intro zk
 (first|refine Walk ?_|refine JC.block ?_|refine JC.drawN 6 rfl [0,1,2,3] [0,1,3] Tryz_mixed (by decide +kernel) ?_|refine JC.drawN 7 rfl [0,1,2,3,4,5] [0,3,5] Tryz_mixed (by decide +kernel) ?_|(refine WBox ?_))
 (repeat (first|revert zqg|revert zqf|revert zqe|revert zqd|revert zqc|revert zqb|revert zqa))
 exact zk.k):P:=h ⟨k⟩
theorem p10_Step {S:SHeap} {u v xv:Value} {s:Snap} {p:List Int} {x:Step} (hu:rSnap.V S u s) (hv:(rSlice 8 rI64).V S v p) (hx:rStep.V S xv x):Fn Tryz.prog 22 #[u,v,xv] S [] (StepAns 3 s p x):=by
 (refine Fn.enter (args:=[u,v,xv]) Tryz.func22 rfl Tryz.ntmps22 rfl ?_;intro w0)
 repeat (refine s22_L10b ?_;intros)
 (refine JO.eff rfl rfl rfl (JEff.alloc rfl ?_);intro b7 hb7)
 repeat (refine s22_L10b ?_;intros)
 refine JO.eff rfl rfl rfl (JEff.callM (Mc:=[]) rfl (List.Perm.refl _) (mayAll rfl) (p10_step (s:=s) (p:=p) (x:=x) (by exact vta) (by exact vta) (by exact vta)) rfl ?_);intro w S2 M2 hl2 hw
 rcases hw with ⟨e,he,hst,rfl,rfl⟩|⟨c,hcr,hst,rfl,rfl⟩|⟨q,b,tl,cap,hst,hqr,hql,rfl,hqc,rfl⟩
 ·dsimp only [List.nil_append]
  have hN0:rClause.V S2 (.agg #[.int .i64 0,.int .i64 0,.int .i64 0,.int .i64 0]) noC:=V_clV noC_rng
  have hN:=V_noC (S:=S2)
  repeat (first|(refine Walk ?_;intros)|refine JC.block ?_|refine JC.drawN 6 rfl [0,1,2,3] [0,1,3] Tryz_mixed (by decide +kernel) ?_|refine JC.drawN 7 rfl [0,1,2,3,4,5] [0,3,5] Tryz_mixed (by decide +kernel) ?_|refine JO.pure rfl rfl rfl (JPure.eqNilF rfl rfl ?_)|refine JO.pure rfl rfl rfl (JPure.assertF rfl rfl rfl ?_)|(refine WBox ?_;intros))
  (refine JO.eff rfl rfl rfl (JEff.alloc rfl ?_);intro b10 hb10)
  refine JO.eff rfl rfl rfl (JEff.storeW rfl rfl hN0 nna (List.Perm.refl _) rfl (by intro l hl;cases hl) ?_)
  refine JO.freezeV hN0 nna hb10 (by intro l hl;cases hl) ?_;intro S3 hl3 hp10
  repeat (first|(refine Walk ?_;intros)|refine JC.block ?_|refine JC.drawN 6 rfl [0,1,2,3] [0,1,3] Tryz_mixed (by decide +kernel) ?_|refine JC.drawN 7 rfl [0,1,2,3,4,5] [0,3,5] Tryz_mixed (by decide +kernel) ?_|refine JO.pure rfl rfl rfl (JPure.assertT rfl rfl ?_)|(refine WBox ?_;intros))
  have hN2:=V_noC (S:=S3)
  (refine JO.eff rfl rfl rfl (JEff.storeW rfl rfl (by exact vta) nna pma rfl (by intro l hl;cases hl) ?_))
  repeat (refine s22_L10b ?_;intros)
  refine JX.ret3 Tryz.results22 (ResV.tmp rfl) (ResV.clause (S1:=S3) rfl (by (first|exact List.mem_cons_self|exact List.mem_cons_of_mem _ List.mem_cons_self|exact List.mem_cons_of_mem _ (List.mem_cons_of_mem _ List.mem_cons_self))) V_noC) (ResV.tmp rfl) (List.nil_sublist _) ?_
  exact .inl ⟨noC,e,he,noC_rng,hst,rfl,rfl⟩
 ·dsimp only [List.nil_append]
  have hN:=V_clV (S:=S2) hcr
  repeat (first|(refine Walk ?_;intros)|refine JC.block ?_|refine JC.drawN 6 rfl [0,1,2,3] [0,1,3] Tryz_mixed (by decide +kernel) ?_|refine JC.drawN 7 rfl [0,1,2,3,4,5] [0,3,5] Tryz_mixed (by decide +kernel) ?_|refine JO.pure rfl rfl rfl (JPure.eqNilF rfl rfl ?_)|refine JO.pure rfl rfl rfl (JPure.assertT rfl rfl ?_)|(refine WBox ?_;intros))
  (refine JO.eff rfl rfl rfl (JEff.alloc rfl ?_);intro b10 hb10)
  refine JO.eff rfl rfl rfl (JEff.storeW rfl rfl hN nna (List.Perm.refl _) rfl (by intro l hl;cases hl) ?_)
  refine JO.freezeV hN nna hb10 (by intro l hl;cases hl) ?_;intro S3 hl3 hp10
  repeat (refine s22_L10b ?_;intros)
  have hvy:=(by assumption:rClause.V _ _ c)
  (refine JO.eff rfl rfl rfl (JEff.storeW rfl rfl (by exact vta) nna pma rfl (by intro l hl;cases hl) ?_))
  repeat (refine s22_L10b ?_;intros)
  refine JX.ret3 Tryz.results22 (ResV.tmp rfl) (ResV.clause rfl (by (first|exact List.mem_cons_self|exact List.mem_cons_of_mem _ List.mem_cons_self|exact List.mem_cons_of_mem _ (List.mem_cons_of_mem _ List.mem_cons_self))) hvy) (ResV.tmp rfl) (List.nil_sublist _) ?_
  exact .inl ⟨c,100,by decide,hcr,hst,rfl,rfl⟩
 ·dsimp only [List.cons_append,List.nil_append]
  have hN:=V_noC (S:=S2)
  repeat (first|(refine Walk ?_;intros)|refine JC.block ?_|refine JC.drawN 6 rfl [0,1,2,3] [0,1,3] Tryz_mixed (by decide +kernel) ?_|refine JC.drawN 7 rfl [0,1,2,3,4,5] [0,3,5] Tryz_mixed (by decide +kernel) ?_|refine JO.pure rfl rfl rfl (JPure.eqNilT rfl rfl ?_)|(refine WBox ?_;intros))
  refine JO.eff rfl rfl rfl (JEff.storeW rfl rfl hN nna (List.Perm.swap _ _ _) rfl (by intro l hl;cases hl) ?_)
  repeat (refine s22_L10b ?_;intros)
  refine JX.ret3 Tryz.results22 (ResV.tmp rfl) (ResV.clause (S1:=S2) rfl (by (first|exact List.mem_cons_self|exact List.mem_cons_of_mem _ List.mem_cons_self|exact List.mem_cons_of_mem _ (List.mem_cons_of_mem _ List.mem_cons_self))) V_noC) (ResV.tmp rfl) (List.sublist_cons_self _ _) ?_
  exact .inr ⟨q,b,tl,cap,hst,hqr,hql,rfl,hqc,rfl⟩
theorem p10_May {S:SHeap} {u v xv:Value} {s:Snap} {p:List Int} {x:Step} (hu:rSnap.V S u s) (hv:(rSlice 8 rI64).V S v p) (hx:rStep.V S xv x):FnV Tryz.prog 72 #[u,v,xv] S (.bool (mayV s p x)):=by
 (refine Fn.enter (args:=[u,v,xv]) Tryz.func72 rfl Tryz.ntmps72 rfl ?_;intro w0)
 repeat (first|(refine Walk ?_;intros)|refine JC.block ?_|(refine WBox ?_;intros))
 refine JO.eff rfl rfl rfl (JEff.callM (Mc:=[]) rfl (List.Perm.refl _) (mayAll rfl) (p10_step (s:=s) (p:=p) (x:=x) (by exact vta) (by exact vta) (by exact vta)) rfl ?_);intro w S2 M2 hl2 hw
 rcases hw with ⟨e,he,hst,rfl,rfl⟩|⟨c,hcr,hst,rfl,rfl⟩|⟨q,b,tl,cap,hst,hqr,hql,rfl,hqc,rfl⟩
 all_goals unfold mayV;rw [hst]
 ·repeat (first|(refine Walk ?_;intros)|refine JC.block ?_|refine JO.pure rfl rfl rfl (JPure.eqNilF rfl rfl ?_)|(refine WBox ?_;intros))
  (refine JX.ret1 Tryz.results72 (ResV.tmp rfl) (List.nil_sublist _) ?_)
  exact ⟨rfl,by simp [he]⟩
 ·repeat (first|(refine Walk ?_;intros)|refine JC.block ?_|refine JO.pure rfl rfl rfl (JPure.eqNilF rfl rfl ?_)|(refine WBox ?_;intros))
  (refine JX.ret1 Tryz.results72 (ResV.tmp rfl) (List.nil_sublist _) ?_)
  exact ⟨rfl,by simp⟩
 ·repeat (first|(refine Walk ?_;intros)|refine JC.block ?_|refine JO.pure rfl rfl rfl (JPure.eqNilT rfl rfl ?_)|(refine WBox ?_;intros))
  (refine JX.ret1 Tryz.results72 (ResV.tmp rfl) (List.nil_sublist _) ?_)
  exact ⟨rfl,by simp⟩
end Go.Dr
namespace Go.Dr
open Go.Proofs
set_option maxRecDepth 20000
set_option maxHeartbeats 2000000
set_option linter.unusedSimpArgs false
set_option linter.unusedVariables false
theorem s21_L10c {P K:Prop} (k:K) (h:Goal K→P:=by
 intro zk
 (first|refine Walk ?_|refine JC.block ?_|(refine JO.eff rfl rfl rfl (JEff.callV rfl (p10_May (by exact vta) (by exact vta) (by exact vta)) rfl ?_);intro zqa zqb)|(refine WBox ?_))
 (repeat (first|revert zqg|revert zqf|revert zqe|revert zqd|revert zqc|revert zqb|revert zqa))
 exact zk.k):P:=h ⟨k⟩
theorem p10_Ways {S:SHeap} {u v:Value} {s:Snap} {p:List Int} (pod:Int) (hu:rSnap.V S u s) (hv:(rSlice 8 rI64).V S v p) (hn:s.nodes.length≤1000) (hpr:Rng pod):FnL Tryz.prog 21 #[u,v,.int .i64 pod] S 8 rI64 (waysV s p pod):=by
 (refine Fn.enter (args:=[u,v,.int .i64 pod]) Tryz.func21 rfl Tryz.ntmps21 rfl ?_;intro w0)
 repeat (refine s21_L10c ?_;intros)
 (first|refine JC.newRow 3 1 ?_|refine JO.newRow 3 1 ?_|refine JX.newRow 3 1 ?_)
 refine JC.loopF (σ:=Nat × Option Addr × Nat × List Value) [(1,_),(2,_),(3,_),(10,_)] (fun q=>[(6,.slice q.2.1 ((fun k=>waysK s p pod k) q.1).length q.2.2.1),(11,((fun k=>.int .i64 k) q.1))]) (fun q=>[.row w0.heap.size 3 (Rp.sz rI64) (.slice q.2.1 ((fun k=>waysK s p pod k) q.1).length q.2.2.1) ((fun k=>waysK s p pod k) q.1).length (flatCells q.2.2.2)]) (fun Sk q=>q.1≤s.nodes.length∧allV rI64 Sk q.2.2.2 ((fun k=>waysK s p pod k) q.1)∧((fun k=>True) q.1)) (fun q=>s.nodes.length - q.1) (0,none,0,[]) (by exact sba) (by exact sba) (by first|rfl|simp) (⟨Nat.zero_le _,trivial,trivial⟩) ?_;rintro Sk ⟨k,rak,rck,vsk⟩ hlk ⟨hk,hvk,hik⟩;(try dsimp only at hk hvk hik);dsimp only [List.cons_append,List.nil_append]
 have hfl:=waysK_len s p pod k
 repeat (refine s21_L10c ?_;intros)
 refine JC.cond rfl (fun hc=>?_) (fun hc=>?_)
 ·have hk':=dlt hc
  have hst:=waysK_step s p pod k
  have hxv:rStep.V Sk (.agg (flatCells [.int .i64 2,.int .i64 pod,.int .i64 k]).toArray) ⟨2,pod,k⟩:=V_step.2 ⟨by simp [flatCells,Value.cells],by simp [Rng],hpr,by unfold Rng;dsimp only;omega⟩
  repeat (refine s21_L10c ?_;intros)
  refine JC.cond rfl (fun hf=>?_) (fun hf=>?_)
  ·rw [hf,if_pos rfl] at hst
   repeat (refine s21_L10c ?_;intros)
   (refine JO.eff rfl rfl rfl (JEff.build (rep:=rI64) (ys:=[(k:Int)]) rfl rfl ⟨⟨(V_i64.2 ⟨rfl,by unfold Rng;omega⟩),nna⟩,trivial⟩ rfl rfl rfl rfl ?_);intro bb hbb hvv);(repeat (first|(refine Walk ?_;intros)|refine JC.block ?_));(refine JO.eff rfl rfl rfl (JEff.appendL (rep:=rI64) rfl rfl rfl rfl (List.Perm.swap _ _ _) (by exact hvv.flat) (by intro c hc;exact flat_one (fun v hv=>(hvv.size v hv).2) c hc) (by first|omega|(unfold big;omega)) (by unfold big;omega) (by first|exact rowT_ok|(intro l hl;cases hl)) rfl ?_);intro a2 c2;clear hvv hbb)
   repeat (refine s21_L10c ?_;intros)
   exact JX.roundF (k+1,a2,c2,vsk++[(.int .i64 k)]) (by exact lea) ⟨by omega,by (try dsimp only);rw [hst];exact allV_add (by exact lea) hvk (V_i64.2 ⟨rfl,by unfold Rng;omega⟩) nna,(trivial)⟩ (by (try dsimp only);omega) (by (try dsimp only);rw [hst];(simp [flat_append]<;>omega)) (by (try dsimp only);rw [hst];simp only [List.length_append,List.length_cons,List.length_nil];exact sba) (by exact sba)
  ·rw [hf,if_neg (by simp),List.append_nil] at hst
   repeat (refine s21_L10c ?_;intros)
   exact JX.roundF (k+1,rak,rck,vsk) (by exact lea) ⟨by omega,by (try dsimp only);rw [hst];exact hvk.mono (by exact lea),(trivial)⟩ (by (try dsimp only);omega) (by (try dsimp only);rw [hst]) (by (try dsimp only);rw [hst];exact sba) (by exact sba)
 ·have hk':=dnlt hc
  obtain rfl:k=s.nodes.length:=by omega
  repeat (refine s21_L10c ?_;intros)
  refine JX.freezeRow (rep:=rI64) (bt:=8) hvk rfl (by unfold big;omega) (by unfold big;omega) (fun S9 hl9 hV9=>?_)
  (refine JX.ret1 Tryz.results21 (ResV.tmp rfl) (List.nil_sublist _) ?_)
  exact ⟨rfl,hV9⟩
def OwnNow (E:TypeId) (S0:SHeap) (n0:Nat) (S:SHeap) (a:Option Addr) (c:Nat) (Q:List Int):Prop:=
 Q=[]∨∃ b tl,a=some ⟨b,0,none⟩∧Q.length≤c∧S0 b=none∧n0≤b∧S b=some (.cells (intsT Q tl) E (0,0))
def RunAns (E:TypeId) (xs:List Int) (n e:Int) (w:Value) (S':SHeap) (M':List MEnt):Prop:=
 ∃ a c,w=.tuple #[.slice a xs.length c,.int .i64 n,.int .i64 e]∧(xs.length≤c∧xs.length*8≤big∧∀ z∈xs,Rng z)∧((xs=[]∧M'=[])∨∃ b tl,a=some ⟨b,0,none⟩∧M'=[.blk b (.cells (intsT xs tl) E (0,0))])
theorem cap_of {S:SHeap} {a:Option Addr} {n c:Nat} {xs:List Int} (h:(rSlice 8 rI64).V S (.slice a n c) xs):n=xs.length∧xs.length≤c∧xs.length*8≤big∧∀ z∈xs,Rng z:=by
 have hr:∀ z∈xs,Rng z:=fun z hz=>by
  obtain ⟨q,cs,h,_⟩:=slice_at h z hz
  exact h.2
 obtain ⟨a',c',h1,h2,h3,_⟩:=V_slice.1 h
 cases h1
 exact ⟨rfl,h2,h3,hr⟩
theorem s54_L10c {P K:Prop} (k:K) (h:Goal K→P:=by
 intro zk
 (first|refine Walk ?_|refine JC.block ?_|(refine JO.eff rfl rfl rfl (JEff.callV rfl (p7_Check (by exact vta) (by exact vta)) rfl ?_);intro zqa zqb)|(refine JO.eff rfl rfl rfl (JEff.callRow rfl (p_Clone_int (by exact vta)) rfl ?_);intro zqa zqb zqc zqd zqe zqf)|(refine WBox ?_)|(refine WNew ?_)|(refine WPut ?_))
 (repeat (first|revert zqg|revert zqf|revert zqe|revert zqd|revert zqc|revert zqb|revert zqa))
 exact zk.k):P:=h ⟨k⟩
theorem p10_Run {S:SHeap} {u v lv:Value} {s:Snap} {p:List Int} {l:List Step} (hu:rSnap.V S u s) (hv:(rSlice 8 rI64).V S v p) (hl:(rSlice 24 rStep).V S lv l) :
  Fn Tryz.prog 54 #[u,v,lv] S [] (RunAns 3 (runV s p l).1 (runV s p l).2.1 (runV s p l).2.2):=by
 have hv0:=hv
 obtain ⟨a,c,rfl,_,hb8,hb,hpr⟩:=V_slice.1 hv
 obtain ⟨a1,c1,rfl,_,_,hb1,_⟩:=V_slice.1 hl
 unfold big at hb8 hb hb1
 (refine Fn.enter (args:=[u,.slice a p.length c,.slice a1 l.length c1]) Tryz.func54 rfl Tryz.ntmps54 rfl ?_;intro w0)
 repeat (refine s54_L10c ?_;intros)
 refine JC.cond rfl (fun he=>?_) (fun he=>?_)
 ·have he:¬ checkP s p=0:=by simpa using he
  repeat (refine s54_L10c ?_;intros)
  refine JX.ret3 Tryz.results54 (ResV.tmp rfl) (ResV.tmp rfl) (ResV.tmp rfl) (List.nil_sublist _) ?_
  rw [runV,if_pos he]
  exact ⟨_,_,rfl,⟨Nat.le_refl _,by simp,by simp⟩,.inl ⟨rfl,rfl⟩⟩
 have he:¬ ¬ checkP s p=0:=by simpa using he
 rw [runV,if_neg he]
 have hok:checkP s p=0:=Classical.not_not.1 he
 obtain ⟨_,_,_,_,_,_,hqr⟩:=placed_hyps hok
 repeat (refine s54_L10c ?_;intros)
 rename_i a2 c2 S3 us hl3 hus
 by_cases hp0:p=[]
 ·refine JC.freezeRow (rep:=rI64) (bt:=8) (xs:=p) hus rfl (by unfold big;omega) (by unfold big;omega) (fun S9 hl9 hV9=>?_)
  have hOwn:OwnNow 3 S w0.heap.size S9 a2 c2 p:=.inl hp0
  repeat (refine s54_L10c ?_;intros)
  refine JC.loopF0 (σ:=Nat × Option Addr × Nat × List Int) [(2,_),(3,_),(23,_),(24,_)] (fun q=>[(6,.slice q.2.1 q.2.2.2.length q.2.2.1),(25,.int .i64 q.1)]) (fun Si q=>q.1≤l.length∧(rSlice 8 rI64).V Si (.slice q.2.1 q.2.2.2.length q.2.2.1) q.2.2.2∧OwnNow 3 S w0.heap.size Si q.2.1 q.2.2.1 q.2.2.2∧runGo s q.2.2.2 q.1 (l.drop q.1)=runGo s p 0 l) (fun q=>l.length - q.1) ((0,a2,c2,p)) (by exact sba) (by exact sba) (⟨Nat.zero_le _,hV9,hOwn,rfl⟩) ?_;rintro Si ⟨i,ra,rc,Q⟩ hli hii;(try dsimp only at hii);dsimp only [List.cons_append,List.nil_append]
  obtain ⟨hi,hV,hO,hgo⟩:=hii
  try dsimp only at hi hV hO hgo
  repeat (refine s54_L10c ?_;intros)
  refine JC.cond rfl (fun hc=>?_) (fun hc=>?_)
  ·have hi':=dlt hc
   obtain ⟨x,hx,hd⟩:=drop_at hi'
   rw [hd,runGo] at hgo
   repeat (refine s54_L10c ?_;intros)
   refine JO.eff rfl rfl rfl (JEff.callM (Mc:=[]) rfl (List.Perm.refl _) (mayAll rfl) (p10_Step (s:=s) (p:=Q) (x:=x) (by exact vta) (by exact vta) (by exact vta)) rfl ?_);intro w S2 M2 hl2 hw
   rcases hw with ⟨cc,e,he2,hcr,hst,rfl,rfl⟩|⟨q,b,tl,cap,hst,hqr2,hql,rfl,hqc,rfl⟩
   ·dsimp only [List.nil_append]
    have hVc:=V_clV (S:=S2) hcr
    rw [hst,if_pos he2] at hgo
    repeat (refine s54_L10c ?_;intros)
    refine JC.cond rfl (fun hf=>?_) (fun hf=>?_)
    ·repeat (refine s54_L10c ?_;intros)
     refine JX.ret3 Tryz.results54 (ResV.tmp rfl) (ResV.tmp rfl) (ResV.tmp rfl) (List.nil_sublist _) ?_
     rw [← hgo]
     exact ⟨_,_,rfl,⟨Nat.le_refl _,by simp,by simp⟩,.inl ⟨rfl,rfl⟩⟩
    ·exact absurd (by simpa using hf) he2
   ·dsimp only [List.cons_append,List.nil_append]
    rw [hst,if_neg (by simp)] at hgo
    have hVc:=V_clV (S:=S2) noC_rng
    refine JO.blkNew rfl (fun hb0 hbb=>?_)
    refine JO.freeze hbb (by intro l hl;cases hl) (fun S4 hl4 hS4=>?_)
    obtain ⟨_,_,_,_,hQ8,_⟩:=V_slice.1 hV
    have hVq:=blk_slice (SHeap.le.refl S4) hS4 rfl hqc (by rw [hql];exact hQ8) hqr2
    repeat (refine s54_L10c ?_;intros)
    exact JX.roundF ((i+1,some ⟨b,0,none⟩,cap,q)) (by exact lea) (⟨by omega,hVq.mono (by exact lea),.inr ⟨b,tl,rfl,hqc,hb0,hbb,(by exact lea:SHeap.le S4 _) _ _ hS4⟩,by rw [← hgo];rfl⟩) (by (try dsimp only);omega) rfl (by exact sba) (by exact sba)
  ·have hi':=dnlt hc
   rw [List.drop_eq_nil_of_le hi',runGo] at hgo
   obtain rfl:i=l.length:=by omega
   repeat (refine s54_L10c ?_;intros)
   rw [← hgo]
   rcases hO with h|⟨b,tl,rfl,hqc,hb0,hbb,hSb⟩
   ·refine JX.ret3 Tryz.results54 (ResV.tmp rfl) (ResV.tmp rfl) (ResV.tmp rfl) (List.Sublist.refl _) ?_
    exact ⟨_,_,rfl,(cap_of hV).2,.inl ⟨h,rfl⟩⟩
   ·refine JX.thaw hb0 hbb hSb ?_
    refine JX.ret3 Tryz.results54 (ResV.tmp rfl) (ResV.tmp rfl) (ResV.tmp rfl) (List.Sublist.refl _) ?_
    exact ⟨_,_,rfl,(cap_of hV).2,.inr ⟨b,tl,rfl,rfl⟩⟩
 ·have hp1:0 < p.length:=List.length_pos_iff.2 hp0
  rw [flat_int hus]
  refine JC.rowBlk hp1 (fun b tl hab hbb hnc=>?_)
  subst hab
  refine JC.blkNew rfl (fun hb0 hbb=>?_)
  refine JC.freeze hbb (fun S9 hl9 hS9=>?_)
  have hV9:=blk_slice (SHeap.le.refl S9) hS9 rfl hnc (by unfold big;omega) hqr
  generalize ha2:(some (⟨b,0,none⟩:Addr))=a2 at *
  have hOwn:OwnNow 3 S w0.heap.size S9 a2 c2 p:=.inr ⟨b,tl,ha2.symm,hnc,hb0,hbb,hS9⟩
  repeat (refine s54_L10c ?_;intros)
  refine JC.loopF0 (σ:=Nat × Option Addr × Nat × List Int) [(2,_),(3,_),(23,_),(24,_)] (fun q=>[(6,.slice q.2.1 q.2.2.2.length q.2.2.1),(25,.int .i64 q.1)]) (fun Si q=>q.1≤l.length∧(rSlice 8 rI64).V Si (.slice q.2.1 q.2.2.2.length q.2.2.1) q.2.2.2∧OwnNow 3 S w0.heap.size Si q.2.1 q.2.2.1 q.2.2.2∧runGo s q.2.2.2 q.1 (l.drop q.1)=runGo s p 0 l) (fun q=>l.length - q.1) ((0,a2,c2,p)) (by exact sba) (by exact sba) (⟨Nat.zero_le _,hV9,hOwn,rfl⟩) ?_;rintro Si ⟨i,ra,rc,Q⟩ hli hii;(try dsimp only at hii);dsimp only [List.cons_append,List.nil_append]
  obtain ⟨hi,hV,hO,hgo⟩:=hii
  try dsimp only at hi hV hO hgo
  repeat (refine s54_L10c ?_;intros)
  refine JC.cond rfl (fun hc=>?_) (fun hc=>?_)
  ·have hi':=dlt hc
   obtain ⟨x,hx,hd⟩:=drop_at hi'
   rw [hd,runGo] at hgo
   repeat (refine s54_L10c ?_;intros)
   refine JO.eff rfl rfl rfl (JEff.callM (Mc:=[]) rfl (List.Perm.refl _) (mayAll rfl) (p10_Step (s:=s) (p:=Q) (x:=x) (by exact vta) (by exact vta) (by exact vta)) rfl ?_);intro w S2 M2 hl2 hw
   rcases hw with ⟨cc,e,he2,hcr,hst,rfl,rfl⟩|⟨q,b,tl,cap,hst,hqr2,hql,rfl,hqc,rfl⟩
   ·dsimp only [List.nil_append]
    have hVc:=V_clV (S:=S2) hcr
    rw [hst,if_pos he2] at hgo
    repeat (refine s54_L10c ?_;intros)
    refine JC.cond rfl (fun hf=>?_) (fun hf=>?_)
    ·repeat (refine s54_L10c ?_;intros)
     refine JX.ret3 Tryz.results54 (ResV.tmp rfl) (ResV.tmp rfl) (ResV.tmp rfl) (List.nil_sublist _) ?_
     rw [← hgo]
     exact ⟨_,_,rfl,⟨Nat.le_refl _,by simp,by simp⟩,.inl ⟨rfl,rfl⟩⟩
    ·exact absurd (by simpa using hf) he2
   ·dsimp only [List.cons_append,List.nil_append]
    rw [hst,if_neg (by simp)] at hgo
    have hVc:=V_clV (S:=S2) noC_rng
    refine JO.blkNew rfl (fun hb0 hbb=>?_)
    refine JO.freeze hbb (by intro l hl;cases hl) (fun S4 hl4 hS4=>?_)
    obtain ⟨_,_,_,_,hQ8,_⟩:=V_slice.1 hV
    have hVq:=blk_slice (SHeap.le.refl S4) hS4 rfl hqc (by rw [hql];exact hQ8) hqr2
    repeat (refine s54_L10c ?_;intros)
    exact JX.roundF ((i+1,some ⟨b,0,none⟩,cap,q)) (by exact lea) (⟨by omega,hVq.mono (by exact lea),.inr ⟨b,tl,rfl,hqc,hb0,hbb,(by exact lea:SHeap.le S4 _) _ _ hS4⟩,by rw [← hgo];rfl⟩) (by (try dsimp only);omega) rfl (by exact sba) (by exact sba)
  ·have hi':=dnlt hc
   rw [List.drop_eq_nil_of_le hi',runGo] at hgo
   obtain rfl:i=l.length:=by omega
   repeat (refine s54_L10c ?_;intros)
   rw [← hgo]
   rcases hO with h|⟨b,tl,rfl,hqc,hb0,hbb,hSb⟩
   ·refine JX.ret3 Tryz.results54 (ResV.tmp rfl) (ResV.tmp rfl) (ResV.tmp rfl) (List.Sublist.refl _) ?_
    exact ⟨_,_,rfl,(cap_of hV).2,.inl ⟨h,rfl⟩⟩
   ·refine JX.thaw hb0 hbb hSb ?_
    refine JX.ret3 Tryz.results54 (ResV.tmp rfl) (ResV.tmp rfl) (ResV.tmp rfl) (List.Sublist.refl _) ?_
    exact ⟨_,_,rfl,(cap_of hV).2,.inr ⟨b,tl,rfl,rfl⟩⟩
end Go.Dr
namespace Go.Dr
def cutS (s:Snap):Snap:=⟨s.nodes.take 12,s.pods.take 30,s.owners.take 12⟩
def noNear:Near:=⟨⟨#[]⟩,[]⟩
end Go.Dr
namespace Go.Dr
open Go.Proofs
set_option maxRecDepth 20000
set_option maxHeartbeats 2000000
set_option linter.unusedSimpArgs false
set_option linter.unusedVariables false
theorem cut_len {α:Type} (l:List α) (n:Nat):(l.drop (0:Int).toNat).take (min (l.length:Int) (n:Int) - 0).toNat=l.take n:=by
 have e:(min (l.length:Int) (n:Int) - 0).toNat=min l.length n:=by omega
 rw [e,show (0:Int).toNat=0 from rfl,List.drop_zero]
 rcases Nat.le_total l.length n with h|h
 ·rw [Nat.min_eq_left h,List.take_length,List.take_of_length_le h]
 ·rw [Nat.min_eq_right h]
end Go.Dr
namespace Go.Dr
section
variable {C:Cx} {R:Rg} {Q:Post} {S S':SHeap} {M M':List MEnt} {e:Env} {rest:List Nat}
variable {d:Nat} {ty:TypeId} {pos:String} {aft:Array Edge} {g:Option (Nat × Bool)} {an:Bool}
theorem JPure.sliceT {T:TypeId} {x lo hi:Operand} {s:ByteArray} {kl kh:IntKind} {l h:Int} (hx:ev e x=some (.string s)) (hlo:ev e lo=some (.int kl l)) (hhi:ev e hi=some (.int kh h)) [hu:Und C.P T .string] (hdN:Nat.blt d C.N=true)
  (h0:0≤l) (h1:l≤h) (h2:h≤s.size) (k:JO C R rest Q S M ((d,.string (s.extract l.toNat h.toNat))::e)):JPure C R an ⟨some d,.slice T x (some lo) (some hi) none,ty,pos,aft,g⟩ rest Q S M e:=by
 refine JPure.of rfl hdN (fun act w' hh=>?_) k
 have bl:(Instr.sliceBound (.int kl l) h.toNat .sliceB).run C.P w'=.ok l.toNat w':=run_sliceBound (P:=C.P) w' kl l h.toNat _ h0 (by omega)
 have bh:(Instr.sliceBound (.int kh h) s.size .sliceAlen).run C.P w'=.ok h.toNat w':=run_sliceBound (P:=C.P) w' kh h s.size _ (by omega) h2
 have hm:(Instr.slice T (.string s) (some (.int kl l)) (some (.int kh h)) none).run C.P w'=.ok (.string (s.extract l.toNat h.toNat)) w':=by
  simp [Instr.slice,run_underlying hu.h,Instr.sliceBounds,bl,bh]
 have hs:(Instr.sliceAt T (.string s) (some (.int kl l)) (some (.int kh h)) none).run C.P w'=(Instr.slice T (.string s) (some (.int kl l)) (some (.int kh h)) none).run C.P w':=by
  simp [Instr.sliceAt,run_underlying hu.h]
 simp only [execOp,hh.eval hx,Option.map_some,Option.map_none,hh.eval hlo,hh.eval hhi,Sem.run_bind,hs,hm,Result.andThen_ok,Sem.run_pure]
end
end Go.Dr
namespace Go.Dr
open Go.Proofs
set_option maxRecDepth 20000
set_option maxHeartbeats 2000000
set_option linter.unusedSimpArgs false
set_option linter.unusedVariables false
theorem R_vec {S:SHeap} {a b c d e:Int} (h:∀ x∈[a,b,c,d,e],Rng x):(rArr 5).R S [.int .i64 a,.int .i64 b,.int .i64 c,.int .i64 d,.int .i64 e] [a,b,c,d,e]:=⟨rfl,rfl,h⟩
theorem sz1 (n:UInt8):(⟨#[n]⟩:ByteArray).size≤big:=by show 1≤big;decide
theorem sz0:(⟨#[]⟩:ByteArray).size≤big:=by decide
end Go.Dr
namespace Go.Dr
open Go.Proofs
set_option maxRecDepth 20000
set_option maxHeartbeats 2000000
set_option linter.unusedSimpArgs false
set_option linter.unusedVariables false
theorem V_cl {S:SHeap} {a b c d:Int} (h:Rng a∧Rng b∧Rng c∧Rng d:=by simp [Rng]):rClause.V S (.agg (flatCells [.int .i64 a,.int .i64 b,.int .i64 c,.int .i64 d]).toArray) ⟨a,b,c,d⟩:=V_clause.2 ⟨by simp [flatCells,Value.cells],h⟩
theorem V_num {S:SHeap} {a:Int} (h:Rng a:=by simp [Rng]):rI64.V S (.int .i64 a) a:=V_i64.2 ⟨rfl,h⟩
end Go.Dr
namespace Go.Dr
open Go.Proofs
set_option maxRecDepth 20000
set_option maxHeartbeats 2000000
set_option linter.unusedSimpArgs false
set_option linter.unusedVariables false
theorem w_EqInts {S:SHeap} {u v:Value} {xs:List Int} (hu:(rSlice 8 rI64).V S u xs) (hv:(rSlice 8 rI64).V S v xs):FnV Tryz.prog 23 #[u,v] S (.bool true):=by
 have h:=r0_EqInts hu hv
 rw [decide_eq_true rfl] at h;exact h
end Go.Dr
namespace Go.Dr
open Go.Proofs
set_option maxRecDepth 20000
set_option maxHeartbeats 2000000
set_option linter.unusedSimpArgs false
set_option linter.unusedVariables false
def stV (x:Step):Value:=.agg #[.int .i64 x.kind,.int .i64 x.pod,.int .i64 x.node]
theorem V_stV {S:SHeap} {x:Step} (h:Rng x.kind∧Rng x.pod∧Rng x.node):rStep.V S (stV x) x:=V_step.2 ⟨rfl,h⟩
end Go.Dr
namespace Go.Dr
open Go.Proofs
set_option maxRecDepth 20000
set_option maxHeartbeats 2000000
set_option linter.unusedSimpArgs false
set_option linter.unusedVariables false
theorem p10_StepS {S:SHeap} {u v xv:Value} {s:Snap} {p:List Int} {x:Step} (hu:rSnap.V S u s) (hv:(rSlice 8 rI64).V S v p) (hx:rStep.V S xv x):FnSt Tryz.prog 22 #[u,v,xv] S (stepV s p x).1 (stepV s p x).2.1 (.int .i64 (stepV s p x).2.2):=by
 obtain ⟨_,_,_,_,hQ8,_⟩:=V_slice.1 hv
 refine Fn.frozen (p10_Step hu hv hx) fun w S' M' hw=>?_
 rcases hw with ⟨c,e,he,hcr,hst,rfl,rfl⟩|⟨q,b,tl,cap,hst,hqr,hql,rfl,hqc,rfl⟩
 ·rw [hst]
  exact .inl ⟨rfl,_,rfl,V_nil,V_clV hcr⟩
 ·rw [hst]
  exact .inr ⟨b,_,rfl,fun S'' hl hS=>⟨_,rfl,blk_slice hl hS rfl hqc (by rw [hql];exact hQ8) hqr,V_clV noC_rng⟩⟩
theorem w10_Step {S:SHeap} {u v xv:Value} {s:Snap} {p q:List Int} {c:Clause} {e:Int} {x:Step} (h:stepV s p x=(q,c,e)) (hu:rSnap.V S u s) (hv:(rSlice 8 rI64).V S v p) (hx:rStep.V S xv x):FnSt Tryz.prog 22 #[u,v,xv] S q c (.int .i64 e):=by
 have hh:=p10_StepS hu hv hx
 rw [h] at hh;exact hh
theorem p10_RunS {S:SHeap} {u v lv:Value} {s:Snap} {p:List Int} {l:List Step} (hu:rSnap.V S u s) (hv:(rSlice 8 rI64).V S v p) (hl:(rSlice 24 rStep).V S lv l) :
  FnLs Tryz.prog 54 #[u,v,lv] S 8 rI64 (runV s p l).1 [.int .i64 (runV s p l).2.1,.int .i64 (runV s p l).2.2]:=by
 refine Fn.frozen (p10_Run hu hv hl) fun w S' M' hw=>?_
 obtain ⟨a,c,rfl,⟨h1,h2,h3⟩,⟨he,rfl⟩|⟨b,tl,rfl,rfl⟩⟩:=hw
 ·rw [he]
  exact .inl ⟨rfl,_,rfl,V_slice.2 ⟨_,_,rfl,by simp,by simp,by simp,by simp⟩⟩
 ·exact .inr ⟨b,_,rfl,fun S'' hl hS=>⟨_,rfl,blk_slice hl hS rfl h1 h2 h3⟩⟩
theorem w10_Run {S:SHeap} {u v lv:Value} {s:Snap} {p q:List Int} {l:List Step} {n e:Int} (h:runV s p l=(q,n,e)) (hu:rSnap.V S u s) (hv:(rSlice 8 rI64).V S v p) (hl:(rSlice 24 rStep).V S lv l):FnLs Tryz.prog 54 #[u,v,lv] S 8 rI64 q [.int .i64 n,.int .i64 e]:=by
 have hh:=p10_RunS hu hv hl
 rw [h] at hh;exact hh
end Go.Dr
namespace Go.Dr
def left1 (c u:Int):Int:=if 0 < c then (1000*max 0 (c - u)).tdiv c else 0
def leftTo (cap used:List Int):Nat→Int
 | 0=>0
 | k+1=>leftTo cap used k+left1 (at0 cap k) (at0 used k)
def leftV (s:Snap) (p:List Int) (node:Int):Int:=if checkP s p=0∧0≤node∧node < s.nodes.length then leftTo (capOf s node.toNat) (usedV s p node) 5 else 0
theorem left1_rng {c u:Int} (hu:0≤u):0≤left1 c u∧left1 c u≤1000:=by
 unfold left1
 split
 ·rename_i hc
  have hm0:0≤1000*max 0 (c - u):=by omega
  rw [Int.tdiv_eq_ediv_of_nonneg hm0]
  refine ⟨Int.ediv_nonneg hm0 (by omega),?_⟩
  have h1:1000*max 0 (c - u)≤1000*c:=by omega
  have h2:=Int.ediv_le_ediv hc h1
  rwa [Int.mul_ediv_cancel _ (by omega)] at h2
 ·omega
theorem leftTo_rng {cap used:List Int} (hu:∀ k,0≤at0 used k):∀ k:Nat,0≤leftTo cap used k∧leftTo cap used k≤1000*k
 | 0=>by simp [leftTo]
 | k+1=>by
  have ih:=leftTo_rng (cap:=cap) hu k
  have:=left1_rng (c:=at0 cap k) (hu k)
  simp only [leftTo];omega
def leftAt (s:Snap) (p:List Int) (pod node:Int):Int:=leftV s (p.set pod.toNat node) node
end Go.Dr
namespace Go.Dr
section
variable {C:Cx} {Q:Post} {S:SHeap} {M:List MEnt} {e:Env}
theorem JC.thaw {x:Code} {b:Nat} {o:Obj} (h0:C.S0 b=none) (hb:C.w0.heap.size≤b) (hS:S b=some o) (k:JC C x Q (S.del b) (.blk b o::M) e):JC C x Q S M e:=⟨fun a w hw=>k.run a w ⟨hw.env,hw.defers,hw.wd.thaw h0 hb hS⟩⟩
theorem JC.out {x:Code} (k:(∀ m∈M,∀ b,m.own=some b→S b=none)→JC C x Q S M e):JC C x Q S M e:=⟨fun a w hw=>(k fun m hm b hb=>(hw.wd.out m hm b hb).1).run a w hw⟩
end
section
variable {C:Cx} {R:Rg} {Q:Post} {S:SHeap} {M:List MEnt} {e:Env} {rest:List Nat}
variable {ty:TypeId} {pos:String} {aft:Array Edge} {g:Option (Nat × Bool)}
theorem JEff.storeTo (c':Array Value) {α:Type} {T t:TypeId} {x y:Operand} {b off:Nat} {c:Array Value} {v:Value} {rep:Rp α} {x0:α} {Mr:List MEnt} (hx:ev e x=some (.pointer (some ⟨b,off,none⟩))) (hy:ev e y=some v)
  (hv:rep.V S v x0) (hn:rep.agg=false→∀ cs,v≠.agg cs) [ht:TyR C.P T rep] (hM:(MEnt.blk b (.cells c t (0,0))::Mr).Perm M) (hl:off+rep.sz≤c.size) (hT:∀ l,R.T=some l→b∈l)
  (hc:(c.toList.take off++v.cells.toList++c.toList.drop (off+rep.sz)).toArray=c')
  (k:JO C R rest Q S (.blk b (.cells c' t (0,0))::Mr) e):JEff C R ⟨none,.store T x y,ty,pos,aft,g⟩ rest Q S M e:=by
 refine JEff.store hx hy hv hn hM hl hT ?_
 rw [hc];exact k
end
theorem ne_none {S:SHeap} {b c:Nat} {o:Obj} (hb:S b=none) (hc:S c=some o):c≠b:=fun e=>by rw [e,hb] at hc;cases hc
def rRaw3:Rp (Value × Value × Value):=rSeq rVal (rSeq rVal rVal)
instance:Fld rRaw3 0 rVal (fun x=>x.1):=⟨Part.first⟩
instance:Fld rRaw3 1 rVal (fun x=>x.2.1):=⟨Part.next Part.first rfl⟩
instance:Fld rRaw3 2 rVal (fun x=>x.2.2):=⟨Part.next (Part.last rfl) rfl⟩
theorem V_raw3 {S:SHeap} {a1 a2 a3:Option Addr} {n1 n2 n3 c1 c2 c3:Nat}:rRaw3.V S (.agg #[.slice a1 n1 c1,.slice a2 n2 c2,.slice a3 n3 c3]) (.slice a1 n1 c1,.slice a2 n2 c2,.slice a3 n3 c3):=
 ⟨[_,_,_],⟨[_],[_,_],rfl,⟨rfl,rfl⟩,[_],[_],rfl,⟨rfl,rfl⟩,rfl,rfl⟩,rfl⟩
end Go.Dr
namespace Go.Dr
open Go.Sort Go.RowKit Go.Shelf Go.Proofs
set_option linter.unusedSimpArgs false
set_option linter.unusedVariables false
theorem putCells_ints {α:Type} [Inhabited α] (val:α→Int) (d:Array α) (xs:List Int) (tl:List Value) (h:xs.length=d.size):putCells (fun x=>Value.int .i64 (val x)) 0 d (intsT xs tl)=intsT (d.toList.map val) tl:=by
 apply Array.ext_getElem?
 intro k
 unfold putCells intsT
 rw [Array.getElem?_mapIdx]
 simp only [List.getElem?_toArray,Nat.zero_le,true_and,Nat.zero_add,Nat.sub_zero]
 by_cases hk:k < d.size
 ·rw [List.getElem?_append_left (by simp;omega),List.getElem?_append_left (by simp;omega)]
  simp [hk,List.getElem?_map,getElem!_pos d k hk]
  exact ⟨_,List.getElem?_eq_getElem (by omega)⟩
 ·rw [List.getElem?_append_right (by simp;omega),List.getElem?_append_right (by simp;omega)]
  simp [hk,h]
theorem mapBlock_at {w:World} {b:Nat} {cs:Array Value} {E:TypeId} {f:Array Value→Array Value} (hb:w.heap[b]?=some (.cells cs E (0,0))):(mapBlock w b f).heap[b]?=some (.cells (f cs) E (0,0)):=by
 unfold mapBlock
 rw [Array.getElem?_modify,if_pos rfl,hb];rfl
theorem mapBlock_other {w:World} {b k:Nat} {f:Array Value→Array Value} (h:k≠b):(mapBlock w b f).heap[k]?=w.heap[k]?:=by
 unfold mapBlock
 rw [Array.getElem?_modify,if_neg (fun e=>h e.symm)]
theorem Wd.sortW {α:Type} [Inhabited α] {S:SHeap} {w:World} {b:Nat} {cs:Array Value} {E:TypeId} (hg:Agree S w) (hSb:S b=none) (hb:w.heap[b]?=some (.cells cs E (0,0))) (enc:α→Value) (d:Array α) (m:Nat) (os:Array Obj) :
  Wd w [b] S S [.blk b (.cells (putCells enc 0 d cs) E (0,0))] (sortWorld enc w b 0 m d os):=by
 have hlt:=(Array.getElem?_eq_some_iff.1 hb).1
 have hsz:(mapBlock (Sort.ahead w m) b (putCells enc 0 d)).heap.size=w.heap.size:=by unfold mapBlock;rw [Array.size_modify];rfl
 have old:∀ k,k < w.heap.size→(sortWorld enc w b 0 m d os).heap[k]?=(mapBlock (Sort.ahead w m) b (putCells enc 0 d)).heap[k]?:=fun k hk=>by
  show ((mapBlock (Sort.ahead w m) b (putCells enc 0 d)).heap++os)[k]?=_
  rw [Array.getElem?_append_left (by rw [hsz];exact hk)]
 exact {
  os:=rfl
  tape:=rfl
  output:=rfl
  size:=by
   show w.heap.size≤((mapBlock (Sort.ahead w m) b (putCells enc 0 d)).heap++os).size
   rw [Array.size_append,hsz];omega
  drawn:=Nat.le_add_right _ _
  keep:=fun k hk hkb=>by
   rw [old k hk,mapBlock_other (by simpa using hkb)];rfl
  le:=SHeap.le.refl _
  new:=fun k h=>.inl h
  agree:=fun k o h=>by
   have h1:=hg k o h
   have h2:k≠b:=fun e=>by rw [e,hSb] at h;cases h
   rw [old k (Array.getElem?_eq_some_iff.1 h1).1,mapBlock_other h2];exact h1
  ok:=fun mm hm=>by
   rw [List.mem_singleton] at hm;subst hm
   show (sortWorld enc w b 0 m d os).heap[b]?=_
   rw [old b hlt];exact mapBlock_at (w:=Sort.ahead w m) hb
  sep:=List.pairwise_singleton _ _
  out:=fun mm hm k hk=>by
   rw [List.mem_singleton] at hm;subst hm
   simp only [MEnt.own,Option.some.injEq] at hk;subst hk
   exact ⟨hSb,.inr (by simp)⟩ }
theorem Wd.grown {w w':World} {S S':SHeap} (h:Wd w [] S S' [] w'):∃ q os',w'=grow (w.drewN q) os':=by
 obtain ⟨p,hp⟩:=regrown_of_below (w:=w) (w':=w') ⟨h.os,h.tape,h.output,h.size,fun k hk=>h.keep k hk (by simp)⟩
 have hd:=h.drawn
 have hpd:w'.drawn=p.d:=by rw [hp];rfl
 refine ⟨p.d - w.drawn,p.os,?_⟩
 rw [hp]
 unfold redrawn World.drewN
 rw [show w.drawn+(p.d - w.drawn)=p.d by omega]
theorem frozen_not {w:World} {b j:Nat} {cs:Array Value} {E:TypeId} (hb:w.heap[b]?=some (.cells cs E (0,0))):w.frozen? ⟨b,j,none⟩=false:=by
 unfold World.frozen?
 simp [hb]
theorem holds_ints {α:Type} [Inhabited α] {w:World} {b:Nat} {E:TypeId} {val:α→Int} {d:List α} {tl:List Value} (hb:w.heap[b]?=some (.cells (intsT (d.map val) tl) E (0,0)))  :Sort.Holds (fun x=>Value.int .i64 (val x)) w b 0 d.toArray:=fun j hj=>by
 have hj':j < d.length:=by simpa using hj
 refine ⟨?_,frozen_not hb⟩
 simp only [World.cell?,hb,Nat.zero_add]
 unfold intsT
 simp [List.getElem?_append_left,hj',getElem!_pos]
theorem sortFunc_fn {P:Program} {ρ:Ren} (L:SlLaysF.n6 P ρ) {α:Type} [Inhabited α] (val:α→Int) (cf:α→α→Int) (hO:SWO (ltOf cf)) (hT:∀ x y,ltOf cf x y=false→ltOf cf y x=false→x=y) (g:Nat) (cb:Array Value)
  (eg:∀ args w,(callFunc g args).run P w=.ok (.enter g args) w) {S:SHeap} {b cap:Nat} {E:TypeId} {tl:List Value} (d:List α) (hn:d.length < 4611686018427387904)
  (hcmp:∀ x y:α,FnV P g (#[.int .i64 (val x),.int .i64 (val y)]++cb) S (.int .i64 (cf x y))) :
  Fn P (ρ.f 6) #[.slice (some ⟨b,0,none⟩) d.length cap,.func (.func g) #[] cb] S [.blk b (.cells (intsT (d.map val) tl) E (0,0))]
   (fun v S' M'=>v=.tuple #[]∧S'=S∧M'=[.blk b (.cells (intsT ((d.mergeSort fun x y=>!(ltOf cf) y x).map val) tl) E (0,0))]):=by
 intro w hg hok hsep hout
 have hb:w.heap[b]?=some (.cells (intsT (d.map val) tl) E (0,0)):=hok (.blk b _) List.mem_cons_self
 have hSb:=hout (.blk b _) List.mem_cons_self b rfl
 have hc:CmpLays1 P g cb (fun x=>Value.int .i64 (val x)) cf b 0 d.toArray.size w:=fun m os dk hs x y=>by
  have hwd:=Wd.sortW hg hSb hb (fun x=>Value.int .i64 (val x)) dk m os
  refine (hcmp x y _ hwd.agree (by simp) List.Pairwise.nil (by simp)).mono ?_
  rintro e w' ⟨v,S',M',rfl,hw,rfl,rfl⟩
  exact ⟨rfl,hw.grown⟩
 have h:=Any.slices_SortFunc_total L (fun x=>Value.int .i64 (val x)) (fun _=>rfl) cf hO g cb b 0 cap d.toArray w eg hc (holds_ints hb) (Array.getElem?_eq_some_iff.1 hb).1 (by simpa using hn) hT
 rw [List.size_toArray] at h
 refine h.mono ?_
 rintro e w' ⟨rfl,n,os,rfl⟩
 have hwd:=Wd.sortW hg hSb hb (fun x=>Value.int .i64 (val x)) (d.mergeSort fun x y=>!(ltOf cf) y x).toArray n os
 rw [putCells_ints val _ _ _ (by simp [List.length_mergeSort])] at hwd
 exact ⟨_,S,_,rfl,hwd,rfl,rfl,rfl⟩
end Go.Dr
namespace Go.Dr
open Go.Proofs
def cmpI (a b:Int):Int:=if a < b then -1 else if b < a then 1 else 0
def cfBy (key:Int→Int) (a b:Int):Int:=([cmpI (key a) (key b),cmpI a b].find? (fun x=>!decide (x=0))).getD 0
def ltBy (key:Int→Int) (a b:Int):Bool:=decide (key a < key b)||(decide (key a=key b)&&decide (a < b))
def leBy (key:Int→Int) (a b:Int):Bool:=!ltBy key b a
def sortBy (key:Int→Int) (l:List Int):List Int:=l.mergeSort (leBy key)
theorem cmpI_rng (a b:Int):Rng (cmpI a b):=by unfold cmpI Rng;split<;>(try split)<;>omega
theorem cfBy_lt (key:Int→Int) (a b:Int):decide (cfBy key a b < 0)=ltBy key a b:=by
 unfold cfBy ltBy cmpI
 by_cases h1:key a < key b
 ·simp [h1]
 ·by_cases h2:key b < key a
  ·have h3:¬ key a=key b:=by omega
   simp [h1,h2,h3]
  ·have h3:key a=key b:=by omega
   by_cases h4:a < b
   ·simp [h3,h4]
   ·by_cases h5:b < a<;>simp [h3,h4,h5]
theorem ltBy_irr (key:Int→Int) (a:Int):ltBy key a a=false:=by simp [ltBy]
theorem ltBy_trans {key:Int→Int} {a b c:Int} (h1:ltBy key a b=true) (h2:ltBy key b c=true):ltBy key a c=true:=by
 simp only [ltBy,Bool.or_eq_true,Bool.and_eq_true,decide_eq_true_eq] at *;omega
theorem ltBy_ntrans {key:Int→Int} {a b c:Int} (h1:ltBy key a b=false) (h2:ltBy key b c=false):ltBy key a c=false:=by
 simp only [ltBy,Bool.or_eq_false_iff,Bool.and_eq_false_iff,decide_eq_false_iff_not] at *;omega
theorem ltBy_total {key:Int→Int} {a b:Int} (h1:ltBy key a b=false) (h2:ltBy key b a=false):a=b:=by
 simp only [ltBy,Bool.or_eq_false_iff,Bool.and_eq_false_iff,decide_eq_false_iff_not] at *;omega
abbrev NumD (D:Int→Prop):={ x:Int // D x }
theorem swoBy (D:Int→Prop) (key:Int→Int):Sort.SWO (ltOf (fun x y:NumD D=>cfBy key x.1 y.1)) where
 irrefl x:=by unfold ltOf;rw [cfBy_lt,ltBy_irr]
 trans x y z h1 h2:=by unfold ltOf at *;rw [cfBy_lt] at *;exact ltBy_trans h1 h2
 ntrans x y z h1 h2:=by unfold ltOf at *;rw [cfBy_lt] at *;exact ltBy_ntrans h1 h2
theorem totBy (D:Int→Prop) (key:Int→Int):∀ x y:NumD D,ltOf (fun x y:NumD D=>cfBy key x.1 y.1) x y=false→ltOf (fun x y:NumD D=>cfBy key x.1 y.1) y x=false→x=y:=fun x y h1 h2=>by
 unfold ltOf at h1 h2
 rw [cfBy_lt] at h1 h2
 exact Subtype.ext (ltBy_total h1 h2)
theorem sortBy_map {D:Int→Prop} {key:Int→Int} (d:List (NumD D)):(d.mergeSort fun x y=>!(ltOf (fun x y:NumD D=>cfBy key x.1 y.1)) y x).map Subtype.val=sortBy key (d.map Subtype.val):=by
 unfold sortBy
 refine List.map_mergeSort fun a _ b _=>?_
 unfold ltOf leBy
 rw [cfBy_lt]
theorem sortBy_eq {key:Int→Int} {l m:List Int} (hp:m.Perm l) (hs:m.Pairwise (fun a b=>ltBy key b a=false)):m=sortBy key l:=by
 refine List.Perm.eq_of_pairwise (le:=fun a b=>ltBy key b a=false) (fun a b _ _ h1 h2=>ltBy_total h2 h1) hs ?_ (hp.trans (List.mergeSort_perm l _).symm)
 have h:=List.pairwise_mergeSort (le:=leBy key) (fun a b c h1 h2=>by
  simp only [leBy,Bool.not_eq_true'] at *;exact ltBy_ntrans h2 h1) (fun a b=>by
  simp only [leBy,Bool.or_eq_true,Bool.not_eq_true']
  by_cases h:ltBy key b a=true
  ·right
   simp only [ltBy,Bool.or_eq_true,Bool.and_eq_true,decide_eq_true_eq,Bool.or_eq_false_iff,Bool.and_eq_false_iff,decide_eq_false_iff_not] at *;omega
  ·left;simpa using h) l
 exact h.imp fun h1=>by simpa [leBy] using h1
end Go.Dr
namespace Go.Dr
section
variable {C:Cx} {R:Rg} {Q:Post} {S:SHeap} {M:List MEnt} {e:Env} {rest:List Nat}
variable {d:Nat} {ty:TypeId} {pos:String} {aft:Array Edge} {g:Option (Nat × Bool)} {an:Bool}
end
end Go.Dr
namespace Go.Dr
open Go.Proofs
set_option maxRecDepth 20000
set_option maxHeartbeats 2000000
set_option linter.unusedSimpArgs false
set_option linter.unusedVariables false
end Go.Dr
namespace Go.Dr
end Go.Dr
namespace Go.Dr
section
variable {s:Snap} {p:List Int} (hp:∀ x∈p,x=-1)
include hp
end
end Go.Dr
namespace Go.Dr
end Go.Dr
namespace Go.Dr
theorem find_named {L:List Clause} (h:L.Pairwise (fun c d=>nameC c≠nameC d)) {c d:Clause} (hd:d∈L) (hn:nameC d=nameC c):findC L c=d.by_:=by
 have hf:=find_self h hd
 simp only [nameC,Prod.mk.injEq] at hn
 unfold findC
 rw [← hn.1,← hn.2.1,← hn.2.2,hf]
end Go.Dr
namespace Go.Dr
end Go.Dr
namespace Go.Dr
theorem find_nn (s:Snap) (p:List Int) (c:Clause):0≤findC (allL s p) c:=by
 unfold findC
 split
 ·rename_i d hd
  exact ((allL_rng s p).2 d (List.mem_of_find?_eq_some hd)).1
 ·exact Int.le_refl 0
end Go.Dr
namespace Go.Dr
theorem step_ok {s:Snap} {p q:List Int} {x:Step} {c:Clause} (h:stepV s p x=(q,c,0)):(applyP s p x).2=0∧q=(applyP s p x).1∧(allL s q).filter (worseF (allL s p))=[]∧c=noC∧¬ (x.kind=2∧cordonAt s x.node=true):=by
 unfold stepV at h
 split at h
 ·rename_i h1;exact absurd (congrArg (fun z=>z.2.2) h) h1
 ·rename_i h1
  have h1:(applyP s p x).2=0:=Classical.not_not.1 h1
  split at h
  ·cases h
  ·rename_i h2
   obtain ⟨hq,_,_⟩:=apply_check h1
   obtain ⟨_,_,_,_,_,hok,_⟩:=apply_set h1
   rw [worse_ok hok hq] at h
   split at h
   ·cases h
   ·rename_i h3
    cases h
    exact ⟨h1,rfl,h3,rfl,h2⟩
theorem findC_name {L:List Clause} {c d:Clause} (h:nameC d=nameC c):findC L d=findC L c:=by
 simp only [nameC,Prod.mk.injEq] at h
 unfold findC
 rw [h.1,h.2.1,h.2.2]
def keepsC (s:Snap) (L:List Clause) (p:List Int):Prop:=∀ c∈allL s p,c.by_≤findC L c
theorem keeps_self (s:Snap) (p:List Int):keepsC s (allL s p) p:=fun c hc=>Int.le_of_eq (find_named (allL_names s p) hc rfl).symm
theorem keeps_step {s:Snap} {p0 p q:List Int} {x:Step} {c:Clause} (hk:keepsC s (allL s p0) p) (h:stepV s p x=(q,c,0)):keepsC s (allL s p0) q:=by
 obtain ⟨_,_,h3,_⟩:=step_ok h
 intro d hd
 have h4:=List.filter_eq_nil_iff.1 h3 d hd
 have h4:d.by_≤findC (allL s p) d:=by simp [worseF] at h4;omega
 refine Int.le_trans h4 ?_
 have h5:findC (allL s p) d=0∨∃ f,f∈allL s p∧nameC f=nameC d∧findC (allL s p) d=f.by_:=by
  cases hf:(allL s p).find? (isC d.kind d.a d.b) with
  | none=>left;unfold findC;rw [hf]
  | some f=>
   right
   refine ⟨f,List.mem_of_find?_eq_some hf,?_,by unfold findC;rw [hf]⟩
   have:=List.find?_some hf
   rw [isC_name] at this
   exact of_decide_eq_true this
 rcases h5 with h5|⟨f,hf,hn,h5⟩
 ·rw [h5];exact find_nn s p0 d
 ·rw [h5,← findC_name hn]
  exact hk f hf
end Go.Dr
