/- Part 12 of the rules and of the walks that the proofs of this seat rest on; no condition. -/
import Derived.Test.YtlckpojpnfidoaaGreatA10
import Derived.Shelf.SlGeneric
import Derived.Shelf.SlicesE.DeleteFunc
import Derived.Shelf.SlicesE.Compact
import Derived.Ground.SlgfProg
import Derived.Ground.SlgnProg
set_option linter.unusedVariables false
set_option linter.unusedSimpArgs false
namespace Go.Dr
open Go.Proofs
set_option maxRecDepth 20000
set_option maxHeartbeats 2000000
set_option linter.unusedSimpArgs false
set_option linter.unusedVariables false
theorem s9_L17e {P K:Prop} (k:K) (h:Goal K→P:=by
 intro zk
 (first|refine Walk ?_|refine JC.block ?_|refine JC.drawN 14 rfl [0,1,2,3,4,5,6] [0,1,2,3,4,5] Tryz_mixed (by decide +kernel) ?_|(refine JO.eff rfl rfl rfl (JEff.callV rfl (p7_Check (by exact vta) (by exact vta)) rfl ?_);intro zqa zqb)|(refine JO.eff rfl rfl rfl (JEff.callR rfl (q17_cut (by exact vta)) rfl ?_);intro zqa zqb zqc zqd)|(refine JO.eff rfl rfl rfl (JEff.callV rfl (p17_Can (by exact vta) (by exact vta) (by exact vta)) rfl ?_);intro zqa zqb)|(refine JO.eff rfl rfl rfl (JEff.callV rfl (q17_works) rfl ?_);intro zqa zqb)|(refine JO.eff rfl rfl rfl (JEff.callV rfl (q17_moved _ (by exact vta)) rfl ?_);intro zqa zqb)|(refine JO.eff rfl rfl rfl (JEff.callLL rfl (p17_Round (by exact vta) (by exact vta) (by exact vta) (by exact vta)) rfl ?_);intro zqa zqb zqc zqd zqe zqf zqg))
 (repeat (first|revert zqg|revert zqf|revert zqe|revert zqd|revert zqc|revert zqb|revert zqa))
 exact zk.k):P:=h ⟨k⟩
theorem a17_HopEnds {S:SHeap} {u v lv:Value} {s:Snap} {p:List Int} {l:List Move} (hu:rSnap.V S u s) (hv:(rSlice 8 rI64).V S v p) (hl:(rSlice 16 rMove).V S lv l):FnV Tryz.prog 9 #[u,v,lv] S (.bool true):=by
 obtain ⟨cs,rfl,hcs⟩:=V_agg rfl hu
 obtain ⟨a0,c0,rfl,hlc,hl8,hlb,_⟩:=V_slice.1 hl
 obtain ⟨pa,pc,rfl,_,_,hpb,_⟩:=V_slice.1 hv
 unfold big at hlb hpb
 (refine Fn.enter (args:=[.agg cs.toArray,.slice pa p.length pc,.slice a0 l.length c0]) Tryz.func9 rfl Tryz.ntmps9 rfl ?_;intro w0)
 repeat (refine s9_L17e ?_;intros)
 refine JO.eff rfl rfl rfl (JEff.box rfl rfl ?_);intro bb hbb
 repeat (refine s9_L17e ?_;intros)
 refine JO.pure rfl rfl rfl (JPure.loadM (rep:=rSnap) (x0:=s) (mid:=cs) rfl (by (first|exact List.mem_cons_self|exact List.mem_cons_of_mem _ List.mem_cons_self|exact List.mem_cons_of_mem _ (List.mem_cons_of_mem _ List.mem_cons_self))) (by show cs.take 3=cs;exact List.take_of_length_le (by rw [rSnap.len hcs];exact Nat.le_refl _)) (rSnap.mono (by exact lea) hcs) (.inl rfl) rfl ?_)
 refine JO.eff rfl rfl rfl (JEff.callR rfl (q17_cut (Rp.val_V (rSnap.mono (by exact lea) hcs))) rfl ?_);intro cw S1 hl1 hcw
 repeat (refine s9_L17e ?_;intros)
 refine JO.eff rfl rfl rfl (JEff.storeW rfl rfl hcw nna (List.Perm.refl _) (by show 3=cs.length;exact (rSnap.len hcs).symm) (by intro l hl;cases hl) ?_)
 refine JO.freezeV hcw nna hbb (by intro l hl;cases hl) ?_;intro S2 hl2 hpb
 generalize cutS s=s' at *
 repeat (refine s9_L17e ?_;intros)
 (first|refine JC.newRow 78 (Rp.sz rMove) ?_|refine JO.newRow 78 (Rp.sz rMove) ?_|refine JX.newRow 78 (Rp.sz rMove) ?_)
 refine JC.loopF (σ:=Nat × Option Addr × Nat × List Move × List Value) [(1,_),(2,_),(3,_)] (fun z=>[(7,.slice z.2.1 z.2.2.2.1.length z.2.2.1),(8,.int .i64 z.1)]) (fun z=>[.row w0.heap.size 78 (Rp.sz rMove) (.slice z.2.1 z.2.2.2.1.length z.2.2.1) z.2.2.2.1.length (flatCells z.2.2.2.2)]) (fun Si z=>z.1≤l.length∧z.2.2.2.1.length≤6∧allV rMove Si z.2.2.2.2 z.2.2.2.1∧Unlike z.2.2.2.1∧ownGo z.2.2.2.1 (l.drop z.1)=ownGo [] l) (fun z=>l.length - z.1) ((0,none,0,[],[])) (by exact sba) (by exact sba) rfl (⟨Nat.zero_le _,by simp,trivial,fun x hx=>(by cases hx),rfl⟩) ?_;rintro Si ⟨i,ra,rc,own,vs⟩ hli hii;(try dsimp only at hii);dsimp only [List.cons_append,List.nil_append]
 obtain ⟨hi,hol,hvs,hun,hgo⟩:=hii
 try dsimp only at hi hol hvs hun hgo
 repeat (refine s9_L17e ?_;intros)
 by_cases hc1:(i:Int) < l.length
 ·rw [decide_eq_true hc1]
  repeat (refine s9_L17e ?_;intros)
  by_cases hc2:(own.length:Int) < 6
  ·rw [decide_eq_true hc2]
   obtain ⟨x,hx,hd⟩:=drop_at (l:=l) (show i < l.length by omega)
   rw [hd,ownGo,if_pos (by omega)] at hgo
   repeat (refine s9_L17e ?_;intros)
   refine JO.eff rfl rfl rfl (JEff.lendRow (bt:=16) rfl (List.Perm.refl _) hvs (by unfold big;omega) (by unfold big;omega) (by intro l hl;cases hl) (fun S1 hl1 hV1=>q17_moved x.pod hV1) rfl ?_);intro S5 hl5
   cases hm:movedB own x.pod
   ·rw [if_neg (by rw [hm];simp)] at hgo
    repeat (refine s9_L17e ?_;intros)
    have hxv:=(by assumption:rMove.V _ _ x)
    (refine JO.eff rfl rfl rfl (JEff.build (rep:=rMove) (ys:=[x]) rfl rfl ⟨⟨(hxv.mono (by exact lea)),nna⟩,trivial⟩ rfl rfl rfl rfl ?_);intro bb hbb hvv);(repeat (first|(refine Walk ?_;intros)|refine JC.block ?_));(refine JO.eff rfl rfl rfl (JEff.appendL (rep:=rMove) rfl rfl rfl rfl (List.Perm.swap _ _ _) (by exact hvv.flat) (by intro c hc;exact flat_one (fun v hv=>(hvv.size v hv).2) c hc) (by first|omega|(unfold big;omega)) (by unfold big;omega) (by first|exact rowT_ok|(intro l hl;cases hl)) rfl ?_);intro a4 c4;clear hvv hbb)
    repeat (refine s9_L17e ?_;intros)
    exact JX.roundF (i+1,a4,c4,own++[x],vs++[_]) (by exact lea) ⟨by omega,by simp;omega,allV_add (by exact lea) hvs (hxv.mono (by exact lea)) nna,unlike_add hun (by rw [hm];simp),hgo⟩ (by (try dsimp only);omega) (by simp [flat_append]<;>rfl) (by (try dsimp only);simp only [List.length_append,List.length_cons,List.length_nil];exact sba) (by exact sba)
   ·rw [if_pos hm] at hgo
    repeat (refine s9_L17e ?_;intros)
    exact JX.roundF (i+1,ra,rc,own,vs) (by exact lea) ⟨by omega,hol,hvs.mono (by exact lea),hun,hgo⟩ (by (try dsimp only);omega) rfl (by exact sba) (by exact sba)
  ·rw [decide_eq_false hc2]
   repeat (refine s9_L17e ?_;intros)
   refine JO.freezeRow (rep:=rMove) (bt:=16) (xs:=own) hvs rfl (by unfold big;omega) (by unfold big;omega) (by intro l hl;cases hl) (fun S9 hl9 hV9=>?_)
   obtain ⟨q,st,n,hr⟩:∃ q st n,roundV s' p own []=(q,st,n):=⟨_,_,_,rfl⟩
   repeat (first|(refine Walk ?_;intros)|refine JC.block ?_|refine JC.drawN 14 rfl [0,1,2,3,4,5,6] [0,1,2,3,4,5] Tryz_mixed (by decide +kernel) ?_|(refine JO.eff rfl rfl rfl (JEff.callLL rfl (w17_Round hr (by exact vta) (by exact vta) (by exact vta) V_nil) rfl ?_);intro _ _ _ _ _ _ _ _ _ _)|(refine JO.eff rfl rfl rfl (JEff.callV rfl (p7_Check (by exact vta) (by exact vta)) rfl ?_);intro _ _)|(refine JO.eff rfl rfl rfl (JEff.callR rfl (q17_cut (by exact vta)) rfl ?_);intro _ _ _ _)|(refine JO.eff rfl rfl rfl (JEff.callV rfl (p17_Can (by exact vta) (by exact vta) (by exact vta)) rfl ?_);intro _ _)|(refine JO.eff rfl rfl rfl (JEff.callV rfl (q17_works) rfl ?_);intro _ _)|(refine JO.eff rfl rfl rfl (JEff.callV rfl (q17_moved _ (by exact vta)) rfl ?_);intro _ _)|(refine JO.eff rfl rfl rfl (JEff.callLL rfl (p17_Round (by exact vta) (by exact vta) (by exact vta) (by exact vta)) rfl ?_);intro _ _ _ _ _ _ _ _ _ _))
   by_cases hP:checkP s' p=0
   ·rw [decide_eq_true hP]
    have hql:q.length=p.length:=by
     obtain ⟨q',st',n',h1,_,h2,_⟩:=round_leads (shun:=[]) hP (show own.length≤48 by omega)
     rw [hr] at h1;cases h1;exact h2
    have hen:=round_ends hP (show own.length≤48 by omega) hun []
    rw [hr] at hen
    dsimp only at hen
    repeat (refine s9_L17e ?_;intros)
    rw [decide_eq_true (show (q.length:Int)=(p.length:Int) by rw [hql])]
    repeat (refine s9_L17e ?_;intros)
    refine JC.loopF0 (σ:=Nat) [(3,_),(7,_),(9,_)] (fun z=>[(12,.int .i64 z)]) (fun Sj z=>z≤own.length) (fun z=>own.length - z) (0) (by exact sba) (by exact sba) (Nat.zero_le _) ?_;rintro Sj k hlj hij;(try dsimp only at hij);dsimp only [List.cons_append,List.nil_append]
    repeat (refine s9_L17e ?_;intros)
    refine JC.cond rfl (fun hc3=>?_) (fun hc3=>?_)
    ·have hk':=dlt hc3
     obtain ⟨x,hx,_⟩:=drop_at hk'
     repeat (first|(refine Walk ?_;intros)|refine JC.block ?_|refine JC.drawN 14 rfl [0,1,2,3,4,5,6] [0,1,2,3,4,5] Tryz_mixed (by decide +kernel) ?_|(refine JO.eff rfl rfl rfl (JEff.callV rfl (w17_Can (hen x (List.mem_of_getElem? hx)) (by exact vta) (by exact vta) (by exact vta)) rfl ?_);intro _ _)|(refine JO.eff rfl rfl rfl (JEff.callV rfl (p7_Check (by exact vta) (by exact vta)) rfl ?_);intro _ _)|(refine JO.eff rfl rfl rfl (JEff.callR rfl (q17_cut (by exact vta)) rfl ?_);intro _ _ _ _)|(refine JO.eff rfl rfl rfl (JEff.callV rfl (p17_Can (by exact vta) (by exact vta) (by exact vta)) rfl ?_);intro _ _)|(refine JO.eff rfl rfl rfl (JEff.callV rfl (q17_works) rfl ?_);intro _ _)|(refine JO.eff rfl rfl rfl (JEff.callV rfl (q17_moved _ (by exact vta)) rfl ?_);intro _ _)|(refine JO.eff rfl rfl rfl (JEff.callLL rfl (p17_Round (by exact vta) (by exact vta) (by exact vta) (by exact vta)) rfl ?_);intro _ _ _ _ _ _ _ _ _ _))
     exact JX.roundF (k+1) (by exact lea) (by omega) (by (try dsimp only);omega) rfl (by exact sba) (by exact sba)
    ·repeat (refine s9_L17e ?_;intros)
     (refine JX.ret1 Tryz.results9 (ResV.tmp rfl) (List.nil_sublist _) ?_)
     exact ⟨rfl,rfl⟩
   ·rw [decide_eq_false hP]
    rw [round_bad hP] at hr
    cases hr
    repeat (refine s9_L17e ?_;intros)
    rw [decide_eq_false hP]
    repeat (refine s9_L17e ?_;intros)
    (refine JX.ret1 Tryz.results9 (ResV.tmp rfl) (List.nil_sublist _) ?_)
    exact ⟨rfl,rfl⟩
 ·rw [decide_eq_false hc1]
  repeat (refine s9_L17e ?_;intros)
  refine JO.freezeRow (rep:=rMove) (bt:=16) (xs:=own) hvs rfl (by unfold big;omega) (by unfold big;omega) (by intro l hl;cases hl) (fun S9 hl9 hV9=>?_)
  obtain ⟨q,st,n,hr⟩:∃ q st n,roundV s' p own []=(q,st,n):=⟨_,_,_,rfl⟩
  repeat (first|(refine Walk ?_;intros)|refine JC.block ?_|refine JC.drawN 14 rfl [0,1,2,3,4,5,6] [0,1,2,3,4,5] Tryz_mixed (by decide +kernel) ?_|(refine JO.eff rfl rfl rfl (JEff.callLL rfl (w17_Round hr (by exact vta) (by exact vta) (by exact vta) V_nil) rfl ?_);intro _ _ _ _ _ _ _ _ _ _)|(refine JO.eff rfl rfl rfl (JEff.callV rfl (p7_Check (by exact vta) (by exact vta)) rfl ?_);intro _ _)|(refine JO.eff rfl rfl rfl (JEff.callR rfl (q17_cut (by exact vta)) rfl ?_);intro _ _ _ _)|(refine JO.eff rfl rfl rfl (JEff.callV rfl (p17_Can (by exact vta) (by exact vta) (by exact vta)) rfl ?_);intro _ _)|(refine JO.eff rfl rfl rfl (JEff.callV rfl (q17_works) rfl ?_);intro _ _)|(refine JO.eff rfl rfl rfl (JEff.callV rfl (q17_moved _ (by exact vta)) rfl ?_);intro _ _)|(refine JO.eff rfl rfl rfl (JEff.callLL rfl (p17_Round (by exact vta) (by exact vta) (by exact vta) (by exact vta)) rfl ?_);intro _ _ _ _ _ _ _ _ _ _))
  by_cases hP:checkP s' p=0
  ·rw [decide_eq_true hP]
   have hql:q.length=p.length:=by
    obtain ⟨q',st',n',h1,_,h2,_⟩:=round_leads (shun:=[]) hP (show own.length≤48 by omega)
    rw [hr] at h1;cases h1;exact h2
   have hen:=round_ends hP (show own.length≤48 by omega) hun []
   rw [hr] at hen
   dsimp only at hen
   repeat (refine s9_L17e ?_;intros)
   rw [decide_eq_true (show (q.length:Int)=(p.length:Int) by rw [hql])]
   repeat (refine s9_L17e ?_;intros)
   refine JC.loopF0 (σ:=Nat) [(3,_),(7,_),(9,_)] (fun z=>[(12,.int .i64 z)]) (fun Sj z=>z≤own.length) (fun z=>own.length - z) (0) (by exact sba) (by exact sba) (Nat.zero_le _) ?_;rintro Sj k hlj hij;(try dsimp only at hij);dsimp only [List.cons_append,List.nil_append]
   repeat (refine s9_L17e ?_;intros)
   refine JC.cond rfl (fun hc3=>?_) (fun hc3=>?_)
   ·have hk':=dlt hc3
    obtain ⟨x,hx,_⟩:=drop_at hk'
    repeat (first|(refine Walk ?_;intros)|refine JC.block ?_|refine JC.drawN 14 rfl [0,1,2,3,4,5,6] [0,1,2,3,4,5] Tryz_mixed (by decide +kernel) ?_|(refine JO.eff rfl rfl rfl (JEff.callV rfl (w17_Can (hen x (List.mem_of_getElem? hx)) (by exact vta) (by exact vta) (by exact vta)) rfl ?_);intro _ _)|(refine JO.eff rfl rfl rfl (JEff.callV rfl (p7_Check (by exact vta) (by exact vta)) rfl ?_);intro _ _)|(refine JO.eff rfl rfl rfl (JEff.callR rfl (q17_cut (by exact vta)) rfl ?_);intro _ _ _ _)|(refine JO.eff rfl rfl rfl (JEff.callV rfl (p17_Can (by exact vta) (by exact vta) (by exact vta)) rfl ?_);intro _ _)|(refine JO.eff rfl rfl rfl (JEff.callV rfl (q17_works) rfl ?_);intro _ _)|(refine JO.eff rfl rfl rfl (JEff.callV rfl (q17_moved _ (by exact vta)) rfl ?_);intro _ _)|(refine JO.eff rfl rfl rfl (JEff.callLL rfl (p17_Round (by exact vta) (by exact vta) (by exact vta) (by exact vta)) rfl ?_);intro _ _ _ _ _ _ _ _ _ _))
    exact JX.roundF (k+1) (by exact lea) (by omega) (by (try dsimp only);omega) rfl (by exact sba) (by exact sba)
   ·repeat (refine s9_L17e ?_;intros)
    (refine JX.ret1 Tryz.results9 (ResV.tmp rfl) (List.nil_sublist _) ?_)
    exact ⟨rfl,rfl⟩
  ·rw [decide_eq_false hP]
   rw [round_bad hP] at hr
   cases hr
   repeat (refine s9_L17e ?_;intros)
   rw [decide_eq_false hP]
   repeat (refine s9_L17e ?_;intros)
   (refine JX.ret1 Tryz.results9 (ResV.tmp rfl) (List.nil_sublist _) ?_)
   exact ⟨rfl,rfl⟩
end Go.Dr
namespace Go.Dr
open Go.Proofs
set_option maxRecDepth 20000
set_option maxHeartbeats 2000000
set_option linter.unusedSimpArgs false
set_option linter.unusedVariables false
theorem raw17 {S:SHeap} {nb sb cap:Nat} {pa:Option Addr} {TS:TypeId} (hs:S sb=some (.cells (Value.agg #[.slice (some ⟨nb,0,none⟩) 3 3,.slice pa 3 cap,.slice none 0 0]).cells TS (0,0))):PtrTo S ⟨sb,0,none⟩ rRaw3 (.slice (some ⟨nb,0,none⟩) 3 3,.slice pa 3 cap,.slice none 0 0):=
 cells_ptr (v:=.agg #[.slice (some ⟨nb,0,none⟩) 3 3,.slice pa 3 cap,.slice none 0 0]) hs ⟨[_],[_,_],rfl,⟨rfl,rfl⟩,[_],[_],rfl,⟨rfl,rfl⟩,rfl,rfl⟩
theorem snap17 {S:SHeap} {nb sb cap:Nat} {pa:Option Addr} {b:Bool} {TN TS:TypeId} (hs:S sb=some (.cells (Value.agg #[.slice (some ⟨nb,0,none⟩) 3 3,.slice pa 3 cap,.slice none 0 0]).cells TS (0,0))) (hp:(rSlice 240 rPod).V S (.slice pa 3 cap) pods17) (hn:S nb=some (.cells (flatCells (ndWs b)).toArray TN (0,0))):PtrTo S ⟨sb,0,none⟩ rSnap (chap17 b):=by
 obtain ⟨cs,hR,he⟩:=chap17_V hp hn
 exact cells_ptr (v:=.agg #[.slice (some ⟨nb,0,none⟩) 3 3,.slice pa 3 cap,.slice none 0 0]) hs (by
  cases he;exact hR)
theorem w17_TryN {S:SHeap} {u v xv:Value} {s:Snap} {p q:List Int} {st:List Step} {c:Clause} {e:Int} {x:Move} (h:tryV s p x=(q,st,c,e)) (hu:rSnap.V S u s) (hv:(rSlice 8 rI64).V S v p) (hx:rMove.V S xv x):FnR Tryz.prog 44 #[u,v,xv] S (fun w S'=>∃ u v,w=.tuple #[u,v,clV c,.int .i64 e]∧(rSlice 8 rI64).V S' u q∧(rSlice 24 rStep).V S' v st∧rClause.V S' (clV c) c∧NewInts 3 S S' u q):=by
 have hh:=p17_TryN hu hv hx
 rw [h] at hh;exact hh
theorem s10_L17n {P K:Prop} (k:K) (h:Goal K→P:=by
 intro zk
 (first|refine Walk ?_|refine JC.block ?_|(refine JO.eff rfl rfl rfl (JEff.callV rfl (r0_EqInts (by exact vta) (by exact vta)) rfl ?_);intro zqa zqb)|(refine JO.eff rfl rfl rfl (JEff.callTry rfl (p17_Try (by exact vta) (by exact vta) (by exact vta)) rfl ?_);intro zqa zqb zqc zqd zqe zqf zqg)|(refine JO.eff rfl rfl rfl (JEff.callV rfl (p17_Can (by exact vta) (by exact vta) (by exact vta)) rfl ?_);intro zqa zqb)|(refine JO.eff rfl rfl rfl (JEff.callV rfl (q17_works) rfl ?_);intro zqa zqb)|(refine JO.eff rfl rfl rfl (JEff.callLL rfl (p17_Round (by exact vta) (by exact vta) (by exact vta) (by exact vta)) rfl ?_);intro zqa zqb zqc zqd zqe zqf zqg)|(refine JO.eff rfl rfl rfl (JEff.callR rfl (q17_chapter) rfl ?_);intro zqa zqb zqc zqd)|(refine JO.eff rfl rfl rfl (JEff.callV rfl (p17_Find (by exact vta) (by exact vta) (by exact vta) (by exact vta)) rfl ?_);intro zqa zqb)|(refine WNew ?_)|(refine WPut ?_))
 (repeat (first|revert zqg|revert zqf|revert zqe|revert zqd|revert zqc|revert zqb|revert zqa))
 exact zk.k):P:=h ⟨k⟩
theorem a17_HopNames {S:SHeap}:FnV Tryz.prog 10 #[] S (.bool true):=by
 haveI:TyR Tryz.prog 22 rVal:=⟨(inferInstance:TyR Tryz.prog 22 (rSlice 112 rNode)).b⟩
 have hRaw:TyR Tryz.prog 26 rRaw3:=⟨(inferInstance:TyR Tryz.prog 26 rSnap).b⟩
 (refine Fn.enter (args:=[]) Tryz.func10 rfl Tryz.ntmps10 rfl ?_;intro w0)
 repeat (first|(refine Walk ?_;intros)|refine JC.block ?_|refine JO.eff rfl rfl rfl (JEff.callM (Mc:=[]) rfl (List.Perm.refl _) (mayAll rfl) q17_chapterM rfl ?_)|(refine JO.eff rfl rfl rfl (JEff.callV rfl (r0_EqInts (by exact vta) (by exact vta)) rfl ?_);intro _ _)|(refine JO.eff rfl rfl rfl (JEff.callTry rfl (p17_Try (by exact vta) (by exact vta) (by exact vta)) rfl ?_);intro _ _ _ _ _ _ _ _ _ _ _)|(refine JO.eff rfl rfl rfl (JEff.callV rfl (p17_Can (by exact vta) (by exact vta) (by exact vta)) rfl ?_);intro _ _)|(refine JO.eff rfl rfl rfl (JEff.callV rfl (q17_works) rfl ?_);intro _ _)|(refine JO.eff rfl rfl rfl (JEff.callLL rfl (p17_Round (by exact vta) (by exact vta) (by exact vta) (by exact vta)) rfl ?_);intro _ _ _ _ _ _ _ _ _ _)|(refine JO.eff rfl rfl rfl (JEff.callR rfl (q17_chapter) rfl ?_);intro _ _ _ _)|(refine JO.eff rfl rfl rfl (JEff.callV rfl (p17_Find (by exact vta) (by exact vta) (by exact vta) (by exact vta)) rfl ?_);intro _ _)|(refine WNew ?_;intros)|(refine WPut ?_;intros))
 intro w S1 M1 hl1 hw
 obtain ⟨nb,pa,cap,rfl,rfl,hp1⟩:=hw
 dsimp only [List.cons_append,List.nil_append]
 (refine JO.eff rfl rfl rfl (JEff.alloc rfl ?_);intro sb hsb)
 refine JO.eff rfl rfl rfl (JEff.storeW (ht:=hRaw) rfl rfl V_raw3 nna pma rfl (by intro l hl;cases hl) ?_)
 refine JO.freeze hsb (by intro l hl;cases hl) (fun S2 hl2 hS2=>?_)
 have hpr:=raw17 hS2
 repeat (refine s10_L17n ?_;intros)
 (refine JO.eff rfl rfl rfl (JEff.buildS (bt:=8) (rep:=rI64) (ys:=[(0:Int),1,-1]) rfl rfl (⟨⟨V_num,nna⟩,⟨V_num,nna⟩,⟨V_num,nna⟩,trivial⟩) rfl rfl rfl (by decide) rfl ?_);intro S3 a3 hl3 hV3)
 repeat (refine s10_L17n ?_;intros)
 (refine JO.eff rfl rfl rfl (JEff.buildS (bt:=16) (rep:=rMove) (ys:=[(⟨0,1⟩:Move),⟨1,0⟩]) rfl rfl (⟨⟨V_mv,nna⟩,⟨V_mv,nna⟩,trivial⟩) rfl rfl rfl (by decide) rfl ?_);intro S4 a4 hl4 hV4)
 refine JO.out (fun hout=>?_)
 have hn4:=hout (.blk nb _) List.mem_cons_self nb rfl
 refine JO.blkNew rfl (fun hn0 hnb=>?_)
 refine JO.freeze hnb (by intro l hl;cases hl) (fun S5 hl5 hS5=>?_)
 have hsnapA:=snap17 ((show SHeap.le S2 S5 by exact lea) _ _ hS2) (hp1.mono (show SHeap.le S1 S5 by exact lea)) hS5
 clear hpr
 repeat (first|(refine Walk ?_;intros)|refine JC.block ?_|(refine JO.eff rfl rfl rfl (JEff.callTry rfl (w17_Try g17_1 (by exact vta) (by exact vta) V_mv) rfl ?_);intro _ _ _ _ _ _ _ _ _ _ _)|(refine JO.eff rfl rfl rfl (JEff.callTry rfl (w17_Try g17_2 (by exact vta) (by exact vta) V_mv) rfl ?_);intro _ _ _ _ _ _ _ _ _ _ _)|(refine JO.eff rfl rfl rfl (JEff.callV rfl (r0_EqInts (by exact vta) (by exact vta)) rfl ?_);intro _ _)|(refine JO.eff rfl rfl rfl (JEff.callTry rfl (p17_Try (by exact vta) (by exact vta) (by exact vta)) rfl ?_);intro _ _ _ _ _ _ _ _ _ _ _)|(refine JO.eff rfl rfl rfl (JEff.callV rfl (p17_Can (by exact vta) (by exact vta) (by exact vta)) rfl ?_);intro _ _)|(refine JO.eff rfl rfl rfl (JEff.callV rfl (q17_works) rfl ?_);intro _ _)|(refine JO.eff rfl rfl rfl (JEff.callLL rfl (p17_Round (by exact vta) (by exact vta) (by exact vta) (by exact vta)) rfl ?_);intro _ _ _ _ _ _ _ _ _ _)|(refine JO.eff rfl rfl rfl (JEff.callR rfl (q17_chapter) rfl ?_);intro _ _ _ _)|(refine JO.eff rfl rfl rfl (JEff.callV rfl (p17_Find (by exact vta) (by exact vta) (by exact vta) (by exact vta)) rfl ?_);intro _ _)|(refine WNew ?_;intros)|(refine WPut ?_;intros))
 (refine JO.eff rfl rfl rfl (JEff.buildS (bt:=8) (rep:=rI64) (ys:=[(0:Int)]) rfl rfl (⟨⟨V_num,nna⟩,trivial⟩) rfl rfl rfl (by decide) rfl ?_);intro S8 a8 hl8 hV8)
 repeat (first|(refine Walk ?_;intros)|(refine WNew ?_;intros)|(refine WPut ?_;intros))
 refine JO.eff rfl rfl rfl (JEff.callTry rfl (w17_Try g17_3 (by exact vta) hV8 V_mv) rfl ?_);intro _ _ _ _ _ _ _ _ _ _ _
 repeat (first|(refine Walk ?_;intros)|(refine WNew ?_;intros)|(refine WPut ?_;intros))
 refine JO.out (fun houtc=>?_)
 refine JO.eff rfl rfl rfl (JEff.callR rfl (w17_TryN g17_4 (by exact vta) (by exact vta) V_mv) rfl ?_);intro w6 S6 hl6 hw6
 obtain ⟨u6,v6,rfl,hV6,hW6,hC6,hN6⟩:=hw6
 rcases hN6 with hN6|⟨qb,qt,qn,rfl,hqn,hq5,hq6⟩
 ·cases hN6
 obtain ⟨va,vc,rfl,_⟩:=V_slice.1 hW6
 have hqp:=ne_none hq5 ((show SHeap.le S5 _ by exact lea) _ _ hS5)
 repeat (first|(refine WOps ?_;intros)|(refine WNew ?_;intros)|(refine WPut ?_;intros))
 refine JX.then_ ?_
 rename_i nb7 hnb7 S7 hl7 hp7
 have hsp:=ne_none hn4 ((show SHeap.le S2 S4 by exact lea) _ _ hS2)
 refine JC.thaw hn0 hnb ((show SHeap.le S5 S7 by exact lea) _ _ hS5) ?_
 have dS:=(SHeap.del_other hsp).trans ((show SHeap.le S2 S7 by exact lea) _ _ hS2)
 have dQ:=(SHeap.del_other hqp.symm).trans ((show SHeap.le S6 S7 by exact lea) _ _ hq6)
 have dl:=SHeap.le_del (show SHeap.le S4 S7 by exact lea) hn4
 clear hsnapA
 generalize S7.del nb=T1 at dl dS dQ ⊢
 have hprB:=raw17 dS
 repeat (refine s10_L17n ?_;intros)
 refine JO.pure rfl rfl rfl (JPure.indexR rNode rfl rfl rfl (by decide) (by decide) ?_)
 refine JO.pure rfl rfl rfl (JPure.fieldP rfl rfl ?_)
 refine JO.eff rfl rfl rfl (JEff.storeTo (flatCells (ndWs true)).toArray (rep:=rBool) (x0:=true) rfl rfl (V_bool.2 rfl) nna pma (Nat.le_of_ble_eq_true rfl) (by intro l hl;cases hl) rfl ?_)
 refine JO.freeze hnb (by intro l hl;cases hl) (fun T2 hlT2 hT2=>?_)
 have hsnapB:=snap17 (b:=true) (hlT2 _ _ dS) ((hp1.mono (show SHeap.le S1 S4 by exact lea)).mono (dl.trans hlT2)) hT2
 clear hprB
 have hVp:=(hV3.mono hl4).mono (dl.trans hlT2)
 have hVt:=hV4.mono (dl.trans hlT2)
 have hVq2:=blk_slice (xs:=[0,1,-1]) (n:=3) (SHeap.le.refl _) (hlT2 _ _ dQ) rfl hqn (by decide) (by simp [Rng])
 repeat (first|(refine Walk ?_;intros)|refine JC.block ?_|(refine JO.eff rfl rfl rfl (JEff.callTry rfl (w17_Try g17_5 (by exact vta) (by exact vta) V_mv) rfl ?_);intro _ _ _ _ _ _ _ _ _ _ _)|(refine JO.eff rfl rfl rfl (JEff.callLL rfl (w17_Round g17_6 (by exact vta) (by exact vta) (by exact vta) V_nil) rfl ?_);intro _ _ _ _ _ _ _ _ _ _)|(refine JO.eff rfl rfl rfl (JEff.callV rfl (w17_Find g17_7 (by exact vta) (by exact vta) V_nil V_nil) rfl ?_);intro _ _)|(refine JO.eff rfl rfl rfl (JEff.callV rfl (r0_EqInts (by exact vta) (by exact vta)) rfl ?_);intro _ _)|(refine JO.eff rfl rfl rfl (JEff.callTry rfl (p17_Try (by exact vta) (by exact vta) (by exact vta)) rfl ?_);intro _ _ _ _ _ _ _ _ _ _ _)|(refine JO.eff rfl rfl rfl (JEff.callV rfl (p17_Can (by exact vta) (by exact vta) (by exact vta)) rfl ?_);intro _ _)|(refine JO.eff rfl rfl rfl (JEff.callV rfl (q17_works) rfl ?_);intro _ _)|(refine JO.eff rfl rfl rfl (JEff.callLL rfl (p17_Round (by exact vta) (by exact vta) (by exact vta) (by exact vta)) rfl ?_);intro _ _ _ _ _ _ _ _ _ _)|(refine JO.eff rfl rfl rfl (JEff.callR rfl (q17_chapter) rfl ?_);intro _ _ _ _)|(refine JO.eff rfl rfl rfl (JEff.callV rfl (p17_Find (by exact vta) (by exact vta) (by exact vta) (by exact vta)) rfl ?_);intro _ _)|(refine WNew ?_;intros)|(refine WPut ?_;intros))
 refine JO.eff rfl rfl rfl (JEff.build0 rMove rfl ?_);intro b0
 repeat (refine s10_L17n ?_;intros)
 (refine JO.eff rfl rfl rfl (JEff.appendS (rep:=rMove) rfl rfl (hVt.mono (by exact lea)) rfl rfl (List.Perm.refl _) (by decide) (by decide) (by intro l hl;cases hl) rfl ?_);intro a2 c2 us1 hus1)
 obtain ⟨v1,v2,rfl⟩:∃ v1 v2,us1=[v1,v2]:=by
  match us1,hus1 with
  | [v1,v2],_=>exact ⟨v1,v2,rfl⟩
 obtain ⟨⟨hm1,_⟩,⟨hm2,_⟩,_⟩:=hus1
 obtain ⟨rfl,_⟩:=V_move.1 hm1
 obtain ⟨rfl,_⟩:=V_move.1 hm2
 repeat (refine s10_L17n ?_;intros)
 (refine JO.eff rfl rfl rfl (JEff.build (rep:=rMove) (ys:=[(⟨0,0⟩:Move),⟨9,1⟩,⟨1,-1⟩]) rfl rfl ⟨⟨V_mv,nna⟩,⟨V_mv,nna⟩,⟨V_mv,nna⟩,trivial⟩ rfl rfl rfl rfl ?_);intro bb hbb hvv)
 repeat (refine s10_L17n ?_;intros)
 (refine JO.eff rfl rfl rfl (JEff.appendL (rep:=rMove) rfl rfl rfl rfl (List.Perm.swap _ _ _) (by exact hvv.flat) (by intro c hc;exact flat_one (fun v hv=>(hvv.size v hv).2) c hc) (by decide) (by decide) (by intro l hl;cases hl) rfl ?_);intro a5 c5;clear hvv hbb)
 refine JO.freezeRow (rep:=rMove) (bt:=16) (n:=0+2+3) (vs:=[.agg #[.int .i64 0,.int .i64 1],.agg #[.int .i64 1,.int .i64 0],.agg #[.int .i64 0,.int .i64 0],.agg #[.int .i64 9,.int .i64 1],.agg #[.int .i64 1,.int .i64 (-1)]]) (xs:=same17) ⟨⟨V_mv2,nna⟩,⟨V_mv2,nna⟩,⟨V_mv2,nna⟩,⟨V_mv2,nna⟩,⟨V_mv2,nna⟩,trivial⟩ rfl (by decide) (by decide) (by intro l hl;cases hl) (fun S11 hl11 hV11=>?_)
 rcases h8:roundV (chap17 false) [0,1,-1] same17 [] with ⟨q8,st8,n8⟩
 have hq8:=g17_8
 rw [h8] at hq8
 dsimp only at hq8
 subst hq8
 repeat (first|(refine Walk ?_;intros)|refine JC.block ?_|(refine JO.eff rfl rfl rfl (JEff.callLL rfl (w17_Round h8 (by exact vta) (by exact vta) (by exact vta) V_nil) rfl ?_);intro _ _ _ _ _ _ _ _ _ _)|(refine JO.eff rfl rfl rfl (JEff.callV rfl (w_EqInts (by exact vta) (by exact vta)) rfl ?_);intro _ _)|refine JO.pure rfl rfl rfl (JPure.eqR rfl vta rfl V_cl rfl rfl ?_)|(refine JO.eff rfl rfl rfl (JEff.callV rfl (r0_EqInts (by exact vta) (by exact vta)) rfl ?_);intro _ _)|(refine JO.eff rfl rfl rfl (JEff.callTry rfl (p17_Try (by exact vta) (by exact vta) (by exact vta)) rfl ?_);intro _ _ _ _ _ _ _ _ _ _ _)|(refine JO.eff rfl rfl rfl (JEff.callV rfl (p17_Can (by exact vta) (by exact vta) (by exact vta)) rfl ?_);intro _ _)|(refine JO.eff rfl rfl rfl (JEff.callV rfl (q17_works) rfl ?_);intro _ _)|(refine JO.eff rfl rfl rfl (JEff.callLL rfl (p17_Round (by exact vta) (by exact vta) (by exact vta) (by exact vta)) rfl ?_);intro _ _ _ _ _ _ _ _ _ _)|(refine JO.eff rfl rfl rfl (JEff.callR rfl (q17_chapter) rfl ?_);intro _ _ _ _)|(refine JO.eff rfl rfl rfl (JEff.callV rfl (p17_Find (by exact vta) (by exact vta) (by exact vta) (by exact vta)) rfl ?_);intro _ _)|(refine WNew ?_;intros)|(refine WPut ?_;intros))
 (refine JO.eff rfl rfl rfl (JEff.buildS (bt:=8) (rep:=rI64) (ys:=[(1:Int),0,-1]) rfl rfl (⟨⟨V_num,nna⟩,⟨V_num,nna⟩,⟨V_num,nna⟩,trivial⟩) rfl rfl rfl (by decide) rfl ?_);intro S12 a12 hl12 hV12)
 repeat (first|(refine Walk ?_;intros)|refine JC.block ?_|(refine JO.eff rfl rfl rfl (JEff.callV rfl (w_EqInts (by exact vta) (by exact vta)) rfl ?_);intro _ _)|(refine JO.eff rfl rfl rfl (JEff.callV rfl (w17_Can g17_9 (by exact vta) (by exact vta) V_mv) rfl ?_);intro _ _)|(refine JO.eff rfl rfl rfl (JEff.callV rfl (r0_EqInts (by exact vta) (by exact vta)) rfl ?_);intro _ _)|(refine JO.eff rfl rfl rfl (JEff.callTry rfl (p17_Try (by exact vta) (by exact vta) (by exact vta)) rfl ?_);intro _ _ _ _ _ _ _ _ _ _ _)|(refine JO.eff rfl rfl rfl (JEff.callV rfl (p17_Can (by exact vta) (by exact vta) (by exact vta)) rfl ?_);intro _ _)|(refine JO.eff rfl rfl rfl (JEff.callV rfl (q17_works) rfl ?_);intro _ _)|(refine JO.eff rfl rfl rfl (JEff.callLL rfl (p17_Round (by exact vta) (by exact vta) (by exact vta) (by exact vta)) rfl ?_);intro _ _ _ _ _ _ _ _ _ _)|(refine JO.eff rfl rfl rfl (JEff.callR rfl (q17_chapter) rfl ?_);intro _ _ _ _)|(refine JO.eff rfl rfl rfl (JEff.callV rfl (p17_Find (by exact vta) (by exact vta) (by exact vta) (by exact vta)) rfl ?_);intro _ _)|(refine WNew ?_;intros)|(refine WPut ?_;intros))
 (refine JX.ret1 Tryz.results10 (ResV.tmp rfl) (List.nil_sublist _) ?_)
 exact ⟨rfl,rfl⟩
end Go.Dr
namespace Go.Dr
open Go.Proofs
set_option maxRecDepth 20000
set_option maxHeartbeats 2000000
set_option linter.unusedSimpArgs false
set_option linter.unusedVariables false
def rSizes:Rp (Snap × List Int):=rSeq rSnap (rArr 5)
instance:Fld rSizes 0 rSnap Prod.fst:=⟨Part.first⟩
instance:Fld rSizes 3 (rArr 5) Prod.snd:=⟨Part.last rfl⟩
instance:TyR Tryz.prog 114 rSizes:=⟨by kernel_rfl⟩
end Go.Dr
namespace Go.Proofs
open Go.Shelf
end Go.Proofs
namespace Go.Dr
open Go.Proofs
end Go.Dr
namespace Go.Dr
open Go.Proofs Go.RowKit Go.Lib
set_option maxRecDepth 20000
set_option maxHeartbeats 2000000
set_option linter.unusedSimpArgs false
set_option linter.unusedVariables false
end Go.Dr
namespace Go.Dr
open Go.Proofs
set_option maxRecDepth 20000
set_option maxHeartbeats 2000000
set_option linter.unusedSimpArgs false
set_option linter.unusedVariables false
end Go.Dr
namespace Go.Dr
open Go.Proofs
set_option maxRecDepth 20000
set_option maxHeartbeats 2000000
set_option linter.unusedSimpArgs false
set_option linter.unusedVariables false
end Go.Dr
namespace Go.Dr
open Go.Proofs
set_option maxRecDepth 20000
set_option maxHeartbeats 2000000
set_option linter.unusedSimpArgs false
set_option linter.unusedVariables false
end Go.Dr
namespace Go.Dr
open Go.Proofs
set_option maxRecDepth 20000
set_option maxHeartbeats 2000000
set_option linter.unusedSimpArgs false
set_option linter.unusedVariables false
end Go.Dr
namespace Go.Dr
open Go.Proofs
set_option maxRecDepth 20000
set_option maxHeartbeats 2000000
set_option linter.unusedSimpArgs false
set_option linter.unusedVariables false
end Go.Dr
namespace Go.Dr
open Go.Proofs
set_option maxRecDepth 20000
set_option maxHeartbeats 2000000
set_option linter.unusedSimpArgs false
set_option linter.unusedVariables false
end Go.Dr
namespace Go.Dr
open Go.Proofs
set_option maxRecDepth 20000
set_option maxHeartbeats 2000000
set_option linter.unusedSimpArgs false
set_option linter.unusedVariables false
end Go.Dr
namespace Go.Dr
open Go.Proofs
set_option maxRecDepth 20000
set_option maxHeartbeats 2000000
set_option linter.unusedSimpArgs false
set_option linter.unusedVariables false
end Go.Dr
namespace Go.Dr
open Go.Proofs
set_option maxRecDepth 20000
set_option maxHeartbeats 2000000
set_option linter.unusedSimpArgs false
set_option linter.unusedVariables false
theorem w9_Worse {S:SHeap} {u v v2:Value} {s:Snap} {p q:List Int} {cs:List Clause} {e:Int} (h:worseV s p q=(cs,e)) (hu:rSnap.V S u s) (hv:(rSlice 8 rI64).V S v p) (hv2:(rSlice 8 rI64).V S v2 q):FnLE Tryz.prog 18 #[u,v,v2] S 32 rClause cs (.int .i64 e):=by
 have hh:=p9_Worse hu hv hv2
 rw [h] at hh;exact hh
end Go.Dr
namespace Go.Dr
open Go.Proofs
set_option maxRecDepth 20000
set_option maxHeartbeats 2000000
set_option linter.unusedSimpArgs false
set_option linter.unusedVariables false
def someB (s:Snap) (q:List Int) (l:List Move) (pod:Int) (k:Nat):Bool:=(l.take k).any (fun y=>!decide (y.pod=pod)&&canV s q y)
theorem someB_step {s:Snap} {q:List Int} {l:List Move} {pod:Int} {k:Nat} {y:Move} (h:l[k]?=some y):someB s q l pod (k+1)=(someB s q l pod k||(!decide (y.pod=pod)&&canV s q y)):=by
 unfold someB
 rw [List.take_add_one,h];simp
theorem someB_all {s:Snap} {q:List Int} {l:List Move} {pod:Int} {y:Move} (hy:y∈l) (h1:¬ y.pod=pod) (h2:canV s q y=true):someB s q l pod l.length=true:=by
 unfold someB
 rw [List.take_length,List.any_eq_true]
 exact ⟨y,hy,by simp [h1,h2]⟩
theorem s11_L17g {P K:Prop} (k:K) (h:Goal K→P:=by
 intro zk
 (first|refine Walk ?_|refine JC.block ?_|refine JC.drawN 3 rfl [0,2,3,4,5,6,1,7,8] [0,8] Tryz_mixed (by decide +kernel) ?_|refine JC.drawN 15 rfl [0,1,2,3,4,5,6,7,8,9,10,11,12,13,14] [0,1,2,3,4,5,6,7,8,9,10,11,13,14] Tryz_mixed (by decide +kernel) ?_|(refine JO.eff rfl rfl rfl (JEff.callV rfl (p7_Check (by exact vta) (by exact vta)) rfl ?_);intro zqa zqb)|(refine JO.eff rfl rfl rfl (JEff.callLE rfl (p9_Worse (by exact vta) (by exact vta) (by exact vta)) rfl ?_);intro zqa zqb zqc zqd zqe zqf)|(refine JO.eff rfl rfl rfl (JEff.callV rfl (r0_EqInts (by exact vta) (by exact vta)) rfl ?_);intro zqa zqb)|(refine JO.eff rfl rfl rfl (JEff.callR rfl (q17_cut (by exact vta)) rfl ?_);intro zqa zqb zqc zqd)|(refine JO.eff rfl rfl rfl (JEff.callV rfl (q17_works) rfl ?_);intro zqa zqb)|(refine JO.eff rfl rfl rfl (JEff.callV rfl (q17_moved _ (by exact vta)) rfl ?_);intro zqa zqb)|(refine JO.eff rfl rfl rfl (JEff.callLL rfl (p17_Round (by exact vta) (by exact vta) (by exact vta) (by exact vta)) rfl ?_);intro zqa zqb zqc zqd zqe zqf zqg))
 (repeat (first|revert zqg|revert zqf|revert zqe|revert zqd|revert zqc|revert zqb|revert zqa))
 exact zk.k):P:=h ⟨k⟩
theorem a17_HopLeads {S:SHeap} {u v lv:Value} {s:Snap} {p:List Int} {l:List Move} (hu:rSnap.V S u s) (hv:(rSlice 8 rI64).V S v p) (hl:(rSlice 16 rMove).V S lv l):FnV Tryz.prog 11 #[u,v,lv] S (.bool true):=by
 obtain ⟨cs,rfl,hcs⟩:=V_agg rfl hu
 obtain ⟨a0,c0,rfl,hlc,hl8,hlb,_⟩:=V_slice.1 hl
 obtain ⟨pa,pc,rfl,_,_,hpb,_⟩:=V_slice.1 hv
 unfold big at hlb hpb
 (refine Fn.enter (args:=[.agg cs.toArray,.slice pa p.length pc,.slice a0 l.length c0]) Tryz.func11 rfl Tryz.ntmps11 rfl ?_;intro w0)
 repeat (refine s11_L17g ?_;intros)
 refine JO.eff rfl rfl rfl (JEff.box rfl rfl ?_);intro bb hbb
 repeat (refine s11_L17g ?_;intros)
 refine JO.pure rfl rfl rfl (JPure.loadM (rep:=rSnap) (x0:=s) (mid:=cs) rfl (by (first|exact List.mem_cons_self|exact List.mem_cons_of_mem _ List.mem_cons_self|exact List.mem_cons_of_mem _ (List.mem_cons_of_mem _ List.mem_cons_self))) (by show cs.take 3=cs;exact List.take_of_length_le (by rw [rSnap.len hcs];exact Nat.le_refl _)) (rSnap.mono (by exact lea) hcs) (.inl rfl) rfl ?_)
 repeat (refine s11_L17g ?_;intros)
 refine JO.pure rfl rfl rfl (JPure.sliceS (xs:=l) (rep:=rMove) (bt:=16) rfl (by exact vta) rfl rfl rfl (by omega) (by omega) (by omega) ?_);intro a1 c1 y1 hy1 hV1 hyl1 hyb1
 have e1:y1=l.take 6:=hy1.trans (cut_len l 6)
 subst e1
 refine JO.eff rfl rfl rfl (JEff.callR rfl (q17_cut (Rp.val_V (rSnap.mono (by exact lea) hcs))) rfl ?_);intro cw S1 hl1 hcw
 repeat (refine s11_L17g ?_;intros)
 refine JO.eff rfl rfl rfl (JEff.storeW rfl rfl hcw nna (List.Perm.refl _) (by show 3=cs.length;exact (rSnap.len hcs).symm) (by intro l hl;cases hl) ?_)
 refine JO.freezeV hcw nna hbb (by intro l hl;cases hl) ?_;intro S2 hl2 hpb
 have hl6:(l.take 6).length≤6:=by simp;omega
 generalize cutS s=s' at *
 generalize l.take 6=l' at *
 by_cases hc:checkP s' p=0
 ·obtain ⟨q,st,n,hr,hcq,hql,hrun,hwo,h0,h1,h2,h3⟩:=round_leads (shun:=[]) hc (show l'.length≤48 by omega)
  have hnr:Rng n:=by unfold Rng;omega
  repeat (first|(refine Walk ?_;intros)|refine JC.block ?_|refine JC.drawN 3 rfl [0,2,3,4,5,6,1,7,8] [0,8] Tryz_mixed (by decide +kernel) ?_|refine JC.drawN 15 rfl [0,1,2,3,4,5,6,7,8,9,10,11,12,13,14] [0,1,2,3,4,5,6,7,8,9,10,11,13,14] Tryz_mixed (by decide +kernel) ?_|(refine JO.eff rfl rfl rfl (JEff.callLL rfl (w17_Round hr (by exact vta) (by exact vta) (by exact vta) V_nil) rfl ?_);intro _ _ _ _ _ _ _ _ _ _)|(refine JO.eff rfl rfl rfl (JEff.callV rfl (p7_Check (by exact vta) (by exact vta)) rfl ?_);intro _ _)|(refine JO.eff rfl rfl rfl (JEff.callLE rfl (p9_Worse (by exact vta) (by exact vta) (by exact vta)) rfl ?_);intro _ _ _ _ _ _)|(refine JO.eff rfl rfl rfl (JEff.callV rfl (r0_EqInts (by exact vta) (by exact vta)) rfl ?_);intro _ _)|(refine JO.eff rfl rfl rfl (JEff.callR rfl (q17_cut (by exact vta)) rfl ?_);intro _ _ _ _)|(refine JO.eff rfl rfl rfl (JEff.callV rfl (q17_works) rfl ?_);intro _ _)|(refine JO.eff rfl rfl rfl (JEff.callV rfl (q17_moved _ (by exact vta)) rfl ?_);intro _ _)|(refine JO.eff rfl rfl rfl (JEff.callLL rfl (p17_Round (by exact vta) (by exact vta) (by exact vta) (by exact vta)) rfl ?_);intro _ _ _ _ _ _ _ _ _ _))
  rw [decide_eq_true hc]
  repeat (first|(refine Walk ?_;intros)|refine JC.block ?_|refine JC.drawN 3 rfl [0,2,3,4,5,6,1,7,8] [0,8] Tryz_mixed (by decide +kernel) ?_|refine JC.drawN 15 rfl [0,1,2,3,4,5,6,7,8,9,10,11,12,13,14] [0,1,2,3,4,5,6,7,8,9,10,11,13,14] Tryz_mixed (by decide +kernel) ?_|(refine JO.eff rfl rfl rfl (JEff.callLs rfl (w10_Run hrun (by exact vta) (by exact vta) (by exact vta)) rfl ?_);intro _ _ _ _ _ _)|(refine JO.eff rfl rfl rfl (JEff.callLE rfl (w9_Worse hwo (by exact vta) (by exact vta) (by exact vta)) rfl ?_);intro _ _ _ _ _ _)|(refine JO.eff rfl rfl rfl (JEff.callV rfl (p7_Check (by exact vta) (by exact vta)) rfl ?_);intro _ _)|(refine JO.eff rfl rfl rfl (JEff.callLE rfl (p9_Worse (by exact vta) (by exact vta) (by exact vta)) rfl ?_);intro _ _ _ _ _ _)|(refine JO.eff rfl rfl rfl (JEff.callV rfl (r0_EqInts (by exact vta) (by exact vta)) rfl ?_);intro _ _)|(refine JO.eff rfl rfl rfl (JEff.callR rfl (q17_cut (by exact vta)) rfl ?_);intro _ _ _ _)|(refine JO.eff rfl rfl rfl (JEff.callV rfl (q17_works) rfl ?_);intro _ _)|(refine JO.eff rfl rfl rfl (JEff.callV rfl (q17_moved _ (by exact vta)) rfl ?_);intro _ _)|(refine JO.eff rfl rfl rfl (JEff.callLL rfl (p17_Round (by exact vta) (by exact vta) (by exact vta) (by exact vta)) rfl ?_);intro _ _ _ _ _ _ _ _ _ _))
  rw [decide_eq_true (rfl:(st.length:Int)=(st.length:Int))]
  repeat (first|(refine Walk ?_;intros)|refine JC.block ?_|refine JC.drawN 3 rfl [0,2,3,4,5,6,1,7,8] [0,8] Tryz_mixed (by decide +kernel) ?_|refine JC.drawN 15 rfl [0,1,2,3,4,5,6,7,8,9,10,11,12,13,14] [0,1,2,3,4,5,6,7,8,9,10,11,13,14] Tryz_mixed (by decide +kernel) ?_|(refine JO.eff rfl rfl rfl (JEff.callV rfl (w_EqInts (by exact vta) (by exact vta)) rfl ?_);intro _ _)|(refine JO.eff rfl rfl rfl (JEff.callV rfl (p7_Check (by exact vta) (by exact vta)) rfl ?_);intro _ _)|(refine JO.eff rfl rfl rfl (JEff.callLE rfl (p9_Worse (by exact vta) (by exact vta) (by exact vta)) rfl ?_);intro _ _ _ _ _ _)|(refine JO.eff rfl rfl rfl (JEff.callV rfl (r0_EqInts (by exact vta) (by exact vta)) rfl ?_);intro _ _)|(refine JO.eff rfl rfl rfl (JEff.callR rfl (q17_cut (by exact vta)) rfl ?_);intro _ _ _ _)|(refine JO.eff rfl rfl rfl (JEff.callV rfl (q17_works) rfl ?_);intro _ _)|(refine JO.eff rfl rfl rfl (JEff.callV rfl (q17_moved _ (by exact vta)) rfl ?_);intro _ _)|(refine JO.eff rfl rfl rfl (JEff.callLL rfl (p17_Round (by exact vta) (by exact vta) (by exact vta) (by exact vta)) rfl ?_);intro _ _ _ _ _ _ _ _ _ _))
  rw [decide_eq_false (show ¬ n < 0 by omega)]
  repeat (refine s11_L17g ?_;intros)
  rw [decide_eq_false (show ¬ 2*((l'.length:Int)+n) < (st.length:Int) by omega)]
  repeat (refine s11_L17g ?_;intros)
  rw [decide_eq_false (show ¬ (l'.length:Int) < n by omega)]
  repeat (refine s11_L17g ?_;intros)
  refine JC.loopF0 (σ:=Nat) [(1,_),(2,_),(7,_)] (fun z=>[(16,.int .i64 z)]) (fun Si z=>z≤p.length) (fun z=>p.length - z) (0) (by exact sba) (by exact sba) (Nat.zero_le _) ?_;rintro Si k hli hii;(try dsimp only at hii);dsimp only [List.cons_append,List.nil_append]
  repeat (refine s11_L17g ?_;intros)
  refine JC.cond rfl (fun hc2=>?_) (fun hc2=>?_)
  ·have hk':=dlt hc2
   obtain ⟨x,hx,_⟩:=drop_at hk'
   obtain ⟨y,hy,_⟩:=drop_at (l:=q) (show k < q.length by omega)
   have h3k:=h3 k
   rw [at0_some hx,at0_some hy] at h3k
   repeat (refine s11_L17g ?_;intros)
   by_cases e:y=x
   ·rw [decide_eq_true e]
    repeat (refine s11_L17g ?_;intros)
    exact JX.roundF (k+1) (by exact lea) (by omega) (by (try dsimp only);omega) rfl (by exact sba) (by exact sba)
   ·rw [decide_eq_false e]
    have hm:movedB l' k=true:=movedB_mem.2 (h3k e)
    repeat (refine s11_L17g ?_;intros)
    rw [hm]
    repeat (refine s11_L17g ?_;intros)
    exact JX.roundF (k+1) (by exact lea) (by omega) (by (try dsimp only);omega) rfl (by exact sba) (by exact sba)
  ·repeat (refine s11_L17g ?_;intros)
   (refine JX.ret1 Tryz.results11 (ResV.tmp rfl) (List.nil_sublist _) ?_)
   exact ⟨rfl,rfl⟩
 ·repeat (first|(refine Walk ?_;intros)|refine JC.block ?_|refine JC.drawN 3 rfl [0,2,3,4,5,6,1,7,8] [0,8] Tryz_mixed (by decide +kernel) ?_|refine JC.drawN 15 rfl [0,1,2,3,4,5,6,7,8,9,10,11,12,13,14] [0,1,2,3,4,5,6,7,8,9,10,11,13,14] Tryz_mixed (by decide +kernel) ?_|(refine JO.eff rfl rfl rfl (JEff.callLL rfl (w17_Round (round_bad hc) (by exact vta) (by exact vta) (by exact vta) V_nil) rfl ?_);intro _ _ _ _ _ _ _ _ _ _)|(refine JO.eff rfl rfl rfl (JEff.callV rfl (p7_Check (by exact vta) (by exact vta)) rfl ?_);intro _ _)|(refine JO.eff rfl rfl rfl (JEff.callLE rfl (p9_Worse (by exact vta) (by exact vta) (by exact vta)) rfl ?_);intro _ _ _ _ _ _)|(refine JO.eff rfl rfl rfl (JEff.callV rfl (r0_EqInts (by exact vta) (by exact vta)) rfl ?_);intro _ _)|(refine JO.eff rfl rfl rfl (JEff.callR rfl (q17_cut (by exact vta)) rfl ?_);intro _ _ _ _)|(refine JO.eff rfl rfl rfl (JEff.callV rfl (q17_works) rfl ?_);intro _ _)|(refine JO.eff rfl rfl rfl (JEff.callV rfl (q17_moved _ (by exact vta)) rfl ?_);intro _ _)|(refine JO.eff rfl rfl rfl (JEff.callLL rfl (p17_Round (by exact vta) (by exact vta) (by exact vta) (by exact vta)) rfl ?_);intro _ _ _ _ _ _ _ _ _ _))
  rw [decide_eq_false hc]
  repeat (refine s11_L17g ?_;intros)
  (refine JX.ret1 Tryz.results11 (ResV.tmp rfl) (List.nil_sublist _) ?_)
  exact ⟨rfl,rfl⟩
theorem s12_L17g {P K:Prop} (k:K) (h:Goal K→P:=by
 intro zk
 (first|refine Walk ?_|refine JC.block ?_|refine JC.drawN 1 rfl [0,2,3,4,5,6,1,7,8] [0,8] Tryz_mixed (by decide +kernel) ?_|refine JC.drawN 14 rfl [0,1,2,3,4,5,6,7,8,9,10,11,12,13,14,15,16,17,18,19] [0,1,2,3,4,5,6,7,8,9,10,11,12,13,14,15,17,18,19] Tryz_mixed (by decide +kernel) ?_|(refine JO.eff rfl rfl rfl (JEff.callR rfl (q17_cut (by exact vta)) rfl ?_);intro zqa zqb zqc zqd)|(refine JO.eff rfl rfl rfl (JEff.callV rfl (p17_Can (by exact vta) (by exact vta) (by exact vta)) rfl ?_);intro zqa zqb)|(refine JO.eff rfl rfl rfl (JEff.callV rfl (q17_works) rfl ?_);intro zqa zqb)|(refine JO.eff rfl rfl rfl (JEff.callV rfl (p17_Find (by exact vta) (by exact vta) (by exact vta) (by exact vta)) rfl ?_);intro zqa zqb))
 (repeat (first|revert zqg|revert zqf|revert zqe|revert zqd|revert zqc|revert zqb|revert zqa))
 exact zk.k):P:=h ⟨k⟩
theorem a17_HopShuns {S:SHeap} {u v lv:Value} {s:Snap} {p:List Int} {l:List Move} (hu:rSnap.V S u s) (hv:(rSlice 8 rI64).V S v p) (hl:(rSlice 16 rMove).V S lv l):FnV Tryz.prog 12 #[u,v,lv] S (.bool true):=by
 obtain ⟨cs,rfl,hcs⟩:=V_agg rfl hu
 obtain ⟨a0,c0,rfl,hlc,hl8,hlb,_⟩:=V_slice.1 hl
 obtain ⟨pa,pc,rfl,_,_,hpb,_⟩:=V_slice.1 hv
 unfold big at hlb hpb
 (refine Fn.enter (args:=[.agg cs.toArray,.slice pa p.length pc,.slice a0 l.length c0]) Tryz.func12 rfl Tryz.ntmps12 rfl ?_;intro w0)
 repeat (refine s12_L17g ?_;intros)
 refine JO.eff rfl rfl rfl (JEff.box rfl rfl ?_);intro bb hbb
 repeat (refine s12_L17g ?_;intros)
 refine JO.pure rfl rfl rfl (JPure.loadM (rep:=rSnap) (x0:=s) (mid:=cs) rfl (by (first|exact List.mem_cons_self|exact List.mem_cons_of_mem _ List.mem_cons_self|exact List.mem_cons_of_mem _ (List.mem_cons_of_mem _ List.mem_cons_self))) (by show cs.take 3=cs;exact List.take_of_length_le (by rw [rSnap.len hcs];exact Nat.le_refl _)) (rSnap.mono (by exact lea) hcs) (.inl rfl) rfl ?_)
 repeat (refine s12_L17g ?_;intros)
 refine JO.pure rfl rfl rfl (JPure.sliceS (xs:=l) (rep:=rMove) (bt:=16) rfl (by exact vta) rfl rfl rfl (by omega) (by omega) (by omega) ?_);intro a1 c1 y1 hy1 hV1 hyl1 hyb1
 have e1:y1=l.take 6:=hy1.trans (cut_len l 6)
 subst e1
 refine JO.eff rfl rfl rfl (JEff.callR rfl (q17_cut (Rp.val_V (rSnap.mono (by exact lea) hcs))) rfl ?_);intro cw S1 hl1 hcw
 repeat (refine s12_L17g ?_;intros)
 refine JO.eff rfl rfl rfl (JEff.storeW rfl rfl hcw nna (List.Perm.refl _) (by show 3=cs.length;exact (rSnap.len hcs).symm) (by intro l hl;cases hl) ?_)
 refine JO.freezeV hcw nna hbb (by intro l hl;cases hl) ?_;intro S2 hl2 hpb
 have hl6:(l.take 6).length≤6:=by simp;omega
 generalize cutS s=s' at *
 generalize l.take 6=l' at *
 repeat (refine s12_L17g ?_;intros)
 (refine JO.eff rfl rfl rfl (JEff.buildS (bt:=8) (rep:=rI64) (ys:=[(0:Int)]) rfl rfl (⟨⟨V_num,nna⟩,trivial⟩) rfl rfl rfl (by decide) rfl ?_);intro S3 a3 hl3 hV3)
 rcases hf:findV s' p l' [0] with ⟨a,n,b⟩
 cases b
 ·obtain ⟨rfl,rfl⟩:=find_none0 hf
  repeat (first|(refine Walk ?_;intros)|refine JC.block ?_|refine JC.drawN 1 rfl [0,2,3,4,5,6,1,7,8] [0,8] Tryz_mixed (by decide +kernel) ?_|refine JC.drawN 14 rfl [0,1,2,3,4,5,6,7,8,9,10,11,12,13,14,15,16,17,18,19] [0,1,2,3,4,5,6,7,8,9,10,11,12,13,14,15,17,18,19] Tryz_mixed (by decide +kernel) ?_|(refine JO.eff rfl rfl rfl (JEff.callV rfl (w17_Find hf (by exact vta) (by exact vta) (by exact vta) hV3) rfl ?_);intro _ _)|(refine JO.eff rfl rfl rfl (JEff.callR rfl (q17_cut (by exact vta)) rfl ?_);intro _ _ _ _)|(refine JO.eff rfl rfl rfl (JEff.callV rfl (p17_Can (by exact vta) (by exact vta) (by exact vta)) rfl ?_);intro _ _)|(refine JO.eff rfl rfl rfl (JEff.callV rfl (q17_works) rfl ?_);intro _ _)|(refine JO.eff rfl rfl rfl (JEff.callV rfl (p17_Find (by exact vta) (by exact vta) (by exact vta) (by exact vta)) rfl ?_);intro _ _))
  (refine JX.ret1 Tryz.results12 (ResV.tmp rfl) (List.nil_sublist _) ?_)
  exact ⟨rfl,rfl⟩
 ·obtain ⟨k,x,hx,rfl,h0,h1,hc,hn0,hn1,hny,hnt,hns,hrun,y,hy,hyx,hcan⟩:=find_shuns hf
  have hn0':¬ n=0:=fun e=>hns (by rw [e];simp)
  have hxk:l'[((k:Int)).toNat]?=some x:=by rw [Int.toNat_natCast];exact hx
  have hkl:k < l'.length:=(List.getElem?_eq_some_iff.1 hx).1
  obtain ⟨w,hw,_⟩:=drop_at (l:=p) (show x.pod.toNat < p.length by omega)
  rw [at0_some hw] at hny
  obtain ⟨_,_,hp24,hn8,_,_,_⟩:=placed_hyps hc
  have hxr:Rng x.pod:=by unfold Rng;omega
  have hnr:Rng n:=by unfold Rng;omega
  repeat (first|(refine Walk ?_;intros)|refine JC.block ?_|refine JC.drawN 1 rfl [0,2,3,4,5,6,1,7,8] [0,8] Tryz_mixed (by decide +kernel) ?_|refine JC.drawN 14 rfl [0,1,2,3,4,5,6,7,8,9,10,11,12,13,14,15,16,17,18,19] [0,1,2,3,4,5,6,7,8,9,10,11,12,13,14,15,17,18,19] Tryz_mixed (by decide +kernel) ?_|(refine JO.eff rfl rfl rfl (JEff.callV rfl (w17_Find hf (by exact vta) (by exact vta) (by exact vta) hV3) rfl ?_);intro _ _)|(refine JO.eff rfl rfl rfl (JEff.callR rfl (q17_cut (by exact vta)) rfl ?_);intro _ _ _ _)|(refine JO.eff rfl rfl rfl (JEff.callV rfl (p17_Can (by exact vta) (by exact vta) (by exact vta)) rfl ?_);intro _ _)|(refine JO.eff rfl rfl rfl (JEff.callV rfl (q17_works) rfl ?_);intro _ _)|(refine JO.eff rfl rfl rfl (JEff.callV rfl (p17_Find (by exact vta) (by exact vta) (by exact vta) (by exact vta)) rfl ?_);intro _ _))
  rw [decide_eq_false (show ¬ (k:Int) < 0 by omega)]
  repeat (refine s12_L17g ?_;intros)
  rw [decide_eq_false (show ¬ (l'.length:Int)≤(k:Int) by omega)]
  repeat (refine s12_L17g ?_;intros)
  rw [decide_eq_false hn0']
  repeat (refine s12_L17g ?_;intros)
  rw [decide_eq_false hnt]
  repeat (refine s12_L17g ?_;intros)
  rw [decide_eq_false (show ¬ x.pod < 0 by omega)]
  repeat (refine s12_L17g ?_;intros)
  rw [decide_eq_false (show ¬ (p.length:Int)≤x.pod by omega)]
  repeat (refine s12_L17g ?_;intros)
  rw [decide_eq_false hny]
  repeat (refine s12_L17g ?_;intros)
  (refine JO.eff rfl rfl rfl (JEff.buildS (bt:=24) (rep:=rStep) (ys:=[offS x.pod,bindS ⟨x.pod,n⟩]) rfl rfl (⟨⟨V_offF hxr,nna⟩,⟨V_bindF (x:=⟨x.pod,n⟩) hxr hnr,nna⟩,trivial⟩) rfl rfl rfl (by decide) rfl ?_);intro S5 a5 hl5 hV5)
  repeat (first|(refine Walk ?_;intros)|refine JC.block ?_|refine JC.drawN 1 rfl [0,2,3,4,5,6,1,7,8] [0,8] Tryz_mixed (by decide +kernel) ?_|refine JC.drawN 14 rfl [0,1,2,3,4,5,6,7,8,9,10,11,12,13,14,15,16,17,18,19] [0,1,2,3,4,5,6,7,8,9,10,11,12,13,14,15,17,18,19] Tryz_mixed (by decide +kernel) ?_|(refine JO.eff rfl rfl rfl (JEff.callLs rfl (w10_Run hrun (by exact vta) (by exact vta) (by exact vta)) rfl ?_);intro _ _ _ _ _ _)|(refine JO.eff rfl rfl rfl (JEff.callR rfl (q17_cut (by exact vta)) rfl ?_);intro _ _ _ _)|(refine JO.eff rfl rfl rfl (JEff.callV rfl (p17_Can (by exact vta) (by exact vta) (by exact vta)) rfl ?_);intro _ _)|(refine JO.eff rfl rfl rfl (JEff.callV rfl (q17_works) rfl ?_);intro _ _)|(refine JO.eff rfl rfl rfl (JEff.callV rfl (p17_Find (by exact vta) (by exact vta) (by exact vta) (by exact vta)) rfl ?_);intro _ _))
  generalize p.set x.pod.toNat n=q at *
  refine JC.loopF0 (σ:=Nat) [(2,_),(3,_),(11,_),(12,_),(13,_),(14,_)] (fun z=>[(15,.bool (someB s' q l' x.pod z)),(16,.int .i64 z)]) (fun Si z=>z≤l'.length) (fun z=>l'.length - z) (0) (by exact sba) (by exact sba) (Nat.zero_le _) ?_;rintro Si m hli hii;(try dsimp only at hii);dsimp only [List.cons_append,List.nil_append]
  repeat (refine s12_L17g ?_;intros)
  refine JC.cond rfl (fun hc2=>?_) (fun hc2=>?_)
  ·have hk':=dlt hc2
   obtain ⟨z,hz,_⟩:=drop_at hk'
   have hst:=@someB_step s' q l' x.pod m z hz
   cases hb:someB s' q l' x.pod m
   ·rw [hb,Bool.false_or] at hst
    repeat (refine s12_L17g ?_;intros)
    by_cases e:z.pod=x.pod
    ·rw [decide_eq_true e] at hst ⊢
     repeat (refine s12_L17g ?_;intros)
     exact JX.roundF (m+1) (by exact lea) (by omega) (by (try dsimp only);omega) rfl (by (try dsimp only);rw [hst];exact sba) (by exact sba)
    ·rw [decide_eq_false e] at hst ⊢
     repeat (refine s12_L17g ?_;intros)
     exact JX.roundF (m+1) (by exact lea) (by omega) (by (try dsimp only);omega) rfl (by (try dsimp only);rw [hst];exact sba) (by exact sba)
   ·rw [hb,Bool.true_or] at hst
    repeat (refine s12_L17g ?_;intros)
    exact JX.roundF (m+1) (by exact lea) (by omega) (by (try dsimp only);omega) rfl (by (try dsimp only);rw [hst];exact sba) (by exact sba)
  ·have hk':=dnlt hc2
   obtain rfl:m=l'.length:=by omega
   rw [someB_all hy hyx hcan]
   repeat (refine s12_L17g ?_;intros)
   (refine JX.ret1 Tryz.results12 (ResV.tmp rfl) (List.nil_sublist _) ?_)
   exact ⟨rfl,rfl⟩
end Go.Dr
