/- Part 8 of the rules and of the walks that the proofs of this seat rest on; no condition. -/
import Derived.Test.YtlckpojpnfidoaaGreatA06
import Derived.Shelf.SlSortCmp.NoneTotal
import Derived.Shelf.Sort.Plain
import Derived.Lib.QuietBelow
import Derived.Shelf.SlicesE.DeleteFunc
import Derived.Shelf.SlicesE.Compact
import Derived.Shelf.SlGeneric
import Derived.Shelf.Slices.In.SortNone
import Derived.Ground.SlsfProg
import Derived.ControlIn
import Derived.Scope
set_option linter.unusedVariables false
set_option linter.unusedSimpArgs false
namespace Go.Dr
open Go.Proofs
set_option maxRecDepth 20000
set_option maxHeartbeats 2000000
set_option linter.unusedSimpArgs false
set_option linter.unusedVariables false
theorem capTo_next (s:Snap) (p:List Int) (n:Nat):capTo s p (n+1) 0=capTo s p n 0++capsK s p n 5:=by
 unfold capTo capsK
 rw [List.range_succ (n:=n)];simp
def ownTo (s:Snap) (p:List Int):Nat→Nat→List Clause
 | 0,o=>capsC s p++kindsTo s p 5++spreadTo s p o
 | 1,o=>capsC s p++kindsTo s p 5++spreadTo s p s.owners.length++minTo s p o
 | _+2,_=>capsC s p++kindsTo s p 5++spreadTo s p s.owners.length++minTo s p s.owners.length
theorem ownTo_next (s:Snap) (p:List Int) (t:Nat):ownTo s p t s.owners.length=ownTo s p (t+1) 0:=by
 match t with
 | 0=>simp [ownTo,minTo]
 | 1=>simp [ownTo]
 | t+2=>simp [ownTo]
theorem ownTo_step (s:Snap) (p:List Int) (t o:Nat) (ht:t < 2):ownTo s p t (o+1)=ownTo s p t o++ownC1 s p ((t:Int)+7) o:=by
 match t with
 | 0=>
  have:¬ ((0:Nat):Int)+7=8:=by omega
  unfold ownC1
  rw [if_neg this]
  show capsC s p++kindsTo s p 5++spreadTo s p (o+1)=capsC s p++kindsTo s p 5++spreadTo s p o++spreadC1 s p o
  rw [spreadTo_step,List.append_assoc (capsC s p++kindsTo s p 5)]
 | 1=>
  have:((1:Nat):Int)+7=8:=by omega
  unfold ownC1
  rw [if_pos this]
  show capsC s p++kindsTo s p 5++spreadTo s p s.owners.length++minTo s p (o+1)=capsC s p++kindsTo s p 5++spreadTo s p s.owners.length++minTo s p o++[minC1 s p o]
  rw [minTo_step,List.append_assoc (capsC s p++kindsTo s p 5++spreadTo s p s.owners.length)]
theorem ownTo_len (s:Snap) (p:List Int) (hok:checkP s p=0) (t o:Nat) (ht:t≤2) (ho:o≤s.owners.length):(ownTo s p t o).length≤400:=by
 obtain ⟨hs,hlen,hp24,hn8,ho8,hpr,hprn⟩:=placed_hyps hok
 have hcl:(capsC s p).length≤40:=by unfold capsC;rw [capTo_len];omega
 have hkl:=kindsTo_len s p 5
 have h1:=spreadTo_len s p o
 have h2:=minTo_len s p o
 have h3:=spreadTo_len s p s.owners.length
 have h4:=minTo_len s p s.owners.length
 match t with
 | 0=>simp only [ownTo,List.length_append];omega
 | 1=>simp only [ownTo,List.length_append];omega
 | t+2=>simp only [ownTo,List.length_append];omega
theorem ownC1_len (s:Snap) (p:List Int) (kind:Int) (o:Nat):(ownC1 s p kind o).length≤1:=by
 unfold ownC1 spreadC1
 split
 ·simp
 ·split<;>simp
theorem p8_ofOwner {S:SHeap} {kp:Addr} {s:Snap} {p:List Int} {us:List (List Int)} {mb:Nat} {l:List (ByteArray × Value)} {o t:Nat} (hok:checkP s p=0) (ho:o < s.owners.length) (ht:t < 2)
  (hL:PtrTo S kp rLook ⟨s,p,us,.map (some mb)⟩) (hco:Cache s S l) :
  FnC Tryz.prog 250 #[.pointer (some kp),.iface 280 (.int .i64 o),.int .i64 ((t:Int)+7)] S Value.string mb (Cache s) l (fun w S'=>(rSlice 32 rClause).V S' w (ownC1 s p ((t:Int)+7) o)):=by
 match t with
 | 0=>exact p8_ofSpread hok ho hL hco
 | 1=>exact p8_ofMin hok ho hL hco
theorem p8_all {S:SHeap} {kp:Addr} {s:Snap} {p:List Int} {mb:Nat} {l:List (ByteArray × Value)} (hok:checkP s p=0)
  (hL:PtrTo S kp rLook ⟨s,p,usedAll s p,.map (some mb)⟩) (hco:Cache s S l) :
  FnC Tryz.prog 168 #[.pointer (some kp)] S Value.string mb (Cache s) l (fun w S'=>(rSlice 32 rClause).V S' w (allC s p)):=by
 obtain ⟨hs,hlen,hp24,hn8,ho8,hpr,hprn⟩:=placed_hyps hok
 (refine Fn.enter (args:=[.pointer (some kp)]) Tryz.func168 rfl Tryz.ntmps168 rfl ?_;intro w0)
 repeat (first|(refine Walk ?_;intros)|refine JC.block ?_)
 (first|refine JC.newRow 41 (Rp.sz rClause) ?_|refine JO.newRow 41 (Rp.sz rClause) ?_|refine JX.newRow 41 (Rp.sz rClause) ?_)
 refine JC.loopF (σ:=Nat × Option Addr × Nat × List Value × List (ByteArray × Value)) [(0,_),(13,_)] (fun q=>[(2,.slice q.2.1 ((fun n=>capTo s p n 0) q.1).length q.2.2.1),(14,((fun n=>.int .i64 n) q.1))]) (fun q=>[.row w0.heap.size 41 (Rp.sz rClause) (.slice q.2.1 ((fun n=>capTo s p n 0) q.1).length q.2.2.1) ((fun n=>capTo s p n 0) q.1).length (flatCells q.2.2.2.1),.blk mb (mapK Value.string q.2.2.2.2)]) (fun Sn q=>q.1≤s.nodes.length∧allV rClause Sn q.2.2.2.1 ((fun n=>capTo s p n 0) q.1)∧Cache s Sn q.2.2.2.2) (fun q=>s.nodes.length - q.1) (0,none,0,[],l) (by exact sba) (by exact sba) (by first|rfl|simp) (⟨Nat.zero_le _,trivial,hco⟩) ?_;rintro Sn ⟨n,ran,rcn,vsn,lmn⟩ hln ⟨hn,hvn,hcon⟩;(try dsimp only at hn hvn hcon);dsimp only [List.cons_append,List.nil_append]
 have hxl:=capTo_len s p n 0
 repeat (first|(refine Walk ?_;intros)|refine JC.block ?_)
 refine JC.cond rfl (fun hc=>?_) (fun hc=>?_)
 ·have hn':=dlt hc
  have hst:=capTo_next s p n
  have hcl:=capsK_len s p n 5
  repeat (first|(refine Walk ?_;intros)|refine JC.block ?_)
  refine JO.pure rfl rfl rfl (JPure.mkIface rfl rfl ?_)
  repeat (first|(refine Walk ?_;intros)|refine JC.block ?_)
  refine JO.eff rfl rfl rfl (JEff.callC (kv:=Value.string) rfl (List.Perm.swap _ _ _) (by intro l hl;cases hl) (p8_ofNode hok hn' (by exact pta) (hcon.mono (by exact lea))) rfl ?_);intro w S2 l2 hl2 hw hco2
  obtain ⟨wa,wc,rfl,_⟩:=V_slice.1 hw
  repeat (first|(refine Walk ?_;intros)|refine JC.block ?_)
  refine JO.eff rfl rfl rfl (JEff.appendS (rep:=rClause) rfl rfl hw rfl rfl (List.Perm.swap _ _ _) (by unfold big;omega) (by unfold big;omega) (by intro l hl;cases hl) rfl ?_);intro a2 c2 us1 hus1
  repeat (first|(refine Walk ?_;intros)|refine JC.block ?_)
  exact JX.roundF (n+1,a2,c2,vsn++us1,l2) (by exact lea) ⟨by omega,by (try dsimp only);rw [hst];exact allV.append hus1 (hvn.mono (by exact lea)),hco2.mono (by exact lea)⟩ (by (try dsimp only);omega) (by (try dsimp only);rw [hst];simp [flat_append]) (by (try dsimp only);rw [hst,List.length_append];exact sba) (by exact sba)
 ·have hn':=dnlt hc
  obtain rfl:n=s.nodes.length:=by omega
  have hcl:(capsC s p).length≤40:=by unfold capsC;rw [capTo_len];omega
  repeat (first|(refine Walk ?_;intros)|refine JC.block ?_)
  have h0:capTo s p s.nodes.length 0=capsC s p++kindsTo s p 0:=by simp [kindsTo,capsC]
  rw [h0] at hvn
  rw [h0]
  refine JC.loopF (σ:=Nat × Option Addr × Nat × List Value × List (ByteArray × Value)) [(0,_)] (fun q=>[(2,.slice q.2.1 ((fun j=>capsC s p++kindsTo s p j) q.1).length q.2.2.1),(4,((fun j=>.int .i64 ((j:Int)+2)) q.1))]) (fun q=>[.row w0.heap.size 41 (Rp.sz rClause) (.slice q.2.1 ((fun j=>capsC s p++kindsTo s p j) q.1).length q.2.2.1) ((fun j=>capsC s p++kindsTo s p j) q.1).length (flatCells q.2.2.2.1),.blk mb (mapK Value.string q.2.2.2.2)]) (fun Sj q=>q.1≤5∧allV rClause Sj q.2.2.2.1 ((fun j=>capsC s p++kindsTo s p j) q.1)∧Cache s Sj q.2.2.2.2) (fun q=>5 - q.1) (0,ran,rcn,vsn,lmn) (by exact sba) (by exact sba) (by first|rfl|simp) (⟨Nat.zero_le _,hvn,hcon⟩) ?_;rintro Sj ⟨j,raj,rcj,vsj,lmj⟩ hlj ⟨hj,hvj,hcoj⟩;(try dsimp only at hj hvj hcoj);dsimp only [List.cons_append,List.nil_append]
  have hkl:=kindsTo_len s p j
  have hkl2:j*p.length≤5*24:=Nat.mul_le_mul (by omega) (by omega)
  have hXl:(capsC s p++kindsTo s p j).length≤200:=by rw [List.length_append];omega
  repeat (first|(refine Walk ?_;intros)|refine JC.block ?_)
  refine JC.cond rfl (fun hc=>?_) (fun hc=>?_)
  ·have hj':j < 5:=by have:=of_decide_eq_true hc;omega
   repeat (first|(refine Walk ?_;intros)|refine JC.block ?_)
   have h1:capsC s p++kindsTo s p j=capsC s p++kindsTo s p j++podsTo s p ((j:Int)+2) 0:=by simp [podsTo]
   rw [h1] at hvj
   rw [h1]
   refine JC.loopF (σ:=Nat × Option Addr × Nat × List Value × List (ByteArray × Value)) [(0,_),(4,_),(32,_)] (fun q=>[(2,.slice q.2.1 ((fun i=>capsC s p++kindsTo s p j++podsTo s p ((j:Int)+2) i) q.1).length q.2.2.1),(33,((fun i=>.int .i64 i) q.1))]) (fun q=>[.row w0.heap.size 41 (Rp.sz rClause) (.slice q.2.1 ((fun i=>capsC s p++kindsTo s p j++podsTo s p ((j:Int)+2) i) q.1).length q.2.2.1) ((fun i=>capsC s p++kindsTo s p j++podsTo s p ((j:Int)+2) i) q.1).length (flatCells q.2.2.2.1),.blk mb (mapK Value.string q.2.2.2.2)]) (fun Si q=>q.1≤p.length∧allV rClause Si q.2.2.2.1 ((fun i=>capsC s p++kindsTo s p j++podsTo s p ((j:Int)+2) i) q.1)∧Cache s Si q.2.2.2.2) (fun q=>p.length - q.1) (0,raj,rcj,vsj,lmj) (by exact sba) (by exact sba) (by first|rfl|simp) (⟨Nat.zero_le _,hvj.mono (by exact lea),hcoj.mono (by exact lea)⟩) ?_;rintro Si ⟨i,rai,rci,vsi,lmi⟩ hli ⟨hi,hvi,hcoi⟩;(try dsimp only at hi hvi hcoi);dsimp only [List.cons_append,List.nil_append]
   have hpl:=podsTo_len s p ((j:Int)+2) i
   have hp1:=podC1_len s p ((j:Int)+2) i
   have hYl:(capsC s p++kindsTo s p j++podsTo s p ((j:Int)+2) i).length≤300:=by rw [List.length_append];omega
   repeat (first|(refine Walk ?_;intros)|refine JC.block ?_)
   refine JC.cond rfl (fun hc2=>?_) (fun hc2=>?_)
   ·have hi':=dlt hc2
    have hst:capsC s p++kindsTo s p j++podsTo s p ((j:Int)+2) (i+1)=capsC s p++kindsTo s p j++podsTo s p ((j:Int)+2) i++podC1 s p ((j:Int)+2) i:=by rw [podsTo_step,List.append_assoc (capsC s p++kindsTo s p j)]
    repeat (first|(refine Walk ?_;intros)|refine JC.block ?_)
    refine JO.pure rfl rfl rfl (JPure.mkIface rfl rfl ?_)
    repeat (first|(refine Walk ?_;intros)|refine JC.block ?_)
    refine JO.eff rfl rfl rfl (JEff.callC (kv:=Value.string) rfl (List.Perm.swap _ _ _) (by intro l hl;cases hl) (p8_ofPod hok hi' (by omega) (by omega) (by exact pta) (hcoi.mono (by exact lea))) rfl ?_);intro w S2 l2 hl2 hw hco2
    obtain ⟨wa,wc,rfl,_⟩:=V_slice.1 hw
    repeat (first|(refine Walk ?_;intros)|refine JC.block ?_)
    refine JO.eff rfl rfl rfl (JEff.appendS (rep:=rClause) rfl rfl hw rfl rfl (List.Perm.swap _ _ _) (by unfold big;omega) (by unfold big;omega) (by intro l hl;cases hl) rfl ?_);intro a2 c2 us1 hus1
    repeat (first|(refine Walk ?_;intros)|refine JC.block ?_)
    exact JX.roundF (i+1,a2,c2,vsi++us1,l2) (by exact lea) ⟨by omega,by (try dsimp only);rw [hst];exact allV.append hus1 (hvi.mono (by exact lea)),hco2.mono (by exact lea)⟩ (by (try dsimp only);omega) (by (try dsimp only);rw [hst];(simp [flat_append]<;>omega)) (by (try dsimp only);rw [hst,List.length_append (bs:=podC1 s p ((j:Int)+2) i)];exact sba) (by exact sba)
   ·have hi':=dnlt hc2
    obtain rfl:i=p.length:=by omega
    have h2:capsC s p++kindsTo s p j++podsTo s p ((j:Int)+2) p.length=capsC s p++kindsTo s p (j+1):=by rw [kindsTo_step,List.append_assoc]
    rw [h2] at hvi
    rw [h2]
    repeat (first|(refine Walk ?_;intros)|refine JC.block ?_)
    exact JX.roundF (j+1,rai,rci,vsi,lmi) (by exact lea) ⟨by omega,hvi.mono (by exact lea),hcoi.mono (by exact lea)⟩ (by (try dsimp only);omega) rfl (by exact sba) (by exact sba)
  ·obtain rfl:j=5:=by have:=of_decide_eq_false hc;omega
   repeat (first|(refine Walk ?_;intros)|refine JC.block ?_)
   have h3:capsC s p++kindsTo s p 5=ownTo s p 0 0:=by simp [ownTo,spreadTo,minTo]
   rw [h3] at hvj
   rw [h3]
   refine JC.loopF (σ:=Nat × Option Addr × Nat × List Value × List (ByteArray × Value)) [(0,_)] (fun q=>[(2,.slice q.2.1 ((fun t=>ownTo s p t 0) q.1).length q.2.2.1),(6,((fun t=>.int .i64 ((t:Int)+7)) q.1))]) (fun q=>[.row w0.heap.size 41 (Rp.sz rClause) (.slice q.2.1 ((fun t=>ownTo s p t 0) q.1).length q.2.2.1) ((fun t=>ownTo s p t 0) q.1).length (flatCells q.2.2.2.1),.blk mb (mapK Value.string q.2.2.2.2)]) (fun St q=>q.1≤2∧allV rClause St q.2.2.2.1 ((fun t=>ownTo s p t 0) q.1)∧Cache s St q.2.2.2.2) (fun q=>2 - q.1) (0,raj,rcj,vsj,lmj) (by exact sba) (by exact sba) (by first|rfl|simp) (⟨Nat.zero_le _,hvj.mono (by exact lea),hcoj.mono (by exact lea)⟩) ?_;rintro St ⟨t,rat,rct,vst,lmt⟩ hlt ⟨ht,hvt,hcot⟩;(try dsimp only at ht hvt hcot);dsimp only [List.cons_append,List.nil_append]
   have hXl:=ownTo_len s p hok t 0 (by omega) (by omega)
   repeat (first|(refine Walk ?_;intros)|refine JC.block ?_)
   refine JC.cond rfl (fun hc=>?_) (fun hc=>?_)
   ·have ht':t < 2:=by have:=of_decide_eq_true hc;omega
    repeat (first|(refine Walk ?_;intros)|refine JC.block ?_)
    refine JC.loopF (σ:=Nat × Option Addr × Nat × List Value × List (ByteArray × Value)) [(0,_),(6,_),(53,_)] (fun q=>[(2,.slice q.2.1 ((fun o=>ownTo s p t o) q.1).length q.2.2.1),(54,((fun o=>.int .i64 o) q.1))]) (fun q=>[.row w0.heap.size 41 (Rp.sz rClause) (.slice q.2.1 ((fun o=>ownTo s p t o) q.1).length q.2.2.1) ((fun o=>ownTo s p t o) q.1).length (flatCells q.2.2.2.1),.blk mb (mapK Value.string q.2.2.2.2)]) (fun So q=>q.1≤s.owners.length∧allV rClause So q.2.2.2.1 ((fun o=>ownTo s p t o) q.1)∧Cache s So q.2.2.2.2) (fun q=>s.owners.length - q.1) (0,rat,rct,vst,lmt) (by exact sba) (by exact sba) (by first|rfl|simp) (⟨Nat.zero_le _,hvt.mono (by exact lea),hcot.mono (by exact lea)⟩) ?_;rintro So ⟨o,rao,rco,vso,lmo⟩ hlo ⟨ho,hvo,hcoo⟩;(try dsimp only at ho hvo hcoo);dsimp only [List.cons_append,List.nil_append]
    have hYl:=ownTo_len s p hok t o (by omega) (by omega)
    repeat (first|(refine Walk ?_;intros)|refine JC.block ?_)
    refine JC.cond rfl (fun hc2=>?_) (fun hc2=>?_)
    ·have ho':=dlt hc2
     have hst:=ownTo_step s p t o ht'
     have hp1:=ownC1_len s p ((t:Int)+7) o
     repeat (first|(refine Walk ?_;intros)|refine JC.block ?_)
     refine JO.pure rfl rfl rfl (JPure.mkIface rfl rfl ?_)
     repeat (first|(refine Walk ?_;intros)|refine JC.block ?_)
     refine JO.eff rfl rfl rfl (JEff.callC (kv:=Value.string) rfl (List.Perm.swap _ _ _) (by intro l hl;cases hl) (p8_ofOwner hok ho' (by omega) (by exact pta) (hcoo.mono (by exact lea))) rfl ?_);intro w S2 l2 hl2 hw hco2
     obtain ⟨wa,wc,rfl,_⟩:=V_slice.1 hw
     repeat (first|(refine Walk ?_;intros)|refine JC.block ?_)
     refine JO.eff rfl rfl rfl (JEff.appendS (rep:=rClause) rfl rfl hw rfl rfl (List.Perm.swap _ _ _) (by unfold big;omega) (by unfold big;omega) (by intro l hl;cases hl) rfl ?_);intro a2 c2 us1 hus1
     repeat (first|(refine Walk ?_;intros)|refine JC.block ?_)
     exact JX.roundF (o+1,a2,c2,vso++us1,l2) (by exact lea) ⟨by omega,by (try dsimp only);rw [hst];exact allV.append hus1 (hvo.mono (by exact lea)),hco2.mono (by exact lea)⟩ (by (try dsimp only);omega) (by (try dsimp only);rw [hst];simp [flat_append]) (by (try dsimp only);rw [hst,List.length_append];exact sba) (by exact sba)
    ·have ho':=dnlt hc2
     obtain rfl:o=s.owners.length:=by omega
     rw [ownTo_next] at hvo
     rw [ownTo_next]
     repeat (first|(refine Walk ?_;intros)|refine JC.block ?_)
     exact JX.roundF (t+1,rao,rco,vso,lmo) (by exact lea) ⟨by omega,hvo.mono (by exact lea),hcoo.mono (by exact lea)⟩ (by (try dsimp only);omega) rfl (by exact sba) (by exact sba)
   ·obtain rfl:t=2:=by have:=of_decide_eq_false hc;omega
    have hfin:ownTo s p 2 0=allC s p:=by simp [ownTo,allC]
    rw [hfin] at hvt hXl
    rw [hfin]
    repeat (first|(refine Walk ?_;intros)|refine JC.block ?_)
    refine JX.freezeRow (rep:=rClause) (bt:=32) hvt rfl (by unfold big;omega) (by unfold big;omega) (fun S9 hl9 hV9=>?_)
    refine JX.ret1 Tryz.results168 (ResV.tmp rfl) (List.Sublist.refl _) ?_
    exact ⟨hV9,_,rfl,hcot.mono (by exact lea)⟩
end Go.Dr
namespace Go.Dr
open Go.Proofs
set_option maxRecDepth 20000
set_option maxHeartbeats 2000000
set_option linter.unusedSimpArgs false
set_option linter.unusedVariables false
theorem slice_bytes {α:Type} {bt:Nat} {rep:Rp α} {S:SHeap} {v:Value} {xs:List α} (h:(rSlice bt rep).V S v xs):xs.length*bt≤big:=by
 obtain ⟨_,_,_,_,h,_⟩:=V_slice.1 h;exact h
end Go.Dr
namespace Go.Dr
open Go.Proofs
set_option maxRecDepth 20000
set_option maxHeartbeats 2000000
set_option linter.unusedSimpArgs false
set_option linter.unusedVariables false
theorem p8_All {S:SHeap} {u v:Value} {s:Snap} {p:List Int} (hu:rSnap.V S u s) (hv:(rSlice 8 rI64).V S v p):FnLE Tryz.prog 103 #[u,v] S 32 rClause (allL s p) (.int .i64 (checkP s p)):=by
 obtain ⟨a,c,rfl,_⟩:=V_slice.1 hv
 (refine Fn.enter (args:=[u,.slice a p.length c]) Tryz.func103 rfl Tryz.ntmps103 rfl ?_;intro w0)
 repeat (first|(refine Walk ?_;intros)|refine JC.block ?_|(refine WBox ?_;intros))
 refine JO.eff rfl rfl rfl (JEff.callM (Mc:=[]) rfl (List.Perm.refl _) (mayAll rfl) (p8_see (s:=s) (p:=p) (by exact vta) (by exact vta)) rfl ?_);intro w S2 M2 hl2 hw
 rcases hw with ⟨he,rfl,rfl⟩|⟨hok,kp,mb,rfl,hL,rfl⟩
 ·have he2:decide (checkP s p=0)=false:=by simpa using he
  repeat (first|(refine Walk ?_;intros)|refine JC.block ?_|(refine WBox ?_;intros))
  refine JC.cond rfl (fun h1=>?_) (fun h1=>?_)
  ·repeat (first|(refine Walk ?_;intros)|refine JC.block ?_|(refine WBox ?_;intros))
   (refine JX.ret2 Tryz.results103 (ResV.tmp rfl) (ResV.tmp rfl) (List.nil_sublist _) ?_)
   exact ⟨rfl,_,rfl,by rw [allL,if_neg he];exact V_nil⟩
  ·(exfalso;first|(simp only [decide_eq_true_eq,decide_eq_false_iff_not,Bool.not_eq_true',Bool.not_eq_false',Bool.and_eq_true,Bool.or_eq_true,Bool.and_eq_false_iff,Bool.or_eq_false_iff] at *;omega)|(simp_all;done)|(simp_all;omega))
 ·repeat (first|(refine Walk ?_;intros)|refine JC.block ?_|(refine WBox ?_;intros))
  refine JO.eff rfl rfl rfl (JEff.callC (kv:=Value.string) rfl (List.Perm.refl _) (by intro l hl;cases hl) (p8_all hok hL Cache.nil) rfl ?_);intro w S3 l3 hl3 hw hco3
  repeat (first|(refine Walk ?_;intros)|refine JC.block ?_|(refine WBox ?_;intros))
  (refine JX.ret2 Tryz.results103 (ResV.tmp rfl) (ResV.tmp rfl) (List.nil_sublist _) ?_)
  exact ⟨rfl,_,by rw [hok],by rw [allL,if_pos hok];exact hw⟩
theorem p8_Of1 {S:SHeap} {u:Value} {x:Clause} {q1 q2 q3:Addr} {kind a b:Int} (hu:rClause.V S u x) (h1:PtrTo S q1 rI64 kind) (h2:PtrTo S q2 rI64 a) (h3:PtrTo S q3 rI64 b) :
  FnV Tryz.prog 105 #[u,.pointer (some q1),.pointer (some q2),.pointer (some q3)] S (.bool (isC kind a b x)):=by
 (refine Fn.enter (args:=[u,.pointer (some q1),.pointer (some q2),.pointer (some q3)]) Tryz.func105 rfl Tryz.ntmps105 rfl ?_;intro w0)
 repeat' (first|(refine Walk ?_;intros)|refine JC.block ?_|(refine WBox ?_;intros)|(refine JO.guard rfl rfl rfl rfl ?_ ?_<;>intro _)|(refine JC.cond rfl ?_ ?_<;>intro _))
 all_goals ((refine JX.ret1 Tryz.results105 (ResV.tmp rfl) (List.nil_sublist _) ?_);refine ⟨rfl,?_⟩;simp_all [isC])
theorem s38_L8k {P K:Prop} (k:K) (h:Goal K→P:=by
 intro zk
 (first|refine Walk ?_|refine JC.block ?_|(refine JO.eff rfl rfl rfl (JEff.callLE rfl (p8_All (by exact vta) (by exact vta)) rfl ?_);intro zqa zqb zqc zqd zqe zqf)|(refine WBox ?_))
 (repeat (first|revert zqg|revert zqf|revert zqe|revert zqd|revert zqc|revert zqb|revert zqa))
 exact zk.k):P:=h ⟨k⟩
theorem p8_Of {S:SHeap} {u v:Value} {s:Snap} {p:List Int} (kind a b:Int) (hk:Rng kind) (ha:Rng a) (hb:Rng b) (hu:rSnap.V S u s) (hv:(rSlice 8 rI64).V S v p):FnV Tryz.prog 38 #[u,v,.int .i64 kind,.int .i64 a,.int .i64 b] S (.tuple #[.int .i64 (ofC s p kind a b).1,.bool (ofC s p kind a b).2]):=by
 (refine Fn.enter (args:=[u,v,.int .i64 kind,.int .i64 a,.int .i64 b]) Tryz.func38 rfl Tryz.ntmps38 rfl ?_;intro w0)
 repeat (refine s38_L8k ?_;intros)
 (refine JO.eff rfl rfl rfl (JEff.callV rfl (p_IndexFunc_Clause (isC kind a b) (by exact vta) inferInstance (fun S' hl u x hx=>p8_Of1 hx (by exact pta) (by exact pta) (by exact pta))) rfl ?_);intro _ _)
 unfold ofC
 rcases idx_find (f:=isC kind a b) (xs:=allL s p) with ⟨i,o,h1,h2,h3⟩|⟨h1,h3⟩
 ·rw [h1,h3]
  repeat' (first|(refine s38_L8k ?_;intros)|(refine JO.guard rfl rfl rfl rfl ?_ ?_<;>intro _)|(refine JC.cond rfl ?_ ?_<;>intro _))
  all_goals first
   | ((refine JX.ret2 Tryz.results38 (ResV.tmp rfl) (ResV.tmp rfl) (List.nil_sublist _) ?_);exact ⟨rfl,rfl⟩)
   | (exfalso;first|(simp only [decide_eq_true_eq,decide_eq_false_iff_not,Bool.not_eq_true',Bool.not_eq_false',Bool.and_eq_true,Bool.or_eq_true,Bool.and_eq_false_iff,Bool.or_eq_false_iff] at *;omega)|(simp_all;done)|(simp_all;omega))
 ·rw [h1,h3]
  repeat' (first|(refine s38_L8k ?_;intros)|(refine JO.guard rfl rfl rfl rfl ?_ ?_<;>intro _)|(refine JC.cond rfl ?_ ?_<;>intro _))
  all_goals first
   | ((refine JX.ret2 Tryz.results38 (ResV.tmp rfl) (ResV.tmp rfl) (List.nil_sublist _) ?_);exact ⟨rfl,rfl⟩)
   | (exfalso;first|(simp only [decide_eq_true_eq,decide_eq_false_iff_not,Bool.not_eq_true',Bool.not_eq_false',Bool.and_eq_true,Bool.or_eq_true,Bool.and_eq_false_iff,Bool.or_eq_false_iff] at *;omega)|(simp_all;done)|(simp_all;omega))
theorem s109_L8k {P K:Prop} (k:K) (h:Goal K→P:=by
 intro zk
 (first|refine Walk ?_|refine JC.block ?_|(refine JO.eff rfl rfl rfl (JEff.callLE rfl (p8_All (by exact vta) (by exact vta)) rfl ?_);intro zqa zqb zqc zqd zqe zqf)|(refine WBox ?_)|(refine WNew ?_)|(refine WPut ?_))
 (repeat (first|revert zqg|revert zqf|revert zqe|revert zqd|revert zqc|revert zqb|revert zqa))
 exact zk.k):P:=h ⟨k⟩
theorem p8_but {S:SHeap} {u v:Value} {s:Snap} {p:List Int} {f:FuncId} {fs cs:Array Value} (F:Clause→Bool) (hu:rSnap.V S u s) (hv:(rSlice 8 rI64).V S v p) (hE:Ent Tryz.prog f)
  (hf:∀ (S':SHeap) (v:Value) (x:Clause),S.le S'→rClause.V S' v x→FnV Tryz.prog f (fs.toList++[v]++cs.toList).toArray S' (.bool (F x))):FnL Tryz.prog 109 #[u,v,.func (.func f) fs cs] S 32 rClause ((allL s p).filter F):=by
 (refine Fn.enter (args:=[u,v,.func (.func f) fs cs]) Tryz.func109 rfl Tryz.ntmps109 rfl ?_;intro w0)
 repeat (refine s109_L8k ?_;intros)
 have hLb:=slice_bytes (by assumption:(rSlice 32 rClause).V _ _ (allL s p))
 unfold big at hLb
 generalize hLe:allL s p=L at *
 (first|refine JC.newRow 41 (Rp.sz rClause) ?_|refine JO.newRow 41 (Rp.sz rClause) ?_|refine JX.newRow 41 (Rp.sz rClause) ?_)
 refine JC.loopF (σ:=Nat × Option Addr × Nat × List Value) [(2,_),(17,_),(18,_)] (fun q=>[(6,.slice q.2.1 ((fun k=>(L.take k).filter F) q.1).length q.2.2.1),(19,((fun k=>.int .i64 k) q.1))]) (fun q=>[.row w0.heap.size 41 (Rp.sz rClause) (.slice q.2.1 ((fun k=>(L.take k).filter F) q.1).length q.2.2.1) ((fun k=>(L.take k).filter F) q.1).length (flatCells q.2.2.2)]) (fun Sk q=>q.1≤L.length∧allV rClause Sk q.2.2.2 ((fun k=>(L.take k).filter F) q.1)∧((fun k=>True) q.1)) (fun q=>L.length - q.1) (0,none,0,[]) (by exact sba) (by exact sba) (by first|rfl|simp) (⟨Nat.zero_le _,trivial,trivial⟩) ?_;rintro Sk ⟨k,rak,rck,vsk⟩ hlk ⟨hk,hvk,hik⟩;(try dsimp only at hk hvk hik);dsimp only [List.cons_append,List.nil_append]
 have hfl:=filter_len L F k
 repeat (refine s109_L8k ?_;intros)
 refine JC.cond rfl (fun hc=>?_) (fun hc=>?_)
 ·have hk':=dlt hc
  obtain ⟨x,hx,_⟩:=drop_at hk'
  have hst:=filter_step (f:=F) hx
  repeat (refine s109_L8k ?_;intros)
  (refine JO.eff rfl rfl rfl (JEff.dynV rfl (by assumption) rfl (hf _ _ x (by exact lea) (by exact vta)) rfl ?_);intro _ _)
  repeat (refine s109_L8k ?_;intros)
  refine JC.cond rfl (fun hq=>?_) (fun hq=>?_)
  ·rw [hq,if_pos rfl] at hst
   repeat (refine s109_L8k ?_;intros)
   have hvx:=(by assumption:rClause.V _ _ x)
   (refine JO.eff rfl rfl rfl (JEff.build (rep:=rClause) (ys:=[x]) rfl rfl ⟨⟨(hvx.mono (by exact lea)),nna⟩,trivial⟩ rfl rfl rfl rfl ?_);intro bb hbb hvv);(repeat (first|(refine Walk ?_;intros)|refine JC.block ?_));(refine JO.eff rfl rfl rfl (JEff.appendL (rep:=rClause) rfl rfl rfl rfl (List.Perm.swap _ _ _) (by exact hvv.flat) (by intro c hc;exact flat_one (fun v hv=>(hvv.size v hv).2) c hc) (by first|omega|(unfold big;omega)) (by unfold big;omega) (by first|exact rowT_ok|(intro l hl;cases hl)) rfl ?_);intro a2 c2;clear hvv hbb)
   repeat (refine s109_L8k ?_;intros)
   exact JX.roundF (k+1,a2,c2,vsk++[(_)]) (by exact lea) ⟨by omega,by (try dsimp only);rw [hst];exact allV_add (by exact lea) hvk (hvx.mono (by exact lea)) nna,(trivial)⟩ (by (try dsimp only);omega) (by (try dsimp only);rw [hst];(simp [flat_append]<;>omega)) (by (try dsimp only);rw [hst];simp only [List.length_append,List.length_cons,List.length_nil];exact sba) (by exact sba)
  ·rw [hq,if_neg (by simp),List.append_nil] at hst
   repeat (refine s109_L8k ?_;intros)
   exact JX.roundF (k+1,rak,rck,vsk) (by exact lea) ⟨by omega,by (try dsimp only);rw [hst];exact hvk.mono (by exact lea),(trivial)⟩ (by (try dsimp only);omega) (by (try dsimp only);rw [hst]) (by (try dsimp only);rw [hst];exact sba) (by exact sba)
 ·have hk':=dnlt hc
  obtain rfl:k=L.length:=by omega
  rw [List.take_length] at hvk hfl ⊢
  repeat (refine s109_L8k ?_;intros)
  refine JX.freezeRow (rep:=rClause) (bt:=32) hvk rfl (by unfold big;omega) (by unfold big;omega) (fun S9 hl9 hV9=>?_)
  (refine JX.ret1 Tryz.results109 (ResV.tmp rfl) (List.nil_sublist _) ?_)
  exact ⟨rfl,hV9⟩
theorem p8_Broken1 {S:SHeap} {u:Value} {x:Clause} (hu:rClause.V S u x):FnV Tryz.prog 110 #[u] S (.bool (badC x)):=by
 (refine Fn.enter (args:=[u]) Tryz.func110 rfl Tryz.ntmps110 rfl ?_;intro w0)
 repeat (first|(refine Walk ?_;intros)|refine JC.block ?_|(refine WBox ?_;intros))
 (refine JX.ret1 Tryz.results110 (ResV.tmp rfl) (List.nil_sublist _) ?_)
 exact ⟨rfl,by simp [badC]⟩
theorem p8_Broken {S:SHeap} {u v:Value} {s:Snap} {p:List Int} (hu:rSnap.V S u s) (hv:(rSlice 8 rI64).V S v p):FnL Tryz.prog 42 #[u,v] S 32 rClause (brokenC s p):=by
 (refine Fn.enter (args:=[u,v]) Tryz.func42 rfl Tryz.ntmps42 rfl ?_;intro w0)
 repeat (first|(refine Walk ?_;intros)|refine JC.block ?_|(refine WBox ?_;intros))
 refine JO.eff rfl rfl rfl (JEff.callL rfl (p8_but badC (by exact vta) (by exact vta) inferInstance (fun S' v x hl hx=>p8_Broken1 hx)) rfl ?_);intro a1 c1 S2 hl2 hV2 hb2
 repeat (first|(refine Walk ?_;intros)|refine JC.block ?_|(refine WBox ?_;intros))
 (refine JX.ret1 Tryz.results42 (ResV.tmp rfl) (List.nil_sublist _) ?_)
 exact ⟨rfl,hV2⟩
end Go.Dr
namespace Go.Dr
open Go.Proofs
set_option maxRecDepth 20000
set_option maxHeartbeats 2000000
set_option linter.unusedSimpArgs false
set_option linter.unusedVariables false
theorem allC_rng {s:Snap} {p:List Int} (hok:checkP s p=0):(allC s p).length≤400∧∀ c∈allC s p,0≤c.by_∧c.by_≤Qty:=by
 obtain ⟨hs,hlen,hodd⟩:=checkP_ok hok
 have hsh:=(checkS_ok hs).1
 obtain ⟨hn8,hp24,ho8⟩:=shaped_small hsh
 obtain ⟨hwl,htl⟩:=shaped_lists hsh
 have hof:=of8_rng (s:=s) (p:=p) (by omega) hwl htl
 constructor
 ·unfold allC
  have h1:(capsC s p).length≤40:=by unfold capsC;rw [capTo_len];omega
  have h2:=kindsTo_len s p 5
  have h3:=spreadTo_len s p s.owners.length
  have h4:=minTo_len s p s.owners.length
  simp only [List.length_append]
  omega
 ·intro c hc
  unfold allC at hc
  simp only [List.mem_append] at hc
  rcases hc with ((hc|hc)|hc)|hc
  ·unfold capsC capTo at hc
   simp only [List.range_zero,List.map_nil,List.append_nil,List.mem_flatMap,List.mem_range,List.mem_map] at hc
   obtain ⟨n,hn,k,hk,rfl⟩:=hc
   obtain ⟨hul,hur⟩:=used_fine hs hlen (n:Int)
   have hu:0≤at0 (usedV s p n) k∧at0 (usedV s p n) k≤Qty:=by
    have:(usedV s p n)[k]?=some ((usedV s p n)[k]'(by omega)):=List.getElem?_eq_getElem (by omega)
    rw [at0_some this]
    exact hur _ (List.getElem_mem _)
   have hcp:0≤at0 (capOf s n) k:=by
    unfold at0
    rw [List.getD_eq_getElem?_getD]
    cases h:(capOf s n)[k]? with
    | none=>simp
    | some y=>
     unfold capOf at h
     obtain ⟨x,hx⟩:∃ x,s.nodes[n]?=some x:=⟨_,List.getElem?_eq_getElem hn⟩
     rw [hx] at h
     exact (shaped_cap hsh x (List.mem_of_getElem? hx) y (List.mem_of_getElem? h)).1
   simp only [capN]
   unfold Qty at *
   omega
  ·unfold kindsTo podsTo at hc
   simp only [List.mem_flatMap,List.mem_range] at hc
   obtain ⟨t,_,i,_,hc⟩:=hc
   unfold podC1 at hc
   split at hc
   ·simp only [List.mem_singleton] at hc
    subst hc
    have:=hof ((t:Int)+2) i
    simp only [Qty];omega
   ·cases hc
  ·unfold spreadTo at hc
   simp only [List.mem_flatMap,List.mem_range] at hc
   obtain ⟨o,ho,hc⟩:=hc
   unfold spreadC1 at hc
   split at hc
   ·cases hc
   ·simp only [List.mem_singleton] at hc
    subst hc
    obtain ⟨ow,how⟩:∃ ow,s.owners[o]?=some ow:=⟨_,List.getElem?_eq_getElem ho⟩
    have hsr:=shaped_owner hsh ow (List.mem_of_getElem? how)
    have:=skewV_rng (o:=o) (p:=p) (s:=s) (by omega) hlen (by omega) (by simp [skewOf,how];omega)
    simp only [Qty];omega
  ·unfold minTo at hc
   simp only [List.mem_map,List.mem_range] at hc
   obtain ⟨o,ho,rfl⟩:=hc
   obtain ⟨ow,how⟩:∃ ow,s.owners[o]?=some ow:=⟨_,List.getElem?_eq_getElem ho⟩
   have hsr:=shaped_owner hsh ow (List.mem_of_getElem? how)
   have hplr:=placed_rng (s:=s) (p:=p) (o:=o) hlen
   have hmo:minOf s o=ow.min:=by simp [minOf,how]
   simp only [minC1,hmo,Qty];omega
theorem allL_rng (s:Snap) (p:List Int):(allL s p).length≤400∧∀ c∈allL s p,0≤c.by_∧c.by_≤Qty:=by
 unfold allL
 split
 ·rename_i h;exact allC_rng h
 ·simp
theorem sum_take_rng {l:List Clause} (h:∀ c∈l,0≤c.by_∧c.by_≤Qty):∀ k,0≤sumC (l.take k)∧sumC (l.take k)≤Qty*k
 | 0=>by simp [sumC]
 | k+1=>by
  have ih:=sum_take_rng h k
  rw [List.take_add_one]
  cases hx:l[k]? with
  | none=>simp only [Option.toList_none,List.append_nil];unfold Qty at *;omega
  | some x=>
   have hx':=h x (List.mem_of_getElem? hx)
   unfold sumC at *
   simp only [Option.toList_some,List.map_append,List.sum_append,List.map_cons,List.map_nil,List.sum_cons,List.sum_nil]
   unfold weight Qty at *
   split<;>omega
end Go.Dr
namespace Go.Dr
set_option linter.unusedSimpArgs false
set_option linter.unusedVariables false
theorem run_forIn_unit {P:Program} {α:Type} {g:α→PUnit→Sem (ForInStep PUnit)} {w:World}:∀ (l:List α),(∀ x∈l,(g x ⟨⟩).run P w=.ok (.yield ⟨⟩) w)→(forIn l PUnit.unit g).run P w=.ok ⟨⟩ w
 | [],_=>by simp [Sem.run_pure]
 | x::l,h=>by
  simp only [List.forIn_cons,Sem.run_bind,h x (by simp),Result.andThen_ok]
  exact run_forIn_unit l (fun y hy=>h y (by simp [hy]))
theorem flat_field {P:Program} {w:World}:∀ (fs:List Field) (ks:List Kd) (pre xs:List Value),flatB P pre.length fs ks=true→fits ks xs=true →
  ∀ f∈fs,∃ d v,P.underlying f.type=some d∧MapKept.IsKey d v∧(part f.type (pre++xs).toArray f.offset).run P w=.ok v w
 | [],_,_,_,_,_=>by intro f hf;cases hf
 | _::_,[],_,_,h,_=>by cases h
 | f0::fs,k::ks,pre,xs,h,h1=>by
  simp only [flatB,Bool.and_eq_true,Bool.not_eq_true'] at h
  obtain ⟨⟨⟨hn,ho⟩,hk⟩,hr⟩:=h
  have ho:=Nat.eq_of_beq_eq_true ho
  have hd:=kd_desc hk
  have ha:isAggD (kdD k)=false:=by cases k<;>rfl
  obtain ⟨x,xs',rfl,hx,h1'⟩:∃ x xs',xs=x::xs'∧MapKept.IsKey (kdD k) x∧fits ks xs'=true:=by
   cases k with
   | int=>match xs,h1 with|.int .i64 a::xs',h1=>exact ⟨_,_,rfl,by simp [kdD,MapKept.IsKey],h1⟩
   | str=>match xs,h1 with|.string a::xs',h1=>exact ⟨_,_,rfl,by simp [kdD,MapKept.IsKey],h1⟩
   | bool=>match xs,h1 with|.bool a::xs',h1=>exact ⟨_,_,rfl,by simp [kdD,MapKept.IsKey],h1⟩
  intro f hf
  rcases List.mem_cons.1 hf with rfl|hf
  ·exact ⟨_,x,hd,hx,by rw [ho];exact run_part1 hd ha pre x xs' w⟩
  ·have:=flat_field (w:=w) fs ks (pre++[x]) xs' (by simpa using hr) h1' f hf
   simpa using this
theorem check_flat {P:Program} {T:TypeId} {ks:List Kd} (h:FlatS P T ks) {xs:List Value} (hx:fits ks xs=true) (e:Bool) (w:World):(Instr.checkKey e 10000 T (.agg xs.toArray)).run P w=.ok () w:=by
 have hb:=h.b
 unfold flatT at hb
 split at hb
 ·rename_i fs hu
  have hfl:=flat_field (w:=w) fs.toList ks [] xs hb hx
  unfold Instr.checkKey
  simp only [Sem.run_bind,run_underlying hu,Result.andThen_ok]
  rw [← Array.forIn_toList]
  have:=run_forIn_unit (P:=P) (w:=w) (g:=fun (f:Field) (r:PUnit)=>(do
   if f.name ≠ "_" then Instr.checkKey e 9999 f.type (← part f.type xs.toArray f.offset)
   pure (ForInStep.yield PUnit.unit):Sem (ForInStep PUnit))) fs.toList (fun f hf=>by
    obtain ⟨d,v,hd,hv,hp⟩:=hfl f hf
    simp only [List.nil_append] at hp
    by_cases hn : f.name ≠ "_"
    ·simp only [if_pos hn,Sem.run_bind,hp,Result.andThen_ok,MapKept.run_checkKey hd hv,Sem.run_pure]
    ·simp only [if_neg hn,Sem.run_bind,Result.andThen_ok,Sem.run_pure])
  simp [Sem.run_bind,Sem.run_pure,Result.andThen_ok] at this ⊢
  rw [this]
  rfl
 ·cases hb
theorem find_asking {κ:Type} [DecidableEq κ] {P:Program} {T:TypeId} {ks:List Kd} (h:FlatS P T ks) {ls:κ→List Value} (hf:∀ k,fits ks (ls k)=true) (hc:∀ a b,ceqs (ls a) (ls b)=decide (a=b)) (s:κ) (w:World):∀ (l:List (κ × Value)) (n i:Nat),
  ((Instr.findAsking T (.agg (ls s).toArray) (esK (fun k=>.agg (ls k).toArray) n l) i).run P w=.ok none w∧∀ p∈l,p.1≠s) ∨
  ∃ j p,(Instr.findAsking T (.agg (ls s).toArray) (esK (fun k=>.agg (ls k).toArray) n l) i).run P w=.ok (some (i+j,p.2)) w∧l[j]?=some p∧p.1=s
 | [],n,i=>.inl ⟨by simp [Instr.findAsking,esK,Sem.run_pure],by intro p hp;cases hp⟩
 | (k,v)::l,n,i=>by
  have heq:(Op.equal T (.agg (ls s).toArray) (.agg (ls k).toArray)).run P w=.ok (decide (s=k)) w:=by
   have:=run_eq_flat h (hf s) (hf k) w
   rw [hc] at this
   exact this
  by_cases hs:s=k
  ·refine .inr ⟨0,(k,v),?_,rfl,hs.symm⟩
   simp only [esK,Instr.findAsking,Sem.run_bind,heq,Result.andThen_ok,decide_eq_true hs,if_true,Sem.run_pure]
   rfl
  ·have hstep:(Instr.findAsking T (.agg (ls s).toArray) (esK (fun k=>.agg (ls k).toArray) n ((k,v)::l)) i).run P w=(Instr.findAsking T (.agg (ls s).toArray) (esK (fun k=>.agg (ls k).toArray) (n+1) l) (i+1)).run P w:=by
    simp only [esK,Instr.findAsking,Sem.run_bind,heq,Result.andThen_ok,decide_eq_false hs,Bool.false_eq_true,if_false]
   rw [hstep]
   rcases find_asking h hf hc s w l (n+1) (i+1) with ⟨h1,h2⟩|⟨j,p,h1,h2,h3⟩
   ·refine .inl ⟨h1,fun p hp=>?_⟩
    rcases List.mem_cons.1 hp with rfl|hp
    ·exact fun e=>hs e.symm
    ·exact h2 p hp
   ·exact .inr ⟨j+1,p,by rw [h1];congr 3;omega,by simpa using h2,h3⟩
theorem sameBits_flat:∀ (ks:List Kd) (xs:List Value),fits ks xs=true→(xs.zip xs).all (fun (x,y)=>Instr.sameBits 9999 x y)=true
 | [],[],_=>rfl
 | .int::ks,.int .i64 a::vs,h=>by simp only [List.zip_cons_cons,List.all_cons,sameBits_flat ks vs h,Bool.and_true];simp [Instr.sameBits]
 | .str::ks,.string a::vs,h=>by simp only [List.zip_cons_cons,List.all_cons,sameBits_flat ks vs h,Bool.and_true];simp [Instr.sameBits,MapKept.bytes_beq]
 | .bool::ks,.bool a::vs,h=>by simp only [List.zip_cons_cons,List.all_cons,sameBits_flat ks vs h,Bool.and_true];simp [Instr.sameBits]
theorem key_flat {κ:Type} [DecidableEq κ] {P:Program} {T:TypeId} {ks:List Kd} (h:FlatS P T ks) {ls:κ→List Value} (hf:∀ k,fits ks (ls k)=true) (hc:∀ a b,ceqs (ls a) (ls b)=decide (a=b)):Key P T (fun k=>.agg (ls k).toArray) where
 check e k w:=check_flat h (hf k) e w
 find k l w:=by
  have hb:=h.b
  unfold flatT at hb
  split at hb
  ·rename_i fs hu
   have hask:(Instr.findKey T (.agg (ls k).toArray) (esK (fun k=>.agg (ls k).toArray) 0 l)).run P w=(Instr.findAsking T (.agg (ls k).toArray) (esK (fun k=>.agg (ls k).toArray) 0 l) 0).run P w:=by
    cases l with
    | nil=>simp [Instr.findKey,run_underlying hu,Result.andThen,esK,Instr.findNow,Instr.findAsking,Sem.run_pure]
    | cons p l=>simp [Instr.findKey,run_underlying hu,Result.andThen,esK,Instr.findNow,Instr.sameNow]
   rw [hask]
   rcases find_asking h hf hc k w l 0 0 with h1|⟨j,p,h1,h2⟩
   ·exact .inl h1
   ·exact .inr ⟨j,p,by rw [h1];simp,h2⟩
  ·cases hb
 stays k w:=by
  have:Instr.sameBits 10000 (.agg (ls k).toArray) (.agg (ls k).toArray)=true:=by
   simp only [Instr.sameBits,sameBits_flat ks _ (hf k)]
   simp
  simp [Instr.keyThatStays,this,Sem.run_pure]
section
variable {C:Cx} {R:Rg} {Q:Post} {S S' S1:SHeap} {M M':List MEnt} {e e':Env} {rest:List Nat}
variable {d:Nat} {ty:TypeId} {pos:String} {aft:Array Edge} {g:Option (Nat × Bool)} {an:Bool}
theorem JEff.rangeN {T K E:TypeId} {x:Operand} (hx:ev e x=some (.map none)) [hu:Und C.P T (.map K E)] (hdN:Nat.blt d C.N=true)
  (k:∀ r,C.w0.heap.size≤r→JO C R rest Q S (.blk r (.mapIter none 0 #[] 0)::M) ((d,.pointer (some ⟨r,0,none⟩))::e)):JEff C R ⟨some d,.range T x,ty,pos,aft,g⟩ rest Q S M e:=
 JEff.ofRun rfl rfl hdN fun a w hw=>⟨.pointer (some ⟨w.heap.size,0,none⟩),w.alloc (.mapIter none 0 #[] 0),by
   simp [execOp,hw.env.eval hx,run_range_nilMap w T K E hu.h],subX_alloc _ _ _,by simp,
  S,_,hw.wd.alloc _,SHeap.le.refl _,k _ hw.wd.size⟩
theorem JEff.nextN {x:Operand} {r a b:Nat} {s:Array Nat} (hx:ev e x=some (.pointer (some ⟨r,0,none⟩))) (hM:MEnt.blk r (.mapIter none a s b)∈M) (hdN:Nat.blt d C.N=true)
  (k:JO C R rest Q S M ((d,.tuple #[.bool false])::e)):JEff C R ⟨some d,.next x false,ty,pos,aft,g⟩ rest Q S M e:=
 JEff.ofRun rfl rfl hdN fun aa w hw=>by
  have hr:w.heap[r]?=some (.mapIter none a s b):=hw.wd.ok _ hM
  exact ⟨_,w,by simp [execOp,hw.env.eval hx,Instr.next,getObj,Sem.run_bind,Sem.run,hr,Result.andThen],SubX.refl _ _,Nat.le_refl _,S,M,hw.wd,SHeap.le.refl _,k⟩
end
end Go.Dr
namespace Go.Dr
open Go.Proofs
set_option maxRecDepth 20000
set_option maxHeartbeats 2000000
set_option linter.unusedSimpArgs false
set_option linter.unusedVariables false
def nm (c:Clause):Step:=⟨c.kind,c.a,c.b⟩
def kvN (x:Step):Value:=.agg [Value.int .i64 x.kind,.int .i64 x.pod,.int .i64 x.node].toArray
instance:TyR Tryz.prog 110 rStep:=⟨by kernel_rfl⟩
instance:FlatS Tryz.prog 110 [.int,.int,.int]:=⟨by kernel_rfl,by kernel_rfl,by kernel_rfl⟩
instance:Key Tryz.prog 110 kvN:=key_flat (κ:=Step) (ls:=fun x=>[Value.int .i64 x.kind,.int .i64 x.pod,.int .i64 x.node]) (inferInstance:FlatS Tryz.prog 110 [.int,.int,.int]) (fun _=>rfl) (fun a b=>by cases a;cases b;rw [Bool.eq_iff_iff];simp [ceqs])
theorem nm_eq {c d:Clause}:nm c=nm d↔nameC c=nameC d:=by cases c;cases d;simp [nm,nameC]
theorem p9_of {S:SHeap} {u:Value} {x:Clause} (hu:rClause.V S u x):FnV Tryz.prog 66 #[u] S (kvN (nm x)):=by
 obtain ⟨rfl,h1,h2,h3,h4⟩:=V_clause.1 hu
 (refine Fn.enter (args:=[.agg #[.int .i64 x.kind,.int .i64 x.a,.int .i64 x.b,.int .i64 x.by_]]) Tryz.func66 rfl Tryz.ntmps66 rfl ?_;intro w0)
 repeat (first|(refine Walk ?_;intros)|refine JC.block ?_|(refine WBox ?_;intros))
 (refine JO.eff rfl rfl rfl (JEff.alloc rfl ?_);intro cb hcb)
 repeat (first|(refine Walk ?_;intros)|refine JC.block ?_|(refine WBox ?_;intros))
 have hV:∀ S,rStep.V S (kvN (nm x)) (nm x):=fun S=>V_step.2 ⟨rfl,h1,h2,h3⟩
 refine JO.eff rfl rfl rfl (JEff.storeW rfl rfl (hV _) nna (List.Perm.refl _) rfl (by intro l hl;cases hl) ?_)
 refine JO.freezeV (hV _) nna hcb (by intro l hl;cases hl) ?_;intro S2 hl2 hpo
 repeat (first|(refine Walk ?_;intros)|refine JC.block ?_|(refine WBox ?_;intros))
 exact JX.retCell Tryz.results66 rfl hpo (List.nil_sublist _) (fun w hw=>⟨rfl,by obtain ⟨rfl,_⟩:=V_step.1 hw;rfl⟩)
def bys (l:List Clause):List (Step × Value):=l.map (fun c=>(nm c,Value.int .i64 c.by_))
theorem bys_step {l:List Clause} {k:Nat} {x:Clause} (hx:l[k]?=some x):bys (l.take (k+1))=bys (l.take k)++[(nm x,Value.int .i64 x.by_)]:=by
 unfold bys
 rw [List.take_add_one,hx];simp
theorem bys_new {l:List Clause} (h:l.Pairwise (fun c d=>nameC c≠nameC d)) {k:Nat} {x:Clause} (hx:l[k]?=some x):∀ p∈bys (l.take k),p.1≠nm x:=by
 intro p hp e
 obtain ⟨c,hc,rfl⟩:=List.mem_map.1 hp
 obtain ⟨i,hi,hci⟩:=List.mem_take_iff_getElem.1 hc
 obtain ⟨hk,rfl⟩:=List.getElem?_eq_some_iff.1 hx
 exact List.pairwise_iff_getElem.1 h i k (by omega) hk (by omega) (by rw [hci];exact nm_eq.1 e)
def LookAns (s:Snap) (p:List Int) (w:Value) (S':SHeap):Prop:=
 (¬ checkP s p=0∧w=.tuple #[.map none,.slice none 0 0,.int .i64 (checkP s p)]) ∨
 (checkP s p=0∧∃ b a c,w=.tuple #[.map (some b),.slice a (allL s p).length c,.int .i64 0]∧S' b=some (mapK kvN (bys (allL s p)))∧(rSlice 32 rClause).V S' (.slice a (allL s p).length c) (allL s p))
theorem s64_L9a {P K:Prop} (k:K) (h:Goal K→P:=by
 intro zk
 (first|refine Walk ?_|refine JC.block ?_|refine JC.drawN 8 rfl [0,1,3,4,2,5] [1] Tryz_mixed (by decide +kernel) ?_|(refine JO.eff rfl rfl rfl (JEff.callV rfl (p9_of (by exact vta)) rfl ?_);intro zqa zqb)|(refine JO.eff rfl rfl rfl (JEff.callLE rfl (p8_All (by exact vta) (by exact vta)) rfl ?_);intro zqa zqb zqc zqd zqe zqf)|(refine WBox ?_)|(refine WNew ?_)|(refine WPut ?_))
 (repeat (first|revert zqg|revert zqf|revert zqe|revert zqd|revert zqc|revert zqb|revert zqa))
 exact zk.k):P:=h ⟨k⟩
theorem p9_look {S:SHeap} {u v:Value} {s:Snap} {p:List Int} (hu:rSnap.V S u s) (hv:(rSlice 8 rI64).V S v p):FnR Tryz.prog 64 #[u,v] S (LookAns s p):=by
 (refine Fn.enter (args:=[u,v]) Tryz.func64 rfl Tryz.ntmps64 rfl ?_;intro w0)
 repeat (refine s64_L9a ?_;intros)
 refine JC.cond rfl (fun h1=>?_) (fun h1=>?_)
 ·have h1:¬ checkP s p=0:=by simpa using h1
  repeat (refine s64_L9a ?_;intros)
  (refine JX.ret3 Tryz.results64 (ResV.tmp rfl) (ResV.tmp rfl) (ResV.tmp rfl) (List.nil_sublist _) ?_)
  exact ⟨rfl,.inl ⟨h1,rfl⟩⟩
 have hok:checkP s p=0:=by simpa using h1
 have hnames:=allL_names s p
 obtain ⟨hLl,hLr⟩:=allL_rng s p
 generalize hL:allL s p=L at *
 have hb32:=slice_bytes (by assumption:(rSlice 32 rClause).V _ _ L)
 unfold big at hb32
 repeat (refine s64_L9a ?_;intros)
 refine JO.eff rfl rfl rfl (JEff.makeMapK kvN rfl ?_);intro mb hmb
 repeat (refine s64_L9a ?_;intros)
 refine JC.loopF (σ:=Nat) [(7,_),(9,_),(22,_),(23,_)] (fun q=>[(24,.int .i64 (q:Int))]) (fun q=>[.blk mb (mapK kvN (bys (L.take q)))]) (fun Si q=>q≤L.length) (fun q=>L.length - q) (0) (by exact sba) (by exact sba) rfl (Nat.zero_le _) ?_;rintro Si k hli hii;(try dsimp only at hii);dsimp only [List.cons_append,List.nil_append]
 repeat (refine s64_L9a ?_;intros)
 refine JC.cond rfl (fun hc=>?_) (fun hc=>?_)
 ·have hk':=dlt hc
  obtain ⟨x,hx,_⟩:=drop_at hk'
  have hst:=bys_step hx
  have hnew:=bys_new hnames hx
  repeat (refine s64_L9a ?_;intros)
  refine JO.eff rfl rfl rfl (JEff.putK (kv:=kvN) (s:=nm x) rfl rfl rfl (List.Perm.refl _) (by intro l hl;cases hl) (fun _=>?_) (fun j q hj hq=>absurd hq (hnew q (List.mem_of_getElem? hj))))
  rw [← hst]
  repeat (refine s64_L9a ?_;intros)
  exact JX.roundF (k+1) (by exact lea) (by omega) (by (try dsimp only);omega) rfl (by exact sba) (by exact sba)
 ·have hk':=dnlt hc
  obtain rfl:k=L.length:=by omega
  rw [List.take_length]
  refine JC.freeze hmb (fun S10 hl10 hS10=>?_)
  repeat (refine s64_L9a ?_;intros)
  (refine JX.ret3 Tryz.results64 (ResV.tmp rfl) (ResV.tmp rfl) (ResV.tmp rfl) (List.nil_sublist _) ?_)
  subst hL
  exact ⟨rfl,.inr ⟨hok,_,_,_,rfl,hS10,by exact vta⟩⟩
theorem perm_sum {a b:List Int} (h:a.Perm b):a.sum=b.sum:=by
 induction h with
 | nil=>rfl
 | cons x _ ih=>simp [ih]
 | swap x y l=>simp only [List.sum_cons];omega
 | trans _ _ h1 h2=>exact h1.trans h2
theorem V_mem_rng {S:SHeap} {v:Value} {L:List Clause} (h:(rSlice 32 rClause).V S v L) {j:Nat} {x:Clause} (hx:L[j]?=some x):Rng x.kind∧Rng x.a∧Rng x.b:=by
 obtain ⟨_,_,_,_,_,_,hp⟩:=V_slice.1 h
 obtain ⟨_,_,cs,hcs,_⟩:=hp j x hx
 have:=(R_clause.1 hcs).2
 exact ⟨this.1,this.2.1,this.2.2.1⟩
def wAt (L:List Clause) (j:Nat):Int:=match L[j]? with|some c=>weight c|none=>0
theorem wAt_range (L:List Clause):(List.range L.length).map (wAt L)=L.map weight:=by
 apply List.ext_getElem?
 intro i
 rw [List.getElem?_map,List.getElem?_map]
 by_cases hi:i < L.length
 ·rw [List.getElem?_range hi,List.getElem?_eq_getElem hi]
  simp [wAt,hi]
 ·rw [List.getElem?_eq_none (by simpa using hi),List.getElem?_eq_none (by simpa using hi)];rfl
theorem wAt_rng {L:List Clause} (h:∀ c∈L,0≤c.by_∧c.by_≤Qty) (j:Nat):0≤wAt L j∧wAt L j≤Qty:=by
 unfold wAt
 split
 ·rename_i c hc
  have:=h c (List.mem_of_getElem? hc)
  unfold weight Qty at *
  split<;>omega
 ·unfold Qty;omega
theorem wSum_rng {L:List Clause} (h:∀ c∈L,0≤c.by_∧c.by_≤Qty):∀ l:List Nat,0≤(l.map (wAt L)).sum∧(l.map (wAt L)).sum≤Qty*l.length
 | []=>by simp
 | j::l=>by
  have h1:=wAt_rng h j
  have h2:=wSum_rng h l
  simp only [List.map_cons,List.sum_cons,List.length_cons]
  unfold Qty at *
  omega
theorem p9_Sum {S:SHeap} {u v:Value} {s:Snap} {p:List Int} (hu:rSnap.V S u s) (hv:(rSlice 8 rI64).V S v p):FnV Tryz.prog 108 #[u,v] S (.tuple #[.int .i64 (sumV s p),.int .i64 (checkP s p)]):=by
 (refine Fn.enter (args:=[u,v]) Tryz.func108 rfl Tryz.ntmps108 rfl ?_;intro w0)
 repeat (first|(refine Walk ?_;intros)|refine JC.block ?_|(refine WBox ?_;intros)|(refine WNew ?_;intros)|(refine WPut ?_;intros))
 (refine JO.eff rfl rfl rfl (JEff.callR rfl (p9_look (s:=s) (p:=p) (by exact vta) (by exact vta)) rfl ?_);intro w S2 hl2 hw)
 rcases hw with ⟨he,rfl⟩|⟨hok,b,a,c,rfl,hSb,hVb⟩
 ·repeat (first|(refine Walk ?_;intros)|refine JC.block ?_|(refine WBox ?_;intros)|(refine WNew ?_;intros)|(refine WPut ?_;intros))
  refine JO.eff rfl rfl rfl (JEff.rangeN rfl rfl ?_);intro r hr
  repeat (first|(refine Walk ?_;intros)|refine JC.block ?_|(refine WBox ?_;intros)|(refine WNew ?_;intros)|(refine WPut ?_;intros))
  refine JC.loopF (σ:=Nat) [(5,_),(18,_)] (fun q=>[(4,.int .i64 0)]) (fun q=>[.blk r (.mapIter none 0 #[] 0)]) (fun Si q=>True) (fun q=>0) (0) (by exact sba) (by exact sba) rfl (trivial) ?_;rintro Si k hli hii;(try dsimp only at hii);dsimp only [List.cons_append,List.nil_append]
  repeat (first|(refine Walk ?_;intros)|refine JC.block ?_|(refine WBox ?_;intros)|(refine WNew ?_;intros)|(refine WPut ?_;intros))
  refine JO.eff rfl rfl rfl (JEff.nextN rfl (by (first|exact List.mem_cons_self|exact List.mem_cons_of_mem _ List.mem_cons_self|exact List.mem_cons_of_mem _ (List.mem_cons_of_mem _ List.mem_cons_self))) rfl ?_)
  repeat (first|(refine Walk ?_;intros)|refine JC.block ?_|(refine WBox ?_;intros)|(refine WNew ?_;intros)|(refine WPut ?_;intros))
  (refine JX.ret2 Tryz.results108 (ResV.tmp rfl) (ResV.tmp rfl) (List.nil_sublist _) ?_)
  exact ⟨rfl,by unfold sumV allL;rw [if_neg he];rfl⟩
 ·have hnames:=allL_names s p
  obtain ⟨hLl,hLr⟩:=allL_rng s p
  unfold sumV
  generalize hL:allL s p=L at *
  repeat (first|(refine Walk ?_;intros)|refine JC.block ?_|(refine WBox ?_;intros)|(refine WNew ?_;intros)|(refine WPut ?_;intros))
  refine JO.eff rfl rfl rfl (JEff.rangeK (kv:=kvN) rfl hSb rfl ?_);intro r hr
  repeat (first|(refine Walk ?_;intros)|refine JC.block ?_|(refine WBox ?_;intros)|(refine WNew ?_;intros)|(refine WPut ?_;intros))
  have hbl:(bys L).length=L.length:=by simp [bys]
  refine JC.loopF (σ:=Array Nat) [(5,_),(18,_)] (fun q=>[(4,.int .i64 ((q.toList.map (wAt L)).sum))]) (fun q=>[.blk r (.mapIter (some b) (bys L).length q (bys L).length)]) (fun Si q=>q.toList.Nodup∧(∀ j∈q.toList,j < L.length)) (fun q=>L.length - q.size) (#[]) (by exact sba) (by exact sba) rfl (⟨List.nodup_nil,(by intro j hj;cases hj)⟩) ?_;rintro Si seen hli hii;(try dsimp only at hii);dsimp only [List.cons_append,List.nil_append]
  obtain ⟨hi1,hi2⟩:=hii
  have hSi:=hli _ _ hSb
  have hlen:=nd_len hi1 hi2
  have hsum:=wSum_rng hLr seen.toList
  unfold Qty at hsum
  repeat (first|(refine Walk ?_;intros)|refine JC.block ?_|(refine WBox ?_;intros)|(refine WNew ?_;intros)|(refine WPut ?_;intros))
  refine JO.eff rfl rfl rfl (JEff.nextK (kv:=kvN) rfl hSi (List.Perm.refl _) (by intro l hl;cases hl) rfl (fun j p hj hjn=>?_) (fun hall=>?_))
  ·have hj0:=hj
   unfold bys at hj0
   rw [List.getElem?_map] at hj0
   obtain ⟨x,hx,rfl⟩:=Option.map_eq_some_iff.1 hj0
   have hjl:=(List.getElem?_eq_some_iff.1 hx).1
   have hn2:(seen.toList++[j]).Nodup:=by
    rw [List.nodup_append]
    refine ⟨hi1,by simp,?_⟩
    intro a ha c hc he
    simp at hc
    subst hc;subst he
    exact hjn (by simpa using ha)
   have hb2:∀ i∈seen.toList++[j],i < L.length:=by
    intro i hi
    rcases List.mem_append.1 hi with h|h
    ·exact hi2 i h
    ·simp at h;subst h;exact hjl
   have hlen2:=nd_len hn2 hb2
   have hsz:(seen.push j).size=seen.size+1:=by simp
   have hsl:seen.size+1≤L.length:=by simpa using hlen2
   have hwj:wAt L j=weight x:=by simp [wAt,hx]
   have hst:(((seen.push j).toList).map (wAt L)).sum=((seen.toList).map (wAt L)).sum+weight x:=by simp [hwj]
   have hxr:=hLr x (List.mem_of_getElem? hx)
   unfold Qty at hxr
   repeat (first|(refine Walk ?_;intros)|refine JC.block ?_|(refine WBox ?_;intros)|(refine WNew ?_;intros)|(refine WPut ?_;intros))
   refine JO.eff rfl rfl rfl (JEff.entryK (kv:=kvN) rfl hSi (by (first|exact List.mem_cons_self|exact List.mem_cons_of_mem _ List.mem_cons_self|exact List.mem_cons_of_mem _ (List.mem_cons_of_mem _ List.mem_cons_self))) hj rfl ?_)
   have hVx:rStep.V Si (kvN (nm x)) (nm x):=by
    have hVb2:=hVb.mono hli
    exact V_step.2 ⟨rfl,(V_mem_rng hVb2 hx).1,(V_mem_rng hVb2 hx).2.1,(V_mem_rng hVb2 hx).2.2⟩
   dsimp only
   repeat (first|(refine Walk ?_;intros)|refine JC.block ?_|(refine WBox ?_;intros)|(refine WNew ?_;intros)|(refine WPut ?_;intros))
   refine JC.cond rfl (fun hcap=>?_) (fun hcap=>?_)
   ·have hcap:x.kind=1:=by have:=of_decide_eq_true hcap;exact this
    rw [weight,if_pos hcap] at hst
    repeat (first|(refine Walk ?_;intros)|refine JC.block ?_|(refine WBox ?_;intros)|(refine WNew ?_;intros)|(refine WPut ?_;intros))
    exact JX.roundF (seen.push j) (by exact lea) ⟨by simpa using hn2,by simpa using hb2⟩ (by (try dsimp only);omega) rfl (by (try dsimp only);rw [hst];exact sba) (by exact sba)
   ·have hcap:¬ x.kind=1:=by have:=of_decide_eq_false hcap;exact this
    rw [weight,if_neg hcap] at hst
    repeat (first|(refine Walk ?_;intros)|refine JC.block ?_|(refine WBox ?_;intros)|(refine WNew ?_;intros)|(refine WPut ?_;intros))
    exact JX.roundF (seen.push j) (by exact lea) ⟨by simpa using hn2,by simpa using hb2⟩ (by (try dsimp only);omega) rfl (by (try dsimp only);rw [hst];exact sba) (by exact sba)
  ·have hfin:(seen.toList.map (wAt L)).sum=sumC L:=by
    unfold sumC
    rw [← wAt_range]
    exact perm_sum (List.Perm.map _ ((List.perm_ext_iff_of_nodup hi1 List.nodup_range).2 (fun a=>⟨fun h=>by simpa using hi2 a h,fun h=>by have:=hall a (by rw [hbl];simpa using h);simpa using this⟩)))
   repeat (first|(refine Walk ?_;intros)|refine JC.block ?_|(refine WBox ?_;intros)|(refine WNew ?_;intros)|(refine WPut ?_;intros))
   (refine JX.ret2 Tryz.results108 (ResV.tmp rfl) (ResV.tmp rfl) (List.nil_sublist _) ?_)
   exact ⟨rfl,by rw [hfin,hok]⟩
theorem p9_Safe {S:SHeap} {u v:Value} {s:Snap} {p:List Int} (hu:rSnap.V S u s) (hv:(rSlice 8 rI64).V S v p):FnV Tryz.prog 41 #[u,v] S (.tuple #[.bool (safeB s p),.int .i64 (checkP s p)]):=by
 (refine Fn.enter (args:=[u,v]) Tryz.func41 rfl Tryz.ntmps41 rfl ?_;intro w0)
 repeat' (first|(refine Walk ?_;intros)|refine JC.block ?_|(refine JO.eff rfl rfl rfl (JEff.callV rfl (p9_Sum (by exact vta) (by exact vta)) rfl ?_);intro _ _)|(refine WBox ?_;intros)|(refine JO.guard rfl rfl rfl rfl ?_ ?_<;>intro _)|(refine JC.cond rfl ?_ ?_<;>intro _))
 all_goals ((refine JX.ret2 Tryz.results41 (ResV.tmp rfl) (ResV.tmp rfl) (List.nil_sublist _) ?_);refine ⟨rfl,?_⟩;unfold safeB;simp [*])
end Go.Dr
namespace Go.Dr
open Go.Proofs
set_option maxRecDepth 20000
set_option maxHeartbeats 2000000
set_option linter.unusedSimpArgs false
set_option linter.unusedVariables false
end Go.Dr
namespace Go.Dr
open Go.Proofs
set_option maxRecDepth 20000
set_option maxHeartbeats 2000000
set_option linter.unusedSimpArgs false
set_option linter.unusedVariables false
end Go.Dr
namespace Go.Dr
open Go.Proofs
set_option maxRecDepth 20000
set_option maxHeartbeats 2000000
set_option linter.unusedSimpArgs false
set_option linter.unusedVariables false
end Go.Dr
namespace Go.Dr
open Go.Proofs
set_option maxRecDepth 20000
set_option maxHeartbeats 2000000
set_option linter.unusedSimpArgs false
set_option linter.unusedVariables false
end Go.Dr
namespace Go.Dr
open Go.Proofs
set_option maxRecDepth 20000
set_option maxHeartbeats 2000000
set_option linter.unusedSimpArgs false
set_option linter.unusedVariables false
end Go.Dr
namespace Go.Dr
open Go.Proofs
set_option maxRecDepth 20000
set_option maxHeartbeats 2000000
set_option linter.unusedSimpArgs false
set_option linter.unusedVariables false
instance:IfaceT Tryz.prog 119:=⟨by kernel_rfl⟩
end Go.Dr
namespace Go.Dr
open Go.Proofs
set_option maxRecDepth 20000
set_option maxHeartbeats 2000000
set_option linter.unusedSimpArgs false
set_option linter.unusedVariables false
end Go.Dr
namespace Go.Dr
open Go.Proofs
set_option maxRecDepth 20000
set_option maxHeartbeats 2000000
set_option linter.unusedSimpArgs false
set_option linter.unusedVariables false
end Go.Dr
namespace Go.Dr
end Go.Dr
namespace Go.Dr
open Go.Proofs
set_option maxRecDepth 20000
set_option maxHeartbeats 2000000
set_option linter.unusedSimpArgs false
set_option linter.unusedVariables false
end Go.Dr
namespace Go.Dr
section
variable {C:Cx} {R:Rg} {Q:Post} {S S':SHeap} {M M':List MEnt} {e:Env} {rest:List Nat}
variable {d:Nat} {ty:TypeId} {pos:String} {aft:Array Edge} {g:Option (Nat × Bool)} {an:Bool}
end
end Go.Dr
namespace Go.Dr
open Go.Proofs
set_option maxRecDepth 20000
set_option maxHeartbeats 2000000
set_option linter.unusedSimpArgs false
set_option linter.unusedVariables false
theorem R_vec {S:SHeap} {a b c d e:Int} (h:∀ x∈[a,b,c,d,e],Rng x):(rArr 5).R S [.int .i64 a,.int .i64 b,.int .i64 c,.int .i64 d,.int .i64 e] [a,b,c,d,e]:=⟨rfl,rfl,h⟩
theorem sz1 (n:UInt8):(⟨#[n]⟩:ByteArray).size≤big:=by show 1≤big;decide
theorem sz0:(⟨#[]⟩:ByteArray).size≤big:=by decide
theorem V_lab {S:SHeap} {a b:ByteArray} (h1:a.size≤big) (h2:b.size≤big):rLabel.V S (.agg (flatCells [.string a,.string b]).toArray) ⟨a,b⟩:=⟨_,map_R (seq1 (R_str h1) (R_str h2)),rfl⟩
end Go.Dr
namespace Go.Dr
open Go.Proofs
set_option maxRecDepth 20000
set_option maxHeartbeats 2000000
set_option linter.unusedSimpArgs false
set_option linter.unusedVariables false
theorem V_num {S:SHeap} {a:Int} (h:Rng a:=by simp [Rng]):rI64.V S (.int .i64 a) a:=V_i64.2 ⟨rfl,h⟩
end Go.Dr
namespace Go.Dr
open Go.Proofs
set_option maxRecDepth 20000
set_option maxHeartbeats 2000000
set_option linter.unusedSimpArgs false
set_option linter.unusedVariables false
end Go.Dr
namespace Go.Dr
open Go.Proofs
set_option maxRecDepth 20000
set_option maxHeartbeats 2000000
set_option linter.unusedSimpArgs false
set_option linter.unusedVariables false
end Go.Dr
namespace Go.Dr
open Go.Proofs
set_option maxRecDepth 20000
set_option maxHeartbeats 2000000
set_option linter.unusedSimpArgs false
set_option linter.unusedVariables false
end Go.Dr
namespace Go.Dr
open Go.Sort Go.RowKit Go.Shelf Go.Proofs
set_option linter.unusedSimpArgs false
set_option linter.unusedVariables false
theorem mapBlock_at {w:World} {b:Nat} {cs:Array Value} {E:TypeId} {f:Array Value→Array Value} (hb:w.heap[b]?=some (.cells cs E (0,0))):(mapBlock w b f).heap[b]?=some (.cells (f cs) E (0,0)):=by
 unfold mapBlock
 rw [Array.getElem?_modify,if_pos rfl,hb];rfl
theorem mapBlock_other {w:World} {b k:Nat} {f:Array Value→Array Value} (h:k≠b):(mapBlock w b f).heap[k]?=w.heap[k]?:=by
 unfold mapBlock
 rw [Array.getElem?_modify,if_neg (fun e=>h e.symm)]
theorem Wd.sortW {α:Type} [Inhabited α] {S:SHeap} {w:World} {b:Nat} {cs:Array Value} {E:TypeId} (hg:Agree S w) (hSb:S b=none) (hb:w.heap[b]?=some (.cells cs E (0,0))) (enc:α→Value) (d:Array α) (m:Nat) (os:Array Obj) :
  Wd w [b] S S [.blk b (.cells (putCells enc 0 d cs) E (0,0))] (sortWorld enc w b 0 m d os):=by
 have hlt:=(Array.getElem?_eq_some_iff.1 hb).1
 have hsz:(mapBlock (Sort.ahead w m) b (putCells enc 0 d)).heap.size=w.heap.size:=by unfold mapBlock;rw [Array.size_modify];rfl
 have old:∀ k,k < w.heap.size→(sortWorld enc w b 0 m d os).heap[k]?=(mapBlock (Sort.ahead w m) b (putCells enc 0 d)).heap[k]?:=fun k hk=>by
  show ((mapBlock (Sort.ahead w m) b (putCells enc 0 d)).heap++os)[k]?=_
  rw [Array.getElem?_append_left (by rw [hsz];exact hk)]
 exact {
  os:=rfl
  tape:=rfl
  output:=rfl
  size:=by
   show w.heap.size≤((mapBlock (Sort.ahead w m) b (putCells enc 0 d)).heap++os).size
   rw [Array.size_append,hsz];omega
  drawn:=Nat.le_add_right _ _
  keep:=fun k hk hkb=>by
   rw [old k hk,mapBlock_other (by simpa using hkb)];rfl
  le:=SHeap.le.refl _
  new:=fun k h=>.inl h
  agree:=fun k o h=>by
   have h1:=hg k o h
   have h2:k≠b:=fun e=>by rw [e,hSb] at h;cases h
   rw [old k (Array.getElem?_eq_some_iff.1 h1).1,mapBlock_other h2];exact h1
  ok:=fun mm hm=>by
   rw [List.mem_singleton] at hm;subst hm
   show (sortWorld enc w b 0 m d os).heap[b]?=_
   rw [old b hlt];exact mapBlock_at (w:=Sort.ahead w m) hb
  sep:=List.pairwise_singleton _ _
  out:=fun mm hm k hk=>by
   rw [List.mem_singleton] at hm;subst hm
   simp only [MEnt.own,Option.some.injEq] at hk;subst hk
   exact ⟨hSb,.inr (by simp)⟩ }
theorem Wd.grown {w w':World} {S S':SHeap} (h:Wd w [] S S' [] w'):∃ q os',w'=grow (w.drewN q) os':=by
 obtain ⟨p,hp⟩:=regrown_of_below (w:=w) (w':=w') ⟨h.os,h.tape,h.output,h.size,fun k hk=>h.keep k hk (by simp)⟩
 have hd:=h.drawn
 have hpd:w'.drawn=p.d:=by rw [hp];rfl
 refine ⟨p.d - w.drawn,p.os,?_⟩
 rw [hp]
 unfold redrawn World.drewN
 rw [show w.drawn+(p.d - w.drawn)=p.d by omega]
theorem frozen_not {w:World} {b j:Nat} {cs:Array Value} {E:TypeId} (hb:w.heap[b]?=some (.cells cs E (0,0))):w.frozen? ⟨b,j,none⟩=false:=by
 unfold World.frozen?
 simp [hb]
end Go.Dr
namespace Go.Dr
open Go.Proofs
def cmpI (a b:Int):Int:=if a < b then -1 else if b < a then 1 else 0
def ltBy (key:Int→Int) (a b:Int):Bool:=decide (key a < key b)||(decide (key a=key b)&&decide (a < b))
def leBy (key:Int→Int) (a b:Int):Bool:=!ltBy key b a
def sortBy (key:Int→Int) (l:List Int):List Int:=l.mergeSort (leBy key)
end Go.Dr
namespace Go.Dr
section
variable {C:Cx} {R:Rg} {Q:Post} {S:SHeap} {M:List MEnt} {e:Env} {rest:List Nat}
variable {d:Nat} {ty:TypeId} {pos:String} {aft:Array Edge} {g:Option (Nat × Bool)} {an:Bool}
theorem JPure.rem {t t':TypeId} {x y:Operand} {a b:Int} (hx:ev e x=some (.int .i64 a)) (hy:ev e y=some (.int .i64 b)) (hb:b≠0) (hdN:Nat.blt d C.N=true) (k:JO C R rest Q S M ((d,.int .i64 (a.tmod b))::e)) :
  JPure C R an ⟨some d,.binOp .rem t x y t',ty,pos,aft,g⟩ rest Q S M e:=
 JPure.of rfl hdN (fun a' w' h=>by
  simp [execOp,h.eval hx,h.eval hy,eqGuard_rem,binOp_rem,Op.intDiv,hb,Sem.run_bind,Sem.run_pure,Result.andThen]) k
end
def bring (i n:Int):Int:=if i.tmod n < 0 then i.tmod n+n else i.tmod n
theorem tmod_rng (i:Int) {n:Int} (hn:0 < n):-n < i.tmod n∧i.tmod n < n:=by
 have h1:=Int.tmod_lt_of_pos i hn
 have h2:=Int.tmod_lt_of_pos (-i) hn
 rw [Int.neg_tmod] at h2
 omega
theorem bring_rng (i:Int) {n:Int} (hn:0 < n):0≤bring i n∧bring i n < n:=by
 have:=tmod_rng i hn
 unfold bring
 split<;>omega
end Go.Dr
namespace Go.Dr
open Go.Proofs
set_option maxRecDepth 20000
set_option maxHeartbeats 2000000
set_option linter.unusedSimpArgs false
set_option linter.unusedVariables false
theorem r0_Bring {S:SHeap} (i n:Int) (h0:0 < n) (h1:n≤1000000) (hr:Rng i):FnV Tryz.prog 36 #[.int .i64 i,.int .i64 n] S (.int .i64 (bring i n)):=by
 have hb:=tmod_rng i h0
 (refine Fn.enter (args:=[.int .i64 i,.int .i64 n]) Tryz.func36 rfl Tryz.ntmps36 rfl ?_;intro w0)
 repeat (first|(refine Walk ?_;intros)|refine JC.block ?_)
 refine JO.pure rfl rfl rfl (JPure.rem rfl rfl (by omega) rfl ?_)
 unfold bring
 generalize i.tmod n=m at *
 repeat (first|(refine Walk ?_;intros)|refine JC.block ?_)
 refine JC.cond rfl (fun hm=>?_) (fun hm=>?_)
 ·have hm:=of_decide_eq_true hm
  rw [if_pos hm]
  repeat (first|(refine Walk ?_;intros)|refine JC.block ?_)
  (refine JX.ret1 Tryz.results36 (ResV.tmp rfl) (List.nil_sublist _) ?_)
  exact ⟨rfl,rfl⟩
 ·have hm:=of_decide_eq_false hm
  rw [if_neg hm]
  repeat (first|(refine Walk ?_;intros)|refine JC.block ?_)
  (refine JX.ret1 Tryz.results36 (ResV.tmp rfl) (List.nil_sublist _) ?_)
  exact ⟨rfl,rfl⟩
end Go.Dr
namespace Go.Dr
theorem sum_zero {l:List Clause} (h:∀ c∈l,0≤c.by_∧c.by_≤Qty):sumC l=0↔∀ c∈l,c.by_=0:=by
 induction l with
 | nil=>simp [sumC]
 | cons x l ih=>
  have hx:=h x (by simp)
  have hl:=ih (fun c hc=>h c (by simp [hc]))
  have hs:0≤sumC l:=by
   have:=sum_take_rng (fun c hc=>h c (by simp [hc])) l.length (l:=l)
   rw [List.take_length] at this;exact this.1
  have hw:0≤weight x∧(weight x=0↔x.by_=0):=by
   unfold weight
   split<;>omega
  have e:sumC (x::l)=weight x+sumC l:=by simp [sumC]
  rw [e]
  constructor
  ·intro h0 c hc
   rcases List.mem_cons.1 hc with rfl|hc
   ·exact hw.2.1 (by omega)
   ·exact hl.1 (by omega) c hc
  ·intro h0
   have h1:=hl.2 (fun c hc=>h0 c (by simp [hc]))
   have h2:=hw.2.2 (h0 x (by simp))
   omega
end Go.Dr
namespace Go.Dr
section
variable {s:Snap} {p:List Int} (hp:∀ x∈p,x=-1)
include hp
end
end Go.Dr
namespace Go.Dr
end Go.Dr
namespace Go.Dr
theorem find_named {L:List Clause} (h:L.Pairwise (fun c d=>nameC c≠nameC d)) {c d:Clause} (hd:d∈L) (hn:nameC d=nameC c):findC L c=d.by_:=by
 have hf:=find_self h hd
 simp only [nameC,Prod.mk.injEq] at hn
 unfold findC
 rw [← hn.1,← hn.2.1,← hn.2.2,hf]
end Go.Dr
namespace Go.Dr
end Go.Dr
namespace Go.Dr
theorem in_kinds {s:Snap} {p:List Int} {t a:Nat} (hok:checkP s p=0) (ht:t < 5) (ha:a < p.length) (h:(of8 s p ((t:Int)+2) a).2=true):(⟨(t:Int)+2,a,0,(of8 s p ((t:Int)+2) a).1⟩:Clause)∈allL s p:=by
 unfold allL;rw [if_pos hok]
 unfold allC
 simp only [List.mem_append]
 refine .inl (.inl (.inr ?_))
 unfold kindsTo podsTo
 refine List.mem_flatMap.2 ⟨t,by simpa using ht,List.mem_flatMap.2 ⟨a,by simpa using ha,?_⟩⟩
 unfold podC1
 rw [if_pos h];simp
theorem find_nn (s:Snap) (p:List Int) (c:Clause):0≤findC (allL s p) c:=by
 unfold findC
 split
 ·rename_i d hd
  exact ((allL_rng s p).2 d (List.mem_of_find?_eq_some hd)).1
 ·exact Int.le_refl 0
end Go.Dr
namespace Go.Dr
theorem step_ok {s:Snap} {p q:List Int} {x:Step} {c:Clause} (h:stepV s p x=(q,c,0)):(applyP s p x).2=0∧q=(applyP s p x).1∧(allL s q).filter (worseF (allL s p))=[]∧c=noC∧¬ (x.kind=2∧cordonAt s x.node=true):=by
 unfold stepV at h
 split at h
 ·rename_i h1;exact absurd (congrArg (fun z=>z.2.2) h) h1
 ·rename_i h1
  have h1:(applyP s p x).2=0:=Classical.not_not.1 h1
  split at h
  ·cases h
  ·rename_i h2
   obtain ⟨hq,_,_⟩:=apply_check h1
   obtain ⟨_,_,_,_,_,hok,_⟩:=apply_set h1
   rw [worse_ok hok hq] at h
   split at h
   ·cases h
   ·rename_i h3
    cases h
    exact ⟨h1,rfl,h3,rfl,h2⟩
theorem findC_name {L:List Clause} {c d:Clause} (h:nameC d=nameC c):findC L d=findC L c:=by
 simp only [nameC,Prod.mk.injEq] at h
 unfold findC
 rw [h.1,h.2.1,h.2.2]
def keepsC (s:Snap) (L:List Clause) (p:List Int):Prop:=∀ c∈allL s p,c.by_≤findC L c
theorem keeps_self (s:Snap) (p:List Int):keepsC s (allL s p) p:=fun c hc=>Int.le_of_eq (find_named (allL_names s p) hc rfl).symm
theorem keeps_step {s:Snap} {p0 p q:List Int} {x:Step} {c:Clause} (hk:keepsC s (allL s p0) p) (h:stepV s p x=(q,c,0)):keepsC s (allL s p0) q:=by
 obtain ⟨_,_,h3,_⟩:=step_ok h
 intro d hd
 have h4:=List.filter_eq_nil_iff.1 h3 d hd
 have h4:d.by_≤findC (allL s p) d:=by simp [worseF] at h4;omega
 refine Int.le_trans h4 ?_
 have h5:findC (allL s p) d=0∨∃ f,f∈allL s p∧nameC f=nameC d∧findC (allL s p) d=f.by_:=by
  cases hf:(allL s p).find? (isC d.kind d.a d.b) with
  | none=>left;unfold findC;rw [hf]
  | some f=>
   right
   refine ⟨f,List.mem_of_find?_eq_some hf,?_,by unfold findC;rw [hf]⟩
   have:=List.find?_some hf
   rw [isC_name] at this
   exact of_decide_eq_true this
 rcases h5 with h5|⟨f,hf,hn,h5⟩
 ·rw [h5];exact find_nn s p0 d
 ·rw [h5,← findC_name hn]
  exact hk f hf
end Go.Dr
namespace Go.Dr
def rankV (s:Snap) (p:List Int) (pod:Int):List Int:=sortBy (leftAt s p pod) (waysV s p pod)
theorem ways_mem {s:Snap} {p:List Int} {pod n:Int} (h:n∈waysV s p pod):0≤n∧n < s.nodes.length∧0≤pod∧pod < p.length∧stepV s p ⟨2,pod,n⟩=(p.set pod.toNat n,noC,0):=by
 unfold waysV at h
 obtain ⟨m,hm1,rfl⟩:=List.mem_map.1 h
 obtain ⟨hm2,hm3⟩:=List.mem_filter.1 hm1
 have hm3:(stepV s p ⟨2,pod,m⟩).2.2=0:=of_decide_eq_true hm3
 obtain ⟨q,c,e,hs⟩:∃ q c e,stepV s p ⟨2,pod,m⟩=(q,c,e):=⟨_,_,_,rfl⟩
 rw [hs] at hm3
 obtain rfl:e=0:=hm3
 obtain ⟨h1,h2,_,rfl,_⟩:=step_ok hs
 obtain ⟨v,e1,hi,hi0,_,_,hst⟩:=apply_set h1
 have:=List.mem_range.1 hm2
 dsimp only at e1 hi hi0 hst
 rcases hst with ⟨hk,_⟩|⟨_,hv,_⟩
 ·simp at hk
 ·refine ⟨by omega,by omega,hi0,by omega,?_⟩
  rw [hs,h2,e1,hv]
theorem rank_perm (s:Snap) (p:List Int) (pod:Int):(rankV s p pod).Perm (waysV s p pod):=List.mergeSort_perm _ _
end Go.Dr
namespace Go.Dr
open Go.Sort Go.RowKit Go.Shelf Go.Proofs Go.Lib
set_option linter.unusedSimpArgs false
set_option linter.unusedVariables false
end Go.Dr
namespace Go.Dr
open Go.Lib
end Go.Dr
namespace Go.Dr
end Go.Dr
namespace Go.Dr
end Go.Dr
namespace Go.Dr
end Go.Dr
namespace Go.Dr
theorem at0_set_ne {q:List Int} {i j:Nat} {n:Int} (h:i≠j):at0 (q.set i n) j=at0 q j:=by
 unfold at0;simp [List.getD_eq_getElem?_getD,List.getElem?_set_ne h]
end Go.Dr
namespace Go.Dr
end Go.Dr
namespace Go.Dr
def bindS (x:Move):Step:=⟨2,x.pod,x.to⟩
def offS (pod:Int):Step:=⟨1,pod,0⟩
def stepsOf (p:List Int) (x:Move):List Step:=if at0 p x.pod.toNat=x.to then [] else if at0 p x.pod.toNat=-1 then [bindS x] else [offS x.pod,bindS x]
def askM (s:Snap) (p:List Int) (x:Move):Int:=if ¬ checkP s p=0 then checkP s p else if x.pod < 0∨(p.length:Int)≤x.pod∨x.to < 0∨(s.nodes.length:Int)≤x.to then 9 else 0
def goS (s:Snap):List Int→List Step→List Int × Clause × Int
 | q,[]=>(q,noC,0)
 | q,y::l=>if ¬ (stepV s q y).2.2=0 then ([],(stepV s q y).2.1,100) else goS s (stepV s q y).1 l
def tryV (s:Snap) (p:List Int) (x:Move):List Int × List Step × Clause × Int:=
 if ¬ askM s p x=0 then ([],[],noC,askM s p x)
 else if (goS s p (stepsOf p x)).2.2=0 then ((goS s p (stepsOf p x)).1,stepsOf p x,noC,0)
 else ([],[],(goS s p (stepsOf p x)).2.1,100)
def canV (s:Snap) (p:List Int) (x:Move):Bool:=decide ((tryV s p x).2.2.2=0)&&decide (0 < (tryV s p x).2.1.length)
def hopOk (s:Snap) (p off:List Int) (l:List Move) (shun:List Int) (x:Move) (n:Int):Bool:=!(decide (n=at0 p x.pod.toNat)||decide (n=x.to)||decide (n∈shun))&&l.any (fun y=>!decide (y.pod=x.pod)&&canV s (off.set x.pod.toNat n) y)
def findN (s:Snap) (p:List Int) (l:List Move) (shun:List Int) (x:Move):Option Int:=
 if askM s p x=0∧¬ at0 p x.pod.toNat=-1∧¬ at0 p x.pod.toNat=x.to∧(stepV s p (offS x.pod)).2.2=0 then (rankV s (stepV s p (offS x.pod)).1 x.pod).find? (hopOk s p (stepV s p (offS x.pod)).1 l shun x) else none
def findF (f:Move→Option Int):Int→List Move→Int × Int × Bool
 | _,[]=>(0,0,false)
 | i,x::r=>match f x with|some n=>(i,n,true)|none=>findF f (i+1) r
theorem findF_some {f:Move→Option Int} {i n:Int} {x:Move} {r:List Move} (h:f x=some n):findF f i (x::r)=(i,n,true):=by rw [findF,h]
theorem findF_none {f:Move→Option Int} {i:Int} {x:Move} {r:List Move} (h:f x=none):findF f i (x::r)=findF f (i+1) r:=by rw [findF,h]
def findGo (s:Snap) (p:List Int) (l:List Move) (shun:List Int) (i:Int) (r:List Move):Int × Int × Bool:=findF (findN s p l shun) i r
def findV (s:Snap) (p:List Int) (l:List Move) (shun:List Int):Int × Int × Bool:=findGo s p l shun 0 l
def rowGo (s:Snap):List Int→List Step→List Move→List Move→List Int × List Step × List Move
 | q,st,lf,[]=>(q,st,lf)
 | q,st,lf,x::l=>if ¬ (tryV s q x).2.2.2=0 then rowGo s q st (lf++[x]) l else rowGo s (tryV s q x).1 (st++(tryV s q x).2.1) lf l
def moveAt (l:List Move) (i:Int):Move:=l.getD i.toNat ⟨0,0⟩
def hopV (s:Snap) (q:List Int) (lf:List Move) (shun:List Int) (had:List Int):Option (List Int × List Step × Int):=
 if (findV s q lf shun).2.2=true∧¬ (moveAt lf (findV s q lf shun).1).pod∈had then
  (if (tryV s q ⟨(moveAt lf (findV s q lf shun).1).pod,(findV s q lf shun).2.1⟩).2.2.2=0 then some ((tryV s q ⟨(moveAt lf (findV s q lf shun).1).pod,(findV s q lf shun).2.1⟩).1,(tryV s q ⟨(moveAt lf (findV s q lf shun).1).pod,(findV s q lf shun).2.1⟩).2.1,(moveAt lf (findV s q lf shun).1).pod) else none)
 else none
structure RdS where
 q:List Int
 st:List Step
 lf:List Move
 had:List Int
def rdRow (s:Snap) (r:RdS):RdS:=⟨(rowGo s r.q r.st [] r.lf).1,(rowGo s r.q r.st [] r.lf).2.1,(rowGo s r.q r.st [] r.lf).2.2,r.had⟩
def rdStart (p:List Int) (l:List Move):RdS:=⟨p,[],l.take 48,[]⟩
/-! ### What a try does -/
theorem run_append (s:Snap):∀ (a b:List Step) (q q1:List Int) (i i1:Int),runGo s q i a=(q1,i1,0)→runGo s q i (a++b)=runGo s q1 i1 b
 | [],b,q,q1,i,i1,h=>by
  rw [runGo] at h
  cases h
  rfl
 | y::a,b,q,q1,i,i1,h=>by
  rw [runGo] at h
  rw [List.cons_append,runGo]
  split at h
  ·rename_i h1
   have:=congrArg (fun z=>z.2.2) h
   dsimp only at this
   exact absurd this h1
  ·rename_i h1
   rw [if_neg h1]
   exact run_append s a b _ q1 _ i1 h
theorem goS_run (s:Snap):∀ (l:List Step) (q:List Int) (i:Int),(goS s q l).2.2=0→runGo s q i l=((goS s q l).1,i+l.length,0)
 | [],q,i,_=>by rw [runGo,goS];simp
 | y::l,q,i,h=>by
  rw [goS] at h
  rw [runGo,goS]
  split at h
  ·cases h
  ·rename_i h1
   rw [if_neg h1,if_neg h1,goS_run s l _ _ h]
   refine Prod.ext rfl (Prod.ext ?_ rfl)
   simp only [List.length_cons];omega
theorem goS_keeps {s:Snap} {p0:List Int}:∀ (l:List Step) (q:List Int),checkP s q=0→keepsC s (allL s p0) q→(goS s q l).2.2=0→checkP s (goS s q l).1=0∧keepsC s (allL s p0) (goS s q l).1∧(goS s q l).1.length=q.length
 | [],q,h1,h2,_=>by rw [goS];exact ⟨h1,h2,rfl⟩
 | y::l,q,h1,h2,h=>by
  rw [goS] at h ⊢
  split at h
  ·cases h
  ·rename_i he
   rw [if_neg he]
   obtain ⟨a,b,c⟩:∃ a b,stepV s q y=(a,b,0):=⟨_,_,Prod.ext rfl (Prod.ext rfl (Classical.not_not.1 he))⟩
   obtain ⟨e1,e2,_⟩:=step_ok c
   obtain ⟨f1,f2,_⟩:=apply_check e1
   rw [c] at h ⊢
   dsimp only at h ⊢
   obtain ⟨g1,g2,g3⟩:=goS_keeps l a (by rw [e2];exact f1) (keeps_step h2 c) h
   exact ⟨g1,g2,by rw [g3,e2,f2]⟩
theorem set_at0 {p:List Int} {i:Nat}:p.set i (at0 p i)=p:=by
 refine List.ext_getElem? fun j=>?_
 rw [List.getElem?_set]
 split
 ·rename_i e
  subst e
  split
  ·rename_i h
   rw [at0_some (List.getElem?_eq_getElem h),List.getElem?_eq_getElem h]
  ·rename_i h
   rw [List.getElem?_eq_none (by omega)]
 ·rfl
theorem step_bind {s:Snap} {p:List Int} {x:Move} (h:(stepV s p (bindS x)).2.2=0):stepV s p (bindS x)=(p.set x.pod.toNat x.to,noC,0)∧0≤x.pod∧x.pod < p.length:=by
 obtain ⟨a,b,c⟩:∃ a b,stepV s p (bindS x)=(a,b,0):=⟨_,_,Prod.ext rfl (Prod.ext rfl h)⟩
 obtain ⟨h1,h2,_,rfl,_⟩:=step_ok c
 obtain ⟨v,e1,hi,hi0,_,_,hst⟩:=apply_set h1
 dsimp only [bindS] at e1 hi hi0 hst
 rcases hst with ⟨hk,_⟩|⟨_,hv,_⟩
 ·simp at hk
 ·refine ⟨?_,hi0,by omega⟩
  rw [c,h2]
  exact Prod.ext (e1.trans (by rw [hv])) rfl
theorem step_off {s:Snap} {p:List Int} {pod:Int} (h:(stepV s p (offS pod)).2.2=0):stepV s p (offS pod)=(p.set pod.toNat (-1),noC,0)∧0≤pod∧pod < p.length:=by
 obtain ⟨a,b,c⟩:∃ a b,stepV s p (offS pod)=(a,b,0):=⟨_,_,Prod.ext rfl (Prod.ext rfl h)⟩
 obtain ⟨h1,h2,_,rfl,_⟩:=step_ok c
 obtain ⟨v,e1,hi,hi0,_,_,hst⟩:=apply_set h1
 dsimp only [offS] at e1 hi hi0 hst
 rcases hst with ⟨_,hv,_⟩|⟨hk,_⟩
 ·refine ⟨?_,hi0,by omega⟩
  rw [c,h2]
  exact Prod.ext (e1.trans (by rw [hv])) rfl
 ·simp at hk
theorem askM_ok {s:Snap} {p:List Int} {x:Move} (h:askM s p x=0):checkP s p=0∧0≤x.pod∧x.pod < p.length∧0≤x.to∧x.to < s.nodes.length:=by
 unfold askM at h
 split at h
 ·rename_i h1;exact absurd h h1
 ·rename_i h1
  split at h
  ·cases h
  ·exact ⟨Classical.not_not.1 h1,by omega,by omega,by omega,by omega⟩
theorem try_ok {s:Snap} {p:List Int} {x:Move} (h:(tryV s p x).2.2.2=0):askM s p x=0∧(goS s p (stepsOf p x)).2.2=0∧tryV s p x=(p.set x.pod.toNat x.to,stepsOf p x,noC,0)∧(goS s p (stepsOf p x)).1=p.set x.pod.toNat x.to:=by
 unfold tryV at h ⊢
 split at h
 ·rename_i h1;exact absurd h h1
 ·rename_i h1
  have h1:=Classical.not_not.1 h1
  obtain ⟨_,hp0,hp1,_⟩:=askM_ok h1
  split at h
  ·rename_i h2
   have key:(goS s p (stepsOf p x)).1=p.set x.pod.toNat x.to:=by
    unfold stepsOf at h2 ⊢
    split
    ·rename_i e
     rw [goS,← e,set_at0]
    ·rename_i e
     rw [if_neg e] at h2
     split
     ·rename_i e2
      rw [if_pos e2,goS] at h2
      rw [goS]
      split at h2
      ·cases h2
      ·rename_i e3
       have e3:=Classical.not_not.1 e3
       rw [if_neg (by simpa using e3),goS,(step_bind e3).1]
     ·rename_i e2
      rw [if_neg e2,goS] at h2
      rw [goS]
      split at h2
      ·cases h2
      ·rename_i e3
       have e3:=Classical.not_not.1 e3
       rw [if_neg (by simpa using e3)]
       rw [(step_off e3).1,goS] at h2
       rw [(step_off e3).1,goS]
       dsimp only at h2 ⊢
       split at h2
       ·cases h2
       ·rename_i e4
        have e4:=Classical.not_not.1 e4
        rw [if_neg (by simpa using e4),goS,(step_bind e4).1]
        simp
   rw [if_neg (by simpa using h1),if_pos h2]
   exact ⟨h1,h2,by rw [key],key⟩
  ·cases h
theorem stepsOf_len (p:List Int) (x:Move):(stepsOf p x).length≤2∧((stepsOf p x).length=0↔at0 p x.pod.toNat=x.to):=by
 unfold stepsOf
 split
 ·rename_i h;exact ⟨by simp,by simp [h]⟩
 ·rename_i h
  split<;>exact ⟨by simp,by simp [h]⟩
/-! ### Find -/
theorem findN_ok {s:Snap} {p:List Int} {l:List Move} {shun:List Int} {x:Move} {n:Int} (h:findN s p l shun x=some n) :
  askM s p x=0∧¬ at0 p x.pod.toNat=x.to∧¬ at0 p x.pod.toNat=-1∧stepV s p (offS x.pod)=(p.set x.pod.toNat (-1),noC,0)∧stepV s (p.set x.pod.toNat (-1)) (bindS ⟨x.pod,n⟩)=(p.set x.pod.toNat n,noC,0)∧0≤n∧n < s.nodes.length ∧
  ¬ n=at0 p x.pod.toNat∧¬ n=x.to∧n∉shun∧∃ y∈l,¬ y.pod=x.pod∧canV s (p.set x.pod.toNat n) y=true:=by
 unfold findN at h
 split at h
 ·rename_i hc
  obtain ⟨h1,h2,h3,h4⟩:=hc
  have hoff:=(step_off h4).1
  rw [hoff] at h
  have hm:=List.mem_of_find?_eq_some h
  have hp:=List.find?_some h
  have hw:=(rank_perm s _ x.pod).mem_iff.1 hm
  obtain ⟨a,b,_,_,c⟩:=ways_mem hw
  simp only [hopOk,Bool.and_eq_true,Bool.not_eq_true',Bool.or_eq_false_iff,decide_eq_false_iff_not,List.any_eq_true,List.set_set] at hp c
  obtain ⟨⟨⟨p1,p2⟩,p3⟩,y,y1,y2,y3⟩:=hp
  exact ⟨h1,h3,h2,hoff,c,a,b,p1,p2,p3,y,y1,y2,y3⟩
 ·cases h
theorem findF_ok {f:Move→Option Int}:∀ (r:List Move) (i:Int),((findF f i r).2.2=false→findF f i r=(0,0,false)) ∧
  ((findF f i r).2.2=true→∃ (k:Nat) (x:Move),r[k]?=some x∧(findF f i r).1=i+k∧f x=some (findF f i r).2.1)
 | [],i=>by rw [findF];exact ⟨fun _=>rfl,fun h=>(by cases h)⟩
 | x::r,i=>by
  cases hn:f x with
  | some n=>
   rw [findF_some hn]
   exact ⟨fun h=>(by cases h),fun _=>⟨0,x,rfl,by simp,hn⟩⟩
  | none=>
   rw [findF_none hn]
   obtain ⟨h1,h2⟩:=findF_ok (f:=f) r (i+1)
   refine ⟨h1,fun h=>?_⟩
   obtain ⟨k,y,a,b,c⟩:=h2 h
   exact ⟨k+1,y,by simpa using a,by rw [b];omega,c⟩
theorem findGo_ok {s:Snap} {p:List Int} {l:List Move} {shun:List Int} (r:List Move) (i:Int):((findGo s p l shun i r).2.2=false→findGo s p l shun i r=(0,0,false)) ∧
  ((findGo s p l shun i r).2.2=true→∃ (k:Nat) (x:Move),r[k]?=some x∧(findGo s p l shun i r).1=i+k∧findN s p l shun x=some (findGo s p l shun i r).2.1):=findF_ok r i
theorem find_ok {s:Snap} {p:List Int} {l:List Move} {shun:List Int} (h:(findV s p l shun).2.2=true):∃ (k:Nat) (x:Move),l[k]?=some x∧(findV s p l shun).1=k∧moveAt l (findV s p l shun).1=x∧findN s p l shun x=some (findV s p l shun).2.1:=by
 obtain ⟨k,x,a,b,c⟩:=(findGo_ok l 0).2 h
 have b':(findV s p l shun).1=k:=by unfold findV;rw [b];omega
 refine ⟨k,x,a,b',?_,c⟩
 unfold moveAt
 rw [b',Int.toNat_natCast,List.getD_eq_getElem?_getD,a];rfl
theorem hop_try {s:Snap} {q:List Int} {l:List Move} {shun:List Int} {x:Move} {n:Int} (h:findN s q l shun x=some n):tryV s q ⟨x.pod,n⟩=(q.set x.pod.toNat n,[offS x.pod,bindS ⟨x.pod,n⟩],noC,0):=by
 obtain ⟨h1,h2,h3,h4,h5,h6,h7,h8,_⟩:=findN_ok h
 obtain ⟨a1,a2,a3,_⟩:=askM_ok h1
 have hask:askM s q ⟨x.pod,n⟩=0:=by
  unfold askM
  rw [if_neg (by simpa using a1),if_neg]
  dsimp only;omega
 have hst:stepsOf q ⟨x.pod,n⟩=[offS x.pod,bindS ⟨x.pod,n⟩]:=by
  unfold stepsOf
  rw [if_neg (fun e=>h8 e.symm),if_neg h3]
 have hg:goS s q [offS x.pod,bindS ⟨x.pod,n⟩]=(q.set x.pod.toNat n,noC,0):=by
  rw [goS,h4]
  dsimp only
  rw [if_neg (by simp),goS,h5]
  dsimp only
  rw [if_neg (by simp),goS]
 unfold tryV
 rw [if_neg (by simpa using hask),hst,hg]
 exact if_pos rfl
/-! ### Round -/
structure RdC (s:Snap) (p:List Int) (l:List Move) (q:List Int) (st:List Step):Prop where
 chk:checkP s q=0
 len:q.length=p.length
 run:runGo s p 0 st=(q,(st.length:Int),0)
 keep:keepsC s (allL s p) q
 stay:∀ i:Nat,¬ at0 q i=at0 p i→∃ x∈l,x.pod=i
theorem RdC.step {s:Snap} {p q:List Int} {l:List Move} {st:List Step} {x:Move} (h:RdC s p l q st) (hx:∃ y∈l,y.pod=x.pod) (ht:(tryV s q x).2.2.2=0):RdC s p l (tryV s q x).1 (st++(tryV s q x).2.1):=by
 obtain ⟨ha,hg,he,hq⟩:=try_ok ht
 obtain ⟨_,a1,a2,_⟩:=askM_ok ha
 obtain ⟨g1,g2,g3⟩:=goS_keeps _ q h.chk h.keep hg
 rw [he]
 dsimp only
 rw [hq] at g1 g2 g3
 refine ⟨g1,by rw [g3,h.len],?_,g2,fun i hi=>?_⟩
 ·rw [run_append s st _ p q 0 _ h.run,goS_run s _ q _ hg,hq]
  refine Prod.ext rfl (Prod.ext ?_ rfl)
  simp only [List.length_append];omega
 ·by_cases e:x.pod.toNat=i
  ·obtain ⟨y,y1,y2⟩:=hx
   exact ⟨y,y1,by omega⟩
  ·rw [at0_set_ne e] at hi
   exact h.stay i hi
theorem row_ok {s:Snap} {p:List Int} {l:List Move}:∀ (rest:List Move) (q:List Int) (st:List Step) (lf:List Move),RdC s p l q st→(∀ x∈rest,x∈l)→(∀ x∈lf,x∈l) →
  RdC s p l (rowGo s q st lf rest).1 (rowGo s q st lf rest).2.1∧(∀ x∈(rowGo s q st lf rest).2.2,x∈l)∧st.length≤(rowGo s q st lf rest).2.1.length ∧
  (rowGo s q st lf rest).2.1.length+2*(rowGo s q st lf rest).2.2.length≤st.length+2*(lf.length+rest.length)∧(rowGo s q st lf rest).2.2.length≤lf.length+rest.length ∧
  (st.length < (rowGo s q st lf rest).2.1.length→(rowGo s q st lf rest).2.2.length < lf.length+rest.length) ∧
  (¬ st.length < (rowGo s q st lf rest).2.1.length→(rowGo s q st lf rest).1=q∧(rowGo s q st lf rest).2.1=st∧∀ x∈(rowGo s q st lf rest).2.2,x∈lf∨¬ (tryV s q x).2.2.2=0)
 | [],q,st,lf,h,_,hl=>by
  rw [rowGo]
  exact ⟨h,hl,Nat.le_refl _,by simp,by simp,fun h=>by dsimp only at h;omega,fun _=>⟨rfl,rfl,fun x hx=>.inl hx⟩⟩
 | x::rest,q,st,lf,h,hr,hl=>by
  have hxl:=hr x (by simp)
  rw [rowGo]
  split
  ·rename_i hf
   obtain ⟨a,b,c,d,e,f,g⟩:=row_ok rest q st (lf++[x]) h (fun y hy=>hr y (by simp [hy])) (fun y hy=>by
    rcases List.mem_append.1 hy with hy|hy
    ·exact hl y hy
    ·rw [List.mem_singleton] at hy;subst hy;exact hxl)
   simp only [List.length_append,List.length_cons,List.length_nil] at d e f ⊢
   refine ⟨a,b,c,by omega,by omega,fun hh=>by have:=f hh;omega,fun hh=>?_⟩
   obtain ⟨g1,g2,g3⟩:=g hh
   refine ⟨g1,g2,fun y hy=>?_⟩
   rcases g3 y hy with hy|hy
   ·rcases List.mem_append.1 hy with hy|hy
    ·exact .inl hy
    ·rw [List.mem_singleton] at hy;subst hy;exact .inr hf
   ·exact .inr hy
  ·rename_i hf
   have hf:=Classical.not_not.1 hf
   obtain ⟨_,_,he,_⟩:=try_ok hf
   have hs2:=stepsOf_len q x
   obtain ⟨a,b,c,d,e,f,g⟩:=row_ok rest _ _ lf (h.step ⟨x,hxl,rfl⟩ hf) (fun y hy=>hr y (by simp [hy])) hl
   have hst:(tryV s q x).2.1=stepsOf q x:=by rw [he]
   simp only [List.length_append,List.length_cons] at c d e f g ⊢
   rw [hst] at a b c d e f g ⊢
   refine ⟨a,b,by omega,by omega,by omega,fun hh=>by omega,fun hh=>?_⟩
   have h0:(stepsOf q x).length=0:=by omega
   obtain ⟨g1,g2,g3⟩:=g (by omega)
   have hsn:stepsOf q x=[]:=List.eq_nil_of_length_eq_zero h0
   have hqe:(tryV s q x).1=q:=by
    rw [he];dsimp only
    rw [← hs2.2.1 h0,set_at0]
   rw [hqe] at g1 g2 g3 ⊢
   rw [hsn,List.append_nil] at g1 g2 g3 ⊢
   exact ⟨g1,g2,g3⟩
structure RdI (s:Snap) (p:List Int) (l:List Move) (r:RdS):Prop where
 core:RdC s p l r.q r.st
 lf:∀ x∈r.lf,x∈l
 had:∀ x∈r.had,x∈l.map Move.pod
 nodup:r.had.Nodup
 most:r.st.length+2*r.lf.length≤2*(l.length+r.had.length)
theorem RdI.row {s:Snap} {p:List Int} {l:List Move} {r:RdS} (h:RdI s p l r):RdI s p l (rdRow s r):=by
 obtain ⟨a,b,_,d,_,_,_⟩:=row_ok r.lf r.q r.st [] h.core h.lf (by simp)
 have:=h.most
 simp only [List.length_nil] at d
 exact ⟨a,b,h.had,h.nodup,by show (rowGo s r.q r.st [] r.lf).2.1.length+2*(rowGo s r.q r.st [] r.lf).2.2.length≤2*(l.length+r.had.length);omega⟩
theorem hopV_some {s:Snap} {q:List Int} {lf:List Move} {shun had:List Int} {q2:List Int} {st:List Step} {pod:Int} (h:hopV s q lf shun had=some (q2,st,pod)) :
  ∃ (k:Nat) (x:Move) (n:Int),lf[k]?=some x∧findV s q lf shun=((k:Int),n,true)∧findN s q lf shun x=some n∧pod=x.pod∧¬ x.pod∈had∧q2=q.set x.pod.toNat n∧st=[offS x.pod,bindS ⟨x.pod,n⟩]∧tryV s q ⟨x.pod,n⟩=(q2,st,noC,0):=by
 unfold hopV at h
 split at h
 ·rename_i hc
  obtain ⟨h1,h2⟩:=hc
  obtain ⟨k,x,a,b,c,d⟩:=find_ok h1
  have ht:=hop_try d
  rw [c] at h h2
  rw [ht] at h
  dsimp only at h
  rw [if_pos rfl] at h
  cases h
  exact ⟨k,x,_,a,Prod.ext b (Prod.ext rfl h1),d,rfl,h2,rfl,rfl,ht⟩
 ·cases h
theorem RdI.hop {s:Snap} {p:List Int} {l:List Move} {r:RdS} {shun:List Int} {q2:List Int} {st:List Step} {pod:Int} (h:RdI s p l r) (hh:hopV s r.q r.lf shun r.had=some (q2,st,pod)):RdI s p l ⟨q2,r.st++st,r.lf,r.had++[pod]⟩:=by
 obtain ⟨k,x,n,a,_,_,rfl,hn,hq,hs,ht⟩:=hopV_some hh
 have hxl:=h.lf x (List.mem_of_getElem? a)
 have hc:=h.core.step (x:=⟨x.pod,n⟩) ⟨x,hxl,rfl⟩ (by rw [ht])
 rw [ht] at hc
 refine ⟨hc,h.lf,fun y hy=>?_,?_,?_⟩
 ·rcases List.mem_append.1 hy with hy|hy
  ·exact h.had y hy
  ·rw [List.mem_singleton] at hy;subst hy
   exact List.mem_map.2 ⟨x,hxl,rfl⟩
 ·refine List.nodup_append.2 ⟨h.nodup,by simp,fun a ha b hb=>?_⟩
  rw [List.mem_singleton] at hb;subst hb
  intro e;subst e;exact hn ha
 ·have:=h.most
  rw [hs]
  simp only [List.length_append,List.length_cons,List.length_nil];omega
theorem RdI.start {s:Snap} {p:List Int} (hc:checkP s p=0) (l:List Move):RdI s p (l.take 48) (rdStart p l):=
 ⟨⟨hc,rfl,by rw [rdStart,runGo];rfl,keeps_self s p,fun i h=>absurd rfl h⟩,fun x hx=>hx,fun x hx=>(by cases hx),List.nodup_nil,by simp [rdStart]⟩
/-! ### Moves of unlike pods -/
end Go.Dr
namespace Go.Dr
open Go.Proofs
set_option maxRecDepth 20000
set_option maxHeartbeats 2000000
set_option linter.unusedSimpArgs false
set_option linter.unusedVariables false
section
variable {C:Cx} {R:Rg} {Q:Post} {S:SHeap} {M:List MEnt} {e:Env} {rest:List Nat}
variable {d:Nat} {ty:TypeId} {pos:String} {aft:Array Edge} {g:Option (Nat × Bool)}
end
end Go.Dr
namespace Go.Dr
open Go.Proofs
set_option maxRecDepth 20000
set_option maxHeartbeats 2000000
set_option linter.unusedSimpArgs false
set_option linter.unusedVariables false
structure OfferD where
 s:Snap
 p:List Int
 pod:Int
def rOffer:Rp OfferD:=rMap (fun x:OfferD=>(x.s,x.p,x.pod)) (rSeq rSnap (rSeq (rSlice 8 rI64) rI64))
instance:Fld rOffer 0 rSnap OfferD.s:=⟨(Part.map Part.first)⟩
instance:Fld rOffer 3 (rSlice 8 rI64) OfferD.p:=⟨(Part.map (Part.next Part.first rfl))⟩
instance:Fld rOffer 4 rI64 OfferD.pod:=⟨(Part.map (Part.next (Part.last rfl) rfl))⟩
instance:TyR Tryz.prog 173 rOffer:=⟨by kernel_rfl⟩
end Go.Dr
namespace Go.Proofs
open Go.Shelf
end Go.Proofs
namespace Go.Dr
open Go.Proofs
end Go.Dr
namespace Go.Dr
open Go.Proofs
set_option maxRecDepth 20000
set_option maxHeartbeats 2000000
set_option linter.unusedSimpArgs false
set_option linter.unusedVariables false
theorem p_isNaNi {S:SHeap} (a:Int):FnV Tryz.prog 216 #[.int .i64 a] S (.bool false):=by
 (refine Fn.enter (args:=[.int .i64 a]) Tryz.func216 rfl Tryz.ntmps216 rfl ?_;intro w0)
 repeat (first|(refine Walk ?_;intros)|refine JC.block ?_)
 rw [decide_eq_true (rfl:a=a)]
 (refine JX.ret1 Tryz.results216 (ResV.tmp rfl) (List.nil_sublist _) ?_)
 exact ⟨rfl,rfl⟩
theorem p_CompareI {S:SHeap} (a b:Int):FnV Tryz.prog 149 #[.int .i64 a,.int .i64 b] S (.int .i64 (cmpI a b)):=by
 (refine Fn.enter (args:=[.int .i64 a,.int .i64 b]) Tryz.func149 rfl Tryz.ntmps149 rfl ?_;intro w0)
 repeat (first|(refine Walk ?_;intros)|refine JC.block ?_|(refine JO.eff rfl rfl rfl (JEff.callV rfl (p_isNaNi _) rfl ?_);intro _ _))
 by_cases h1:a < b
 ·rw [decide_eq_true h1,show cmpI a b=-1 from if_pos h1]
  repeat (first|(refine Walk ?_;intros)|refine JC.block ?_|(refine JO.eff rfl rfl rfl (JEff.callV rfl (p_isNaNi _) rfl ?_);intro _ _))
  (refine JX.ret1 Tryz.results149 (ResV.tmp rfl) (List.nil_sublist _) ?_)
  exact ⟨rfl,rfl⟩
 ·rw [decide_eq_false h1]
  repeat (first|(refine Walk ?_;intros)|refine JC.block ?_|(refine JO.eff rfl rfl rfl (JEff.callV rfl (p_isNaNi _) rfl ?_);intro _ _))
  by_cases h2:b < a
  ·rw [decide_eq_true h2,show cmpI a b=1 by unfold cmpI;rw [if_neg h1,if_pos h2]]
   repeat (first|(refine Walk ?_;intros)|refine JC.block ?_|(refine JO.eff rfl rfl rfl (JEff.callV rfl (p_isNaNi _) rfl ?_);intro _ _))
   (refine JX.ret1 Tryz.results149 (ResV.tmp rfl) (List.nil_sublist _) ?_)
   exact ⟨rfl,rfl⟩
  ·rw [decide_eq_false h2,show cmpI a b=0 by unfold cmpI;rw [if_neg h1,if_neg h2]]
   repeat (first|(refine Walk ?_;intros)|refine JC.block ?_|(refine JO.eff rfl rfl rfl (JEff.callV rfl (p_isNaNi _) rfl ?_);intro _ _))
   (refine JX.ret1 Tryz.results149 (ResV.tmp rfl) (List.nil_sublist _) ?_)
   exact ⟨rfl,rfl⟩
end Go.Dr
namespace Go.Dr
open Go.Proofs
set_option maxRecDepth 20000
set_option maxHeartbeats 2000000
set_option linter.unusedSimpArgs false
set_option linter.unusedVariables false
end Go.Dr
namespace Go.Dr
section
variable {P:Program} {b:Frame} {a:Act} {k:List Item} {cs:List Frame} {w:World}
end
end Go.Dr
namespace Go.Dr
open Go.Proofs
set_option maxRecDepth 20000
set_option maxHeartbeats 2000000
set_option linter.unusedSimpArgs false
set_option linter.unusedVariables false
def idxI (l:List Int) (n:Int):Int:=idxF (fun x=>decide (x=n)) l
theorem idxI_nn (l:List Int) (n:Int):decide (0≤idxI l n)=decide (n∈l):=by
 unfold idxI
 rw [idxF_nn,Bool.eq_iff_iff]
 simp
theorem p_Index_int {S:SHeap} {u:Value} {l:List Int} (n:Int) (hu:(rSlice 8 rI64).V S u l):FnV Tryz.prog 175 #[u,.int .i64 n] S (.int .i64 (idxI l n)):=by
 obtain ⟨a,c,rfl,_,_,hb,_⟩:=V_slice.1 hu
 unfold big at hb
 (refine Fn.enter (args:=[.slice a l.length c,.int .i64 n]) Tryz.func175 rfl Tryz.ntmps175 rfl ?_;intro w0)
 repeat (first|(refine Walk ?_;intros)|refine JC.block ?_)
 refine JC.loopF0 [(0,_),(1,_),(7,_)] (fun (k:Nat)=>[(8,.int .i64 k)]) (fun Sk k=>k≤l.length∧(l.findIdx? (fun x=>decide (x=n))=((l.drop k).findIdx? (fun x=>decide (x=n))).map (·+k))) (fun k=>l.length - k) 0 (by exact sba) (by exact sba) ⟨Nat.zero_le _,by simp⟩ ?_;intro Sk k hlk hik;obtain ⟨hk,hik⟩:=hik;(try dsimp only at hk hik);dsimp only [List.cons_append,List.nil_append]
 repeat (first|(refine Walk ?_;intros)|refine JC.block ?_)
 refine JC.cond rfl (fun hc=>?_) (fun hc=>?_)
 ·have hk':=dlt hc
  obtain ⟨x,hx,hd⟩:=drop_at hk'
  repeat (first|(refine Walk ?_;intros)|refine JC.block ?_)
  refine JC.cond rfl (fun h1=>?_) (fun h1=>?_)
  ·have h1:decide (x=n)=true:=by have:=of_decide_eq_true h1;simp [this]
   repeat (first|(refine Walk ?_;intros)|refine JC.block ?_)
   (refine JX.ret1 Tryz.results175 (ResV.tmp rfl) (List.nil_sublist _) ?_)
   exact ⟨rfl,by rw [idxI,idx_hit hd h1 hik]⟩
  ·have h1:decide (x=n)=false:=by have:=of_decide_eq_false h1;simp;exact fun h=>this h.symm
   repeat (first|(refine Walk ?_;intros)|refine JC.block ?_)
   exact JX.roundF (k+1) (by exact lea) ⟨by omega,(idx_step hd h1 hik)⟩ (by (try dsimp only);omega) rfl (by exact sba) (by exact sba)
 ·have hk':=dnlt hc
  repeat (first|(refine Walk ?_;intros)|refine JC.block ?_)
  (refine JX.ret1 Tryz.results175 (ResV.tmp rfl) (List.nil_sublist _) ?_)
  exact ⟨rfl,by rw [idxI,idx_miss (List.drop_eq_nil_of_le hk') hik]⟩
theorem p_Contains_int {S:SHeap} {u:Value} {l:List Int} (n:Int) (hu:(rSlice 8 rI64).V S u l):FnV Tryz.prog 118 #[u,.int .i64 n] S (.bool (decide (n∈l))):=by
 (refine Fn.enter (args:=[u,.int .i64 n]) Tryz.func118 rfl Tryz.ntmps118 rfl ?_;intro w0)
 repeat (first|(refine Walk ?_;intros)|refine JC.block ?_|(refine JO.eff rfl rfl rfl (JEff.callV rfl (p_Index_int _ (by exact vta)) rfl ?_);intro _ _))
 (refine JX.ret1 Tryz.results118 (ResV.tmp rfl) (List.nil_sublist _) ?_)
 exact ⟨rfl,by rw [← idxI_nn]⟩
end Go.Dr
namespace Go.Dr
def andV (a b:Int):Int:=IntKind.i64.wrap ((BitVec.ofInt 64 a &&& BitVec.ofInt 64 b).toNat:Int)
theorem and_bits:∀ n:Fin 32,∀ b:Fin 5,(andV (n.val:Int) ((2 ^ b.val:Nat):Int)=0)=(n.val.testBit b.val=false):=by
 intro n b
 have h:∀ n:Fin 32,∀ b:Fin 5,decide (andV (n.val:Int) ((2 ^ b.val:Nat):Int)=0)=!n.val.testBit b.val:=by decide +kernel
 have h1:=h n b
 cases hb:n.val.testBit b.val
 ·rw [hb] at h1
  simpa using h1
 ·rw [hb] at h1
  simpa using h1
section
variable {C:Cx} {R:Rg} {Q:Post} {S:SHeap} {M:List MEnt} {e:Env} {rest:List Nat}
variable {d:Nat} {ty:TypeId} {pos:String} {aft:Array Edge} {g:Option (Nat × Bool)} {an:Bool}
theorem JPure.and {t t':TypeId} {x y:Operand} {a b:Int} (hx:ev e x=some (.int .i64 a)) (hy:ev e y=some (.int .i64 b)) (hdN:Nat.blt d C.N=true) (k:JO C R rest Q S M ((d,.int .i64 (andV a b))::e)) :
  JPure C R an ⟨some d,.binOp .and t x y t',ty,pos,aft,g⟩ rest Q S M e:=
 JPure.of rfl hdN (fun a' w' h=>by
  simp only [execOp,h.eval hx,h.eval hy]
  simp [go_sem,eqGuard,Op.intBits,andV]
  rfl) k
end
end Go.Dr
namespace Go.Dr
open Go.Proofs
set_option maxRecDepth 20000
set_option maxHeartbeats 2000000
set_option linter.unusedSimpArgs false
set_option linter.unusedVariables false
structure Seek where
 s:Snap
 p:List Int
 g:Pol
 high:List Int
 low:List Int
def rSeek:Rp Seek:=rMap (fun x:Seek=>(x.s,x.p,x.g,x.high,x.low)) (rSeq rSnap (rSeq (rSlice 8 rI64) (rSeq rPol (rSeq (rSlice 8 rI64) (rSlice 8 rI64)))))
instance:Fld rSeek 0 rSnap Seek.s:=⟨(Part.map Part.first)⟩
instance:Fld rSeek 3 (rSlice 8 rI64) Seek.p:=⟨(Part.map (Part.next Part.first rfl))⟩
instance:Fld rSeek 4 rPol Seek.g:=⟨(Part.map (Part.next (Part.next Part.first rfl) rfl))⟩
instance:Fld rSeek 13 (rSlice 8 rI64) Seek.high:=⟨(Part.map (Part.next (Part.next (Part.next Part.first rfl) rfl) rfl))⟩
instance:Fld rSeek 14 (rSlice 8 rI64) Seek.low:=⟨(Part.map (Part.next (Part.next (Part.next (Part.last rfl) rfl) rfl) rfl))⟩
instance:TyR Tryz.prog 200 rSeek:=⟨by kernel_rfl⟩
def seekOf (s:Snap) (p:List Int) (g:Pol):Seek:=⟨s,p,g,highV s p g,lowV s p g⟩
theorem V_seek {S:SHeap} {u v w a b:Value} {x:Seek} (h1:rSnap.V S u x.s) (h2:(rSlice 8 rI64).V S v x.p) (h3:rPol.V S w x.g) (h4:(rSlice 8 rI64).V S a x.high) (h5:(rSlice 8 rI64).V S b x.low):rSeek.V S (.agg (flatCells [u,v,w,a,b]).toArray) x:=by
 obtain ⟨cs,rfl,hs⟩:=V_agg rfl h1
 obtain ⟨gs,rfl,hg⟩:=V_agg rfl h3
 obtain ⟨va,vc,rfl,_⟩:=V_slice.1 h2
 obtain ⟨aa,ac,rfl,_⟩:=V_slice.1 h4
 obtain ⟨ba,bc,rfl,_⟩:=V_slice.1 h5
 exact ⟨cs++(.slice va x.p.length vc::(gs++[.slice aa x.high.length ac,.slice ba x.low.length bc])),map_R ⟨cs,_,rfl,hs,[_],_,rfl,h2.one rfl,gs,_,rfl,hg,[_],[_],rfl,h4.one rfl,h5.one rfl⟩,by
  rw [show rSeek.agg=true from rfl]
  simp [flatCells,Value.cells]⟩
def AtAns (s:Snap) (p:List Int) (g:Pol) (z:Value) (S':SHeap):Prop:=
 (mayD s p g=false∧z=.tuple #[.pointer none,.bool false])∨(mayD s p g=true∧∃ q,z=.tuple #[.pointer (some q),.bool true]∧PtrTo S' q rSeek (seekOf s p g))
theorem s77_L13p {P K:Prop} (k:K) (h:Goal K→P:=by
 intro zk
 (first|refine Walk ?_|refine JC.block ?_|refine JC.drawN 3 rfl [0,1,2,3,4,5,7,8,9,6,10,11,12,13,14] [3,4,5,11,13,14] Tryz_mixed (by decide +kernel) ?_|(refine JO.eff rfl rfl rfl (JEff.callV rfl (p7_Check (by exact vta) (by exact vta)) rfl ?_);intro zqa zqb)|(refine JO.eff rfl rfl rfl (JEff.callL rfl (p12_High (by exact vta) (by exact vta) (by exact vta)) rfl ?_);intro zqa zqb zqc zqd zqe zqf)|(refine JO.eff rfl rfl rfl (JEff.callV rfl (p6_Check (by exact vta)) rfl ?_);intro zqa zqb)|(refine JO.eff rfl rfl rfl (JEff.callL rfl (p12_Low (by exact vta) (by exact vta) (by exact vta)) rfl ?_);intro zqa zqb zqc zqd zqe zqf)|(refine WBox ?_))
 (repeat (first|revert zqg|revert zqf|revert zqe|revert zqd|revert zqc|revert zqb|revert zqa))
 exact zk.k):P:=h ⟨k⟩
theorem p13_at {S:SHeap} {u v w:Value} {s:Snap} {p:List Int} {g:Pol} (hu:rSnap.V S u s) (hv:(rSlice 8 rI64).V S v p) (hw:rPol.V S w g):FnR Tryz.prog 77 #[u,v,w] S (AtAns s p g):=by
 obtain ⟨pa,pc,rfl,_⟩:=V_slice.1 hv
 (refine Fn.enter (args:=[u,.slice pa p.length pc,w]) Tryz.func77 rfl Tryz.ntmps77 rfl ?_;intro w0)
 repeat (refine s77_L13p ?_;intros)
 by_cases hc:checkP s p=0
 ·rw [decide_eq_true hc]
  repeat (refine s77_L13p ?_;intros)
  by_cases hg:checkG g=0
  ·rw [decide_eq_true hg]
   have hm:mayD s p g=true:=by unfold mayD;rw [decide_eq_true hc,decide_eq_true hg];rfl
   repeat (first|(refine JO.pure rfl rfl rfl (JPure.build rfl ⟨⟨_,rfl,Rp.V.asize (by assumption:rSnap.V _ _ s) rfl⟩,⟨_,rfl,by exact rfl⟩,⟨_,rfl,Rp.V.asize (by assumption:rPol.V _ _ g) rfl⟩,⟨_,rfl,by exact rfl⟩,⟨_,rfl,by exact rfl⟩,trivial⟩ (by simp only [setAll,List.set_cons_zero,List.set_cons_succ];rfl) rfl ?_))|((refine JO.eff rfl rfl rfl (JEff.boxS rfl (V_seek (x:=seekOf s p g) (by exact vta) (by exact vta) (by exact vta) (by exact vta) (by exact vta)) nna rfl ?_));intro qb Sb hlb hqb)|(refine Walk ?_;intros)|refine JC.block ?_|refine JC.drawN 3 rfl [0,1,2,3,4,5,7,8,9,6,10,11,12,13,14] [3,4,5,11,13,14] Tryz_mixed (by decide +kernel) ?_|(refine JO.eff rfl rfl rfl (JEff.callV rfl (p7_Check (by exact vta) (by exact vta)) rfl ?_);intro _ _)|(refine JO.eff rfl rfl rfl (JEff.callL rfl (p12_High (by exact vta) (by exact vta) (by exact vta)) rfl ?_);intro _ _ _ _ _ _)|(refine JO.eff rfl rfl rfl (JEff.callV rfl (p6_Check (by exact vta)) rfl ?_);intro _ _)|(refine JO.eff rfl rfl rfl (JEff.callL rfl (p12_Low (by exact vta) (by exact vta) (by exact vta)) rfl ?_);intro _ _ _ _ _ _)|(refine WBox ?_;intros))
   (refine JX.ret2 Tryz.results77 (ResV.tmp rfl) (ResV.tmp rfl) (List.nil_sublist _) ?_)
   exact ⟨rfl,.inr ⟨hm,_,rfl,by exact pta⟩⟩
  ·rw [decide_eq_false hg]
   repeat (refine s77_L13p ?_;intros)
   (refine JX.ret2 Tryz.results77 (ResV.tmp rfl) (ResV.tmp rfl) (List.nil_sublist _) ?_)
   exact ⟨rfl,.inl ⟨by unfold mayD;rw [decide_eq_true hc,decide_eq_false hg];rfl,rfl⟩⟩
 ·rw [decide_eq_false hc]
  repeat (refine s77_L13p ?_;intros)
  (refine JX.ret2 Tryz.results77 (ResV.tmp rfl) (ResV.tmp rfl) (List.nil_sublist _) ?_)
  exact ⟨rfl,.inl ⟨by unfold mayD;rw [decide_eq_false hc];rfl,rfl⟩⟩
theorem of_none {s:Snap} {p:List Int} {k a b:Int} (h:(ofC s p k a b).2=false):(ofC s p k a b).1=0:=by
 unfold ofC at h ⊢
 split at h
 ·cases h
 ·rfl
theorem s285_L13p {P K:Prop} (k:K) (h:Goal K→P:=by
 intro zk
 (first|refine Walk ?_|refine JC.block ?_|refine JC.drawN 1 rfl [0,1,2,3,4,5,6,7,8,9,10,11,12,13,14,15] [0,1,2,3,4,5,6,7,8,9,11,12,13,14,15] Tryz_mixed (by decide +kernel) ?_|(refine JO.eff rfl rfl rfl (JEff.callV rfl (p8_Of _ _ _ (by first|assumption|(unfold Rng;omega)) (by first|assumption|(unfold Rng;omega)) (by first|assumption|(unfold Rng;omega)) (by exact vta) (by exact vta)) rfl ?_);intro zqa zqb))
 (repeat (first|revert zqg|revert zqf|revert zqe|revert zqd|revert zqc|revert zqb|revert zqa))
 exact zk.k):P:=h ⟨k⟩
theorem p13_broken1 {S:SHeap} {q1 q2 k:Addr} {s:Snap} {p:List Int} {g:Pol} {a kd:Int} (h1:PtrTo S q1 rVal (.pointer (some k))) (h2:PtrTo S q2 rI64 a) (hk:PtrTo S k rSeek (seekOf s p g)) (hr:Rng kd):FnV Tryz.prog 285 #[.int .i64 kd,.pointer (some q1),.pointer (some q2)] S (.bool (brk s p kd a)):=by
 (refine Fn.enter (args:=[.int .i64 kd,.pointer (some q1),.pointer (some q2)]) Tryz.func285 rfl Tryz.ntmps285 rfl ?_;intro w0)
 repeat (refine s285_L13p ?_;intros)
 rw [show ofC (seekOf s p g).s (seekOf s p g).p kd a 0=ofC s p kd a 0 from rfl]
 cases hb:(ofC s p kd a 0).2
 ·have h0:=of_none hb
  have hbk:brk s p kd a=false:=by unfold brk;rw [h0];rfl
  rw [hbk]
  repeat (refine s285_L13p ?_;intros)
  (refine JX.ret1 Tryz.results285 (ResV.tmp rfl) (List.nil_sublist _) ?_)
  exact ⟨rfl,rfl⟩
 ·repeat (refine s285_L13p ?_;intros)
  (refine JX.ret1 Tryz.results285 (ResV.tmp rfl) (List.nil_sublist _) ?_)
  exact ⟨rfl,rfl⟩
theorem p13_broken {S:SHeap} {k:Addr} {kv:Value} {s:Snap} {p:List Int} {g:Pol} {a:Int} {ks:List Int} (hk:PtrTo S k rSeek (seekOf s p g)) (ha:Rng a) (hks:(rSlice 8 rI64).V S kv ks):FnV Tryz.prog 221 #[.pointer (some k),.int .i64 a,kv] S (.bool (ks.any (fun kd=>brk s p kd a))):=by
 (refine Fn.enter (args:=[.pointer (some k),.int .i64 a,kv]) Tryz.func221 rfl Tryz.ntmps221 rfl ?_;intro w0)
 repeat (first|(refine Walk ?_;intros)|refine JC.block ?_|(refine WBox ?_;intros)|(refine WBox ?_;intros))
 have hq1:=(by assumption:PtrTo _ _ rVal (.pointer (some k)))
 have hq2:=(by assumption:PtrTo _ _ rI64 a)
 refine JO.eff rfl rfl rfl (JEff.callV rfl (p_ContainsFunc_int (fun kd=>brk s p kd a) (by exact vta) inferInstance (fun S' h u x hx=>by obtain ⟨rfl,hxr⟩:=V_i64.1 hx;exact p13_broken1 (hq1.mono (by exact lea)) (hq2.mono (by exact lea)) (hk.mono (by exact lea)) hxr)) rfl ?_);intro S8 hl8
 repeat (first|(refine Walk ?_;intros)|refine JC.block ?_|(refine WBox ?_;intros))
 (refine JX.ret1 Tryz.results221 (ResV.tmp rfl) (List.nil_sublist _) ?_)
 exact ⟨rfl,rfl⟩
theorem any_one {s:Snap} {p:List Int} {a k:Int}:[k].any (fun kd=>brk s p kd a)=brk s p k a:=by simp
theorem any_two {s:Snap} {p:List Int} {a k l:Int}:[k,l].any (fun kd=>brk s p kd a)=(brk s p k a||brk s p l a):=by simp
theorem p13_r2 {S:SHeap} {k:Addr} {s:Snap} {p:List Int} {g:Pol} {a:Int} (hk:PtrTo S k rSeek (seekOf s p g)) (ha:Rng a):FnV Tryz.prog 220 #[.pointer (some k),.int .i64 a] S (.bool (brk s p 2 a)):=by
 (refine Fn.enter (args:=[.pointer (some k),.int .i64 a]) Tryz.func220 rfl Tryz.ntmps220 rfl ?_;intro w0)
 repeat (first|(refine Walk ?_;intros)|refine JC.block ?_)
 (refine JO.eff rfl rfl rfl (JEff.buildS (bt:=8) (rep:=rI64) (ys:=[(2:Int)]) rfl rfl (⟨⟨V_i64.2 ⟨rfl,by simp [Rng]⟩,nna⟩,trivial⟩) rfl rfl rfl (by decide) rfl ?_);intro S2 a2 hl2 hV2)
 repeat (first|(refine Walk ?_;intros)|refine JC.block ?_|(refine JO.eff rfl rfl rfl (JEff.callV rfl (p13_broken (hk.mono (by exact lea)) ha hV2) rfl ?_);intro _ _))
 (refine JX.ret1 Tryz.results220 (ResV.tmp rfl) (List.nil_sublist _) ?_)
 exact ⟨rfl,by rw [any_one]⟩
theorem p13_r3 {S:SHeap} {k:Addr} {s:Snap} {p:List Int} {g:Pol} {a:Int} (hk:PtrTo S k rSeek (seekOf s p g)) (ha:Rng a):FnV Tryz.prog 222 #[.pointer (some k),.int .i64 a] S (.bool (brk s p 3 a)):=by
 (refine Fn.enter (args:=[.pointer (some k),.int .i64 a]) Tryz.func222 rfl Tryz.ntmps222 rfl ?_;intro w0)
 repeat (first|(refine Walk ?_;intros)|refine JC.block ?_)
 (refine JO.eff rfl rfl rfl (JEff.buildS (bt:=8) (rep:=rI64) (ys:=[(3:Int)]) rfl rfl (⟨⟨V_i64.2 ⟨rfl,by simp [Rng]⟩,nna⟩,trivial⟩) rfl rfl rfl (by decide) rfl ?_);intro S2 a2 hl2 hV2)
 repeat (first|(refine Walk ?_;intros)|refine JC.block ?_|(refine JO.eff rfl rfl rfl (JEff.callV rfl (p13_broken (hk.mono (by exact lea)) ha hV2) rfl ?_);intro _ _))
 (refine JX.ret1 Tryz.results222 (ResV.tmp rfl) (List.nil_sublist _) ?_)
 exact ⟨rfl,by rw [any_one]⟩
theorem p13_r5 {S:SHeap} {k:Addr} {s:Snap} {p:List Int} {g:Pol} {a:Int} (hk:PtrTo S k rSeek (seekOf s p g)) (ha:Rng a):FnV Tryz.prog 224 #[.pointer (some k),.int .i64 a] S (.bool (brk s p 6 a)):=by
 (refine Fn.enter (args:=[.pointer (some k),.int .i64 a]) Tryz.func224 rfl Tryz.ntmps224 rfl ?_;intro w0)
 repeat (first|(refine Walk ?_;intros)|refine JC.block ?_)
 (refine JO.eff rfl rfl rfl (JEff.buildS (bt:=8) (rep:=rI64) (ys:=[(6:Int)]) rfl rfl (⟨⟨V_i64.2 ⟨rfl,by simp [Rng]⟩,nna⟩,trivial⟩) rfl rfl rfl (by decide) rfl ?_);intro S2 a2 hl2 hV2)
 repeat (first|(refine Walk ?_;intros)|refine JC.block ?_|(refine JO.eff rfl rfl rfl (JEff.callV rfl (p13_broken (hk.mono (by exact lea)) ha hV2) rfl ?_);intro _ _))
 (refine JX.ret1 Tryz.results224 (ResV.tmp rfl) (List.nil_sublist _) ?_)
 exact ⟨rfl,by rw [any_one]⟩
theorem p13_r4 {S:SHeap} {k:Addr} {s:Snap} {p:List Int} {g:Pol} {a:Int} (hk:PtrTo S k rSeek (seekOf s p g)) (ha:Rng a):FnV Tryz.prog 223 #[.pointer (some k),.int .i64 a] S (.bool (brk s p 4 a||brk s p 5 a)):=by
 (refine Fn.enter (args:=[.pointer (some k),.int .i64 a]) Tryz.func223 rfl Tryz.ntmps223 rfl ?_;intro w0)
 repeat (first|(refine Walk ?_;intros)|refine JC.block ?_)
 (refine JO.eff rfl rfl rfl (JEff.buildS (bt:=8) (rep:=rI64) (ys:=[(4:Int),5]) rfl rfl (⟨⟨V_i64.2 ⟨rfl,by simp [Rng]⟩,nna⟩,⟨V_i64.2 ⟨rfl,by simp [Rng]⟩,nna⟩,trivial⟩) rfl rfl rfl (by decide) rfl ?_);intro S2 a2 hl2 hV2)
 repeat (first|(refine Walk ?_;intros)|refine JC.block ?_|(refine JO.eff rfl rfl rfl (JEff.callV rfl (p13_broken (hk.mono (by exact lea)) ha hV2) rfl ?_);intro _ _))
 (refine JX.ret1 Tryz.results223 (ResV.tmp rfl) (List.nil_sublist _) ?_)
 exact ⟨rfl,by rw [any_two]⟩
def Here (s:Snap) (p:List Int) (a:Int):Prop:=0≤a∧a < p.length∧∃ y,p[a.toNat]?=some y∧(0≤y∧y < s.nodes.length)
theorem p13_r1 {S:SHeap} {k:Addr} {s:Snap} {p:List Int} {g:Pol} {a:Int} (hk:PtrTo S k rSeek (seekOf s p g)) (hp:Here s p a):FnV Tryz.prog 218 #[.pointer (some k),.int .i64 a] S (.bool (drainsB g (nodeName s (at0 p a.toNat)))):=by
 obtain ⟨h0,h1,y,hy,hyn⟩:=hp
 obtain ⟨nd,hnd,_⟩:=drop_at (l:=s.nodes) (show y.toNat < s.nodes.length by omega)
 have hy':(seekOf s p g).p[a.toNat]?=some y:=hy
 have hy0:=at0_some hy
 (refine Fn.enter (args:=[.pointer (some k),.int .i64 a]) Tryz.func218 rfl Tryz.ntmps218 rfl ?_;intro w0)
 have hnd':(seekOf s p g).s.nodes[y.toNat]?=some nd:=hnd
 have hnm:nodeName s (at0 p a.toNat)=nd.name:=by unfold nodeName;rw [hy0,hnd]
 repeat (first|(refine Walk ?_;intros)|refine JC.block ?_|refine JC.drawN 1 rfl [0,1,2,3,4,5,6,7,8,9,10,11,12,13,14,15,16,17,18,19,20] [0,1,2,3,4,5,6,7,8,9,10,11,12,13,14,15,16,17,18,20] Tryz_mixed (by decide +kernel) ?_|(refine JO.eff rfl rfl rfl (JEff.callV rfl (p6_Drains _ (by exact vta)) rfl ?_);intro _ _))
 (refine JX.ret1 Tryz.results218 (ResV.tmp rfl) (List.nil_sublist _) ?_)
 exact ⟨rfl,by rw [hnm];rfl⟩
theorem p13_r6 {S:SHeap} {k:Addr} {s:Snap} {p:List Int} {g:Pol} {a:Int} (hk:PtrTo S k rSeek (seekOf s p g)) (hp:Here s p a):FnV Tryz.prog 226 #[.pointer (some k),.int .i64 a] S (.bool (decide (at0 p a.toNat∈highV s p g))):=by
 obtain ⟨h0,h1,y,hy,hyn⟩:=hp
 obtain ⟨nd,hnd,_⟩:=drop_at (l:=s.nodes) (show y.toNat < s.nodes.length by omega)
 have hy':(seekOf s p g).p[a.toNat]?=some y:=hy
 have hy0:=at0_some hy
 (refine Fn.enter (args:=[.pointer (some k),.int .i64 a]) Tryz.func226 rfl Tryz.ntmps226 rfl ?_;intro w0)
 repeat (first|(refine Walk ?_;intros)|refine JC.block ?_|refine JC.drawN 1 rfl [0,1,2,3,4,5,6,7,8,9,10,11,12] [0,1,2,3,4,5,6,7,8,9,10,12] Tryz_mixed (by decide +kernel) ?_|(refine JO.eff rfl rfl rfl (JEff.callV rfl (p_Contains_int _ (by exact vta)) rfl ?_);intro _ _))
 (refine JX.ret1 Tryz.results226 (ResV.tmp rfl) (List.nil_sublist _) ?_)
 exact ⟨rfl,by rw [hy0];rfl⟩
theorem p13_r7 {S:SHeap} {k:Addr} {s:Snap} {p:List Int} {g:Pol} {a:Int} (hk:PtrTo S k rSeek (seekOf s p g)) (hp:Here s p a):FnV Tryz.prog 227 #[.pointer (some k),.int .i64 a] S (.bool (decide (at0 p a.toNat∈lowV s p g))):=by
 obtain ⟨h0,h1,y,hy,hyn⟩:=hp
 obtain ⟨nd,hnd,_⟩:=drop_at (l:=s.nodes) (show y.toNat < s.nodes.length by omega)
 have hy':(seekOf s p g).p[a.toNat]?=some y:=hy
 have hy0:=at0_some hy
 (refine Fn.enter (args:=[.pointer (some k),.int .i64 a]) Tryz.func227 rfl Tryz.ntmps227 rfl ?_;intro w0)
 repeat (first|(refine Walk ?_;intros)|refine JC.block ?_|refine JC.drawN 1 rfl [0,1,2,3,4,5,6,7,8,9,10,11,12] [0,1,2,3,4,5,6,7,8,9,10,12] Tryz_mixed (by decide +kernel) ?_|(refine JO.eff rfl rfl rfl (JEff.callV rfl (p_Contains_int _ (by exact vta)) rfl ?_);intro _ _))
 (refine JX.ret1 Tryz.results227 (ResV.tmp rfl) (List.nil_sublist _) ?_)
 exact ⟨rfl,by rw [hy0];rfl⟩
end Go.Dr
namespace Go.Dr
open Go.Proofs
set_option maxRecDepth 20000
set_option maxHeartbeats 2000000
set_option linter.unusedSimpArgs false
set_option linter.unusedVariables false
theorem s225_L13q {P K:Prop} (k:K) (h:Goal K→P:=by
 intro zk
 (first|refine Walk ?_|refine JC.block ?_|refine JC.drawN 1 rfl [0,1,2,3,4,5,6,7,8,9,10,11,12,13,14] [0,1,2,3,4,5,6,7,8,9,10,11,12,14] Tryz_mixed (by decide +kernel) ?_|refine JC.drawN 5 rfl [0,1,2,3,4,5,6,7,8,9,10,11,12,13,14,15,16,17] [0,1,2,3,4,5,6,7,8,9,10,11,13,14,15,16,17] Tryz_mixed (by decide +kernel) ?_|refine JC.drawN 6 rfl [0,1,2,3,4,5,6,7,8,9,10] [0,1,2,3,4,5,6,7,8,10] Tryz_mixed (by decide +kernel) ?_|refine JC.drawN 8 rfl [0,1,2,3,4,5,6,7,8,9,10,11,12,13,14] [0,1,2,3,4,5,10,12,13,14] Tryz_mixed (by decide +kernel) ?_|(refine JO.eff rfl rfl rfl (JEff.callV rfl (p_Index_string _ (by exact vta)) rfl ?_);intro zqa zqb)|(refine JO.eff rfl rfl rfl (JEff.callV rfl (p5_Owner _ (by exact vta) (by omega)) rfl ?_);intro zqa zqb)|(refine JO.eff rfl rfl rfl (JEff.callV rfl (p_Max (by exact vta) (by first|assumption|simp)) rfl ?_);intro zqa zqb)|(refine JO.eff rfl rfl rfl (JEff.callV rfl (p7_Domain _ _ (by assumption) (by exact vta)) rfl ?_);intro zqa zqb)|(refine JO.eff rfl rfl rfl (JEff.callL rfl (p7_Spread _ (by exact vta) (by exact vta)) rfl ?_);intro zqa zqb zqc zqd zqe zqf)|(refine JO.eff rfl rfl rfl (JEff.callL rfl (p7_Domains _ (by assumption) (by exact vta)) rfl ?_);intro zqa zqb zqc zqd zqe zqf))
 (repeat (first|revert zqg|revert zqf|revert zqe|revert zqd|revert zqc|revert zqb|revert zqa))
 exact zk.k):P:=h ⟨k⟩
theorem p13_crowded {S:SHeap} {k:Addr} {s:Snap} {p:List Int} {g:Pol} {a:Int} (hk:PtrTo S k rSeek (seekOf s p g)) (hok:checkP s p=0) (hp:Here s p a):FnV Tryz.prog 225 #[.pointer (some k),.int .i64 a] S (.bool (crowdB s p a)):=by
 obtain ⟨hs0,hpl,_,_,hol,_⟩:=placed_hyps hok
 obtain ⟨h0,h1,y,hy,hyn⟩:=hp
 obtain ⟨pd,hpd,_⟩:=drop_at (l:=s.pods) (show a.toNat < s.pods.length by omega)
 have hpd':(seekOf s p g).s.pods[a.toNat]?=some pd:=hpd
 have hy':(seekOf s p g).p[a.toNat]?=some y:=hy
 have hy0:=at0_some hy
 have hol':(seekOf s p g).s.owners.length≤1000000:=by show s.owners.length≤1000000;omega
 have hon:ownerOf s a=idxS (oNames s) pd.owner:=by unfold ownerOf podOwner;rw [hpd]
 have hlt:=idxF_lt (fun x=>decide (x=pd.owner)) (oNames s)
 have hge:=idxF_ge (fun x=>decide (x=pd.owner)) (oNames s)
 generalize ho:idxS (oNames s) pd.owner=o at hon
 have hol2:(oNames s).length=s.owners.length:=by simp [oNames]
 rw [show idxF (fun x=>decide (x=pd.owner)) (oNames s)=o from ho] at hlt hge
 rw [hol2] at hlt
 have hro:Rng o:=by constructor<;>(simp only [Rng] at *;omega)
 have e1:idxS (oNames (seekOf s p g).s) pd.owner=o:=ho
 (refine Fn.enter (args:=[.pointer (some k),.int .i64 a]) Tryz.func225 rfl Tryz.ntmps225 rfl ?_;intro w0)
 repeat (refine s225_L13q ?_;intros)
 rw [e1]
 by_cases hneg:o < 0
 ·rw [decide_eq_true hneg]
  repeat (refine s225_L13q ?_;intros)
  (refine JX.ret1 Tryz.results225 (ResV.tmp rfl) (List.nil_sublist _) ?_)
  exact ⟨rfl,by unfold crowdB;rw [hon,decide_eq_false (show ¬ 0≤o by omega)];rfl⟩
 rw [decide_eq_false hneg]
 repeat (refine s225_L13q ?_;intros)
 (refine JO.eff rfl rfl rfl (JEff.buildS (bt:=8) (rep:=rI64) (ys:=[(7:Int)]) rfl rfl (⟨⟨V_i64.2 ⟨rfl,by simp [Rng]⟩,nna⟩,trivial⟩) rfl rfl rfl (by decide) rfl ?_);intro S2 a2 hl2 hV2)
 repeat (first|(refine Walk ?_;intros)|refine JC.block ?_|refine JC.drawN 1 rfl [0,1,2,3,4,5,6,7,8,9,10,11,12,13,14] [0,1,2,3,4,5,6,7,8,9,10,11,12,14] Tryz_mixed (by decide +kernel) ?_|refine JC.drawN 5 rfl [0,1,2,3,4,5,6,7,8,9,10,11,12,13,14,15,16,17] [0,1,2,3,4,5,6,7,8,9,10,11,13,14,15,16,17] Tryz_mixed (by decide +kernel) ?_|refine JC.drawN 6 rfl [0,1,2,3,4,5,6,7,8,9,10] [0,1,2,3,4,5,6,7,8,10] Tryz_mixed (by decide +kernel) ?_|refine JC.drawN 8 rfl [0,1,2,3,4,5,6,7,8,9,10,11,12,13,14] [0,1,2,3,4,5,10,12,13,14] Tryz_mixed (by decide +kernel) ?_|(refine JO.eff rfl rfl rfl (JEff.callV rfl (p13_broken (hk.mono (by exact lea)) hro hV2) rfl ?_);intro _ _)|(refine JO.eff rfl rfl rfl (JEff.callV rfl (p_Index_string _ (by exact vta)) rfl ?_);intro _ _)|(refine JO.eff rfl rfl rfl (JEff.callV rfl (p5_Owner _ (by exact vta) (by omega)) rfl ?_);intro _ _)|(refine JO.eff rfl rfl rfl (JEff.callV rfl (p_Max (by exact vta) (by first|assumption|simp)) rfl ?_);intro _ _)|(refine JO.eff rfl rfl rfl (JEff.callV rfl (p7_Domain _ _ (by assumption) (by exact vta)) rfl ?_);intro _ _)|(refine JO.eff rfl rfl rfl (JEff.callL rfl (p7_Spread _ (by exact vta) (by exact vta)) rfl ?_);intro _ _ _ _ _ _)|(refine JO.eff rfl rfl rfl (JEff.callL rfl (p7_Domains _ (by assumption) (by exact vta)) rfl ?_);intro _ _ _ _ _ _))
 rw [any_one]
 cases hb:brk s p 7 o
 ·repeat (refine s225_L13q ?_;intros)
  (refine JX.ret1 Tryz.results225 (ResV.tmp rfl) (List.nil_sublist _) ?_)
  exact ⟨rfl,by unfold crowdB;rw [hon,hb];cases decide (0≤o)<;>rfl⟩
 obtain ⟨ow,how,_⟩:=drop_at (l:=s.owners) (show o.toNat < s.owners.length by omega)
 have how':(seekOf s p g).s.owners[o.toNat]?=some ow:=how
 have htp:topoOf s o.toNat=ow.topo:=by unfold topoOf;rw [how]
 have hsp:spreadP (seekOf s p g).s (seekOf s p g).p o=spreadL s p o.toNat:=by
  show spreadP s p o=_
  unfold spreadP z0
  rw [hok,decide_eq_true (show (0:Int)=0 from rfl),decide_eq_true (show 0≤o by omega),decide_eq_true (show o < s.owners.length by omega)]
  rfl
 have hdm:(if z0 (checkS (seekOf s p g).s)=true then domL (seekOf s p g).s ow.topo else [])=domL s ow.topo:=by
  show (if z0 (checkS s)=true then domL s ow.topo else [])=_
  rw [if_pos (show z0 (checkS s)=true by unfold z0;rw [hs0];rfl)]
 have hlen:(spreadL s p o.toNat).length=(domL s ow.topo).length:=by unfold spreadL;rw [List.length_map,htp]
 repeat (refine s225_L13q ?_;intros)
 rw [hdm]
 have hcr:crowdB s p a=((domainP s y ow.topo).2&&(decide (0≤idxS (domL s ow.topo) (domainP s y ow.topo).1)&&decide (at0 (spreadL s p o.toNat) (idxS (domL s ow.topo) (domainP s y ow.topo).1).toNat=maxL (spreadL s p o.toNat)))):=by
  unfold crowdB
  rw [hon,hb,htp,hy0,decide_eq_true (show 0≤o by omega)]
  simp only [Bool.true_and,Bool.and_assoc]
 rw [show domainP (seekOf s p g).s y ow.topo=domainP s y ow.topo from rfl]
 cases hd2:(domainP s y ow.topo).2
 ·rw [hd2] at hcr
  repeat (refine s225_L13q ?_;intros)
  (refine JX.ret1 Tryz.results225 (ResV.tmp rfl) (List.nil_sublist _) ?_)
  exact ⟨rfl,by rw [hcr];rfl⟩
 rw [hd2] at hcr
 have hil:=idxF_lt (fun x=>decide (x=(domainP s y ow.topo).1)) (domL s ow.topo)
 rw [show idxF (fun x=>decide (x=(domainP s y ow.topo).1)) (domL s ow.topo)=idxS (domL s ow.topo) (domainP s y ow.topo).1 from rfl] at hil
 generalize hz:idxS (domL s ow.topo) (domainP s y ow.topo).1=z at hil hcr
 by_cases hz0:0≤z
 ·rw [decide_eq_true hz0] at hcr
  obtain ⟨m,hm,_⟩:=drop_at (l:=spreadL s p o.toNat) (show z.toNat < (spreadL s p o.toNat).length by omega)
  have hm':(spreadP (seekOf s p g).s (seekOf s p g).p o)[z.toNat]?=some m:=by rw [hsp];exact hm
  have hne:spreadP (seekOf s p g).s (seekOf s p g).p o≠[]:=by rw [hsp];intro e;rw [e] at hm;simp at hm
  have hm0:=at0_some hm
  repeat (refine s225_L13q ?_;intros)
  rw [show decide (z≥0)=true from decide_eq_true hz0]
  repeat (refine s225_L13q ?_;intros)
  (refine JX.ret1 Tryz.results225 (ResV.tmp rfl) (List.nil_sublist _) ?_)
  exact ⟨rfl,by rw [hcr,hsp,hm0];rfl⟩
 ·rw [decide_eq_false hz0] at hcr
  repeat (refine s225_L13q ?_;intros)
  rw [show decide (z≥0)=false from decide_eq_false hz0]
  repeat (refine s225_L13q ?_;intros)
  (refine JX.ret1 Tryz.results225 (ResV.tmp rfl) (List.nil_sublist _) ?_)
  exact ⟨rfl,by rw [hcr];rfl⟩
end Go.Dr
namespace Go.Dr
open Go.Proofs
set_option maxRecDepth 20000
set_option maxHeartbeats 2000000
set_option linter.unusedSimpArgs false
set_option linter.unusedVariables false
def rRsn:Rp (Int × Int × Value):=rSeq rI64 (rSeq rI64 rVal)
instance:Fld rRsn 0 rI64 Prod.fst:=⟨Part.first⟩
instance:Fld rRsn 1 rI64 (fun x=>x.2.1):=⟨Part.next Part.first rfl⟩
instance:Fld rRsn 2 rVal (fun x=>x.2.2):=⟨Part.next (Part.last rfl) rfl⟩
instance:TyR Tryz.prog 205 rRsn:=⟨by kernel_rfl⟩
def rsnV (i:Nat):Value:=.func (.func (match i with|0=>218|1=>220|2=>222|3=>223|4=>224|5=>225|6=>226|_=>227)) #[] #[]
def rsnL:List (Int × Int × Value):=[(1,0,rsnV 0),(2,0,rsnV 1),(2,4,rsnV 2),(3,2,rsnV 3),(4,1,rsnV 4),(5,8,rsnV 5),(6,0,rsnV 6),(7,16,rsnV 7)]
theorem V_rsn {S:SHeap} {a b:Int} {f:FuncId} (ha:Rng a) (hb:Rng b):rRsn.V S (.agg (flatCells [.int .i64 a,.int .i64 b,.func (.func f) #[] #[]]).toArray) (a,b,.func (.func f) #[] #[]):=
 ⟨[.int .i64 a,.int .i64 b,.func (.func f) #[] #[]],⟨[_],_,rfl,(V_i64.2 ⟨rfl,ha⟩).one rfl,[_],[_],rfl,(V_i64.2 ⟨rfl,hb⟩).one rfl,rfl,rfl⟩,rfl⟩
theorem p13_reasons {S:SHeap}:FnL Tryz.prog 152 #[] S 24 rRsn rsnL:=by
 (refine Fn.enter (args:=[]) Tryz.func152 rfl Tryz.ntmps152 rfl ?_;intro w0)
 repeat (first|(refine Walk ?_;intros)|refine JC.block ?_)
 (refine JO.eff rfl rfl rfl (JEff.buildS (bt:=24) (rep:=rRsn) (ys:=rsnL) rfl rfl (⟨⟨V_rsn (by simp [Rng]) (by simp [Rng]),nna⟩,⟨V_rsn (by simp [Rng]) (by simp [Rng]),nna⟩,⟨V_rsn (by simp [Rng]) (by simp [Rng]),nna⟩,⟨V_rsn (by simp [Rng]) (by simp [Rng]),nna⟩,⟨V_rsn (by simp [Rng]) (by simp [Rng]),nna⟩,⟨V_rsn (by simp [Rng]) (by simp [Rng]),nna⟩,⟨V_rsn (by simp [Rng]) (by simp [Rng]),nna⟩,⟨V_rsn (by simp [Rng]) (by simp [Rng]),nna⟩,trivial⟩) rfl rfl rfl (by decide) rfl ?_);intro S2 a2 hl2 hV2)
 repeat (first|(refine Walk ?_;intros)|refine JC.block ?_)
 (refine JX.ret1 Tryz.results152 (ResV.tmp rfl) (List.nil_sublist _) ?_)
 exact ⟨rfl,hV2⟩
theorem on_rng {g:Pol} (h:checkG g=0):0≤g.on∧g.on≤31:=(polB_ok (checkG_ok h)).1
theorem on_bit {g:Pol} (h:checkG g=0) (b:Fin 5):(!decide (andV g.on ((2 ^ b.val:Nat):Int)=0))=bitB g.on b.val:=by
 obtain ⟨h0,h1⟩:=on_rng h
 have e:((g.on.toNat:Nat):Int)=g.on:=by omega
 have hb:=and_bits ⟨g.on.toNat,by omega⟩ b
 dsimp only at hb
 rw [e] at hb
 unfold bitB
 cases ht:g.on.toNat.testBit b.val
 ·rw [ht] at hb
  rw [decide_eq_true (by rw [hb])];rfl
 ·rw [ht] at hb
  rw [decide_eq_false (by rw [hb];simp)];rfl
theorem rsn_at {S:SHeap} {k:Addr} {s:Snap} {p:List Int} {g:Pol} {a:Int} (hk:PtrTo S k rSeek (seekOf s p g)) (hok:checkP s p=0) (hg:checkG g=0) (hp:Here s p a) (hpl:p.length≤1000):∀ i:Nat,i < 8 →
  ∃ (w on:Int) (f:FuncId) (so:Bool),rsnL[i]?=some (w,on,.func (.func f) #[] #[])∧(whyL s p g a)[i]?=some ((decide (on=0)||!decide (andV g.on on=0))&&so,w)∧Ent Tryz.prog f∧(∀ S',S.le S'→FnV Tryz.prog f #[.pointer (some k),.int .i64 a] S' (.bool so))
 | i,hi=>by
  have ha:Rng a:=by obtain ⟨h0,h1,_⟩:=hp;simp only [Rng];omega
  rcases i with _|_|_|_|_|_|_|_|i
  ·exact ⟨_,_,218,_,rfl,rfl,inferInstance,fun S' hl=>p13_r1 (hk.mono hl) hp⟩
  ·exact ⟨_,_,220,_,rfl,rfl,inferInstance,fun S' hl=>p13_r2 (hk.mono hl) ha⟩
  ·exact ⟨_,_,222,_,rfl,by rw [show (!decide (andV g.on 4=0))=bitB g.on 2 from on_bit hg 2];rfl,inferInstance,fun S' hl=>p13_r3 (hk.mono hl) ha⟩
  ·exact ⟨_,_,223,_,rfl,by rw [show (!decide (andV g.on 2=0))=bitB g.on 1 from on_bit hg 1];rfl,inferInstance,fun S' hl=>p13_r4 (hk.mono hl) ha⟩
  ·exact ⟨_,_,224,_,rfl,by rw [show (!decide (andV g.on 1=0))=bitB g.on 0 from on_bit hg 0];rfl,inferInstance,fun S' hl=>p13_r5 (hk.mono hl) ha⟩
  ·exact ⟨_,_,225,_,rfl,by rw [show (!decide (andV g.on 8=0))=bitB g.on 3 from on_bit hg 3];rfl,inferInstance,fun S' hl=>p13_crowded (hk.mono hl) hok hp⟩
  ·exact ⟨_,_,226,_,rfl,rfl,inferInstance,fun S' hl=>p13_r6 (hk.mono hl) hp⟩
  ·exact ⟨_,_,227,_,rfl,by rw [show (!decide (andV g.on 16=0))=bitB g.on 4 from on_bit hg 4];rfl,inferInstance,fun S' hl=>p13_r7 (hk.mono hl) hp⟩
  ·omega
theorem s78_L13s {P K:Prop} (k:K) (h:Goal K→P:=by
 intro zk
 (first|refine Walk ?_|refine JC.block ?_|refine JC.drawN 6 rfl [0,1,2,3,4,5,6,7,8,9,10,11,12,13,14,15,16,17,18,19,20] [0,1,2,3,4,5,6,7,8,9,10,11,12,13,14,15,16,17,18,20] Tryz_mixed (by decide +kernel) ?_|(refine JO.eff rfl rfl rfl (JEff.callL rfl (p13_reasons) rfl ?_);intro zqa zqb zqc zqd zqe zqf)|(refine WNew ?_)|(refine WPut ?_))
 (repeat (first|revert zqg|revert zqf|revert zqe|revert zqd|revert zqc|revert zqb|revert zqa))
 exact zk.k):P:=h ⟨k⟩
theorem p13_why {S:SHeap} {k:Addr} {s:Snap} {p:List Int} {g:Pol} {a:Int} (hk:PtrTo S k rSeek (seekOf s p g)) (hm:mayD s p g=true):FnV Tryz.prog 78 #[.pointer (some k),.int .i64 a] S (.int .i64 (whyV s p g a)):=by
 have hm0:=hm
 simp only [mayD,Bool.and_eq_true,decide_eq_true_eq] at hm0
 obtain ⟨hok,hg⟩:=hm0
 obtain ⟨hs0,hpl,hpl24,hnl,hol,hpr,_⟩:=placed_hyps hok
 (refine Fn.enter (args:=[.pointer (some k),.int .i64 a]) Tryz.func78 rfl Tryz.ntmps78 rfl ?_;intro w0)
 repeat (refine s78_L13s ?_;intros)
 by_cases h0:a < 0
 ·rw [decide_eq_true h0]
  repeat (refine s78_L13s ?_;intros)
  (refine JX.ret1 Tryz.results78 (ResV.tmp rfl) (List.nil_sublist _) ?_)
  exact ⟨rfl,by unfold whyV;rw [if_neg (by omega)]⟩
 rw [decide_eq_false h0]
 repeat (refine s78_L13s ?_;intros)
 by_cases h1:((seekOf s p g).p.length:Int)≤a
 ·have h1':(p.length:Int)≤a:=h1
  rw [decide_eq_true h1]
  repeat (refine s78_L13s ?_;intros)
  (refine JX.ret1 Tryz.results78 (ResV.tmp rfl) (List.nil_sublist _) ?_)
  exact ⟨rfl,by unfold whyV;rw [if_neg (by omega)]⟩
 have h1':¬ (p.length:Int)≤a:=h1
 rw [decide_eq_false h1]
 obtain ⟨y,hy,_⟩:=drop_at (l:=p) (show a.toNat < p.length by omega)
 have hy':(seekOf s p g).p[a.toNat]?=some y:=hy
 have hy0:=at0_some hy
 repeat (refine s78_L13s ?_;intros)
 by_cases h2:y=-1
 ·rw [decide_eq_true h2]
  repeat (refine s78_L13s ?_;intros)
  (refine JX.ret1 Tryz.results78 (ResV.tmp rfl) (List.nil_sublist _) ?_)
  exact ⟨rfl,by unfold whyV;rw [hy0,if_neg (by omega)]⟩
 rw [decide_eq_false h2]
 have hp:Here s p a:=⟨by omega,by omega,y,hy,by have:=hpr y (List.mem_of_getElem? hy);omega⟩
 have hv:whyV s p g a=firstW (whyL s p g a):=by unfold whyV;rw [hy0,if_pos ⟨hm,by omega,by omega,h2⟩]
 repeat (refine s78_L13s ?_;intros)
 refine JC.loopF0 [(0,_),(1,_),(28,_),(29,_)] (fun (i:Nat)=>[(30,.int .i64 i)]) (fun Si i=>i≤8∧(firstW (whyL s p g a)=firstW ((whyL s p g a).drop i))) (fun i=>8 - i) 0 (by exact sba) (by exact sba) ⟨Nat.zero_le _,rfl⟩ ?_;intro Si i hli hii;obtain ⟨hi,hii⟩:=hii;(try dsimp only at hi hii);dsimp only [List.cons_append,List.nil_append]
 repeat (refine s78_L13s ?_;intros)
 refine JC.cond rfl (fun hc=>?_) (fun hc=>?_)
 ·have hc8:i < 8:=dlt hc
  obtain ⟨w,on,f,so,hri,hwi,hE,hso⟩:=rsn_at (hk.mono (by exact lea)) hok hg hp (by omega) i hc8
  have hstep:firstW ((whyL s p g a).drop i)=if ((decide (on=0)||!decide (andV g.on on=0))&&so)=true then w else firstW ((whyL s p g a).drop (i+1)):=by
   rw [show (whyL s p g a).drop i=_::(whyL s p g a).drop (i+1) from by rw [List.getElem?_eq_some_iff] at hwi;obtain ⟨h8,e8⟩:=hwi;rw [List.drop_eq_getElem_cons h8,e8]]
   exact firstW_cons _ _ _
  repeat (refine s78_L13s ?_;intros)
  rw [show ((w,on,Value.func (.func f) #[] #[]):Int × Int × Value).snd.fst=on from rfl]
  cases hon:decide (on=0)
  ·rw [hon] at hstep
   repeat (first|(refine Walk ?_;intros)|refine JC.block ?_|refine JC.drawN 6 rfl [0,1,2,3,4,5,6,7,8,9,10,11,12,13,14,15,16,17,18,19,20] [0,1,2,3,4,5,6,7,8,9,10,11,12,13,14,15,16,17,18,20] Tryz_mixed (by decide +kernel) ?_|(refine JO.pure rfl rfl rfl (JPure.and rfl rfl rfl ?_))|(refine JO.eff rfl rfl rfl (JEff.callL rfl (p13_reasons) rfl ?_);intro _ _ _ _ _ _)|(refine WNew ?_;intros)|(refine WPut ?_;intros))
   rw [show andV (seekOf s p g).g.on ((w,on,Value.func (.func f) #[] #[]):Int × Int × Value).snd.fst=andV g.on on from rfl]
   cases hb:decide (andV g.on on=0)
   ·rw [hb] at hstep
    repeat (first|(refine Walk ?_;intros)|refine JC.block ?_|refine JC.drawN 6 rfl [0,1,2,3,4,5,6,7,8,9,10,11,12,13,14,15,16,17,18,19,20] [0,1,2,3,4,5,6,7,8,9,10,11,12,13,14,15,16,17,18,20] Tryz_mixed (by decide +kernel) ?_|(refine JO.eff rfl rfl rfl (JEff.dynV rfl hE rfl (hso _ (by exact lea)) rfl ?_);intro _ _)|(refine JO.eff rfl rfl rfl (JEff.callL rfl (p13_reasons) rfl ?_);intro _ _ _ _ _ _)|(refine WNew ?_;intros)|(refine WPut ?_;intros))
    cases hso1:so
    ·rw [hso1] at hstep
     repeat (refine s78_L13s ?_;intros)
     exact JX.roundF (i+1) (by exact lea) ⟨by omega,(hii.trans hstep)⟩ (by (try dsimp only);omega) rfl (by exact sba) (by exact sba)
    ·rw [hso1] at hstep
     repeat (refine s78_L13s ?_;intros)
     (refine JX.ret1 Tryz.results78 (ResV.tmp rfl) (List.nil_sublist _) ?_)
     exact ⟨rfl,by rw [hv,hii.trans hstep];rfl⟩
   ·rw [hb] at hstep
    repeat (refine s78_L13s ?_;intros)
    exact JX.roundF (i+1) (by exact lea) ⟨by omega,(hii.trans hstep)⟩ (by (try dsimp only);omega) rfl (by exact sba) (by exact sba)
  ·rw [hon] at hstep
   repeat (first|(refine Walk ?_;intros)|refine JC.block ?_|refine JC.drawN 6 rfl [0,1,2,3,4,5,6,7,8,9,10,11,12,13,14,15,16,17,18,19,20] [0,1,2,3,4,5,6,7,8,9,10,11,12,13,14,15,16,17,18,20] Tryz_mixed (by decide +kernel) ?_|(refine JO.eff rfl rfl rfl (JEff.dynV rfl hE rfl (hso _ (by exact lea)) rfl ?_);intro _ _)|(refine JO.eff rfl rfl rfl (JEff.callL rfl (p13_reasons) rfl ?_);intro _ _ _ _ _ _)|(refine WNew ?_;intros)|(refine WPut ?_;intros))
   cases hso1:so
   ·rw [hso1] at hstep
    repeat (refine s78_L13s ?_;intros)
    exact JX.roundF (i+1) (by exact lea) ⟨by omega,(hii.trans hstep)⟩ (by (try dsimp only);omega) rfl (by exact sba) (by exact sba)
   ·rw [hso1] at hstep
    repeat (refine s78_L13s ?_;intros)
    (refine JX.ret1 Tryz.results78 (ResV.tmp rfl) (List.nil_sublist _) ?_)
    exact ⟨rfl,by rw [hv,hii.trans hstep];rfl⟩
 ·have hc8:8≤i:=dnlt hc
  have h8:whyV s p g a=0:=by
   rw [hv,hii,List.drop_eq_nil_of_le (by show 8≤i;exact hc8)];rfl
  repeat (refine s78_L13s ?_;intros)
  (refine JX.ret1 Tryz.results78 (ResV.tmp rfl) (List.nil_sublist _) ?_)
  exact ⟨rfl,by rw [h8]⟩
end Go.Dr
namespace Go.Dr
open Go.Sort Go.RowKit Go.Shelf Go.Proofs
set_option linter.unusedSimpArgs false
set_option linter.unusedVariables false
theorem flat_at {α:Type} [Inhabited α] (enc:α→List Value) (k:Nat) (hk:∀ x,(enc x).length=k):∀ (d:List α) (t:Nat),t < d.length*k→(d.flatMap enc)[t]?=some ((enc d[t / k]!)[t % k]!)
 | [],t,h=>by simp at h
 | x::d,t,h=>by
  have h0:0 < k:=by
   rcases Nat.eq_zero_or_pos k with e|e
   ·subst e;simp at h
   ·exact e
  rw [List.flatMap_cons]
  by_cases ht:t < k
  ·rw [List.getElem?_append_left (by rw [hk];exact ht),Nat.div_eq_of_lt ht,Nat.mod_eq_of_lt ht]
   have:t < (enc x).length:=by rw [hk];exact ht
   simp [this,getElem!_pos]
  ·obtain ⟨u,rfl⟩:∃ u,t=u+k:=⟨t - k,by omega⟩
   have h1:u < d.length*k:=by
    rw [List.length_cons,Nat.add_mul,Nat.one_mul] at h;omega
   rw [List.getElem?_append_right (by rw [hk];omega),hk,Nat.add_sub_cancel,flat_at enc k hk d u h1,Nat.add_div_right _ h0,Nat.add_mod_right]
   rfl
theorem flatR_len {α:Type} (enc:α→List Value) (k:Nat) (hk:∀ x,(enc x).length=k):∀ d:List α,(d.flatMap enc).length=d.length*k
 | []=>by simp
 | x::d=>by rw [List.flatMap_cons,List.length_append,hk,flatR_len enc k hk d,List.length_cons,Nat.add_mul,Nat.one_mul,Nat.add_comm]
theorem flat_row {α:Type} [Inhabited α] (enc:α→List Value) (k:Nat) (hk:∀ x,(enc x).length=k) (d:List α):(flatK enc k d.toArray).toList=d.flatMap enc:=by
 apply List.ext_getElem?
 intro t
 by_cases ht:t < d.length*k
 ·rw [flat_at enc k hk d t ht]
  unfold flatK
  simp [ht]
 ·rw [List.getElem?_eq_none (by simp;omega),List.getElem?_eq_none (by rw [flatR_len enc k hk];omega)]
theorem flat_cells {α:Type} (enc:α→List Value):∀ d:List α,flatCells (d.map (fun x=>Value.agg (enc x).toArray))=d.flatMap enc
 | []=>rfl
 | x::d=>by
  rw [List.map_cons,flatCells,List.flatMap_cons,flat_cells enc d]
  rfl
theorem putCells_row (F:Array Value) (F0 tl:List Value) (h:F0.length=F.size):putCells id 0 F (F0++tl).toArray=(F.toList++tl).toArray:=by
 apply Array.ext_getElem?
 intro j
 unfold putCells
 rw [Array.getElem?_mapIdx]
 simp only [List.getElem?_toArray,Nat.zero_le,true_and,Nat.zero_add,Nat.sub_zero,id]
 by_cases hj:j < F.size
 ·rw [List.getElem?_append_left (by omega),List.getElem?_append_left (by simpa using hj)]
  simp [hj,getElem!_pos F j hj]
  exact ⟨_,List.getElem?_eq_getElem (by omega)⟩
 ·rw [List.getElem?_append_right (by omega),List.getElem?_append_right (by simp;omega)]
  simp [hj,h]
theorem holds_row {w:World} {b:Nat} {E:TypeId} {F:Array Value} {tl:List Value} (hb:w.heap[b]?=some (.cells (F.toList++tl).toArray E (0,0))):Sort.Holds id w b 0 F:=fun j hj=>by
 refine ⟨?_,frozen_not hb⟩
 simp only [World.cell?,hb,Nat.zero_add,id]
 simp [List.getElem?_append_left,hj,getElem!_pos F j hj]
theorem sortFuncR_fn {P:Program} {ρ:Ren} (L:SlLaysF0.n6 P ρ) (k:Nat) (aE:∀ w,(isAgg (ρ.t 24)).run P w=.ok true w) (zE:∀ w,(Go.sizeOf (ρ.t 24)).run P w=.ok k w) {α:Type} [Inhabited α] (enc:α→List Value) (hk:∀ x,(enc x).length=k) (h1:∀ x,∀ v∈enc x,v.oneCell'=true)
  (cf:α→α→Int) (hO:SWO (ltOf cf)) (hT:∀ x y,ltOf cf x y=false→ltOf cf y x=false→x=y) (g:Nat) (cb:Array Value)
  (eg:∀ args w,(callFunc g args).run P w=.ok (.enter g args) w) {S:SHeap} {b cap:Nat} {E:TypeId} {tl:List Value} (d:List α) (hn:d.length < 4611686018427387904)
  (hcmp:∀ x y:α,FnV P g (#[.agg (enc x).toArray,.agg (enc y).toArray]++cb) S (.int .i64 (cf x y))) :
  Fn P (ρ.f 6) #[.slice (some ⟨b,0,none⟩) d.length cap,.func (.func g) #[] cb] S [.blk b (.cells (cellsR (d.map (fun x=>Value.agg (enc x).toArray)) tl) E (0,0))]
   (fun v S' M'=>v=.tuple #[]∧S'=S∧M'=[.blk b (.cells (cellsR ((d.mergeSort fun x y=>!(ltOf cf) y x).map (fun x=>Value.agg (enc x).toArray)) tl) E (0,0))]):=by
 intro w hg hok hsep hout
 have hc0:∀ l:List α,cellsR (l.map (fun x=>Value.agg (enc x).toArray)) tl=((flatK enc k l.toArray).toList++tl).toArray:=fun l=>by
  unfold cellsR;rw [flat_cells,flat_row enc k hk]
 have hb:w.heap[b]?=some (.cells (cellsR (d.map (fun x=>Value.agg (enc x).toArray)) tl) E (0,0)):=hok (.blk b _) List.mem_cons_self
 have hSb:=hout (.blk b _) List.mem_cons_self b rfl
 have hb':=hb
 rw [hc0] at hb'
 have hc:CmpLays P g cb enc k cf b 0 d.toArray.size w:=fun m os dk hs x y=>by
  have hwd:=Wd.sortW hg hSb hb id (flatK enc k dk) m os
  refine (hcmp x y _ hwd.agree (by simp) List.Pairwise.nil (by simp)).mono ?_
  rintro e w' ⟨v,S',M',rfl,hw,rfl,rfl⟩
  exact ⟨rfl,hw.grown⟩
 have h:=AnyQ.slices_SortFunc_total L k aE zE enc hk h1 cf hO g cb b 0 cap d.toArray w eg hc (holds_row hb') (Array.getElem?_eq_some_iff.1 hb).1 (by simpa using hn) hT
 rw [List.size_toArray] at h
 refine h.mono ?_
 rintro e w' ⟨rfl,n,os,rfl⟩
 have hwd:=Wd.sortW hg hSb hb id (flatK enc k (d.mergeSort fun x y=>!(ltOf cf) y x).toArray) n os
 rw [hc0,putCells_row _ _ _ (by simp [List.length_mergeSort]),← hc0] at hwd
 exact ⟨_,S,_,rfl,hwd,rfl,rfl,rfl⟩
end Go.Dr
namespace Go.Proofs
open Go.Shelf
def Tryz.laySW_ren:Go.Shelf.Ren:=⟨fun|6=>79|15=>124|14=>153|28=>188|29=>189|20=>228|21=>229|22=>230|23=>231|24=>232|25=>233|26=>234|27=>235|46=>289|47=>259|48=>260|49=>290|50=>291|57=>323|n=>n,fun|22=>56|24=>60|25=>135|3=>3|39=>157|0=>0|53=>240|55=>242|4=>4|46=>234|45=>233|50=>66|5=>5|9=>9|66=>283|70=>287|76=>319|77=>320|n=>n,fun|n=>n⟩
theorem Tryz.laySW:Go.Proofs.SlLaysF0.n6 Tryz.prog Tryz.laySW_ren:={
 mixed:=by kernel_rfl
 f6:=⟨Tryz.f79.name,by decide,Tryz.func79.trans (congrArg some (by kernel_rfl))⟩
 f14:=⟨Tryz.f153.name,by decide,Tryz.func153.trans (congrArg some (by kernel_rfl))⟩
 f15:=Tryz.func124.trans (congrArg some (by kernel_rfl))
 f20:=⟨Tryz.f228.name,by decide,Tryz.func228.trans (congrArg some (by kernel_rfl))⟩
 f21:=⟨Tryz.f229.name,by decide,Tryz.func229.trans (congrArg some (by kernel_rfl))⟩
 f22:=⟨Tryz.f230.name,by decide,Tryz.func230.trans (congrArg some (by kernel_rfl))⟩
 f23:=⟨Tryz.f231.name,by decide,Tryz.func231.trans (congrArg some (by kernel_rfl))⟩
 f24:=⟨Tryz.f232.name,by decide,Tryz.func232.trans (congrArg some (by kernel_rfl))⟩
 f25:=⟨Tryz.f233.name,by decide,Tryz.func233.trans (congrArg some (by kernel_rfl))⟩
 f26:=⟨Tryz.f234.name,by decide,Tryz.func234.trans (congrArg some (by kernel_rfl))⟩
 f27:=⟨Tryz.f235.name,by decide,Tryz.func235.trans (congrArg some (by kernel_rfl))⟩
 f28:=Tryz.func188.trans (congrArg some (by kernel_rfl))
 f29:=Tryz.func189.trans (congrArg some (by kernel_rfl))
 f46:=⟨Tryz.f289.name,by decide,Tryz.func289.trans (congrArg some (by kernel_rfl))⟩
 f47:=Tryz.func259.trans (congrArg some (by kernel_rfl))
 f48:=Tryz.func260.trans (congrArg some (by kernel_rfl))
 f49:=⟨Tryz.f290.name,by decide,Tryz.func290.trans (congrArg some (by kernel_rfl))⟩
 f50:=⟨Tryz.f291.name,by decide,Tryz.func291.trans (congrArg some (by kernel_rfl))⟩
 f57:=⟨Tryz.f323.name,by decide,Tryz.func323.trans (congrArg some (by kernel_rfl))⟩
 t0:=Tryz.underlying0
 a0:=Tryz.isAgg0
 z0:=Tryz.sizeOf0
 v0:=Tryz.zeroValue0
 t3:=Tryz.underlying3
 a3:=Tryz.isAgg3
 z3:=Tryz.sizeOf3
 v3:=Tryz.zeroValue3
 t4:=Tryz.underlying4
 a4:=Tryz.isAgg4
 z4:=Tryz.sizeOf4
 v4:=Tryz.zeroValue4
 t5:=Tryz.underlying5
 a5:=Tryz.isAgg5
 z5:=Tryz.sizeOf5
 v5:=Tryz.zeroValue5
 t9:=Tryz.underlying9
 a9:=Tryz.isAgg9
 z9:=Tryz.sizeOf9
 v9:=Tryz.zeroValue9
 t22:=Tryz.underlying56
 a22:=Tryz.isAgg56
 z22:=Tryz.sizeOf56
 v22:=Tryz.zeroValue56
 t25:=Tryz.underlying135
 a25:=Tryz.isAgg135
 z25:=Tryz.sizeOf135
 v25:=Tryz.zeroValue135
 t39:=Tryz.underlying157
 a39:=Tryz.isAgg157
 z39:=Tryz.sizeOf157
 v39:=Tryz.zeroValue157
 t45:=Tryz.underlying233
 a45:=Tryz.isAgg233
 z45:=Tryz.sizeOf233
 v45:=Tryz.zeroValue233
 t46:=Tryz.underlying234
 a46:=Tryz.isAgg234
 z46:=Tryz.sizeOf234
 v46:=Tryz.zeroValue234
 t50:=Tryz.underlying66
 a50:=Tryz.isAgg66
 z50:=Tryz.sizeOf66
 v50:=Tryz.zeroValue66
 t53:=Tryz.underlying240
 a53:=Tryz.isAgg240
 z53:=Tryz.sizeOf240
 v53:=Tryz.zeroValue240
 t55:=Tryz.underlying242
 a55:=Tryz.isAgg242
 z55:=Tryz.sizeOf242
 v55:=Tryz.zeroValue242
 t66:=Tryz.underlying283
 a66:=Tryz.isAgg283
 z66:=Tryz.sizeOf283
 v66:=Tryz.zeroValue283
 t70:=Tryz.underlying287
 a70:=Tryz.isAgg287
 z70:=Tryz.sizeOf287
 v70:=Tryz.zeroValue287
 t76:=Tryz.underlying319
 a76:=Tryz.isAgg319
 z76:=Tryz.sizeOf319
 v76:=Tryz.zeroValue319
 t77:=Tryz.underlying320
 a77:=Tryz.isAgg320
 z77:=Tryz.sizeOf320
 v77:=Tryz.zeroValue320 }
end Go.Proofs
namespace Go.Dr
open Go.Proofs
theorem p_SortWrong {α:Type} [Inhabited α] (enc:α→List Value) (hk:∀ x,(enc x).length=3) (h1:∀ x,∀ v∈enc x,v.oneCell'=true) (cf:α→α→Int) (hO:Sort.SWO (ltOf cf)) (hT:∀ x y,ltOf cf x y=false→ltOf cf y x=false→x=y) (g:Nat) (cb:Array Value)
  (eg:∀ args w,(callFunc g args).run Tryz.prog w=.ok (.enter g args) w) {S:SHeap} {b cap n:Nat} {E:TypeId} {tl:List Value} (d:List α) (hn:n=d.length) (hb:n≤1000000)
  (hcmp:∀ x y:α,FnV Tryz.prog g (#[.agg (enc x).toArray,.agg (enc y).toArray]++cb) S (.int .i64 (cf x y))) :
  Fn Tryz.prog 79 #[.slice (some ⟨b,0,none⟩) n cap,.func (.func g) #[] cb] S [.blk b (.cells (cellsR (d.map (fun x=>Value.agg (enc x).toArray)) tl) E (0,0))]
   (fun v S' M'=>v=.tuple #[]∧S'=S∧M'=[.blk b (.cells (cellsR ((d.mergeSort fun x y=>!(ltOf cf) y x).map (fun x=>Value.agg (enc x).toArray)) tl) E (0,0))]):=by
 subst hn
 have ht:TyR Tryz.prog 60 rWrong:=inferInstance
 exact sortFuncR_fn Tryz.laySW 3 (fun w=>run_isAgg ht w) (fun w=>run_sizeOf ht w) enc hk h1 cf hO hT g cb eg d (by omega) hcmp
theorem p_SortWrong0 {S:SHeap} (p:Option Addr) (cap:Nat) (fv:Value):FnV Tryz.prog 79 #[.slice p 0 cap,fv] S (.tuple #[]):=by
 intro w hg _ _ _
 refine (AnyF.slices_SortFunc_none Tryz.laySW p cap fv w).mono ?_
 rintro e w' ⟨rfl,rfl⟩
 exact ⟨_,S,[],rfl,Wd.start0 hg,rfl,rfl⟩
end Go.Dr
namespace Go.Dr
open Go.Proofs
set_option maxRecDepth 20000
set_option maxHeartbeats 2000000
set_option linter.unusedSimpArgs false
set_option linter.unusedVariables false
def cmpsW (a b:Wrong):List Int:=[cmpI a.why b.why,cmpI a.node b.node,cmpI a.pod b.pod]
def firstN (l:List Int):Int:=(l.find? (fun x=>!decide (x=0))).getD 0
theorem firstN_cons (x:Int) (l:List Int):firstN (x::l)=if decide (x=0)=true then firstN l else x:=by
 unfold firstN
 by_cases h:x=0<;>simp [List.find?_cons,h]
def cfW (a b:Wrong):Int:=firstN (cmpsW a b)
theorem cfW_lt (a b:Wrong):decide (cfW a b < 0)=ltW a b:=by
 unfold cfW cmpsW cmpI ltW
 simp only [firstN_cons,decide_eq_true_eq]
 by_cases h1:a.why < b.why
 ·simp [h1]
 ·by_cases h2:b.why < a.why
  ·have h3:¬ a.why=b.why:=by omega
   simp [h1,h2,h3]
  ·have h3:a.why=b.why:=by omega
   by_cases h4:a.node < b.node
   ·simp [h3,h4]
   ·by_cases h5:b.node < a.node
    ·have h6:¬ a.node=b.node:=by omega
     simp [h3,h4,h5,h6]
    ·have h6:a.node=b.node:=by omega
     by_cases h7:a.pod < b.pod
     ·simp [h3,h6,h7]
     ·by_cases h8:b.pod < a.pod<;>simp [h3,h6,h7,h8,firstN]
def okW (x:Wrong):Prop:=Rng x.why∧Rng x.pod∧Rng x.node
abbrev WrD:={ x:Wrong // okW x }
instance:Inhabited WrD:=⟨⟨⟨0,0,0⟩,by simp [okW,Rng]⟩⟩
theorem swoW:Sort.SWO (ltOf (fun x y:WrD=>cfW x.1 y.1)) where
 irrefl x:=by unfold ltOf;rw [cfW_lt,ltW_irr]
 trans x y z h1 h2:=by unfold ltOf at *;rw [cfW_lt] at *;exact ltW_trans h1 h2
 ntrans x y z h1 h2:=by unfold ltOf at *;rw [cfW_lt] at *;exact ltW_ntrans h1 h2
theorem totW:∀ x y:WrD,ltOf (fun x y:WrD=>cfW x.1 y.1) x y=false→ltOf (fun x y:WrD=>cfW x.1 y.1) y x=false→x=y:=fun x y h1 h2=>by
 unfold ltOf at h1 h2
 rw [cfW_lt] at h1 h2
 exact Subtype.ext (ltW_total h1 h2)
theorem sortW_map (d:List WrD):(d.mergeSort fun x y=>!(ltOf (fun x y:WrD=>cfW x.1 y.1)) y x).map Subtype.val=sortW (d.map Subtype.val):=by
 unfold sortW
 refine List.map_mergeSort fun a _ b _=>?_
 unfold ltOf
 rw [cfW_lt]
def encW (x:Wrong):List Value:=[.int .i64 x.why,.int .i64 x.pod,.int .i64 x.node]
theorem V_wr {S:SHeap} {v:Value} {x:Wrong}:rWrong.V S v x↔v=.agg (encW x).toArray∧okW x:=by
 constructor
 ·rintro ⟨cs,h,rfl⟩
  obtain ⟨_,_,rfl,⟨rfl,h1⟩,_,_,rfl,⟨rfl,h2⟩,⟨rfl,h3⟩⟩:=h
  exact ⟨rfl,h1,h2,h3⟩
 ·rintro ⟨rfl,h1,h2,h3⟩
  exact ⟨encW x,⟨[_],_,rfl,(V_i64.2 ⟨rfl,h1⟩).one rfl,[_],[_],rfl,(V_i64.2 ⟨rfl,h2⟩).one rfl,(V_i64.2 ⟨rfl,h3⟩).one rfl⟩,rfl⟩
theorem allV_wr {S:SHeap}:∀ {vs:List Value} {l:List Wrong},allV rWrong S vs l→∃ d:List WrD,d.map Subtype.val=l∧vs=d.map (fun x=>Value.agg (encW x.1).toArray)
 | [],[],_=>⟨[],rfl,rfl⟩
 | v::vs,x::l,h=>by
  obtain ⟨d,h1,h2⟩:=allV_wr h.2
  obtain ⟨h3,h4⟩:=V_wr.1 h.1.1
  exact ⟨⟨x,h4⟩::d,by rw [List.map_cons,h1],by rw [List.map_cons,← h2,h3]⟩
theorem allV_wr' {S:SHeap}:∀ d:List WrD,allV rWrong S (d.map (fun x=>Value.agg (encW x.1).toArray)) (d.map Subtype.val)
 | []=>trivial
 | x::d=>⟨⟨V_wr.2 ⟨rfl,x.2⟩,nna⟩,allV_wr' d⟩
theorem p13_k1 {S:SHeap} {x:Wrong} (hx:okW x):FnV Tryz.prog 81 #[.agg (encW x).toArray] S (.int .i64 x.why):=by
 (refine Fn.enter (args:=[.agg (encW x).toArray]) Tryz.func81 rfl Tryz.ntmps81 rfl ?_;intro w0)
 repeat (first|(refine JO.eff rfl rfl rfl (JEff.boxS (rep:=rWrong) rfl ((V_wr (x:=x)).2 ⟨rfl,hx⟩) nna rfl ?_);intro qb Sb hlb hqb)|(refine Walk ?_;intros)|refine JC.block ?_|(refine WBox ?_;intros))
 (refine JX.ret1 Tryz.results81 (ResV.tmp rfl) (List.nil_sublist _) ?_)
 exact ⟨rfl,rfl⟩
theorem p13_k2 {S:SHeap} {x:Wrong} (hx:okW x):FnV Tryz.prog 82 #[.agg (encW x).toArray] S (.int .i64 x.node):=by
 (refine Fn.enter (args:=[.agg (encW x).toArray]) Tryz.func82 rfl Tryz.ntmps82 rfl ?_;intro w0)
 repeat (first|(refine JO.eff rfl rfl rfl (JEff.boxS (rep:=rWrong) rfl ((V_wr (x:=x)).2 ⟨rfl,hx⟩) nna rfl ?_);intro qb Sb hlb hqb)|(refine Walk ?_;intros)|refine JC.block ?_|(refine WBox ?_;intros))
 (refine JX.ret1 Tryz.results82 (ResV.tmp rfl) (List.nil_sublist _) ?_)
 exact ⟨rfl,rfl⟩
theorem p13_k3 {S:SHeap} {x:Wrong} (hx:okW x):FnV Tryz.prog 83 #[.agg (encW x).toArray] S (.int .i64 x.pod):=by
 (refine Fn.enter (args:=[.agg (encW x).toArray]) Tryz.func83 rfl Tryz.ntmps83 rfl ?_;intro w0)
 repeat (first|(refine JO.eff rfl rfl rfl (JEff.boxS (rep:=rWrong) rfl ((V_wr (x:=x)).2 ⟨rfl,hx⟩) nna rfl ?_);intro qb Sb hlb hqb)|(refine Walk ?_;intros)|refine JC.block ?_|(refine WBox ?_;intros))
 (refine JX.ret1 Tryz.results83 (ResV.tmp rfl) (List.nil_sublist _) ?_)
 exact ⟨rfl,rfl⟩
end Go.Dr
