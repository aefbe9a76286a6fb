/- Part 3 of the rules and of the walks that the proofs of this seat rest on; no condition. -/
import Derived.Test.YtlckpojpnfidoaaGreatA01
import Derived.RangeFuncFrom
import Derived.RangeFuncLeaves
import Derived.Maps.RangeRun
import Derived.MapKept
import Derived.Laws.Build
import Derived.WideLaws
set_option linter.unusedVariables false
set_option linter.unusedSimpArgs false
namespace Go.Dr
set_option linter.unusedVariables false
set_option maxRecDepth 20000
theorem lea {S S2:SHeap} (h:S.le S2:=by ((repeat (first|exact SHeap.le.refl _|assumption|refine SHeap.le.trans (by assumption) ?_));first|done|fail)):S.le S2:=h
theorem pta {α:Type} {S:SHeap} {p:Addr} {rep:Rp α} {x:α} (h:PtrTo S p rep x:=by (first|assumption|(refine PtrTo.mono (by assumption) ?_;exact lea))):PtrTo S p rep x:=h
theorem vta {α:Type} {S:SHeap} {v:Value} {rep:Rp α} {x:α} (h:rep.V S v x:=by (first|assumption|(refine Rp.V.mono (by assumption) ?_;exact lea))):rep.V S v x:=h
theorem vva {α:Type} {S:SHeap} {v:Value} {rep:Rp α} {x:α} (h:rep.V S v x:=by (first|exact vta|exact V_bool.2 rfl|exact V_str.2 ⟨rfl,by assumption⟩|exact V_i64.2 ⟨rfl,by first|assumption|(unfold Rng;omega)⟩|exact V_val.2 ⟨rfl,rfl⟩)):rep.V S v x:=h
theorem nna {α:Type} {rep:Rp α} {v:Value} (h:rep.agg=false→∀ cs,v≠.agg cs:=by (intro h;first|(cases h;done)|(intro _ hh;cases hh))):rep.agg=false→∀ cs,v≠.agg cs:=h
theorem sba {a b:Env} (h:subE a b:=by ((repeat (first|exact trivial|refine ⟨rfl,?_⟩));first|done|fail)):subE a b:=h
theorem pma {α:Type} {l m:List α} (h:l.Perm m:=by (first|exact List.Perm.refl _|exact (List.perm_middle (l₁:=[_])).symm|exact (List.perm_middle (l₁:=[_,_])).symm|exact (List.perm_middle (l₁:=[_,_,_])).symm)):l.Perm m:=h
structure Goal (K:Prop):Prop where
 k:K
theorem Walk {P K:Prop} (k:K) (h:Goal K→P:=by
 intro zk
 (first|refine JC.seq ?_|refine JC.region rfl ?_|refine JC.skip ?_|refine JC.exit ?_|refine JC.ret ?_|refine JC.condT rfl ?_|refine JC.condF rfl ?_|refine JX.then_ ?_|refine JX.then_exit ?_|refine JX.then_ret ?_|refine JX.blk ?_|refine JX.blk_exit ?_|refine JX.blk_other rfl ?_|refine JX.blk_ret ?_|refine JX.partR ?_|refine JX.partE ?_|refine JX.partFR ?_|refine JX.partFE ?_|(first|refine JO.done ?_|(refine JO.pure rfl rfl rfl ?_;first|refine JPure.move rfl rfl ?_|refine JPure.assign rfl rfl ?_|refine JPure.pickT rfl rfl rfl ?_|refine JPure.pickF rfl rfl rfl ?_|(refine JPure.loadL rfl (by exact pta) rfl ?_;intro zqa zqb zqc zqd)|(refine JPure.loadT rfl (by exact pta) rfl ?_;intro zqa)|(refine JPure.loadI rfl (by exact pta) rfl ?_;intro zqa)|refine JPure.loadB rfl (by exact pta) rfl ?_|refine JPure.loadV rfl (by exact pta) rfl ?_|(refine JPure.load rfl (by exact pta) rfl ?_;intro zqa zqb)|(refine JPure.fieldS rfl (by exact pta) rfl ?_;intro zqa zqb)|refine JPure.lenS rfl rfl ?_|refine JPure.lenT rfl rfl ?_|refine JPure.arith rfl rfl rfl (by unfold Rng;omega) rfl ?_|refine JPure.bin rfl rfl rfl rfl ?_|refine JPure.eqB rfl rfl rfl ?_|refine JPure.neB rfl rfl rfl ?_|refine JPure.eqR rfl (by exact vta) rfl (by exact vta) rfl rfl ?_|refine JPure.neR rfl (by exact vta) rfl (by exact vta) rfl rfl ?_|(refine JPure.indexS rfl (by exact vta) rfl rfl (by (first|assumption|omega|(dsimp only;omega))) (by (first|assumption|(dsimp only;assumption))) ?_;intro zqa zqb)|(refine JPure.indexA rfl (by exact pta) rfl rfl (by (first|assumption|omega|(dsimp only;omega))) (by (first|assumption|(dsimp only;assumption))) ?_;intro zqa zqb)|refine JPure.indexT rfl rfl rfl (by (first|assumption|omega|(dsimp only;omega))) (by (first|assumption|(dsimp only;assumption))) ?_|refine JPure.makeFunc rfl rfl rfl ?_|refine JPure.conv rfl (wrap_u8_i32 _) rfl ?_|refine JPure.not rfl rfl ?_|refine JPure.extract rfl rfl rfl ?_|refine JPure.nilP rfl rfl ?_|refine JPure.nilF rfl rfl ?_|refine JPure.min2 rfl rfl rfl ?_|refine JPure.max2 rfl rfl rfl ?_|refine JPure.build rfl (by (repeat (first|exact trivial|refine ⟨⟨_,rfl,by first|rfl|exact Rp.V.asize (by assumption) rfl⟩,?_⟩))) (by simp only [setAll,List.set_cons_zero,List.set_cons_succ];rfl) rfl ?_|refine JPure.buildA rfl (by (repeat (first|exact trivial|refine ⟨⟨_,rfl,by first|rfl|exact Rp.V.asize (by assumption) rfl⟩,?_⟩))) (by simp only [setAll,List.set_cons_zero,List.set_cons_succ,List.replicate_succ,List.replicate_zero];rfl) rfl ?_|(refine JPure.sliceA rfl (by exact pta) rfl rfl ?_;intro zqa zqb zqc zqd))|refine JO.skip rfl rfl rfl rfl ?_|refine JO.skip0 rfl rfl rfl ?_))
 (repeat (first|refine JC.seq ?_|refine JC.region rfl ?_|refine JC.skip ?_|refine JC.exit ?_|refine JC.ret ?_|refine JC.condT rfl ?_|refine JC.condF rfl ?_|refine JX.then_ ?_|refine JX.then_exit ?_|refine JX.then_ret ?_|refine JX.blk ?_|refine JX.blk_exit ?_|refine JX.blk_other rfl ?_|refine JX.blk_ret ?_|refine JX.partR ?_|refine JX.partE ?_|refine JX.partFR ?_|refine JX.partFE ?_|(first|refine JO.done ?_|(refine JO.pure rfl rfl rfl ?_;first|refine JPure.move rfl rfl ?_|refine JPure.assign rfl rfl ?_|refine JPure.pickT rfl rfl rfl ?_|refine JPure.pickF rfl rfl rfl ?_|(refine JPure.loadL rfl (by exact pta) rfl ?_;intro zqa zqb zqc zqd)|(refine JPure.loadT rfl (by exact pta) rfl ?_;intro zqa)|(refine JPure.loadI rfl (by exact pta) rfl ?_;intro zqa)|refine JPure.loadB rfl (by exact pta) rfl ?_|refine JPure.loadV rfl (by exact pta) rfl ?_|(refine JPure.load rfl (by exact pta) rfl ?_;intro zqa zqb)|(refine JPure.fieldS rfl (by exact pta) rfl ?_;intro zqa zqb)|refine JPure.lenS rfl rfl ?_|refine JPure.lenT rfl rfl ?_|refine JPure.arith rfl rfl rfl (by unfold Rng;omega) rfl ?_|refine JPure.bin rfl rfl rfl rfl ?_|refine JPure.eqB rfl rfl rfl ?_|refine JPure.neB rfl rfl rfl ?_|refine JPure.eqR rfl (by exact vta) rfl (by exact vta) rfl rfl ?_|refine JPure.neR rfl (by exact vta) rfl (by exact vta) rfl rfl ?_|(refine JPure.indexS rfl (by exact vta) rfl rfl (by (first|assumption|omega|(dsimp only;omega))) (by (first|assumption|(dsimp only;assumption))) ?_;intro zqa zqb)|(refine JPure.indexA rfl (by exact pta) rfl rfl (by (first|assumption|omega|(dsimp only;omega))) (by (first|assumption|(dsimp only;assumption))) ?_;intro zqa zqb)|refine JPure.indexT rfl rfl rfl (by (first|assumption|omega|(dsimp only;omega))) (by (first|assumption|(dsimp only;assumption))) ?_|refine JPure.makeFunc rfl rfl rfl ?_|refine JPure.conv rfl (wrap_u8_i32 _) rfl ?_|refine JPure.not rfl rfl ?_|refine JPure.extract rfl rfl rfl ?_|refine JPure.nilP rfl rfl ?_|refine JPure.nilF rfl rfl ?_|refine JPure.min2 rfl rfl rfl ?_|refine JPure.max2 rfl rfl rfl ?_|refine JPure.build rfl (by (repeat (first|exact trivial|refine ⟨⟨_,rfl,by first|rfl|exact Rp.V.asize (by assumption) rfl⟩,?_⟩))) (by simp only [setAll,List.set_cons_zero,List.set_cons_succ];rfl) rfl ?_|refine JPure.buildA rfl (by (repeat (first|exact trivial|refine ⟨⟨_,rfl,by first|rfl|exact Rp.V.asize (by assumption) rfl⟩,?_⟩))) (by simp only [setAll,List.set_cons_zero,List.set_cons_succ,List.replicate_succ,List.replicate_zero];rfl) rfl ?_|(refine JPure.sliceA rfl (by exact pta) rfl rfl ?_;intro zqa zqb zqc zqd))|refine JO.skip rfl rfl rfl rfl ?_|refine JO.skip0 rfl rfl rfl ?_)))
 (repeat (first|revert zqa|revert zqb|revert zqc|revert zqd|revert zqe|revert zqf|revert zqg))
 exact zk.k):P:=h ⟨k⟩
theorem WOps {P K:Prop} (k:K) (h:Goal K→P:=by
 intro zk
 (first|refine JO.done ?_|(refine JO.pure rfl rfl rfl ?_;first|refine JPure.move rfl rfl ?_|refine JPure.assign rfl rfl ?_|refine JPure.pickT rfl rfl rfl ?_|refine JPure.pickF rfl rfl rfl ?_|(refine JPure.loadL rfl (by exact pta) rfl ?_;intro zqa zqb zqc zqd)|(refine JPure.loadT rfl (by exact pta) rfl ?_;intro zqa)|(refine JPure.loadI rfl (by exact pta) rfl ?_;intro zqa)|refine JPure.loadB rfl (by exact pta) rfl ?_|refine JPure.loadV rfl (by exact pta) rfl ?_|(refine JPure.load rfl (by exact pta) rfl ?_;intro zqa zqb)|(refine JPure.fieldS rfl (by exact pta) rfl ?_;intro zqa zqb)|refine JPure.lenS rfl rfl ?_|refine JPure.lenT rfl rfl ?_|refine JPure.arith rfl rfl rfl (by unfold Rng;omega) rfl ?_|refine JPure.bin rfl rfl rfl rfl ?_|refine JPure.eqB rfl rfl rfl ?_|refine JPure.neB rfl rfl rfl ?_|refine JPure.eqR rfl (by exact vta) rfl (by exact vta) rfl rfl ?_|refine JPure.neR rfl (by exact vta) rfl (by exact vta) rfl rfl ?_|(refine JPure.indexS rfl (by exact vta) rfl rfl (by (first|assumption|omega|(dsimp only;omega))) (by (first|assumption|(dsimp only;assumption))) ?_;intro zqa zqb)|(refine JPure.indexA rfl (by exact pta) rfl rfl (by (first|assumption|omega|(dsimp only;omega))) (by (first|assumption|(dsimp only;assumption))) ?_;intro zqa zqb)|refine JPure.indexT rfl rfl rfl (by (first|assumption|omega|(dsimp only;omega))) (by (first|assumption|(dsimp only;assumption))) ?_|refine JPure.makeFunc rfl rfl rfl ?_|refine JPure.conv rfl (wrap_u8_i32 _) rfl ?_|refine JPure.not rfl rfl ?_|refine JPure.extract rfl rfl rfl ?_|refine JPure.nilP rfl rfl ?_|refine JPure.nilF rfl rfl ?_|refine JPure.min2 rfl rfl rfl ?_|refine JPure.max2 rfl rfl rfl ?_|refine JPure.build rfl (by (repeat (first|exact trivial|refine ⟨⟨_,rfl,by first|rfl|exact Rp.V.asize (by assumption) rfl⟩,?_⟩))) (by simp only [setAll,List.set_cons_zero,List.set_cons_succ];rfl) rfl ?_|refine JPure.buildA rfl (by (repeat (first|exact trivial|refine ⟨⟨_,rfl,by first|rfl|exact Rp.V.asize (by assumption) rfl⟩,?_⟩))) (by simp only [setAll,List.set_cons_zero,List.set_cons_succ,List.replicate_succ,List.replicate_zero];rfl) rfl ?_|(refine JPure.sliceA rfl (by exact pta) rfl rfl ?_;intro zqa zqb zqc zqd))|refine JO.skip rfl rfl rfl rfl ?_|refine JO.skip0 rfl rfl rfl ?_)
 (repeat (first|refine JO.done ?_|(refine JO.pure rfl rfl rfl ?_;first|refine JPure.move rfl rfl ?_|refine JPure.assign rfl rfl ?_|refine JPure.pickT rfl rfl rfl ?_|refine JPure.pickF rfl rfl rfl ?_|(refine JPure.loadL rfl (by exact pta) rfl ?_;intro zqa zqb zqc zqd)|(refine JPure.loadT rfl (by exact pta) rfl ?_;intro zqa)|(refine JPure.loadI rfl (by exact pta) rfl ?_;intro zqa)|refine JPure.loadB rfl (by exact pta) rfl ?_|refine JPure.loadV rfl (by exact pta) rfl ?_|(refine JPure.load rfl (by exact pta) rfl ?_;intro zqa zqb)|(refine JPure.fieldS rfl (by exact pta) rfl ?_;intro zqa zqb)|refine JPure.lenS rfl rfl ?_|refine JPure.lenT rfl rfl ?_|refine JPure.arith rfl rfl rfl (by unfold Rng;omega) rfl ?_|refine JPure.bin rfl rfl rfl rfl ?_|refine JPure.eqB rfl rfl rfl ?_|refine JPure.neB rfl rfl rfl ?_|refine JPure.eqR rfl (by exact vta) rfl (by exact vta) rfl rfl ?_|refine JPure.neR rfl (by exact vta) rfl (by exact vta) rfl rfl ?_|(refine JPure.indexS rfl (by exact vta) rfl rfl (by (first|assumption|omega|(dsimp only;omega))) (by (first|assumption|(dsimp only;assumption))) ?_;intro zqa zqb)|(refine JPure.indexA rfl (by exact pta) rfl rfl (by (first|assumption|omega|(dsimp only;omega))) (by (first|assumption|(dsimp only;assumption))) ?_;intro zqa zqb)|refine JPure.indexT rfl rfl rfl (by (first|assumption|omega|(dsimp only;omega))) (by (first|assumption|(dsimp only;assumption))) ?_|refine JPure.makeFunc rfl rfl rfl ?_|refine JPure.conv rfl (wrap_u8_i32 _) rfl ?_|refine JPure.not rfl rfl ?_|refine JPure.extract rfl rfl rfl ?_|refine JPure.nilP rfl rfl ?_|refine JPure.nilF rfl rfl ?_|refine JPure.min2 rfl rfl rfl ?_|refine JPure.max2 rfl rfl rfl ?_|refine JPure.build rfl (by (repeat (first|exact trivial|refine ⟨⟨_,rfl,by first|rfl|exact Rp.V.asize (by assumption) rfl⟩,?_⟩))) (by simp only [setAll,List.set_cons_zero,List.set_cons_succ];rfl) rfl ?_|refine JPure.buildA rfl (by (repeat (first|exact trivial|refine ⟨⟨_,rfl,by first|rfl|exact Rp.V.asize (by assumption) rfl⟩,?_⟩))) (by simp only [setAll,List.set_cons_zero,List.set_cons_succ,List.replicate_succ,List.replicate_zero];rfl) rfl ?_|(refine JPure.sliceA rfl (by exact pta) rfl rfl ?_;intro zqa zqb zqc zqd))|refine JO.skip rfl rfl rfl rfl ?_|refine JO.skip0 rfl rfl rfl ?_))
 (repeat (first|revert zqa|revert zqb|revert zqc|revert zqd|revert zqe|revert zqf|revert zqg))
 exact zk.k):P:=h ⟨k⟩
theorem WBox {P K:Prop} (k:K) (h:Goal K→P:=by
 intro zk
 (refine JO.eff rfl rfl rfl (JEff.boxS rfl vva nna rfl ?_);intro zqa zqb zqc zqd)
 (repeat (first|revert zqa|revert zqb|revert zqc|revert zqd|revert zqe|revert zqf|revert zqg))
 exact zk.k):P:=h ⟨k⟩
theorem WNew {P K:Prop} (k:K) (h:Goal K→P:=by
 intro zk
 (refine JO.eff rfl rfl rfl (JEff.alloc rfl ?_);intro zqa zqb)
 (repeat (first|revert zqa|revert zqb|revert zqc|revert zqd|revert zqe|revert zqf|revert zqg))
 exact zk.k):P:=h ⟨k⟩
theorem WPut {P K:Prop} (k:K) (h:Goal K→P:=by
 intro zk
 (refine JO.eff rfl rfl rfl (JEff.storeW rfl rfl vva nna pma rfl (by intro l hl;cases hl) ?_);refine JO.freezeV vva nna (by assumption) (by intro l hl;cases hl) ?_;intro zqa zqb zqc)
 (repeat (first|revert zqa|revert zqb|revert zqc|revert zqd|revert zqe|revert zqf|revert zqg))
 exact zk.k):P:=h ⟨k⟩
end Go.Dr
namespace Go.Dr
set_option linter.unusedSimpArgs false
set_option linter.unusedVariables false
def YFn (P:Program) (L:Nat) (args:Array Value) (S:SHeap) (M:List MEnt) (Post:SHeap→List MEnt→Prop):Prop:=
 ∀ w,Agree S w→(∀ m∈M,m.ok w)→M.Pairwise MSep→(∀ m∈M,∀ b,m.own=some b→S b=none) →
  YieldAt (FR none) 0 P L args w fun e w'=>e=.returned (.bool true)∧∃ S' M',Wd w (M.filterMap MEnt.own) S S' M' w'∧Post S' M'
def Iter {α:Type} (P:Program) (gf:FuncId) (lb:Array Value) (rep:Rp α) (S:SHeap) (xs:List α):Prop:=
 ∀ (L:Nat) (J:Nat→SHeap→List MEnt→Prop) (S1:SHeap) (M1:List MEnt),S.le S1→J 0 S1 M1 →
  (∀ k x v S' M',S1.le S'→xs[k]?=some x→rep.V S' v x→J k S' M'→YFn P L #[v] S' M' (J (k+1))) →
  Fn P gf (#[.func (.yield L) #[] #[]]++lb) S1 M1 (fun _ S' M'=>J xs.length S' M')
def IterS {α:Type} (P:Program) (gf:FuncId) (lb:Array Value) (rep:Rp α) (S:SHeap) (Sx:List α→Prop):Prop:=
 ∀ (L:Nat) (J:List α→SHeap→List MEnt→Prop) (S1:SHeap) (M1:List MEnt),S.le S1→J [] S1 M1 →
  (∀ pre x v S' M',S1.le S'→(∃ xs,Sx xs∧pre++[x] <+: xs)→rep.V S' v x→J pre S' M'→YFn P L #[v] S' M' (J (pre++[x]))) →
  Fn P gf (#[.func (.yield L) #[] #[]]++lb) S1 M1 (fun _ S' M'=>∃ xs,Sx xs∧J xs S' M')
theorem IterS.mono {α:Type} {P:Program} {gf:FuncId} {lb:Array Value} {rep:Rp α} {S S':SHeap} {Sx:List α→Prop} (h:IterS P gf lb rep S Sx) (hl:S.le S'):IterS P gf lb rep S' Sx:=
 fun L J S1 M1 h1 h0 hy=>h L J S1 M1 (hl.trans h1) h0 hy
theorem Iter.mono {α:Type} {P:Program} {gf:FuncId} {lb:Array Value} {rep:Rp α} {S S':SHeap} {xs:List α} (h:Iter P gf lb rep S xs) (hl:S.le S'):Iter P gf lb rep S' xs:=
 fun L J S1 M1 h1 h0 hy=>h L J S1 M1 (hl.trans h1) h0 hy
section
variable {C:Cx} {R:Rg} {Q:Post} {S S':SHeap} {M M':List MEnt} {e:Env} {rest:List Nat}
variable {d:Nat} {ty:TypeId} {pos:String} {aft:Array Edge} {g:Option (Nat × Bool)}
theorem JEff.ofRound {L:Nat} {vs:Array Value} {o:Oper} (hr:C.r=none) (hsem:∀ a w,C.W S M e a w→(execOp a.eval o).run C.P w=(Instr.yield L vs).run C.P w) (htame:(tame o&&!mildOp o.op)=true)
  (hc:∀ a w,C.W S M e a w→YieldAt (FR none) 0 C.P L vs w fun e' w'=>∃ v,e'=.returned v∧SubX R.TP w w'∧∃ S',S.le S'∧Agree S' w'∧C.DF R Q S' rest (a.put o.dst v) w'):JEff C R o rest Q S M e:=⟨fun a w hw ht=>by
 simp only [Bool.and_eq_true,Bool.not_eq_true'] at htame
 obtain ⟨fn,tmps,assign,body,hy,hR⟩:=hc a w hw
 unfold Oper.wpIn
 refine ⟨fun _ _=>trivial,?_⟩
 rw [Oper.semAt_eq _ _ _ (tame_defer htame.1),hsem a w hw,hy,Oper.uponIn_round]
 refine ⟨fun h=>by simp [FR] at h,?_⟩
 rw [hr]
 refine RoundIn.mono hR fun e' w' ⟨v,he,hs,S',hl,hg,hd⟩=>?_
 subst he
 have hte:TE R.TP o=R.TP:=by unfold TE;rw [htame.2];rfl
 exact ⟨effS (by rw [hte];exact hs) hw.wd.agree (hg.mono hl),hd.shrink hl⟩⟩
theorem sem_yield {P:Program} {N:Nat} {e:Env} {x:Operand} {L:Nat} {args:Array Operand} {ts:Array TypeId} {vs:List Value} (hx:ev e x=some (.func (.yield L) #[] #[])) (hargs:evs e args.toList=some vs) (dst:Option Nat) (ty:TypeId) (pos:String) (aft:Array Edge) (g:Option (Nat × Bool)) :
  ∀ a w,Holds N e a→(execOp a.eval ⟨dst,.call { callee:=.value x,args,argTypes:=ts },ty,pos,aft,g⟩).run P w=(Instr.yield L vs.toArray).run P w:=by
 intro a w h
 have h1:args.map a.eval=vs.toArray:=by
  have:=h.evals hargs
  rw [← this,← Array.toList_map,Array.toArray_toList]
 simp [execOp,resolve,h.eval hx,Deferred.ofValue,invoke,h1]
theorem JEff.yield {L:Nat} {x:Operand} {args:Array Operand} {ts:Array TypeId} {vs:List Value} {Mc Mr:List MEnt} {PP:SHeap→List MEnt→Prop} (hr:C.r=none) (hx:ev e x=some (.func (.yield L) #[] #[])) (hargs:evs e args.toList=some vs)
  (hM:(Mc++Mr).Perm M) (hmw:MayWrite R Mc) (hf:YFn C.P L vs.toArray S Mc PP) (hdN:Nat.blt d C.N=true) (k:∀ S' M',S.le S'→PP S' M'→JO C R rest Q S' (M'++Mr) ((d,.bool true)::e)) :
  JEff C R ⟨some d,.call { callee:=.value x,args,argTypes:=ts },ty,pos,aft,g⟩ rest Q S M e:=
 JEff.ofRound hr (fun a w hw=>sem_yield hx hargs _ _ _ _ _ a w hw.env) rfl fun a w hw=>by
  have hwd:=hw.wd.perm hM
  have hsep:=(List.pairwise_append.1 hwd.sep).1
  obtain ⟨fn,tmps,assign,body,hy,hR⟩:=hf w hwd.agree (fun m hm=>hwd.ok m (by simp [hm])) hsep (fun m hm b hb=>(hwd.out m (by simp [hm]) b hb).1)
  refine ⟨fn,tmps,assign,body,hy,RoundIn.mono hR ?_⟩
  rintro e' w' ⟨rfl,S',M',hw',hp⟩
  refine ⟨_,rfl,?_,S',hw'.le,hw'.agree,?_⟩
  ·intro b o' hb hbo
   have hlt:=(Array.getElem?_eq_some_iff.1 hbo).1
   rw [hw'.keep b hlt fun hmem=>?_]
   ·exact hbo
   ·apply hb
    unfold Rg.TP
    cases hl:R.T with
    | none=>trivial
    | some l=>
     obtain ⟨m,hm,hmb⟩:=List.mem_filterMap.1 hmem
     exact hmw l hl m hm b hmb
  ·exact (k S' M' hw'.le hp).run _ w' ⟨hw.env.put hdN _,hw.defers,hwd.call hw'⟩ trivial
theorem JPure.indexV {an:Bool} {T E:TypeId} {n:Nat} {x y:Operand} {xs:List Int} {k':IntKind} {i:Int} {z:Int} (hx:ev e x=some (.agg (ints xs))) (hy:ev e y=some (.int k' i))
  [hu:Und C.P T (.array n E)] [ht:TyR C.P E rI64] (hdN:Nat.blt d C.N=true) (h0:0≤i) (hn:xs.length=n) (hz:xs[i.toNat]?=some z)
  (k:JO C R rest Q S M ((d,.int .i64 z)::e)):JPure C R an ⟨some d,.index T x y,ty,pos,aft,g⟩ rest Q S M e:=by
 have hlt:i.toNat < xs.length:=(List.getElem?_eq_some_iff.1 hz).1
 have hv:=(List.getElem?_eq_some_iff.1 hz).2
 refine JPure.of rfl hdN (fun a w' h=>?_) k
 have h1:(ints xs)[i.toNat]?=some (.int .i64 z):=by simp [ints,hz]
 have h2:i < (n:Int):=by omega
 have hs:(rI64:Rp Int).sz=1:=rfl
 have hagg:(isAgg E).run C.P w'=.ok false w':=run_isAgg ht w'
 simp [execOp,h.eval hx,h.eval hy,Instr.index,asIntOf,run_underlying hu.h,h0,h1,h2,run_sizeOf ht,hs,part,hagg]
theorem JC.perm {c:Code} (hM:M'.Perm M) (k:JC C c Q S M' e):JC C c Q S M e:=⟨fun a w hw=>k.run a w ⟨hw.env,hw.defers,hw.wd.perm hM⟩⟩
theorem JX.perm {x:Exit} (hM:M'.Perm M) (k:JX C x Q S M' e):JX C x Q S M e:=⟨fun a w hw=>k.run a w ⟨hw.env,hw.defers,hw.wd.perm hM⟩⟩
/-! ### The caller -/
def BeginPost (P:Program) (L:Nat) (body:Code) (Q:Post):Post:=
 Exit.then (fun a₁ w₁=>∃ w₂,(Instr.beginRound L).run P w₁=.ok () w₂∧body.wpIn (FR (some L)) 0 P Q a₁ w₂) (fun _ _ _=>False)
def RoundEnd (w1:World) (B1:List Nat) (S1:SHeap) (L K:Nat) (Rc:Loop) (I:SHeap→List MEnt→Prop) (e:Ending) (w:World):Prop:=
 e=.returned (.bool true)∧∃ S' M',Wd w1 B1 S1 S' (.blk L (.loop Rc)::.blk K (.deferred (some []))::M') w∧I S' M'
theorem Cx.W.turn {b:Nat} {o o':Obj} {a:Act} {w:World} (h:C.W S (.blk b o::M) e a w):C.W S (.blk b o'::M) e a (w.putObj b o'):=by
 have hb:=h.wd.ok (.blk b o) (by simp)
 have hlt:=(Array.getElem?_eq_some_iff.1 (show w.heap[b]?=some o from hb)).1
 exact ⟨h.env,h.defers,h.wd.turn rfl rfl rfl (by simp) (fun k hk=>World.putObj_heap_other hk) (World.putObj_heap_same hlt)⟩
theorem JX.begin {L:Nat} {Rc:Loop} {body:Code} (hr:C.r=some L) (hR:Rc.state=.ready) (k:JC C body Q S (.blk L (.loop { Rc with state:=.busy })::M) e) :
  JX C .normal (BeginPost C.P L body Q) S (.blk L (.loop Rc)::M) e:=⟨fun a w hw=>by
 have hL:w.heap[L]?=some (.loop Rc):=hw.wd.ok _ List.mem_cons_self
 refine ⟨_,run_beginRound hL hR,?_⟩
 have:=k.run a _ hw.turn
 rw [hr] at this
 exact this⟩
theorem JX.endRound {w1:World} {B1:List Nat} {S1:SHeap} {P:Program} {r:Option Nat} {N:Nat} {D:List Deferred} {L K:Nat} {Rc:Loop} {I:SHeap→List MEnt→Prop} (hR:Rc.state=.ready) (hp:Rc.pending=none) (hM:(.blk L (.loop { Rc with state:=.busy })::.blk K (.deferred (some []))::M').Perm M) (hI:I S M') :
  JX ⟨P,r,N,D,w1,B1,S1⟩ .normal (roundPost P L (RoundEnd w1 B1 S1 L K Rc I)) S M e:=⟨fun a w hw=>by
 have hw':Cx.W ⟨P,r,N,D,w1,B1,S1⟩ S (.blk L (.loop { Rc with state:=.busy })::.blk K (.deferred (some []))::M') e a w:=⟨hw.env,hw.defers,hw.wd.perm hM⟩
 have hL:w.heap[L]?=some (.loop { Rc with state:=.busy }):=hw'.wd.ok _ List.mem_cons_self
 refine ⟨_,_,run_endRound none hL,rfl,S,M',?_,hI⟩
 have h2:=hw'.turn (o':=.loop Rc)
 have he:({ ({ Rc with state:=.busy }:Loop) with state:=if (none:Option Code).isNone then .ready else .done,pending:=none }:Loop)=Rc:=by
  cases Rc;simp_all
 rw [he]
 exact h2.wd⟩
theorem JC.rangeFunc {α:Type} {rep:Rp α} {xs:List α} {x:Operand} {p:Nat} {assign body:Code} {gf:FuncId} {lb:Array Value} (I:Nat→SHeap→List MEnt→Prop)
  (hr:C.r=none) (hg:ev e x=some (.func (.func gf) #[] lb)) (hE:Ent C.P gf) (hpN:Nat.blt p C.N=true) (hit:Iter C.P gf lb rep S xs) (h0:I 0 S M)
  (hbody:∀ w1 B1 K L Rc k y v S' M',Rc.state=.ready→Rc.pending=none→S.le S'→xs[k]?=some y→rep.V S' v y→I k S' M' →
   JC ⟨C.P,some L,C.N,[],w1,B1,S'⟩ assign (BeginPost C.P L body (roundPost C.P L (RoundEnd w1 B1 S' L K Rc (I (k+1))))) S' (.blk L (.loop Rc)::.blk K (.deferred (some []))::M') ((p,v)::e))
  (hdone:∀ K S' M',S.le S'→I xs.length S' M'→JX { C with D:={ target:=.collected K,args:=#[] }::C.D } .normal Q S' (.blk K (.deferred (some []))::M') e) :
  JC C (.rangeFunc x #[p] assign body) Q S M e:=⟨fun a w hw=>by
 refine wpIn_rangeFunc ?_
 intro fn hfn
 have hev:a.eval x=.func (.func gf) #[] lb:=hw.env.eval hg
 obtain ⟨R0,hR0⟩:∃ R0:Loop,R0={ state:=.ready,pending:=none,fn,tmps:=a.tmps,params:=#[p],assign,body,defers:=w.heap.size }:=⟨_,rfl⟩
 obtain ⟨W1,hW1⟩:∃ W1,(w.alloc (.deferred (some []))).alloc (.loop R0)=W1:=⟨_,rfl⟩
 have hwd1:Wd C.w0 C.B0 C.S0 S (.blk (w.heap.size+1) (.loop R0)::.blk w.heap.size (.deferred (some []))::M) W1:=by
  have h:=(hw.wd.alloc (.deferred (some []))).alloc (.loop R0)
  rw [hW1,World.size_alloc] at h
  exact h
 refine ⟨w.heap.size+1,[{ target:=.collected w.heap.size,args:=#[] }],W1,{ target:=.fn (.func gf) lb,args:=#[.func (.yield (w.heap.size+1)) #[] #[]] },W1,gf,
  #[.func (.yield (w.heap.size+1)) #[] #[]]++lb,W1,?_,?_,fun _ _=>trivial,?_,fun h=>by simp [FR] at h,?_⟩
 ·rw [← hW1,hR0]
  have hro:(FR C.r).round=none:=hr
  rw [hro]
  exact run_enterLoop_outer _ _ _ _ _
 ·simp only [resolve,hev]
  simp [go_sem]
 ·have:=run_enter hE (#[.func (.yield (w.heap.size+1)) #[] #[]]++lb) W1
  simp [invoke,go_sem]
  simpa using this
 ·have hF:=hit (w.heap.size+1) (fun k S' M'=>∃ M'',M'=.blk (w.heap.size+1) (.loop R0)::.blk w.heap.size (.deferred (some []))::M''∧I k S' M'') S _ (SHeap.le.refl _) ⟨M,rfl,h0⟩ (by
   rintro k y v S' M' hl hy hv ⟨M'',rfl,hI⟩ w' hg' hok' hsep' hout'
   have hL:w'.heap[w.heap.size+1]?=some (.loop R0):=hok' _ List.mem_cons_self
   have hyr:=run_yield (P:=C.P) (args:=#[v]) hL (by rw [hR0];rfl)
   refine ⟨fn,_,assign,body,by rw [hyr,hR0],?_⟩
   refine RoundIn.mono (roundIn_of_wpIn (R:=RoundEnd w' _ S' (w.heap.size+1) w.heap.size R0 (I (k+1))) trivial ((hbody w' _ w.heap.size (w.heap.size+1) R0 k y v S' M'' (by rw [hR0]) (by rw [hR0]) hl hy hv hI).run _ w' ⟨?_,rfl,Wd.start hg' hok' hsep' hout'⟩)) ?_
   ·have:=hw.env.put hpN v
    rw [hR0]
    exact ⟨by simpa [Act.put] using this.1,by simpa [Act.put] using this.2⟩
   ·rintro e2 w2 ⟨rfl,S2,M2,hwd2,hI2⟩
    exact ⟨rfl,S2,_,hwd2,M2,rfl,hI2⟩)
  have hc:=hF W1 hwd1.agree hwd1.ok hwd1.sep (fun m hm b hb=>(hwd1.out m hm b hb).1)
  have h3:CallsIn (FR C.r) 0 C.P gf (#[.func (.yield (w.heap.size+1)) #[] #[]]++lb) W1 _:=(callsIn_wide (n:=0)).2 hc
  refine CallsIn.mono h3 ?_
  rintro e3 w3 ⟨v3,S3,M3,rfl,hwd3,M4,rfl,hI4⟩
  have hwc:=Wd.call (Mr:=[]) (by simpa using hwd1) hwd3
  have hL3:w3.heap[w.heap.size+1]?=some (.loop R0):=hwd3.ok _ List.mem_cons_self
  refine ⟨none,w3.putObj (w.heap.size+1) (.loop { R0 with state:=.exhausted }),?_,?_⟩
  ·have:=run_endLoop (P:=C.P) hL3 (by rw [hR0];simp)
   have hp0:R0.pending=none:=by rw [hR0]
   rw [this,hp0]
  ·have hW3:Cx.W { C with D:={ target:=.collected w.heap.size,args:=#[] }::C.D } S3 (.blk (w.heap.size+1) (.loop R0)::.blk w.heap.size (.deferred (some []))::M4) e { a with defers:=[{ target:=.collected w.heap.size,args:=#[] }]++a.defers } w3:=
    ⟨⟨hw.env.1,hw.env.2⟩,by rw [hw.defers];rfl,by simpa using hwc⟩
   have h5:=hW3.turn (o':=.loop { R0 with state:=.exhausted })
   exact (hdone w.heap.size S3 M4 hwd3.le hI4).run _ _ ⟨h5.env,h5.defers,h5.wd.sub (List.sublist_cons_self _ _)⟩⟩
theorem JC.rangeFuncS {α:Type} {rep:Rp α} {Sx:List α→Prop} {x:Operand} {p:Nat} {assign body:Code} {gf:FuncId} {lb:Array Value} (I:List α→SHeap→List MEnt→Prop)
  (hr:C.r=none) (hg:ev e x=some (.func (.func gf) #[] lb)) (hE:Ent C.P gf) (hpN:Nat.blt p C.N=true) (hit:IterS C.P gf lb rep S Sx) (h0:I [] S M)
  (hbody:∀ w1 B1 K L Rc k y v S' M',Rc.state=.ready→Rc.pending=none→S.le S'→(∃ xs,Sx xs∧k++[y] <+: xs)→rep.V S' v y→I k S' M' →
   JC ⟨C.P,some L,C.N,[],w1,B1,S'⟩ assign (BeginPost C.P L body (roundPost C.P L (RoundEnd w1 B1 S' L K Rc (I (k++[y]))))) S' (.blk L (.loop Rc)::.blk K (.deferred (some []))::M') ((p,v)::e))
  (hdone:∀ K xs S' M',S.le S'→Sx xs→I xs S' M'→JX { C with D:={ target:=.collected K,args:=#[] }::C.D } .normal Q S' (.blk K (.deferred (some []))::M') e) :
  JC C (.rangeFunc x #[p] assign body) Q S M e:=⟨fun a w hw=>by
 refine wpIn_rangeFunc ?_
 intro fn hfn
 have hev:a.eval x=.func (.func gf) #[] lb:=hw.env.eval hg
 obtain ⟨R0,hR0⟩:∃ R0:Loop,R0={ state:=.ready,pending:=none,fn,tmps:=a.tmps,params:=#[p],assign,body,defers:=w.heap.size }:=⟨_,rfl⟩
 obtain ⟨W1,hW1⟩:∃ W1,(w.alloc (.deferred (some []))).alloc (.loop R0)=W1:=⟨_,rfl⟩
 have hwd1:Wd C.w0 C.B0 C.S0 S (.blk (w.heap.size+1) (.loop R0)::.blk w.heap.size (.deferred (some []))::M) W1:=by
  have h:=(hw.wd.alloc (.deferred (some []))).alloc (.loop R0)
  rw [hW1,World.size_alloc] at h
  exact h
 refine ⟨w.heap.size+1,[{ target:=.collected w.heap.size,args:=#[] }],W1,{ target:=.fn (.func gf) lb,args:=#[.func (.yield (w.heap.size+1)) #[] #[]] },W1,gf,
  #[.func (.yield (w.heap.size+1)) #[] #[]]++lb,W1,?_,?_,fun _ _=>trivial,?_,fun h=>by simp [FR] at h,?_⟩
 ·rw [← hW1,hR0]
  have hro:(FR C.r).round=none:=hr
  rw [hro]
  exact run_enterLoop_outer _ _ _ _ _
 ·simp only [resolve,hev]
  simp [go_sem]
 ·have:=run_enter hE (#[.func (.yield (w.heap.size+1)) #[] #[]]++lb) W1
  simp [invoke,go_sem]
  simpa using this
 ·have hF:=hit (w.heap.size+1) (fun k S' M'=>∃ M'',M'=.blk (w.heap.size+1) (.loop R0)::.blk w.heap.size (.deferred (some []))::M''∧I k S' M'') S _ (SHeap.le.refl _) ⟨M,rfl,h0⟩ (by
   rintro k y v S' M' hl hy hv ⟨M'',rfl,hI⟩ w' hg' hok' hsep' hout'
   have hL:w'.heap[w.heap.size+1]?=some (.loop R0):=hok' _ List.mem_cons_self
   have hyr:=run_yield (P:=C.P) (args:=#[v]) hL (by rw [hR0];rfl)
   refine ⟨fn,_,assign,body,by rw [hyr,hR0],?_⟩
   refine RoundIn.mono (roundIn_of_wpIn (R:=RoundEnd w' _ S' (w.heap.size+1) w.heap.size R0 (I (k++[y]))) trivial ((hbody w' _ w.heap.size (w.heap.size+1) R0 k y v S' M'' (by rw [hR0]) (by rw [hR0]) hl hy hv hI).run _ w' ⟨?_,rfl,Wd.start hg' hok' hsep' hout'⟩)) ?_
   ·have:=hw.env.put hpN v
    rw [hR0]
    exact ⟨by simpa [Act.put] using this.1,by simpa [Act.put] using this.2⟩
   ·rintro e2 w2 ⟨rfl,S2,M2,hwd2,hI2⟩
    exact ⟨rfl,S2,_,hwd2,M2,rfl,hI2⟩)
  have hc:=hF W1 hwd1.agree hwd1.ok hwd1.sep (fun m hm b hb=>(hwd1.out m hm b hb).1)
  have h3:CallsIn (FR C.r) 0 C.P gf (#[.func (.yield (w.heap.size+1)) #[] #[]]++lb) W1 _:=(callsIn_wide (n:=0)).2 hc
  refine CallsIn.mono h3 ?_
  rintro e3 w3 ⟨v3,S3,M3,rfl,hwd3,xs3,hxs3,M4,rfl,hI4⟩
  have hwc:=Wd.call (Mr:=[]) (by simpa using hwd1) hwd3
  have hL3:w3.heap[w.heap.size+1]?=some (.loop R0):=hwd3.ok _ List.mem_cons_self
  refine ⟨none,w3.putObj (w.heap.size+1) (.loop { R0 with state:=.exhausted }),?_,?_⟩
  ·have:=run_endLoop (P:=C.P) hL3 (by rw [hR0];simp)
   have hp0:R0.pending=none:=by rw [hR0]
   rw [this,hp0]
  ·have hW3:Cx.W { C with D:={ target:=.collected w.heap.size,args:=#[] }::C.D } S3 (.blk (w.heap.size+1) (.loop R0)::.blk w.heap.size (.deferred (some []))::M4) e { a with defers:=[{ target:=.collected w.heap.size,args:=#[] }]++a.defers } w3:=
    ⟨⟨hw.env.1,hw.env.2⟩,by rw [hw.defers];rfl,by simpa using hwc⟩
   have h5:=hW3.turn (o':=.loop { R0 with state:=.exhausted })
   exact (hdone w.heap.size xs3 S3 M4 hwd3.le hxs3 hI4).run _ _ ⟨h5.env,h5.defers,h5.wd.sub (List.sublist_cons_self _ _)⟩⟩
/-! ### The end of a function that ranges over functions -/
theorem Fn.enterM {P:Program} {f:FuncId} {fn:Func} {c:Code} {args:List Value} {S:SHeap} {M:List MEnt} {PP:Value→SHeap→List MEnt→Prop} {N:Nat}
  (hf:P.funcs[f]?=some fn) (hb:fn.body=some c) (hn:fn.ntmps=N) (hlen:Nat.ble args.length N=true)
  (h:∀ w0,JC ⟨P,none,N,[],w0,M.filterMap MEnt.own,S⟩ c (bodyPostM (FR none) 0 P fn (EndPost w0 (M.filterMap MEnt.own) S PP)) S M (envOf 0 args)):Fn P f args.toArray S M PP:=by
 intro w hg hok hsep hout
 have key:CallsIn (FR none) 0 P f args.toArray w (EndPost w (M.filterMap MEnt.own) S PP):=by
  refine callsIn_of_wp_marks hf hb trivial ?_ rfl
  refine (h w).run _ w ⟨⟨?_,fun t v ht=>?_⟩,rfl,Wd.start hg hok hsep hout⟩
  ·have:args.length≤N:=by simpa [Nat.ble_eq] using hlen
   simp [hn];omega
  ·obtain ⟨_,h2⟩:=envOf_get args 0 t v ht
   have hlt:=(List.getElem?_eq_some_iff.1 h2).1
   simp at hlt
   have h3:args[t]=v:=(List.getElem?_eq_some_iff.1 h2).2
   simp [Array.getElem?_append,hlt,h3]
 exact (callsIn_wide (n:=0)).1 key
variable {fn:Func} {w0:World} {B0:List Nat} {S0:SHeap} {PP:Value→SHeap→List MEnt→Prop}
theorem JX.retM0 {P:Program} {N:Nat} {rv:ResultVar} {v:Value} (hr:fn.results=#[rv]) (hv:ResV ⟨P,none,N,[],w0,B0,S0⟩ S M e rv v) (hM:M'.Sublist M) (hp:PP v S M') :
  JX ⟨P,none,N,[],w0,B0,S0⟩ .ret (bodyPostM (FR none) 0 P fn (EndPost w0 B0 S0 PP)) S M e:=⟨fun a w hw=>by
 have hd:a.defers=[]:=hw.defers
 show LeavesInM _ _ _ _ _ _ a.defers _ _
 rw [hd]
 exact ⟨v,run_results1 hr (hv a w hw),v,S,M',rfl,hw.wd.sub hM,hp⟩⟩
theorem JX.retM1 {P:Program} {N K:Nat} {rv:ResultVar} {v:Value} {Mr:List MEnt} (hr:fn.results=#[rv]) (hK:(.blk K (.deferred (some []))::Mr).Perm M) (hv:ResV ⟨P,none,N,[],w0,B0,S0⟩ S Mr e rv v) (hM:M'.Sublist Mr) (hp:PP v S M') :
  JX ⟨P,none,N,[{ target:=.collected K,args:=#[] }],w0,B0,S0⟩ .ret (bodyPostM (FR none) 0 P fn (EndPost w0 B0 S0 PP)) S M e:=⟨fun a w hw=>by
 have hd:a.defers=[{ target:=.collected K,args:=#[] }]:=hw.defers
 have hw1:Cx.W ⟨P,none,N,[],w0,B0,S0⟩ S (.blk K (.deferred (some []))::Mr) e { a with defers:=[] } w:=⟨⟨hw.env.1,hw.env.2⟩,rfl,hw.wd.perm hK⟩
 have hKb:w.heap[K]?=some (.deferred (some [])):=hw1.wd.ok _ List.mem_cons_self
 have h2:=hw1.turn (o':=.deferred none)
 have h3:Cx.W ⟨P,none,N,[],w0,B0,S0⟩ S Mr e { a with defers:=[] } (w.putObj K (.deferred none)):=⟨h2.env,h2.defers,h2.wd.sub (List.sublist_cons_self _ _)⟩
 show LeavesInM _ _ _ _ _ _ a.defers _ _
 rw [hd]
 refine ⟨by simp,.inl ⟨K,_,rfl,run_takeDeferred hKb,?_⟩⟩
 exact ⟨v,run_results1 hr (hv { a with defers:=[] } _ h3),v,S,M',rfl,h3.wd.sub hM,hp⟩⟩
end
end Go.Dr
namespace Go.Dr
set_option linter.unusedSimpArgs false
set_option linter.unusedVariables false
open Go.ChangeMaps (setBlock)
def esAt (n:Nat):List (ByteArray × Value)→List MapEntry
 | []=>[]
 | (k,v)::l=>⟨.string k,v,n⟩::esAt (n+1) l
def mapObj (l:List (ByteArray × Value)):Obj:=.map (esAt 0 l).toArray l.length
theorem esAt_get:∀ (l:List (ByteArray × Value)) (n j:Nat),(esAt n l)[j]?=(l[j]?).map (fun p=>(⟨.string p.1,p.2,n+j⟩:MapEntry))
 | [],_,_=>by simp [esAt]
 | (k,v)::l,n,0=>by simp [esAt]
 | (k,v)::l,n,j+1=>by
  simp only [esAt,List.getElem?_cons_succ]
  rw [esAt_get l (n+1) j]
  congr 1
  funext p
  congr 1
  omega
theorem esAt_mem {l:List (ByteArray × Value)} {n:Nat} {x:MapEntry} (h:x∈esAt n l):∃ j p,l[j]?=some p∧x=⟨.string p.1,p.2,n+j⟩:=by
 obtain ⟨j,hj⟩:=List.mem_iff_getElem?.1 h
 rw [esAt_get] at hj
 cases hl:l[j]? with
 | none=>rw [hl] at hj;cases hj
 | some p=>rw [hl] at hj;cases hj;exact ⟨j,p,hl,rfl⟩
theorem esAt_append:∀ (l:List (ByteArray × Value)) (n:Nat) (k:ByteArray) (v:Value),esAt n (l++[(k,v)])=esAt n l++[⟨.string k,v,n+l.length⟩]
 | [],n,k,v=>rfl
 | (a,b)::l,n,k,v=>by
  simp only [List.cons_append,esAt,esAt_append l]
  congr 3
  simp only [List.length_cons];congr 1;omega
theorem esAt_born:∀ (l:List (ByteArray × Value)) (n:Nat),(esAt n l).map (·.born)=(List.range l.length).map (n+·)
 | [],_=>rfl
 | (a,b)::l,n=>by
  simp only [esAt,List.map_cons,esAt_born l,List.length_cons,List.range_succ_eq_map,List.map_map]
  congr 1
  apply List.map_congr_left
  intro x _
  simp only [Function.comp];omega
theorem esAt_nodup (l:List (ByteArray × Value)):(((esAt 0 l).toArray.toList).map (·.born)).Nodup:=by
 rw [show (esAt 0 l).toArray.toList=esAt 0 l from rfl,esAt_born]
 simp only [Nat.zero_add,List.map_id']
 exact List.nodup_range
section
variable {C:Cx} {R:Rg} {Q:Post} {S S' S1:SHeap} {M M':List MEnt} {e e':Env} {rest:List Nat}
variable {d:Nat} {ty:TypeId} {pos:String} {aft:Array Edge} {g:Option (Nat × Bool)} {an:Bool}
theorem JEff.makeMap {T:TypeId} (hdN:Nat.blt d C.N=true) (k:∀ b,C.w0.heap.size≤b→JO C R rest Q S (.blk b (mapObj [])::M) ((d,.map (some b))::e)):JEff C R ⟨some d,.makeMap T none,ty,pos,aft,g⟩ rest Q S M e:=
 JEff.ofRun rfl rfl hdN fun a w hw=>⟨.map (some w.heap.size),w.alloc (.map #[] 0),by simp [execOp,Instr.makeMap,run_newObj],subX_alloc _ _ _,by simp,
  S,_,hw.wd.alloc _,SHeap.le.refl _,k _ hw.wd.size⟩
theorem JEff.mapPut {T K E:TypeId} {x y z:Operand} {b:Nat} {l:List (ByteArray × Value)} {s:ByteArray} {v:Value} {Mr:List MEnt} (hx:ev e x=some (.map (some b))) (hy:ev e y=some (.string s)) (hz:ev e z=some v)
  [hu:Und C.P T (.map K E)] [hk:Und C.P K .string] (hM:(MEnt.blk b (mapObj l)::Mr).Perm M) (hT:∀ l,R.T=some l→b∈l)
  (k1:(∀ p∈l,p.1≠s)→JO C R rest Q S (.blk b (mapObj (l++[(s,v)]))::Mr) e)
  (k2:∀ j p,l[j]?=some p→p.1=s→JO C R rest Q S (.blk b (mapObj (l.set j (s,v)))::Mr) e):JEff C R ⟨none,.mapUpdate T x y z,ty,pos,aft,g⟩ rest Q S M e:=
 JEff.ofSkip rfl rfl fun a w hw=>by
  have hwd:=hw.wd.perm hM
  have hb:w.heap[b]?=some (.map (esAt 0 l).toArray l.length):=hwd.ok (.blk b (mapObj l)) (by simp)
  have hkey:MapKept.IsKey .string (.string s):=by simp [MapKept.IsKey]
  have hc:(Instr.checkKey false 10000 K (.string s)).run C.P w=.ok () w:=MapKept.run_checkKey (k:=.string s) hk.h hkey false 9999
  rcases MapKept.findNow_spec hkey (esAt 0 l) 0 (fun x hx=>by obtain ⟨_,_,_,rfl⟩:=esAt_mem hx;simp [MapKept.IsKey]) with ⟨h1,h2⟩|⟨j,e1,h1,h2,h3⟩
  ·have hes:(esAt 0 l).toArray.push { key:=.string s,val:=v,born:=l.length }=(esAt 0 (l++[(s,v)])).toArray:=by rw [esAt_append];simp
   refine ⟨putObj w b (mapObj (l++[(s,v)])),?_,subX_put hT (fun k hk=>putObj_other w b k _ hk),by simp [putObj],S,_,hwd.turn rfl rfl rfl (by simp [putObj]) (fun k hk=>putObj_other w b k _ hk) (putObj_at w b _ _ hb),SHeap.le.refl _,k1 ?_⟩
   ·simp [execOp,hw.env.eval hx,hw.env.eval hy,hw.env.eval hz,Instr.mapUpdate,run_underlying hu.h,MapKept.run_getObj_map hb,hc,MapKept.run_findKey hk.h h1,MapKept.run_setObj_map _ hb,Result.andThen,putObj,mapObj,hes]
   ·intro p hp heq
    obtain ⟨j,hj⟩:=List.mem_iff_getElem?.1 hp
    refine h2 ⟨.string p.1,p.2,0+j⟩ (List.mem_iff_getElem?.2 ⟨j,by rw [esAt_get,hj];rfl⟩) ?_
    simp [heq]
  ·rw [esAt_get] at h2
   cases hl:l[j]? with
   | none=>rw [hl] at h2;cases h2
   | some p=>
    rw [hl] at h2
    simp only [Option.map_some,Option.some.injEq] at h2
    subst h2
    have hps:p.1=s:=by simpa using h3
    have hlt:=(List.getElem?_eq_some_iff.1 hl).1
    have hes:(esAt 0 l).toArray.modify j (fun e=>{ e with key:=.string s,val:=v })=(esAt 0 (l.set j (s,v))).toArray:=by
     apply Array.ext'
     rw [Array.toList_modify]
     apply List.ext_getElem?
     intro i
     rw [List.getElem?_modify]
     show _=(esAt 0 (l.set j (s,v)))[i]?
     rw [esAt_get,esAt_get,List.getElem?_set]
     by_cases hij:j=i
     ·subst hij
      simp [hl,hlt]
     ·simp [hij]
    have hks:=MapKept.run_keyThatStays (P:=C.P) (w:=w) hkey
    refine ⟨putObj w b (mapObj (l.set j (s,v))),?_,subX_put hT (fun k hk=>putObj_other w b k _ hk),by simp [putObj],S,_,hwd.turn rfl rfl rfl (by simp [putObj]) (fun k hk=>putObj_other w b k _ hk) (putObj_at w b _ _ hb),SHeap.le.refl _,k2 j p hl hps⟩
    have hkj:(((esAt 0 l).toArray[j]?).map (·.key)).getD (.string s)=.string s:=by
     rw [List.getElem?_toArray,esAt_get,hl];simp [hps]
    simp only [Nat.zero_add] at h1
    simp only [execOp,hw.env.eval hx,hw.env.eval hy,hw.env.eval hz,Instr.mapUpdate,Sem.run_bind,run_underlying hu.h,MapKept.run_getObj_map hb,hc,MapKept.run_findKey hk.h h1,Result.andThen,hkj,hks,MapKept.run_setObj_map _ hb,hes]
    simp [putObj,mapObj]
theorem JEff.rangeM {T K E:TypeId} {x:Operand} {b:Nat} {l:List (ByteArray × Value)} (hx:ev e x=some (.map (some b))) [hu:Und C.P T (.map K E)] (hS:S b=some (mapObj l)) (hdN:Nat.blt d C.N=true)
  (k:∀ r,C.w0.heap.size≤r→JO C R rest Q S (.blk r (.mapIter (some b) l.length #[] l.length)::M) ((d,.pointer (some ⟨r,0,none⟩))::e)):JEff C R ⟨some d,.range T x,ty,pos,aft,g⟩ rest Q S M e:=
 JEff.ofRun rfl rfl hdN fun a w hw=>⟨.pointer (some ⟨w.heap.size,0,none⟩),w.alloc (.mapIter (some b) l.length #[] l.length),by
   have hb:w.heap[b]?=some (.map (esAt 0 l).toArray l.length):=hw.wd.agree b _ hS
   simp [execOp,hw.env.eval hx,run_range_map w T K E b _ _ hu.h hb],subX_alloc _ _ _,by simp,
  S,_,hw.wd.alloc _,SHeap.le.refl _,k _ hw.wd.size⟩
theorem JEff.nextM {x:Operand} {b r:Nat} {l:List (ByteArray × Value)} {seen:Array Nat} {Mr:List MEnt} (hx:ev e x=some (.pointer (some ⟨r,0,none⟩))) (hS:S b=some (mapObj l)) (hM:(MEnt.blk r (.mapIter (some b) l.length seen l.length)::Mr).Perm M) (hT:∀ l,R.T=some l→r∈l) (hdN:Nat.blt d C.N=true)
  (k1:∀ i p,l[i]?=some p→i∉seen→JO C R rest Q S (.blk r (.mapIter (some b) l.length (seen.push i) l.length)::Mr) ((d,.tuple #[.bool true,.string p.1,p.2])::e))
  (k2:(∀ i,i < l.length→i∈seen)→JO C R rest Q S M ((d,.tuple #[.bool false])::e)):JEff C R ⟨some d,.next x false,ty,pos,aft,g⟩ rest Q S M e:=
 JEff.ofRun rfl rfl hdN fun a w hw=>by
  have hwd:=hw.wd.perm hM
  have hr:w.heap[r]?=some (.mapIter (some b) l.length seen l.length):=hwd.ok (.blk r _) (by simp)
  have hb:w.heap[b]?=some (.map (esAt 0 l).toArray l.length):=hw.wd.agree b _ hS
  have hold:∀ x∈(esAt 0 l).toArray.toList,x.born < l.length:=by
   intro x hx
   obtain ⟨j,p,hj,rfl⟩:=esAt_mem (show x∈esAt 0 l from hx)
   have:=(List.getElem?_eq_some_iff.1 hj).1
   simpa using this
  rcases run_next_at (P:=C.P) w ty r b l.length l.length seen _ _ hr hb hold (Nat.le_refl _) with ⟨h1,h2⟩|⟨e1,he,w1,hw1,h2⟩
  ·refine ⟨_,w,by simp [execOp,hw.env.eval hx,h2],SubX.refl _ _,Nat.le_refl _,S,M,hw.wd,SHeap.le.refl _,k2 ?_⟩
   intro i hi
   unfold leftOf at h1
   have hnil:=Array.eq_empty_of_size_eq_zero h1
   rw [Array.filter_eq_empty_iff] at hnil
   have hm:(⟨.string (l[i]).1,(l[i]).2,i⟩:MapEntry)∈(esAt 0 l).toArray:=by
    rw [List.mem_toArray]
    refine List.mem_iff_getElem?.2 ⟨i,?_⟩
    rw [esAt_get,List.getElem?_eq_getElem hi]
    simp
   have:=hnil _ hm
   simpa using this
  ·have hmem:e1∈(esAt 0 l)∧e1.born∉seen:=by
    unfold leftOf at he
    simpa using he
   obtain ⟨i,p,hi,rfl⟩:=esAt_mem hmem.1
   have hns:i∉seen:=by simpa using hmem.2
   have hwd1:Wd C.w0 C.B0 C.S0 S (.blk r (.mapIter (some b) l.length seen l.length)::Mr) w1:=by
    rcases hw1 with rfl|rfl
    ·exact hwd
    ·exact hwd.drew
   have hh:w1.heap=w.heap:=by rcases hw1 with rfl|rfl<;>rfl
   have hr1:w1.heap[r]?=some (.mapIter (some b) l.length seen l.length):=by rw [hh];exact hr
   refine ⟨_,putObj w1 r (.mapIter (some b) l.length (seen.push i) l.length),?_,?_,by simp [putObj,hh],S,_,hwd1.turn rfl rfl rfl (by simp [putObj]) (fun k hk=>putObj_other w1 r k _ hk) (putObj_at w1 r _ _ hr1),SHeap.le.refl _,k1 i p hi hns⟩
   ·simp only [Nat.zero_add] at h2
    simp [execOp,hw.env.eval hx,h2,setBlock,putObj]
   ·exact subX_put hT (fun k hk=>by rw [putObj_other w1 r k _ hk,hh])
theorem JEff.entryM {x:Operand} {b r i:Nat} {l:List (ByteArray × Value)} {p:ByteArray × Value} {seen:Array Nat} (hx:ev e x=some (.pointer (some ⟨r,0,none⟩))) (hS:S b=some (mapObj l)) (hM:MEnt.blk r (.mapIter (some b) l.length (seen.push i) l.length)∈M) (hi:l[i]?=some p) (hdN:Nat.blt d C.N=true)
  (k:JO C R rest Q S M ((d,.tuple #[.string p.1,p.2])::e)):JEff C R ⟨some d,.entry x,ty,pos,aft,g⟩ rest Q S M e:=
 JEff.ofRun rfl rfl hdN fun a w hw=>by
  have hr:w.heap[r]?=some (.mapIter (some b) l.length (seen.push i) l.length):=hw.wd.ok _ hM
  have hb:w.heap[b]?=some (.map (esAt 0 l).toArray l.length):=hw.wd.agree b _ hS
  have he:(⟨.string p.1,p.2,i⟩:MapEntry)∈(esAt 0 l).toArray.toList:=by
   show _∈esAt 0 l
   refine List.mem_iff_getElem?.2 ⟨i,?_⟩
   rw [esAt_get,hi];simp
  have h2:=run_entry_at (P:=C.P) w r b l.length seen _ _ _ hr hb he (esAt_nodup l)
  exact ⟨_,w,by simp [execOp,hw.env.eval hx,h2],SubX.refl _ _,Nat.le_refl _,S,M,hw.wd,SHeap.le.refl _,k⟩
end
end Go.Dr
namespace Go.Dr
set_option linter.unusedSimpArgs false
set_option linter.unusedVariables false
open Go.ChangeMaps (setBlock)
def esK {κ:Type} (kv:κ→Value) (n:Nat):List (κ × Value)→List MapEntry
 | []=>[]
 | (k,v)::l=>⟨kv k,v,n⟩::esK kv (n+1) l
def mapK {κ:Type} (kv:κ→Value) (l:List (κ × Value)):Obj:=.map (esK kv 0 l).toArray l.length
section
variable {κ:Type} {kv:κ→Value}
theorem esK_get:∀ (l:List (κ × Value)) (n j:Nat),(esK kv n l)[j]?=(l[j]?).map (fun p=>(⟨kv p.1,p.2,n+j⟩:MapEntry))
 | [],_,_=>by simp [esK]
 | (k,v)::l,n,0=>by simp [esK]
 | (k,v)::l,n,j+1=>by
  simp only [esK,List.getElem?_cons_succ]
  rw [esK_get l (n+1) j]
  congr 1
  funext p
  congr 1
  omega
theorem esK_mem {l:List (κ × Value)} {n:Nat} {x:MapEntry} (h:x∈esK kv n l):∃ j p,l[j]?=some p∧x=⟨kv p.1,p.2,n+j⟩:=by
 obtain ⟨j,hj⟩:=List.mem_iff_getElem?.1 h
 rw [esK_get] at hj
 cases hl:l[j]? with
 | none=>rw [hl] at hj;cases hj
 | some p=>rw [hl] at hj;cases hj;exact ⟨j,p,hl,rfl⟩
theorem esK_append:∀ (l:List (κ × Value)) (n:Nat) (k:κ) (v:Value),esK kv n (l++[(k,v)])=esK kv n l++[⟨kv k,v,n+l.length⟩]
 | [],n,k,v=>rfl
 | (a,b)::l,n,k,v=>by
  simp only [List.cons_append,esK,esK_append l]
  congr 3
  simp only [List.length_cons];congr 1;omega
theorem esK_born:∀ (l:List (κ × Value)) (n:Nat),(esK kv n l).map (·.born)=(List.range l.length).map (n+·)
 | [],_=>rfl
 | (a,b)::l,n=>by
  simp only [esK,List.map_cons,esK_born l,List.length_cons,List.range_succ_eq_map,List.map_map]
  congr 1
  apply List.map_congr_left
  intro x _
  simp only [Function.comp];omega
theorem esK_nodup (l:List (κ × Value)):(((esK kv 0 l).toArray.toList).map (·.born)).Nodup:=by
 rw [show (esK kv 0 l).toArray.toList=esK kv 0 l from rfl,esK_born]
 simp only [Nat.zero_add,List.map_id']
 exact List.nodup_range
end
class Key (P:Program) (K:TypeId) {κ:Type} (kv:outParam (κ→Value)):Prop where
 check:∀ (e:Bool) (k:κ) (w:World),(Instr.checkKey e 10000 K (kv k)).run P w=.ok () w
 find:∀ (k:κ) (l:List (κ × Value)) (w:World),((Instr.findKey K (kv k) (esK kv 0 l)).run P w=.ok none w∧∀ p∈l,p.1≠k) ∨
  ∃ j p,(Instr.findKey K (kv k) (esK kv 0 l)).run P w=.ok (some (j,p.2)) w∧l[j]?=some p∧p.1=k
 stays:∀ (k:κ) (w:World),(Instr.keyThatStays (kv k) (kv k)).run P w=.ok (kv k) w
theorem key_of {κ:Type} {kv:κ→Value} {P:Program} {K:TypeId} {d:TypeDesc} (hd:P.underlying K=some d) (hk:∀ k,MapKept.IsKey d (kv k)) (hi:∀ a b,kv a=kv b→a=b):Key P K kv where
 check e k w:=MapKept.run_checkKey hd (hk k) e 9999
 find k l w:=by
  rcases MapKept.findNow_spec (hk k) (esK kv 0 l) 0 (fun x hx=>by obtain ⟨_,_,_,rfl⟩:=esK_mem hx;exact hk _) with ⟨h1,h2⟩|⟨j,e1,h1,h2,h3⟩
  ·refine .inl ⟨MapKept.run_findKey hd h1,fun p hp heq=>?_⟩
   obtain ⟨j,hj⟩:=List.mem_iff_getElem?.1 hp
   refine h2 ⟨kv p.1,p.2,0+j⟩ (List.mem_iff_getElem?.2 ⟨j,by rw [esK_get,hj];rfl⟩) ?_
   simp [heq]
  ·rw [esK_get] at h2
   cases hl:l[j]? with
   | none=>rw [hl] at h2;cases h2
   | some p=>
    rw [hl] at h2
    simp only [Option.map_some,Option.some.injEq] at h2
    subst h2
    refine .inr ⟨j,p,?_,hl,hi _ _ h3⟩
    have:=MapKept.run_findKey (P:=P) (w:=w) (kt:=K) hd h1
    simpa using this
 stays k w:=MapKept.run_keyThatStays (hk k)
instance {P:Program} {K:TypeId} [h:Und P K .string]:Key P K Value.string:=key_of h.h (fun _=>by simp [MapKept.IsKey]) (fun a b h=>by cases h;rfl)
instance {P:Program} {K:TypeId} [h:Und P K (.int .i64)]:Key P K (Value.int .i64):=key_of h.h (fun _=>by simp [MapKept.IsKey]) (fun a b h=>by cases h;rfl)
section
variable {C:Cx} {R:Rg} {Q:Post} {S S' S1:SHeap} {M M':List MEnt} {e e':Env} {rest:List Nat}
variable {d:Nat} {ty:TypeId} {pos:String} {aft:Array Edge} {g:Option (Nat × Bool)} {an:Bool}
variable {κ:Type} {kv:κ→Value}
theorem JEff.makeMapK {T:TypeId} (kv:κ→Value) (hdN:Nat.blt d C.N=true) (k:∀ b,C.w0.heap.size≤b→JO C R rest Q S (.blk b (mapK kv [])::M) ((d,.map (some b))::e)):JEff C R ⟨some d,.makeMap T none,ty,pos,aft,g⟩ rest Q S M e:=
 JEff.ofRun rfl rfl hdN fun a w hw=>⟨.map (some w.heap.size),w.alloc (.map #[] 0),by simp [execOp,Instr.makeMap,run_newObj],subX_alloc _ _ _,by simp,
  S,_,hw.wd.alloc _,SHeap.le.refl _,k _ hw.wd.size⟩
theorem JEff.putK {T K E:TypeId} {x y z:Operand} {b:Nat} {l:List (κ × Value)} {s:κ} {v:Value} {Mr:List MEnt} (hx:ev e x=some (.map (some b))) (hy:ev e y=some (kv s)) (hz:ev e z=some v)
  [hu:Und C.P T (.map K E)] [hk:Key C.P K kv] (hM:(MEnt.blk b (mapK kv l)::Mr).Perm M) (hT:∀ l,R.T=some l→b∈l)
  (k1:(∀ p∈l,p.1≠s)→JO C R rest Q S (.blk b (mapK kv (l++[(s,v)]))::Mr) e)
  (k2:∀ (j:Nat) (p:κ × Value),l[j]?=some p→p.1=s→JO C R rest Q S (.blk b (mapK kv (l.set j (s,v)))::Mr) e):JEff C R ⟨none,.mapUpdate T x y z,ty,pos,aft,g⟩ rest Q S M e:=
 JEff.ofSkip rfl rfl fun a w hw=>by
  have hwd:=hw.wd.perm hM
  have hb:w.heap[b]?=some (.map (esK kv 0 l).toArray l.length):=hwd.ok (.blk b (mapK kv l)) (by simp)
  have hc:=hk.check false s w
  rcases hk.find s l w with ⟨h1,h2⟩|⟨j,p,h1,hl,hps⟩
  ·have hes:(esK kv 0 l).toArray.push { key:=kv s,val:=v,born:=l.length }=(esK kv 0 (l++[(s,v)])).toArray:=by rw [esK_append];simp
   refine ⟨putObj w b (mapK kv (l++[(s,v)])),?_,subX_put hT (fun k hk=>putObj_other w b k _ hk),by simp [putObj],S,_,hwd.turn rfl rfl rfl (by simp [putObj]) (fun k hk=>putObj_other w b k _ hk) (putObj_at w b _ _ hb),SHeap.le.refl _,k1 h2⟩
   simp [execOp,hw.env.eval hx,hw.env.eval hy,hw.env.eval hz,Instr.mapUpdate,run_underlying hu.h,MapKept.run_getObj_map hb,hc,h1,MapKept.run_setObj_map _ hb,Result.andThen,putObj,mapK,hes]
  ·have hlt:=(List.getElem?_eq_some_iff.1 hl).1
   have hes:(esK kv 0 l).toArray.modify j (fun e=>{ e with key:=kv s,val:=v })=(esK kv 0 (l.set j (s,v))).toArray:=by
    apply Array.ext'
    rw [Array.toList_modify]
    apply List.ext_getElem?
    intro i
    rw [List.getElem?_modify]
    show _=(esK kv 0 (l.set j (s,v)))[i]?
    rw [esK_get,esK_get,List.getElem?_set]
    by_cases hij:j=i
    ·subst hij
     simp [hl,hlt]
    ·simp [hij]
   have hks:=hk.stays s w
   refine ⟨putObj w b (mapK kv (l.set j (s,v))),?_,subX_put hT (fun k hk=>putObj_other w b k _ hk),by simp [putObj],S,_,hwd.turn rfl rfl rfl (by simp [putObj]) (fun k hk=>putObj_other w b k _ hk) (putObj_at w b _ _ hb),SHeap.le.refl _,k2 j p hl hps⟩
   have hkj:(((esK kv 0 l).toArray[j]?).map (·.key)).getD (kv s)=kv s:=by
    rw [List.getElem?_toArray,esK_get,hl];simp [hps]
   simp only [execOp,hw.env.eval hx,hw.env.eval hy,hw.env.eval hz,Instr.mapUpdate,Sem.run_bind,run_underlying hu.h,MapKept.run_getObj_map hb,hc,h1,Result.andThen,hkj,hks,MapKept.run_setObj_map _ hb,hes]
   simp [putObj,mapK]
theorem JEff.insK {T K E:TypeId} {x y z:Operand} {b:Nat} {l:List (κ × Value)} {s:κ} {v:Value} {Mr:List MEnt} (hx:ev e x=some (.map (some b))) (hy:ev e y=some (kv s)) (hz:ev e z=some v)
  [hu:Und C.P T (.map K E)] [hk:Key C.P K kv] (hM:(MEnt.blk b (mapK kv l)::Mr).Perm M) (hT:∀ l,R.T=some l→b∈l)
  (k1:(∀ p∈l,p.1≠s)→JO C R rest Q S (.blk b (mapK kv (l++[(s,v)]))::Mr) e)
  (k2:∀ (j:Nat) (p:κ × Value),l[j]?=some p→p.1=s→JO C R rest Q S (.blk b (mapK kv (l.set j (s,v)))::Mr) e):JEff C R ⟨none,.insert T x y z,ty,pos,aft,g⟩ rest Q S M e:=
 JEff.ofSkip rfl rfl fun a w hw=>by
  have hwd:=hw.wd.perm hM
  have hb:w.heap[b]?=some (.map (esK kv 0 l).toArray l.length):=hwd.ok (.blk b (mapK kv l)) (by simp)
  have hc:=hk.check false s w
  rcases hk.find s l w with ⟨h1,h2⟩|⟨j,p,h1,hl,hps⟩
  ·have hes:(esK kv 0 l).toArray.push { key:=kv s,val:=v,born:=l.length }=(esK kv 0 (l++[(s,v)])).toArray:=by rw [esK_append];simp
   refine ⟨putObj w b (mapK kv (l++[(s,v)])),?_,subX_put hT (fun k hk=>putObj_other w b k _ hk),by simp [putObj],S,_,hwd.turn rfl rfl rfl (by simp [putObj]) (fun k hk=>putObj_other w b k _ hk) (putObj_at w b _ _ hb),SHeap.le.refl _,k1 h2⟩
   simp [execOp,hw.env.eval hx,hw.env.eval hy,hw.env.eval hz,Instr.mapUpdate,run_underlying hu.h,MapKept.run_getObj_map hb,hc,h1,MapKept.run_setObj_map _ hb,Result.andThen,putObj,mapK,hes]
  ·have hlt:=(List.getElem?_eq_some_iff.1 hl).1
   have hes:(esK kv 0 l).toArray.modify j (fun e=>{ e with key:=kv s,val:=v })=(esK kv 0 (l.set j (s,v))).toArray:=by
    apply Array.ext'
    rw [Array.toList_modify]
    apply List.ext_getElem?
    intro i
    rw [List.getElem?_modify]
    show _=(esK kv 0 (l.set j (s,v)))[i]?
    rw [esK_get,esK_get,List.getElem?_set]
    by_cases hij:j=i
    ·subst hij
     simp [hl,hlt]
    ·simp [hij]
   have hks:=hk.stays s w
   refine ⟨putObj w b (mapK kv (l.set j (s,v))),?_,subX_put hT (fun k hk=>putObj_other w b k _ hk),by simp [putObj],S,_,hwd.turn rfl rfl rfl (by simp [putObj]) (fun k hk=>putObj_other w b k _ hk) (putObj_at w b _ _ hb),SHeap.le.refl _,k2 j p hl hps⟩
   have hkj:(((esK kv 0 l).toArray[j]?).map (·.key)).getD (kv s)=kv s:=by
    rw [List.getElem?_toArray,esK_get,hl];simp [hps]
   simp only [execOp,hw.env.eval hx,hw.env.eval hy,hw.env.eval hz,Instr.mapUpdate,Sem.run_bind,run_underlying hu.h,MapKept.run_getObj_map hb,hc,h1,Result.andThen,hkj,hks,MapKept.run_setObj_map _ hb,hes]
   simp [putObj,mapK]
theorem JEff.insNew [DecidableEq κ] {T K E:TypeId} {x y z:Operand} {b:Nat} {l:List (κ × Value)} {s:κ} {v:Value} {Mr:List MEnt} (hx:ev e x=some (.map (some b))) (hy:ev e y=some (kv s)) (hz:ev e z=some v)
  [hu:Und C.P T (.map K E)] [hk:Key C.P K kv] (hM:(MEnt.blk b (mapK kv l)::Mr).Perm M) (hT:∀ l,R.T=some l→b∈l) (hnew:l.all (fun p=>!decide (p.1=s))=true)
  (k:JO C R rest Q S (.blk b (mapK kv (l++[(s,v)]))::Mr) e):JEff C R ⟨none,.insert T x y z,ty,pos,aft,g⟩ rest Q S M e:=
 JEff.insK hx hy hz hM hT (fun _=>k) (fun j p hj hp=>by
  have:=List.all_eq_true.1 hnew p (List.mem_of_getElem? hj)
  simp [hp] at this)
def fld1B (P:Program) (T:TypeId) (k off:Nat):Bool:=
 match P.underlying T with
 | some (.struct fs)=>match fs[k]? with
  | some f=>Nat.beq f.offset off&&(match P.underlying f.type with|some d=>!isAggD d|none=>false)
  | none=>false
 | _=>false
class Fld1 (P:Program) (T:TypeId) (k:Nat) (off:outParam Nat):Prop where
 b:fld1B P T k off=true
theorem Fld1.h {P:Program} {T:TypeId} {k off:Nat} (h:Fld1 P T k off):∃ fs f d,P.underlying T=some (.struct fs)∧fs[k]?=some f∧f.offset=off∧P.underlying f.type=some d∧isAggD d=false:=by
 have hb:=h.b
 unfold fld1B at hb
 split at hb
 ·rename_i fs hu
  split at hb
  ·rename_i f hf
   simp only [Bool.and_eq_true] at hb
   have h1:=Nat.eq_of_beq_eq_true hb.1
   have h2:=hb.2
   split at h2
   ·rename_i dd hd
    exact ⟨fs,f,dd,hu,hf,h1,hd,by simpa using h2⟩
   ·cases h2
  ·cases hb
 ·cases hb
theorem JPure.fieldV {T:TypeId} {x:Operand} {n off:Nat} {cs:List Value} {v:Value} (hx:ev e x=some (.agg cs.toArray)) [hf:Fld1 C.P T n off] (hv:nth cs off=some v) (hdN:Nat.blt d C.N=true)
  (k:JO C R rest Q S M ((d,v)::e)):JPure C R an ⟨some d,.field T x n,ty,pos,aft,g⟩ rest Q S M e:=by
 obtain ⟨fs,f,dd,hu,hfs,ho,hd,ha⟩:=hf.h
 rw [nth_eq] at hv
 refine JPure.of rfl hdN (fun a w' h=>?_) k
 simp [execOp,h.eval hx,Instr.field,run_underlying hu,hfs,asAgg,part,run_isAgg_not hd ha,ho,hv]
def lookR (ok b:Bool) (v:Value):Value:=if ok then .tuple #[v,.bool b] else v
theorem run_lookK {P:Program} {T K E:TypeId} {b:Nat} {l:List (κ × Value)} {s:κ} {z:Value} (hu:P.underlying T=some (.map K E)) (hk:Key P K kv) (hz:Zero P E z) {w:World} (hb:w.heap[b]?=some (mapK kv l)) (ok:Bool) :
  ((∀ p∈l,p.1≠s)→(Instr.lookup T (.map (some b)) (kv s) ok).run P w=.ok (lookR ok false z) w) ∧
  (∀ (j:Nat) (p:κ × Value),l[j]?=some p→p.1=s→(∀ (i:Nat) (q:κ × Value),l[i]?=some q→q.1=s→i=j)→(Instr.lookup T (.map (some b)) (kv s) ok).run P w=.ok (lookR ok true p.2) w):=by
 have hb:w.heap[b]?=some (.map (esK kv 0 l).toArray l.length):=hb
 have hc:=hk.check (esK kv 0 l).toArray.isEmpty s w
 rcases hk.find s l w with ⟨h1,h2⟩|⟨j,p,h1,hl,hps⟩
 ·refine ⟨fun _=>?_,fun j p hj hp _=>absurd hp (h2 p (List.mem_of_getElem? hj))⟩
  simp only [Instr.lookup,Sem.run_bind,run_underlying hu,Result.andThen_ok,MapKept.run_getObj_map hb,Sem.run_pure,hc,h1,run_zero hz]
  rfl
 ·refine ⟨fun h=>absurd hps (h p (List.mem_of_getElem? hl)),fun i q hi hq huq=>?_⟩
  have:=huq j p hl hps
  subst this
  rw [hl] at hi;cases hi
  simp only [Instr.lookup,Sem.run_bind,run_underlying hu,Result.andThen_ok,MapKept.run_getObj_map hb,Sem.run_pure,hc,h1]
  rfl
def DistinctK (l:List (κ × Value)):Prop:=∀ (i j:Nat) (p q:κ × Value),l[i]?=some p→l[j]?=some q→p.1=q.1→i=j
theorem DistinctK.nil:DistinctK ([]:List (κ × Value)):=by intro i j p q h;simp at h
theorem DistinctK.snoc {l:List (κ × Value)} (h:DistinctK l) {k:κ} {v:Value} (hn:∀ p∈l,p.1≠k):DistinctK (l++[(k,v)]):=by
 intro i j p q hi hj hpq
 rw [List.getElem?_append] at hi hj
 split at hi<;>split at hj
 ·exact h i j p q hi hj hpq
 ·rename_i h1 h2
  rw [List.getElem?_cons] at hj
  split at hj
  ·cases hj;exact absurd hpq (hn p (List.mem_of_getElem? hi))
  ·simp at hj
 ·rename_i h1 h2
  rw [List.getElem?_cons] at hi
  split at hi
  ·cases hi;exact absurd hpq.symm (hn q (List.mem_of_getElem? hj))
  ·simp at hi
 ·rw [List.getElem?_cons] at hi hj
  split at hi<;>split at hj
  ·omega
  ·simp at hj
  ·simp at hi
  ·simp at hi
theorem JPure.lookM {i:Nat} {T K E:TypeId} {x y:Operand} {b:Nat} {l:List (κ × Value)} {s:κ} {z:Value} {ok:Bool} (hx:ev e x=some (.map (some b))) (hy:ev e y=some (kv s))
  [hu:Und C.P T (.map K E)] [hk:Key C.P K kv] [hz:Zero C.P E z] (hM:MEnt.blk b (mapK kv l)∈M) (hd:DistinctK l) (hst:R.isAnch i=true∨∃ l,R.T=some l∧b∉l) (hdN:Nat.blt d C.N=true)
  (k1:(∀ p∈l,p.1≠s)→JO C R rest Q S M ((d,lookR ok false z)::e))
  (k2:∀ (j:Nat) (p:κ × Value),l[j]?=some p→p.1=s→JO C R rest Q S M ((d,lookR ok true p.2)::e)):JPure C R (R.isAnch i) ⟨some d,.lookup T x y ok,ty,pos,aft,g⟩ rest Q S M e:=⟨fun a w hw htk=>by
 have hwb:w.heap[b]?=some (mapK kv l):=hw.wd.ok _ hM
 have keep:∀ w',SubX (if R.isAnch i=true then fun _=>False else R.TS S) w w'→w'.heap[b]?=some (mapK kv l):=by
  intro w' hs
  refine hs b _ ?_ hwb
  split
  ·exact fun h=>h
  ·rename_i ha
   rcases hst with h|⟨l,hl,h⟩
   ·exact absurd h ha
   ·intro hT
    have h1:=hT.1
    unfold Rg.TP at h1
    rw [hl] at h1
    exact h h1
 by_cases hh:∀ p∈l,p.1≠s
 ·refine ⟨lookR ok false z,fun w' hs=>?_,(k1 hh).run _ w ⟨hw.env.put hdN _,hw.defers,hw.wd⟩ htk⟩
  have:=(run_lookK (s:=s) hu.h hk hz (keep w' hs) ok).1 hh
  simp [execOp,hw.env.eval hx,hw.env.eval hy,this]
 ·obtain ⟨p,hp⟩:=Classical.not_forall.1 hh
  obtain ⟨hp,hps⟩:=Classical.not_imp.1 hp
  have hps:p.1=s:=Classical.not_not.1 hps
  obtain ⟨j,hj⟩:=List.mem_iff_getElem?.1 hp
  refine ⟨lookR ok true p.2,fun w' hs=>?_,(k2 j p hj hps).run _ w ⟨hw.env.put hdN _,hw.defers,hw.wd⟩ htk⟩
  have:=(run_lookK (s:=s) hu.h hk hz (keep w' hs) ok).2 j p hj hps (fun i q hi hq=>hd i j q p hi hj (hq.trans hps.symm))
  simp [execOp,hw.env.eval hx,hw.env.eval hy,this]⟩
theorem JPure.lookS {i:Nat} {T K E:TypeId} {x y:Operand} {b:Nat} {l:List (κ × Value)} {s:κ} {z:Value} {ok:Bool} (hx:ev e x=some (.map (some b))) (hy:ev e y=some (kv s))
  [hu:Und C.P T (.map K E)] [hk:Key C.P K kv] [hz:Zero C.P E z] (hS:S b=some (mapK kv l)) (hd:DistinctK l) (hdN:Nat.blt d C.N=true)
  (k1:(∀ p∈l,p.1≠s)→JO C R rest Q S M ((d,lookR ok false z)::e))
  (k2:∀ (j:Nat) (p:κ × Value),l[j]?=some p→p.1=s→JO C R rest Q S M ((d,lookR ok true p.2)::e)):JPure C R (R.isAnch i) ⟨some d,.lookup T x y ok,ty,pos,aft,g⟩ rest Q S M e:=by
 by_cases hh:∀ p∈l,p.1≠s
 ·refine JPure.ofS rfl hdN (fun a w' h hg=>?_) (k1 hh)
  have:=(run_lookK (s:=s) hu.h hk hz (hg b _ hS) ok).1 hh
  simp [execOp,h.eval hx,h.eval hy,this]
 ·obtain ⟨p,hp⟩:=Classical.not_forall.1 hh
  obtain ⟨hp,hps⟩:=Classical.not_imp.1 hp
  have hps:p.1=s:=Classical.not_not.1 hps
  obtain ⟨j,hj⟩:=List.mem_iff_getElem?.1 hp
  refine JPure.ofS rfl hdN (fun a w' h hg=>?_) (k2 j p hj hps)
  have:=(run_lookK (s:=s) hu.h hk hz (hg b _ hS) ok).2 j p hj hps (fun i q hi hq=>hd i j q p hi hj (hq.trans hps.symm))
  simp [execOp,h.eval hx,h.eval hy,this]
theorem JEff.rangeK {T K E:TypeId} {x:Operand} {b:Nat} {l:List (κ × Value)} (hx:ev e x=some (.map (some b))) [hu:Und C.P T (.map K E)] (hS:S b=some (mapK kv l)) (hdN:Nat.blt d C.N=true)
  (k:∀ r,C.w0.heap.size≤r→JO C R rest Q S (.blk r (.mapIter (some b) l.length #[] l.length)::M) ((d,.pointer (some ⟨r,0,none⟩))::e)):JEff C R ⟨some d,.range T x,ty,pos,aft,g⟩ rest Q S M e:=
 JEff.ofRun rfl rfl hdN fun a w hw=>⟨.pointer (some ⟨w.heap.size,0,none⟩),w.alloc (.mapIter (some b) l.length #[] l.length),by
   have hb:w.heap[b]?=some (.map (esK kv 0 l).toArray l.length):=hw.wd.agree b _ hS
   simp [execOp,hw.env.eval hx,run_range_map w T K E b _ _ hu.h hb],subX_alloc _ _ _,by simp,
  S,_,hw.wd.alloc _,SHeap.le.refl _,k _ hw.wd.size⟩
theorem JEff.nextK {x:Operand} {b r:Nat} {l:List (κ × Value)} {seen:Array Nat} {Mr:List MEnt} (hx:ev e x=some (.pointer (some ⟨r,0,none⟩))) (hS:S b=some (mapK kv l)) (hM:(MEnt.blk r (.mapIter (some b) l.length seen l.length)::Mr).Perm M) (hT:∀ l,R.T=some l→r∈l) (hdN:Nat.blt d C.N=true)
  (k1:∀ i p,l[i]?=some p→i∉seen→JO C R rest Q S (.blk r (.mapIter (some b) l.length (seen.push i) l.length)::Mr) ((d,.tuple #[.bool true,kv p.1,p.2])::e))
  (k2:(∀ i,i < l.length→i∈seen)→JO C R rest Q S M ((d,.tuple #[.bool false])::e)):JEff C R ⟨some d,.next x false,ty,pos,aft,g⟩ rest Q S M e:=
 JEff.ofRun rfl rfl hdN fun a w hw=>by
  have hwd:=hw.wd.perm hM
  have hr:w.heap[r]?=some (.mapIter (some b) l.length seen l.length):=hwd.ok (.blk r _) (by simp)
  have hb:w.heap[b]?=some (.map (esK kv 0 l).toArray l.length):=hw.wd.agree b _ hS
  have hold:∀ x∈(esK kv 0 l).toArray.toList,x.born < l.length:=by
   intro x hx
   obtain ⟨j,p,hj,rfl⟩:=esK_mem (show x∈esK kv 0 l from hx)
   have:=(List.getElem?_eq_some_iff.1 hj).1
   simpa using this
  rcases run_next_at (P:=C.P) w ty r b l.length l.length seen _ _ hr hb hold (Nat.le_refl _) with ⟨h1,h2⟩|⟨e1,he,w1,hw1,h2⟩
  ·refine ⟨_,w,by simp [execOp,hw.env.eval hx,h2],SubX.refl _ _,Nat.le_refl _,S,M,hw.wd,SHeap.le.refl _,k2 ?_⟩
   intro i hi
   unfold leftOf at h1
   have hnil:=Array.eq_empty_of_size_eq_zero h1
   rw [Array.filter_eq_empty_iff] at hnil
   have hm:(⟨kv (l[i]).1,(l[i]).2,i⟩:MapEntry)∈(esK kv 0 l).toArray:=by
    rw [List.mem_toArray]
    refine List.mem_iff_getElem?.2 ⟨i,?_⟩
    rw [esK_get,List.getElem?_eq_getElem hi]
    simp
   have:=hnil _ hm
   simpa using this
  ·have hmem:e1∈(esK kv 0 l)∧e1.born∉seen:=by
    unfold leftOf at he
    simpa using he
   obtain ⟨i,p,hi,rfl⟩:=esK_mem hmem.1
   have hns:i∉seen:=by simpa using hmem.2
   have hwd1:Wd C.w0 C.B0 C.S0 S (.blk r (.mapIter (some b) l.length seen l.length)::Mr) w1:=by
    rcases hw1 with rfl|rfl
    ·exact hwd
    ·exact hwd.drew
   have hh:w1.heap=w.heap:=by rcases hw1 with rfl|rfl<;>rfl
   have hr1:w1.heap[r]?=some (.mapIter (some b) l.length seen l.length):=by rw [hh];exact hr
   refine ⟨_,putObj w1 r (.mapIter (some b) l.length (seen.push i) l.length),?_,?_,by simp [putObj,hh],S,_,hwd1.turn rfl rfl rfl (by simp [putObj]) (fun k hk=>putObj_other w1 r k _ hk) (putObj_at w1 r _ _ hr1),SHeap.le.refl _,k1 i p hi hns⟩
   ·simp only [Nat.zero_add] at h2
    simp [execOp,hw.env.eval hx,h2,setBlock,putObj]
   ·exact subX_put hT (fun k hk=>by rw [putObj_other w1 r k _ hk,hh])
theorem JEff.entryK {x:Operand} {b r i:Nat} {l:List (κ × Value)} {p:κ × Value} {seen:Array Nat} (hx:ev e x=some (.pointer (some ⟨r,0,none⟩))) (hS:S b=some (mapK kv l)) (hM:MEnt.blk r (.mapIter (some b) l.length (seen.push i) l.length)∈M) (hi:l[i]?=some p) (hdN:Nat.blt d C.N=true)
  (k:JO C R rest Q S M ((d,.tuple #[kv p.1,p.2])::e)):JEff C R ⟨some d,.entry x,ty,pos,aft,g⟩ rest Q S M e:=
 JEff.ofRun rfl rfl hdN fun a w hw=>by
  have hr:w.heap[r]?=some (.mapIter (some b) l.length (seen.push i) l.length):=hw.wd.ok _ hM
  have hb:w.heap[b]?=some (.map (esK kv 0 l).toArray l.length):=hw.wd.agree b _ hS
  have he:(⟨kv p.1,p.2,i⟩:MapEntry)∈(esK kv 0 l).toArray.toList:=by
   show _∈esK kv 0 l
   refine List.mem_iff_getElem?.2 ⟨i,?_⟩
   rw [esK_get,hi];simp
  have h2:=run_entry_at (P:=C.P) w r b l.length seen _ _ _ hr hb he (esK_nodup l)
  exact ⟨_,w,by simp [execOp,hw.env.eval hx,h2],SubX.refl _ _,Nat.le_refl _,S,M,hw.wd,SHeap.le.refl _,k⟩
/-! ### Interfaces -/
class Conc (P:Program) (T:TypeId):Prop where
 h:P.concrete T=true
theorem JPure.mkIface {T:TypeId} {x:Operand} {v:Value} (hx:ev e x=some v) [h:Conc C.P T] (hdN:Nat.blt d C.N=true) (k:JO C R rest Q S M ((d,.iface T v)::e)):JPure C R an ⟨some d,.makeInterface T x,ty,pos,aft,g⟩ rest Q S M e:=
 JPure.of rfl hdN (fun a w' hh=>by simp [execOp,hh.eval hx,run_makeInterface w' T v h.h]) k
theorem run_assertT {P:Program} {T T':TypeId} (h:Conc P T) (v:Value) (ok:Bool) (w:World):(Instr.typeAssert (.iface T v) T' T ok).run P w=.ok (lookR ok true v) w:=by
 have hc:=h.h
 unfold Program.concrete at hc
 cases hd:P.underlying T with
 | none=>simp [hd] at hc
 | some dd=>cases dd<;>first|(simp [hd] at hc;done)|(simp [Instr.typeAssert,run_underlying hd,lookR])
theorem run_assertF {P:Program} {T T' A:TypeId} (h:Conc P A) {z:Value} (hz:Zero P A z) (hn:Nat.beq T A=false) (v:Value) (w:World):(Instr.typeAssert (.iface T v) T' A true).run P w=.ok (lookR true false z) w:=by
 have hc:=h.h
 have hne:¬ T=A:=fun e=>by rw [e,Nat.beq_refl] at hn;cases hn
 unfold Program.concrete at hc
 cases hd:P.underlying A with
 | none=>simp [hd] at hc
 | some dd=>cases dd<;>first|(simp [hd] at hc;done)|(simp [Instr.typeAssert,run_underlying hd,lookR,hne,run_zero hz])
theorem JPure.assertT {T T':TypeId} {x:Operand} {v:Value} {ok:Bool} (hx:ev e x=some (.iface T v)) [h:Conc C.P T] (hdN:Nat.blt d C.N=true) (k:JO C R rest Q S M ((d,lookR ok true v)::e)):JPure C R an ⟨some d,.typeAssert x T' T ok,ty,pos,aft,g⟩ rest Q S M e:=
 JPure.of rfl hdN (fun a w' hh=>by simp [execOp,hh.eval hx,run_assertT h v ok w']) k
theorem JPure.assertF {T T' A:TypeId} {x:Operand} {v z:Value} (hx:ev e x=some (.iface T v)) (hn:Nat.beq T A=false) [h:Conc C.P A] [hz:Zero C.P A z] (hdN:Nat.blt d C.N=true) (k:JO C R rest Q S M ((d,lookR true false z)::e)):JPure C R an ⟨some d,.typeAssert x T' A true,ty,pos,aft,g⟩ rest Q S M e:=
 JPure.of rfl hdN (fun a w' hh=>by simp [execOp,hh.eval hx,run_assertF h hz hn v w']) k
theorem sem_method {P:Program} {N:Nat} {e:Env} {x:Operand} {T:TypeId} {v:Value} {name:String} {f:FuncId} {us:Array Value} {args:Array Operand} {ts:Array TypeId} {vs:List Value} (hx:ev e x=some (.iface T v)) (hargs:evs e args.toList=some vs)
  (hm:∀ w,(callMethod (.iface T v) name vs.toArray).run P w=.ok (.enter f us) w) (dst:Option Nat) (ty:TypeId) (pos:String) (aft:Array Edge) (g:Option (Nat × Bool)) :
  ∀ a w,Holds N e a→(execOp a.eval ⟨dst,.call { callee:=.invoke x name,args,argTypes:=ts },ty,pos,aft,g⟩).run P w=.ok (.enter f us) w:=by
 intro a w h
 have h1:args.map a.eval=vs.toArray:=by
  have:=h.evals hargs
  rw [← this,← Array.toList_map,Array.toArray_toList]
 have h2:(#[Value.iface T v]++vs.toArray).extract 1 (#[Value.iface T v]++vs.toArray).size=vs.toArray:=by
  apply Array.ext'
  simp
 have h3:(#[Value.iface T v]++vs.toArray)[0]?=some (Value.iface T v):=by simp
 have h4:=hm w
 simp only [execOp,resolve,h.eval hx,h1,Sem.run_bind,Sem.run_pure,Result.andThen_ok,invoke]
 simp only [h3,h2]
 exact h4
theorem JEff.method {x:Operand} {T:TypeId} {v:Value} {name:String} {f:FuncId} {us:Array Value} {args:Array Operand} {ts:Array TypeId} {vs:List Value} {r:Value} (hx:ev e x=some (.iface T v)) (hargs:evs e args.toList=some vs)
  (hm:∀ w,(callMethod (.iface T v) name vs.toArray).run C.P w=.ok (.enter f us) w) (hf:FnV C.P f us S r) (hdN:Nat.blt d C.N=true)
  (k:∀ S',S.le S'→JO C R rest Q S' M ((d,r)::e)):JEff C R ⟨some d,.call { callee:=.invoke x name,args,argTypes:=ts },ty,pos,aft,g⟩ rest Q S M e:=
 JEff.fn (Mc:=[]) (Mr:=M) (sem_method hx hargs hm _ _ _ _ _) rfl rfl hdN (List.Perm.refl _) (by intro l hl m hm;cases hm) hf fun v S' M' hl hp=>by
  obtain ⟨rfl,rfl⟩:=hp;exact k S' hl
/-! ### Calls that write what the caller knows -/
theorem Fn.frame {P:Program} {f:FuncId} {args:Array Value} {S:SHeap} {Mc Mr:List MEnt} {PP:Value→SHeap→List MEnt→Prop} (h:Fn P f args S Mc PP):Fn P f args S (Mc++Mr) (fun v S' M'=>∃ Mn,M'=Mn++Mr∧PP v S' Mn):=fun w hg hok hs ho=>by
 have hsep:=List.pairwise_append.1 hs
 have hst:=Wd.start (w:=w) hg hok hs ho
 refine (h w hg (fun m hm=>hok m (by simp [hm])) hsep.1 (fun m hm=>ho m (by simp [hm]))).mono ?_
 rintro e w' ⟨v,S',M',rfl,hw,hp⟩
 exact ⟨v,S',M'++Mr,rfl,hst.call hw,M',rfl,hp⟩
def FnC {κ:Type} (P:Program) (f:FuncId) (args:Array Value) (S:SHeap) (kv:κ→Value) (mb:Nat) (CO:SHeap→List (κ × Value)→Prop) (l:List (κ × Value)) (PP:Value→SHeap→Prop):Prop:=
 Fn P f args S [.blk mb (mapK kv l)] (fun v S' M'=>PP v S'∧∃ l',M'=[.blk mb (mapK kv l')]∧CO S' l')
theorem FnC.mono {κ:Type} {P:Program} {f:FuncId} {args:Array Value} {S:SHeap} {kv:κ→Value} {mb:Nat} {CO:SHeap→List (κ × Value)→Prop} {l:List (κ × Value)} {PP PP':Value→SHeap→Prop} (h:FnC P f args S kv mb CO l PP) (hp:∀ v S',S.le S'→PP v S'→PP' v S'):FnC P f args S kv mb CO l PP':=
 Fn.mono h fun v S' _ hl ⟨h1,h2⟩=>⟨hp v S' hl h1,h2⟩
theorem FnR.toC {κ:Type} {P:Program} {f:FuncId} {args:Array Value} {S:SHeap} {kv:κ→Value} {mb:Nat} {CO:SHeap→List (κ × Value)→Prop} {l:List (κ × Value)} {PP:Value→SHeap→Prop} (h:FnR P f args S PP) (hco:∀ S',S.le S'→CO S' l):FnC P f args S kv mb CO l PP:=
 Fn.mono (Fn.frame (Mr:=[.blk mb (mapK kv l)]) h) fun v S' M' hl ⟨Mn,e,e1,hp⟩=>by subst e1;exact ⟨hp,l,e,hco S' hl⟩
theorem JEff.callM {f:FuncId} [Ent C.P f] {args:Array Operand} {ts:Array TypeId} {vs:List Value} {Mc Mr:List MEnt} {PP:Value→SHeap→List MEnt→Prop} (hargs:evs e args.toList=some vs) (hM:(Mc++Mr).Perm M) (hmw:MayWrite R Mc) (hf:Fn C.P f vs.toArray S Mc PP) (hdN:Nat.blt d C.N=true)
  (k:∀ v S' M',S.le S'→PP v S' M'→JO C R rest Q S' (M'++Mr) ((d,v)::e)):JEff C R ⟨some d,.call { callee:=.value (.func f),args,argTypes:=ts },ty,pos,aft,g⟩ rest Q S M e:=
 JEff.fn (sem_call hargs _ _ _ _ _) rfl rfl hdN hM hmw hf k
theorem JEff.callC {f:FuncId} [Ent C.P f] {args:Array Operand} {ts:Array TypeId} {vs:List Value} {mb:Nat} {CO:SHeap→List (κ × Value)→Prop} {l:List (κ × Value)} {Mr:List MEnt} {PP:Value→SHeap→Prop} (hargs:evs e args.toList=some vs) (hM:(MEnt.blk mb (mapK kv l)::Mr).Perm M) (hT:∀ t,R.T=some t→mb∈t)
  (hf:FnC C.P f vs.toArray S kv mb CO l PP) (hdN:Nat.blt d C.N=true) (k:∀ v S' l',S.le S'→PP v S'→CO S' l'→JO C R rest Q S' (.blk mb (mapK kv l')::Mr) ((d,v)::e)) :
  JEff C R ⟨some d,.call { callee:=.value (.func f),args,argTypes:=ts },ty,pos,aft,g⟩ rest Q S M e:=
 JEff.fn (Mc:=[.blk mb (mapK kv l)]) (sem_call hargs _ _ _ _ _) rfl rfl hdN hM (by intro t ht m hm b hb;rw [List.mem_singleton] at hm;subst hm;simp only [MEnt.own,Option.some.injEq] at hb;subst hb;exact hT t ht) hf fun v S' M' hl hp=>by
  obtain ⟨hp,l',rfl,hco⟩:=hp;exact k v S' l' hl hp hco
theorem JEff.dynC {f:FuncId} {x:Operand} {fs cs:Array Value} {args:Array Operand} {ts:Array TypeId} {vs:List Value} {mb:Nat} {CO:SHeap→List (κ × Value)→Prop} {l:List (κ × Value)} {Mr:List MEnt} {PP:Value→SHeap→Prop} (hx:ev e x=some (.func (.func f) fs cs)) (hE:Ent C.P f) (hargs:evs e args.toList=some vs) (hM:(MEnt.blk mb (mapK kv l)::Mr).Perm M) (hT:∀ t,R.T=some t→mb∈t)
  (hf:FnC C.P f (fs.toList++vs++cs.toList).toArray S kv mb CO l PP) (hdN:Nat.blt d C.N=true) (k:∀ v S' l',S.le S'→PP v S'→CO S' l'→JO C R rest Q S' (.blk mb (mapK kv l')::Mr) ((d,v)::e)) :
  JEff C R ⟨some d,.call { callee:=.value x,args,argTypes:=ts },ty,pos,aft,g⟩ rest Q S M e:=
 JEff.fn (Mc:=[.blk mb (mapK kv l)]) (sem_dynL hE hx hargs _ _ _ _ _) rfl rfl hdN hM (by intro t ht m hm b hb;rw [List.mem_singleton] at hm;subst hm;simp only [MEnt.own,Option.some.injEq] at hb;subst hb;exact hT t ht) hf fun v S' M' hl hp=>by
  obtain ⟨hp,l',rfl,hco⟩:=hp;exact k v S' l' hl hp hco
theorem JEff.loadE {α:Type} {T t:TypeId} {x:Operand} {b off:Nat} {c:Array Value} {fr:Nat × Nat} (rep:Rp α) {x0:α} {mid:List Value} (hx:ev e x=some (.pointer (some ⟨b,off,none⟩))) (hM:MEnt.blk b (.cells c t fr)∈M)
  (hc:(c.toList.drop off).take rep.sz=mid) (hr:rep.R S mid x0) (ht:TyR C.P T rep) (hdN:Nat.blt d C.N=true)
  (k:JO C R rest Q S M ((d,rep.val mid)::e)):JEff C R ⟨some d,.load T x,ty,pos,aft,g⟩ rest Q S M e:=
 JEff.ofRun rfl rfl hdN fun a w hw=>by
  have hwb:w.heap[b]?=some (.cells c t fr):=hw.wd.ok _ hM
  have hrun:=load_cells ht (p:=⟨b,off,none⟩) (cs:=mid) (rep.len hr) (w:=w) (fun j v hv=>by
   have hadd:(⟨b,off,none⟩:Addr).add j=⟨b,off+j,none⟩:=by unfold Addr.add;split<;>simp_all
   rw [hadd]
   simp only [World.cell?,hwb]
   rw [← hc,List.getElem?_take] at hv
   split at hv
   ·rw [List.getElem?_drop] at hv;simpa using hv
   ·cases hv)
  exact ⟨rep.val mid,w,by simp [execOp,hw.env.eval hx,Instr.loadAt,Instr.sureAddr,hrun],SubX.refl _ _,Nat.le_refl _,S,M,hw.wd,SHeap.le.refl _,k⟩
theorem mayAll {Mc:List MEnt} {R:Rg} (h:R.T=none):MayWrite R Mc:=fun l hl=>by rw [h] at hl;cases hl
end
end Go.Dr
