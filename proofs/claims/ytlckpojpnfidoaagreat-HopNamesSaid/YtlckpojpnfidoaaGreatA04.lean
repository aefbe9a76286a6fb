/- Part 5 of the rules and of the walks that the proofs of this seat rest on; no condition. -/
import Derived.Test.YtlckpojpnfidoaaGreatA03
set_option linter.unusedVariables false
set_option linter.unusedSimpArgs false
namespace Go.Dr
open Go.Proofs
set_option maxRecDepth 20000
set_option linter.unusedSimpArgs false
set_option linter.unusedVariables false
def idxF {α:Type} (p:α→Bool) (xs:List α):Int:=match xs.findIdx? p with|some i=>i|none=>-1
theorem idxF_nn {α:Type} (p:α→Bool) (xs:List α):decide (0≤idxF p xs)=xs.any p:=by
 unfold idxF
 cases h:xs.findIdx? p with
 | none=>
  have:=List.findIdx?_eq_none_iff.1 h
  have h2:xs.any p=false:=by
   rw [List.any_eq_false];intro x hx;simpa using this x hx
  rw [h2];rfl
 | some i=>
  have:xs.any p=true:=by
   rw [← List.findIdx?_isSome,h];rfl
  rw [this];simp
theorem idx_step {α:Type} {p:α→Bool} {xs:List α} {x:α} {k:Nat} (hd:xs.drop k=x::xs.drop (k+1)) (hp:p x=false)
  (hi:xs.findIdx? p=((xs.drop k).findIdx? p).map (·+k)):xs.findIdx? p=((xs.drop (k+1)).findIdx? p).map (·+(k+1)):=by
 rw [hi,hd,List.findIdx?_cons,hp]
 cases (xs.drop (k+1)).findIdx? p<;>simp<;>omega
theorem idx_hit {α:Type} {p:α→Bool} {xs:List α} {x:α} {k:Nat} (hd:xs.drop k=x::xs.drop (k+1)) (hp:p x=true)
  (hi:xs.findIdx? p=((xs.drop k).findIdx? p).map (·+k)):idxF p xs=(k:Int):=by
 unfold idxF
 rw [hi,hd,List.findIdx?_cons,hp];simp
theorem idx_miss {α:Type} {p:α→Bool} {xs:List α} {k:Nat} (hd:xs.drop k=[])
  (hi:xs.findIdx? p=((xs.drop k).findIdx? p).map (·+k)):idxF p xs=-1:=by
 unfold idxF
 rw [hi,hd];rfl
theorem p_IndexFunc_Label {S:SHeap} {v:Value} {xs:List Label} {f:FuncId} {fs cs:Array Value} (p:Label→Bool) (hv:(rSlice 32 rLabel).V S v xs) (hE:Ent Tryz.prog f)
  (hf:∀ S',S.le S'→∀ u x,rLabel.V S' u x→FnV Tryz.prog f (fs.toList++[u]++cs.toList).toArray S' (.bool (p x))):FnV Tryz.prog 353 #[v,.func (.func f) fs cs] S (.int .i64 (idxF p xs)):=by
 obtain ⟨a,c,rfl,_,_,hb,_⟩:=V_slice.1 hv
 unfold big at hb
 (refine Fn.enter (args:=[.slice a xs.length c,.func (.func f) fs cs]) Tryz.func353 rfl Tryz.ntmps353 rfl ?_;intro w0)
 repeat (first|(refine Walk ?_;intros)|refine JC.block ?_)
 refine JC.loop (σ:=SHeap × Nat) (fun q=>q.1) (fun _=>[]) (fun q=>[(0,.slice a xs.length c),(1,.func (.func f) fs cs),(7,.int .i64 xs.length),(8,.int .i64 q.2)]) (fun q=>S.le q.1∧q.2≤xs.length∧xs.findIdx? p=((xs.drop q.2).findIdx? p).map (·+q.2)) (fun q=>xs.length - q.2) (S,0) ⟨SHeap.le.refl _,Nat.zero_le _,by simp⟩ rfl rfl (by exact sba) ?_
 rintro ⟨S1,k⟩ ⟨hl1,hk,hi⟩
 dsimp only at hl1 hk hi ⊢
 repeat (first|(refine Walk ?_;intros)|refine JC.block ?_)
 refine JC.cond rfl (fun hc=>?_) (fun hc=>?_)
 ·have hk':=dlt hc
  obtain ⟨x,hx,hd⟩:=drop_at hk'
  repeat (first|(refine Walk ?_;intros)|refine JC.block ?_)
  (refine JO.eff rfl rfl rfl (JEff.dynV rfl (by assumption) rfl ((hf _ (by exact lea) _ x (by assumption))) rfl ?_);intro _ _)
  repeat (first|(refine Walk ?_;intros)|refine JC.block ?_)
  refine JC.cond rfl (fun h1=>?_) (fun h1=>?_)
  ·repeat (first|(refine Walk ?_;intros)|refine JC.block ?_)
   refine JX.ret1 Tryz.results353 (ResV.tmp rfl) (List.nil_sublist _) ?_
   exact ⟨rfl,by rw [idx_hit hd h1 hi]⟩
  ·repeat (first|(refine Walk ?_;intros)|refine JC.block ?_)
   exact JX.round (_,k+1) ⟨by exact lea,hk',idx_step hd h1 hi⟩ (by simp;omega) rfl rfl (by exact sba)
 ·have hk':=dnlt hc
  repeat (first|(refine Walk ?_;intros)|refine JC.block ?_)
  refine JX.ret1 Tryz.results353 (ResV.tmp rfl) (List.nil_sublist _) ?_
  exact ⟨rfl,by rw [idx_miss (List.drop_eq_nil_of_le hk') hi]⟩
theorem p_ContainsFunc_Label {S:SHeap} {v:Value} {xs:List Label} {f:FuncId} {fs cs:Array Value} (p:Label→Bool) (hv:(rSlice 32 rLabel).V S v xs) (hE:Ent Tryz.prog f)
  (hf:∀ S',S.le S'→∀ u x,rLabel.V S' u x→FnV Tryz.prog f (fs.toList++[u]++cs.toList).toArray S' (.bool (p x))):FnV Tryz.prog 363 #[v,.func (.func f) fs cs] S (.bool (xs.any p)):=by
 (refine Fn.enter (args:=[v,.func (.func f) fs cs]) Tryz.func363 rfl Tryz.ntmps363 rfl ?_;intro w0)
 repeat (first|(refine Walk ?_;intros)|refine JC.block ?_)
 (refine JO.eff rfl rfl rfl (JEff.callV rfl (p_IndexFunc_Label p (by exact vta) hE (fun S' h=>hf S' (by exact lea))) rfl ?_);intro _ _)
 repeat (first|(refine Walk ?_;intros)|refine JC.block ?_)
 refine JX.ret1 Tryz.results363 (ResV.tmp rfl) (List.nil_sublist _) ?_
 exact ⟨rfl,by rw [← idxF_nn]⟩
theorem p_IndexFunc_Node {S:SHeap} {v:Value} {xs:List Node} {f:FuncId} {fs cs:Array Value} (p:Node→Bool) (hv:(rSlice 112 rNode).V S v xs) (hE:Ent Tryz.prog f)
  (hf:∀ S',S.le S'→∀ u x,rNode.V S' u x→FnV Tryz.prog f (fs.toList++[u]++cs.toList).toArray S' (.bool (p x))):FnV Tryz.prog 201 #[v,.func (.func f) fs cs] S (.int .i64 (idxF p xs)):=by
 obtain ⟨a,c,rfl,_,_,hb,_⟩:=V_slice.1 hv
 unfold big at hb
 (refine Fn.enter (args:=[.slice a xs.length c,.func (.func f) fs cs]) Tryz.func201 rfl Tryz.ntmps201 rfl ?_;intro w0)
 repeat (first|(refine Walk ?_;intros)|refine JC.block ?_)
 refine JC.loop (σ:=SHeap × Nat) (fun q=>q.1) (fun _=>[]) (fun q=>[(0,.slice a xs.length c),(1,.func (.func f) fs cs),(7,.int .i64 xs.length),(8,.int .i64 q.2)]) (fun q=>S.le q.1∧q.2≤xs.length∧xs.findIdx? p=((xs.drop q.2).findIdx? p).map (·+q.2)) (fun q=>xs.length - q.2) (S,0) ⟨SHeap.le.refl _,Nat.zero_le _,by simp⟩ rfl rfl (by exact sba) ?_
 rintro ⟨S1,k⟩ ⟨hl1,hk,hi⟩
 dsimp only at hl1 hk hi ⊢
 repeat (first|(refine Walk ?_;intros)|refine JC.block ?_)
 refine JC.cond rfl (fun hc=>?_) (fun hc=>?_)
 ·have hk':=dlt hc
  obtain ⟨x,hx,hd⟩:=drop_at hk'
  repeat (first|(refine Walk ?_;intros)|refine JC.block ?_)
  (refine JO.eff rfl rfl rfl (JEff.dynV rfl (by assumption) rfl ((hf _ (by exact lea) _ x (by assumption))) rfl ?_);intro _ _)
  repeat (first|(refine Walk ?_;intros)|refine JC.block ?_)
  refine JC.cond rfl (fun h1=>?_) (fun h1=>?_)
  ·repeat (first|(refine Walk ?_;intros)|refine JC.block ?_)
   refine JX.ret1 Tryz.results201 (ResV.tmp rfl) (List.nil_sublist _) ?_
   exact ⟨rfl,by rw [idx_hit hd h1 hi]⟩
  ·repeat (first|(refine Walk ?_;intros)|refine JC.block ?_)
   exact JX.round (_,k+1) ⟨by exact lea,hk',idx_step hd h1 hi⟩ (by simp;omega) rfl rfl (by exact sba)
 ·have hk':=dnlt hc
  repeat (first|(refine Walk ?_;intros)|refine JC.block ?_)
  refine JX.ret1 Tryz.results201 (ResV.tmp rfl) (List.nil_sublist _) ?_
  exact ⟨rfl,by rw [idx_miss (List.drop_eq_nil_of_le hk') hi]⟩
theorem p_ContainsFunc_Node {S:SHeap} {v:Value} {xs:List Node} {f:FuncId} {fs cs:Array Value} (p:Node→Bool) (hv:(rSlice 112 rNode).V S v xs) (hE:Ent Tryz.prog f)
  (hf:∀ S',S.le S'→∀ u x,rNode.V S' u x→FnV Tryz.prog f (fs.toList++[u]++cs.toList).toArray S' (.bool (p x))):FnV Tryz.prog 130 #[v,.func (.func f) fs cs] S (.bool (xs.any p)):=by
 (refine Fn.enter (args:=[v,.func (.func f) fs cs]) Tryz.func130 rfl Tryz.ntmps130 rfl ?_;intro w0)
 repeat (first|(refine Walk ?_;intros)|refine JC.block ?_)
 (refine JO.eff rfl rfl rfl (JEff.callV rfl (p_IndexFunc_Node p (by exact vta) hE (fun S' h=>hf S' (by exact lea))) rfl ?_);intro _ _)
 repeat (first|(refine Walk ?_;intros)|refine JC.block ?_)
 refine JX.ret1 Tryz.results130 (ResV.tmp rfl) (List.nil_sublist _) ?_
 exact ⟨rfl,by rw [← idxF_nn]⟩
theorem p_IndexFunc_Pod {S:SHeap} {v:Value} {xs:List Pod} {f:FuncId} {fs cs:Array Value} (p:Pod→Bool) (hv:(rSlice 240 rPod).V S v xs) (hE:Ent Tryz.prog f)
  (hf:∀ S',S.le S'→∀ u x,rPod.V S' u x→FnV Tryz.prog f (fs.toList++[u]++cs.toList).toArray S' (.bool (p x))):FnV Tryz.prog 205 #[v,.func (.func f) fs cs] S (.int .i64 (idxF p xs)):=by
 obtain ⟨a,c,rfl,_,_,hb,_⟩:=V_slice.1 hv
 unfold big at hb
 (refine Fn.enter (args:=[.slice a xs.length c,.func (.func f) fs cs]) Tryz.func205 rfl Tryz.ntmps205 rfl ?_;intro w0)
 repeat (first|(refine Walk ?_;intros)|refine JC.block ?_)
 refine JC.loop (σ:=SHeap × Nat) (fun q=>q.1) (fun _=>[]) (fun q=>[(0,.slice a xs.length c),(1,.func (.func f) fs cs),(7,.int .i64 xs.length),(8,.int .i64 q.2)]) (fun q=>S.le q.1∧q.2≤xs.length∧xs.findIdx? p=((xs.drop q.2).findIdx? p).map (·+q.2)) (fun q=>xs.length - q.2) (S,0) ⟨SHeap.le.refl _,Nat.zero_le _,by simp⟩ rfl rfl (by exact sba) ?_
 rintro ⟨S1,k⟩ ⟨hl1,hk,hi⟩
 dsimp only at hl1 hk hi ⊢
 repeat (first|(refine Walk ?_;intros)|refine JC.block ?_)
 refine JC.cond rfl (fun hc=>?_) (fun hc=>?_)
 ·have hk':=dlt hc
  obtain ⟨x,hx,hd⟩:=drop_at hk'
  repeat (first|(refine Walk ?_;intros)|refine JC.block ?_)
  (refine JO.eff rfl rfl rfl (JEff.dynV rfl (by assumption) rfl ((hf _ (by exact lea) _ x (by assumption))) rfl ?_);intro _ _)
  repeat (first|(refine Walk ?_;intros)|refine JC.block ?_)
  refine JC.cond rfl (fun h1=>?_) (fun h1=>?_)
  ·repeat (first|(refine Walk ?_;intros)|refine JC.block ?_)
   refine JX.ret1 Tryz.results205 (ResV.tmp rfl) (List.nil_sublist _) ?_
   exact ⟨rfl,by rw [idx_hit hd h1 hi]⟩
  ·repeat (first|(refine Walk ?_;intros)|refine JC.block ?_)
   exact JX.round (_,k+1) ⟨by exact lea,hk',idx_step hd h1 hi⟩ (by simp;omega) rfl rfl (by exact sba)
 ·have hk':=dnlt hc
  repeat (first|(refine Walk ?_;intros)|refine JC.block ?_)
  refine JX.ret1 Tryz.results205 (ResV.tmp rfl) (List.nil_sublist _) ?_
  exact ⟨rfl,by rw [idx_miss (List.drop_eq_nil_of_le hk') hi]⟩
theorem p_ContainsFunc_Pod {S:SHeap} {v:Value} {xs:List Pod} {f:FuncId} {fs cs:Array Value} (p:Pod→Bool) (hv:(rSlice 240 rPod).V S v xs) (hE:Ent Tryz.prog f)
  (hf:∀ S',S.le S'→∀ u x,rPod.V S' u x→FnV Tryz.prog f (fs.toList++[u]++cs.toList).toArray S' (.bool (p x))):FnV Tryz.prog 136 #[v,.func (.func f) fs cs] S (.bool (xs.any p)):=by
 (refine Fn.enter (args:=[v,.func (.func f) fs cs]) Tryz.func136 rfl Tryz.ntmps136 rfl ?_;intro w0)
 repeat (first|(refine Walk ?_;intros)|refine JC.block ?_)
 (refine JO.eff rfl rfl rfl (JEff.callV rfl (p_IndexFunc_Pod p (by exact vta) hE (fun S' h=>hf S' (by exact lea))) rfl ?_);intro _ _)
 repeat (first|(refine Walk ?_;intros)|refine JC.block ?_)
 refine JX.ret1 Tryz.results136 (ResV.tmp rfl) (List.nil_sublist _) ?_
 exact ⟨rfl,by rw [← idxF_nn]⟩
theorem p_IndexFunc_Owner {S:SHeap} {v:Value} {xs:List Owner} {f:FuncId} {fs cs:Array Value} (p:Owner→Bool) (hv:(rSlice 56 rOwner).V S v xs) (hE:Ent Tryz.prog f)
  (hf:∀ S',S.le S'→∀ u x,rOwner.V S' u x→FnV Tryz.prog f (fs.toList++[u]++cs.toList).toArray S' (.bool (p x))):FnV Tryz.prog 204 #[v,.func (.func f) fs cs] S (.int .i64 (idxF p xs)):=by
 obtain ⟨a,c,rfl,_,_,hb,_⟩:=V_slice.1 hv
 unfold big at hb
 (refine Fn.enter (args:=[.slice a xs.length c,.func (.func f) fs cs]) Tryz.func204 rfl Tryz.ntmps204 rfl ?_;intro w0)
 repeat (first|(refine Walk ?_;intros)|refine JC.block ?_)
 refine JC.loop (σ:=SHeap × Nat) (fun q=>q.1) (fun _=>[]) (fun q=>[(0,.slice a xs.length c),(1,.func (.func f) fs cs),(7,.int .i64 xs.length),(8,.int .i64 q.2)]) (fun q=>S.le q.1∧q.2≤xs.length∧xs.findIdx? p=((xs.drop q.2).findIdx? p).map (·+q.2)) (fun q=>xs.length - q.2) (S,0) ⟨SHeap.le.refl _,Nat.zero_le _,by simp⟩ rfl rfl (by exact sba) ?_
 rintro ⟨S1,k⟩ ⟨hl1,hk,hi⟩
 dsimp only at hl1 hk hi ⊢
 repeat (first|(refine Walk ?_;intros)|refine JC.block ?_)
 refine JC.cond rfl (fun hc=>?_) (fun hc=>?_)
 ·have hk':=dlt hc
  obtain ⟨x,hx,hd⟩:=drop_at hk'
  repeat (first|(refine Walk ?_;intros)|refine JC.block ?_)
  (refine JO.eff rfl rfl rfl (JEff.dynV rfl (by assumption) rfl ((hf _ (by exact lea) _ x (by assumption))) rfl ?_);intro _ _)
  repeat (first|(refine Walk ?_;intros)|refine JC.block ?_)
  refine JC.cond rfl (fun h1=>?_) (fun h1=>?_)
  ·repeat (first|(refine Walk ?_;intros)|refine JC.block ?_)
   refine JX.ret1 Tryz.results204 (ResV.tmp rfl) (List.nil_sublist _) ?_
   exact ⟨rfl,by rw [idx_hit hd h1 hi]⟩
  ·repeat (first|(refine Walk ?_;intros)|refine JC.block ?_)
   exact JX.round (_,k+1) ⟨by exact lea,hk',idx_step hd h1 hi⟩ (by simp;omega) rfl rfl (by exact sba)
 ·have hk':=dnlt hc
  repeat (first|(refine Walk ?_;intros)|refine JC.block ?_)
  refine JX.ret1 Tryz.results204 (ResV.tmp rfl) (List.nil_sublist _) ?_
  exact ⟨rfl,by rw [idx_miss (List.drop_eq_nil_of_le hk') hi]⟩
theorem p_ContainsFunc_Owner {S:SHeap} {v:Value} {xs:List Owner} {f:FuncId} {fs cs:Array Value} (p:Owner→Bool) (hv:(rSlice 56 rOwner).V S v xs) (hE:Ent Tryz.prog f)
  (hf:∀ S',S.le S'→∀ u x,rOwner.V S' u x→FnV Tryz.prog f (fs.toList++[u]++cs.toList).toArray S' (.bool (p x))):FnV Tryz.prog 133 #[v,.func (.func f) fs cs] S (.bool (xs.any p)):=by
 (refine Fn.enter (args:=[v,.func (.func f) fs cs]) Tryz.func133 rfl Tryz.ntmps133 rfl ?_;intro w0)
 repeat (first|(refine Walk ?_;intros)|refine JC.block ?_)
 (refine JO.eff rfl rfl rfl (JEff.callV rfl (p_IndexFunc_Owner p (by exact vta) hE (fun S' h=>hf S' (by exact lea))) rfl ?_);intro _ _)
 repeat (first|(refine Walk ?_;intros)|refine JC.block ?_)
 refine JX.ret1 Tryz.results133 (ResV.tmp rfl) (List.nil_sublist _) ?_
 exact ⟨rfl,by rw [← idxF_nn]⟩
theorem p_IndexFunc_Move {S:SHeap} {v:Value} {xs:List Move} {f:FuncId} {fs cs:Array Value} (p:Move→Bool) (hv:(rSlice 16 rMove).V S v xs) (hE:Ent Tryz.prog f)
  (hf:∀ S',S.le S'→∀ u x,rMove.V S' u x→FnV Tryz.prog f (fs.toList++[u]++cs.toList).toArray S' (.bool (p x))):FnV Tryz.prog 176 #[v,.func (.func f) fs cs] S (.int .i64 (idxF p xs)):=by
 obtain ⟨a,c,rfl,_,_,hb,_⟩:=V_slice.1 hv
 unfold big at hb
 (refine Fn.enter (args:=[.slice a xs.length c,.func (.func f) fs cs]) Tryz.func176 rfl Tryz.ntmps176 rfl ?_;intro w0)
 repeat (first|(refine Walk ?_;intros)|refine JC.block ?_)
 refine JC.loop (σ:=SHeap × Nat) (fun q=>q.1) (fun _=>[]) (fun q=>[(0,.slice a xs.length c),(1,.func (.func f) fs cs),(7,.int .i64 xs.length),(8,.int .i64 q.2)]) (fun q=>S.le q.1∧q.2≤xs.length∧xs.findIdx? p=((xs.drop q.2).findIdx? p).map (·+q.2)) (fun q=>xs.length - q.2) (S,0) ⟨SHeap.le.refl _,Nat.zero_le _,by simp⟩ rfl rfl (by exact sba) ?_
 rintro ⟨S1,k⟩ ⟨hl1,hk,hi⟩
 dsimp only at hl1 hk hi ⊢
 repeat (first|(refine Walk ?_;intros)|refine JC.block ?_)
 refine JC.cond rfl (fun hc=>?_) (fun hc=>?_)
 ·have hk':=dlt hc
  obtain ⟨x,hx,hd⟩:=drop_at hk'
  repeat (first|(refine Walk ?_;intros)|refine JC.block ?_)
  (refine JO.eff rfl rfl rfl (JEff.dynV rfl (by assumption) rfl ((hf _ (by exact lea) _ x (by assumption))) rfl ?_);intro _ _)
  repeat (first|(refine Walk ?_;intros)|refine JC.block ?_)
  refine JC.cond rfl (fun h1=>?_) (fun h1=>?_)
  ·repeat (first|(refine Walk ?_;intros)|refine JC.block ?_)
   refine JX.ret1 Tryz.results176 (ResV.tmp rfl) (List.nil_sublist _) ?_
   exact ⟨rfl,by rw [idx_hit hd h1 hi]⟩
  ·repeat (first|(refine Walk ?_;intros)|refine JC.block ?_)
   exact JX.round (_,k+1) ⟨by exact lea,hk',idx_step hd h1 hi⟩ (by simp;omega) rfl rfl (by exact sba)
 ·have hk':=dnlt hc
  repeat (first|(refine Walk ?_;intros)|refine JC.block ?_)
  refine JX.ret1 Tryz.results176 (ResV.tmp rfl) (List.nil_sublist _) ?_
  exact ⟨rfl,by rw [idx_miss (List.drop_eq_nil_of_le hk') hi]⟩
theorem p_ContainsFunc_Move {S:SHeap} {v:Value} {xs:List Move} {f:FuncId} {fs cs:Array Value} (p:Move→Bool) (hv:(rSlice 16 rMove).V S v xs) (hE:Ent Tryz.prog f)
  (hf:∀ S',S.le S'→∀ u x,rMove.V S' u x→FnV Tryz.prog f (fs.toList++[u]++cs.toList).toArray S' (.bool (p x))):FnV Tryz.prog 119 #[v,.func (.func f) fs cs] S (.bool (xs.any p)):=by
 (refine Fn.enter (args:=[v,.func (.func f) fs cs]) Tryz.func119 rfl Tryz.ntmps119 rfl ?_;intro w0)
 repeat (first|(refine Walk ?_;intros)|refine JC.block ?_)
 (refine JO.eff rfl rfl rfl (JEff.callV rfl (p_IndexFunc_Move p (by exact vta) hE (fun S' h=>hf S' (by exact lea))) rfl ?_);intro _ _)
 repeat (first|(refine Walk ?_;intros)|refine JC.block ?_)
 refine JX.ret1 Tryz.results119 (ResV.tmp rfl) (List.nil_sublist _) ?_
 exact ⟨rfl,by rw [← idxF_nn]⟩
theorem p_IndexFunc_int {S:SHeap} {v:Value} {xs:List Int} {f:FuncId} {fs cs:Array Value} (p:Int→Bool) (hv:(rSlice 8 rI64).V S v xs) (hE:Ent Tryz.prog f)
  (hf:∀ S',S.le S'→∀ u x,rI64.V S' u x→FnV Tryz.prog f (fs.toList++[u]++cs.toList).toArray S' (.bool (p x))):FnV Tryz.prog 145 #[v,.func (.func f) fs cs] S (.int .i64 (idxF p xs)):=by
 obtain ⟨a,c,rfl,_,_,hb,_⟩:=V_slice.1 hv
 unfold big at hb
 (refine Fn.enter (args:=[.slice a xs.length c,.func (.func f) fs cs]) Tryz.func145 rfl Tryz.ntmps145 rfl ?_;intro w0)
 repeat (first|(refine Walk ?_;intros)|refine JC.block ?_)
 refine JC.loop (σ:=SHeap × Nat) (fun q=>q.1) (fun _=>[]) (fun q=>[(0,.slice a xs.length c),(1,.func (.func f) fs cs),(7,.int .i64 xs.length),(8,.int .i64 q.2)]) (fun q=>S.le q.1∧q.2≤xs.length∧xs.findIdx? p=((xs.drop q.2).findIdx? p).map (·+q.2)) (fun q=>xs.length - q.2) (S,0) ⟨SHeap.le.refl _,Nat.zero_le _,by simp⟩ rfl rfl (by exact sba) ?_
 rintro ⟨S1,k⟩ ⟨hl1,hk,hi⟩
 dsimp only at hl1 hk hi ⊢
 repeat (first|(refine Walk ?_;intros)|refine JC.block ?_)
 refine JC.cond rfl (fun hc=>?_) (fun hc=>?_)
 ·have hk':=dlt hc
  obtain ⟨x,hx,hd⟩:=drop_at hk'
  repeat (first|(refine Walk ?_;intros)|refine JC.block ?_)
  (refine JO.eff rfl rfl rfl (JEff.dynV rfl (by assumption) rfl ((hf _ (by exact lea) _ x (V_i64.2 ⟨rfl,by assumption⟩))) rfl ?_);intro _ _)
  repeat (first|(refine Walk ?_;intros)|refine JC.block ?_)
  refine JC.cond rfl (fun h1=>?_) (fun h1=>?_)
  ·repeat (first|(refine Walk ?_;intros)|refine JC.block ?_)
   refine JX.ret1 Tryz.results145 (ResV.tmp rfl) (List.nil_sublist _) ?_
   exact ⟨rfl,by rw [idx_hit hd h1 hi]⟩
  ·repeat (first|(refine Walk ?_;intros)|refine JC.block ?_)
   exact JX.round (_,k+1) ⟨by exact lea,hk',idx_step hd h1 hi⟩ (by simp;omega) rfl rfl (by exact sba)
 ·have hk':=dnlt hc
  repeat (first|(refine Walk ?_;intros)|refine JC.block ?_)
  refine JX.ret1 Tryz.results145 (ResV.tmp rfl) (List.nil_sublist _) ?_
  exact ⟨rfl,by rw [idx_miss (List.drop_eq_nil_of_le hk') hi]⟩
theorem p_ContainsFunc_int {S:SHeap} {v:Value} {xs:List Int} {f:FuncId} {fs cs:Array Value} (p:Int→Bool) (hv:(rSlice 8 rI64).V S v xs) (hE:Ent Tryz.prog f)
  (hf:∀ S',S.le S'→∀ u x,rI64.V S' u x→FnV Tryz.prog f (fs.toList++[u]++cs.toList).toArray S' (.bool (p x))):FnV Tryz.prog 63 #[v,.func (.func f) fs cs] S (.bool (xs.any p)):=by
 (refine Fn.enter (args:=[v,.func (.func f) fs cs]) Tryz.func63 rfl Tryz.ntmps63 rfl ?_;intro w0)
 repeat (first|(refine Walk ?_;intros)|refine JC.block ?_)
 (refine JO.eff rfl rfl rfl (JEff.callV rfl (p_IndexFunc_int p (by exact vta) hE (fun S' h=>hf S' (by exact lea))) rfl ?_);intro _ _)
 repeat (first|(refine Walk ?_;intros)|refine JC.block ?_)
 refine JX.ret1 Tryz.results63 (ResV.tmp rfl) (List.nil_sublist _) ?_
 exact ⟨rfl,by rw [← idxF_nn]⟩
theorem p_IndexFunc_string {S:SHeap} {v:Value} {xs:List ByteArray} {f:FuncId} {fs cs:Array Value} (p:ByteArray→Bool) (hv:(rSlice 16 rStr).V S v xs) (hE:Ent Tryz.prog f)
  (hf:∀ S',S.le S'→∀ u x,rStr.V S' u x→FnV Tryz.prog f (fs.toList++[u]++cs.toList).toArray S' (.bool (p x))):FnV Tryz.prog 263 #[v,.func (.func f) fs cs] S (.int .i64 (idxF p xs)):=by
 obtain ⟨a,c,rfl,_,_,hb,_⟩:=V_slice.1 hv
 unfold big at hb
 (refine Fn.enter (args:=[.slice a xs.length c,.func (.func f) fs cs]) Tryz.func263 rfl Tryz.ntmps263 rfl ?_;intro w0)
 repeat (first|(refine Walk ?_;intros)|refine JC.block ?_)
 refine JC.loop (σ:=SHeap × Nat) (fun q=>q.1) (fun _=>[]) (fun q=>[(0,.slice a xs.length c),(1,.func (.func f) fs cs),(7,.int .i64 xs.length),(8,.int .i64 q.2)]) (fun q=>S.le q.1∧q.2≤xs.length∧xs.findIdx? p=((xs.drop q.2).findIdx? p).map (·+q.2)) (fun q=>xs.length - q.2) (S,0) ⟨SHeap.le.refl _,Nat.zero_le _,by simp⟩ rfl rfl (by exact sba) ?_
 rintro ⟨S1,k⟩ ⟨hl1,hk,hi⟩
 dsimp only at hl1 hk hi ⊢
 repeat (first|(refine Walk ?_;intros)|refine JC.block ?_)
 refine JC.cond rfl (fun hc=>?_) (fun hc=>?_)
 ·have hk':=dlt hc
  obtain ⟨x,hx,hd⟩:=drop_at hk'
  repeat (first|(refine Walk ?_;intros)|refine JC.block ?_)
  (refine JO.eff rfl rfl rfl (JEff.dynV rfl (by assumption) rfl ((hf _ (by exact lea) _ x (V_str.2 ⟨rfl,by assumption⟩))) rfl ?_);intro _ _)
  repeat (first|(refine Walk ?_;intros)|refine JC.block ?_)
  refine JC.cond rfl (fun h1=>?_) (fun h1=>?_)
  ·repeat (first|(refine Walk ?_;intros)|refine JC.block ?_)
   refine JX.ret1 Tryz.results263 (ResV.tmp rfl) (List.nil_sublist _) ?_
   exact ⟨rfl,by rw [idx_hit hd h1 hi]⟩
  ·repeat (first|(refine Walk ?_;intros)|refine JC.block ?_)
   exact JX.round (_,k+1) ⟨by exact lea,hk',idx_step hd h1 hi⟩ (by simp;omega) rfl rfl (by exact sba)
 ·have hk':=dnlt hc
  repeat (first|(refine Walk ?_;intros)|refine JC.block ?_)
  refine JX.ret1 Tryz.results263 (ResV.tmp rfl) (List.nil_sublist _) ?_
  exact ⟨rfl,by rw [idx_miss (List.drop_eq_nil_of_le hk') hi]⟩
theorem p_ContainsFunc_string {S:SHeap} {v:Value} {xs:List ByteArray} {f:FuncId} {fs cs:Array Value} (p:ByteArray→Bool) (hv:(rSlice 16 rStr).V S v xs) (hE:Ent Tryz.prog f)
  (hf:∀ S',S.le S'→∀ u x,rStr.V S' u x→FnV Tryz.prog f (fs.toList++[u]++cs.toList).toArray S' (.bool (p x))):FnV Tryz.prog 190 #[v,.func (.func f) fs cs] S (.bool (xs.any p)):=by
 (refine Fn.enter (args:=[v,.func (.func f) fs cs]) Tryz.func190 rfl Tryz.ntmps190 rfl ?_;intro w0)
 repeat (first|(refine Walk ?_;intros)|refine JC.block ?_)
 (refine JO.eff rfl rfl rfl (JEff.callV rfl (p_IndexFunc_string p (by exact vta) hE (fun S' h=>hf S' (by exact lea))) rfl ?_);intro _ _)
 repeat (first|(refine Walk ?_;intros)|refine JC.block ?_)
 refine JX.ret1 Tryz.results190 (ResV.tmp rfl) (List.nil_sublist _) ?_
 exact ⟨rfl,by rw [← idxF_nn]⟩
theorem p_IndexFunc_Errno {S:SHeap} {v:Value} {xs:List Int} {f:FuncId} {fs cs:Array Value} (p:Int→Bool) (hv:(rSlice 8 rI64).V S v xs) (hE:Ent Tryz.prog f)
  (hf:∀ S',S.le S'→∀ u x,rI64.V S' u x→FnV Tryz.prog f (fs.toList++[u]++cs.toList).toArray S' (.bool (p x))):FnV Tryz.prog 275 #[v,.func (.func f) fs cs] S (.int .i64 (idxF p xs)):=by
 obtain ⟨a,c,rfl,_,_,hb,_⟩:=V_slice.1 hv
 unfold big at hb
 (refine Fn.enter (args:=[.slice a xs.length c,.func (.func f) fs cs]) Tryz.func275 rfl Tryz.ntmps275 rfl ?_;intro w0)
 repeat (first|(refine Walk ?_;intros)|refine JC.block ?_)
 refine JC.loop (σ:=SHeap × Nat) (fun q=>q.1) (fun _=>[]) (fun q=>[(0,.slice a xs.length c),(1,.func (.func f) fs cs),(7,.int .i64 xs.length),(8,.int .i64 q.2)]) (fun q=>S.le q.1∧q.2≤xs.length∧xs.findIdx? p=((xs.drop q.2).findIdx? p).map (·+q.2)) (fun q=>xs.length - q.2) (S,0) ⟨SHeap.le.refl _,Nat.zero_le _,by simp⟩ rfl rfl (by exact sba) ?_
 rintro ⟨S1,k⟩ ⟨hl1,hk,hi⟩
 dsimp only at hl1 hk hi ⊢
 repeat (first|(refine Walk ?_;intros)|refine JC.block ?_)
 refine JC.cond rfl (fun hc=>?_) (fun hc=>?_)
 ·have hk':=dlt hc
  obtain ⟨x,hx,hd⟩:=drop_at hk'
  repeat (first|(refine Walk ?_;intros)|refine JC.block ?_)
  (refine JO.eff rfl rfl rfl (JEff.dynV rfl (by assumption) rfl ((hf _ (by exact lea) _ x (V_i64.2 ⟨rfl,by assumption⟩))) rfl ?_);intro _ _)
  repeat (first|(refine Walk ?_;intros)|refine JC.block ?_)
  refine JC.cond rfl (fun h1=>?_) (fun h1=>?_)
  ·repeat (first|(refine Walk ?_;intros)|refine JC.block ?_)
   refine JX.ret1 Tryz.results275 (ResV.tmp rfl) (List.nil_sublist _) ?_
   exact ⟨rfl,by rw [idx_hit hd h1 hi]⟩
  ·repeat (first|(refine Walk ?_;intros)|refine JC.block ?_)
   exact JX.round (_,k+1) ⟨by exact lea,hk',idx_step hd h1 hi⟩ (by simp;omega) rfl rfl (by exact sba)
 ·have hk':=dnlt hc
  repeat (first|(refine Walk ?_;intros)|refine JC.block ?_)
  refine JX.ret1 Tryz.results275 (ResV.tmp rfl) (List.nil_sublist _) ?_
  exact ⟨rfl,by rw [idx_miss (List.drop_eq_nil_of_le hk') hi]⟩
theorem p_ContainsFunc_Errno {S:SHeap} {v:Value} {xs:List Int} {f:FuncId} {fs cs:Array Value} (p:Int→Bool) (hv:(rSlice 8 rI64).V S v xs) (hE:Ent Tryz.prog f)
  (hf:∀ S',S.le S'→∀ u x,rI64.V S' u x→FnV Tryz.prog f (fs.toList++[u]++cs.toList).toArray S' (.bool (p x))):FnV Tryz.prog 213 #[v,.func (.func f) fs cs] S (.bool (xs.any p)):=by
 (refine Fn.enter (args:=[v,.func (.func f) fs cs]) Tryz.func213 rfl Tryz.ntmps213 rfl ?_;intro w0)
 repeat (first|(refine Walk ?_;intros)|refine JC.block ?_)
 (refine JO.eff rfl rfl rfl (JEff.callV rfl (p_IndexFunc_Errno p (by exact vta) hE (fun S' h=>hf S' (by exact lea))) rfl ?_);intro _ _)
 repeat (first|(refine Walk ?_;intros)|refine JC.block ?_)
 refine JX.ret1 Tryz.results213 (ResV.tmp rfl) (List.nil_sublist _) ?_
 exact ⟨rfl,by rw [← idxF_nn]⟩
end Go.Dr
namespace Go.Dr
def riseN:Option ByteArray→List ByteArray→Bool
 | _,[]=>true
 | p,s::r=>nameB s&&(match p with|some a=>ltS a s|none=>true)&&riseN (some s) r
def prevN (l:List ByteArray) (k:Nat):Option ByteArray:=if k=0 then none else l[k - 1]?
def z0 (x:Int):Bool:=decide (x=0)
def nodeB (n:Node):Bool:=z0 (checkV n.cap)&&z0 (checkL false n.labels)&&z0 (checkL false n.taints)
def nearB (n:Near):Bool:=if n.topo=noS then decide (n.terms.length=0) else nameB n.topo&&z0 (checkT n.terms)
def idxS (l:List ByteArray) (name:ByteArray):Int:=idxF (fun x=>decide (x=name)) l
def nNames (s:Snap):List ByteArray:=s.nodes.map Node.name
def pNames (s:Snap):List ByteArray:=s.pods.map Pod.name
def oNames (s:Snap):List ByteArray:=s.owners.map Owner.name
def lostAt (s:Snap) (i:Int):Bool:=match s.nodes[i.toNat]? with|some n=>n.lost|none=>false
def podB (s:Snap) (p:Pod):Bool:=
 (decide (p.owner=noS)||decide (0≤idxS (oNames s) p.owner))&&(decide (p.on=noS)||(decide (0≤idxS (nNames s) p.on)&&!lostAt s (idxS (nNames s) p.on))) &&
  (z0 (checkV p.req)&&z0 (checkL false p.labels)&&z0 (checkT p.wher)&&z0 (checkL true p.bears))&&nearB p.with_&&nearB p.apart
def ownerB (o:Owner):Bool:=
 (if o.topo=noS then decide (o.skew=0) else nameB o.topo&&decide (1≤o.skew)&&decide (o.skew≤24))&&decide (0≤o.min)&&decide (o.min≤24)
def manyB (s:Snap):Bool:=decide ((8:Int) < (s.nodes.length:Int))||decide ((24:Int) < (s.pods.length:Int))||decide ((8:Int) < (s.owners.length:Int))
def shapedB (s:Snap):Bool:=
 !manyB s&&(riseN none (nNames s)&&riseN none (pNames s)&&riseN none (oNames s))&&(s.nodes.all nodeB&&s.pods.all (podB s)&&s.owners.all ownerB)
def caps (s:Snap):List (List Int):=s.nodes.map Node.cap
def reqs (s:Snap):List (List Int):=s.pods.map Pod.req
def checkS (s:Snap):Int:=if shapedB s then (if z0 (plusV (caps s)).2&&z0 (plusV (reqs s)).2 then 0 else 10) else 50
theorem idxS_map {α:Type} (f:α→ByteArray) (l:List α) (name:ByteArray):idxS (l.map f) name=idxF (fun x=>decide (f x=name)) l:=by
 unfold idxS idxF
 rw [List.findIdx?_map]
 rfl
theorem idxF_lt {α:Type} (p:α→Bool) (l:List α):idxF p l < l.length:=by
 unfold idxF
 cases h:l.findIdx? p with
 | none=>simp;omega
 | some i=>have:=(List.findIdx?_eq_some_iff_getElem.1 h).1;simp only [];omega
theorem idxF_ge {α:Type} (p:α→Bool) (l:List α):-1≤idxF p l:=by
 unfold idxF
 cases h:l.findIdx? p<;>simp only []<;>omega
end Go.Dr
namespace Go.Dr
open Go.Proofs
set_option maxRecDepth 20000
set_option linter.unusedSimpArgs false
set_option linter.unusedVariables false
theorem r5_near {S:SHeap} {u:Value} {n:Near} (hu:rNear.V S u n):FnV Tryz.prog 350 #[u] S (.bool (nearB n)):=by
 (refine Fn.enter (args:=[u]) Tryz.func350 rfl Tryz.ntmps350 rfl ?_;intro w0)
 repeat (first|(refine Walk ?_;intros)|refine JC.block ?_)
 (refine JO.eff rfl rfl rfl (JEff.boxS rfl (by exact vta) nna rfl ?_);intro S0 p l0 hp)
 repeat (first|(refine Walk ?_;intros)|refine JC.block ?_)
 refine JC.cond rfl (fun h1=>?_) (fun h1=>?_)
 ·repeat (first|(refine Walk ?_;intros)|refine JC.block ?_)
  refine JX.ret1 Tryz.results350 (ResV.tmp rfl) (List.nil_sublist _) ?_
  have h1:n.topo=noS:=by simpa [noS] using h1
  exact ⟨rfl,by simp [nearB,h1]⟩
 ·have h1:¬ n.topo=noS:=by simpa [noS] using h1
  repeat' (first|(refine Walk ?_;intros)|refine JC.block ?_|(refine JO.eff rfl rfl rfl (JEff.callV rfl (r3_Name _ (by assumption)) rfl ?_);intro _ _)|(refine JO.eff rfl rfl rfl (JEff.callV rfl (r3_CheckTerms (by exact vta)) rfl ?_);intro _ _)|(refine JO.guard rfl rfl rfl rfl ?_ ?_<;>intro _)|(refine JC.cond rfl ?_ ?_<;>intro _))
  all_goals (refine JX.ret1 Tryz.results350 (ResV.tmp rfl) (List.nil_sublist _) ?_;exact ⟨rfl,by rw [nearB,if_neg h1];(first|((simp only [z0, *,Bool.and_true,Bool.true_and,Bool.false_and,Bool.and_false,Bool.or_true,Bool.true_or,Bool.false_or,Bool.or_false,Bool.not_true,Bool.not_false])<;>rfl)|(simp only [z0, *,Bool.and_true,Bool.true_and,Bool.false_and,Bool.and_false,Bool.or_true,Bool.true_or,Bool.false_or,Bool.or_false,Bool.not_true,Bool.not_false];done)|(simp [z0, *];done)|(simp_all [z0];done)|(simp_all [z0];intros;omega)|(simp_all [z0];omega))⟩)
theorem r5_node {S:SHeap} {u:Value} {n:Node} (hu:rNode.V S u n):FnV Tryz.prog 307 #[u] S (.bool (nodeB n)):=by
 (refine Fn.enter (args:=[u]) Tryz.func307 rfl Tryz.ntmps307 rfl ?_;intro w0)
 repeat (first|(refine Walk ?_;intros)|refine JC.block ?_)
 (refine JO.eff rfl rfl rfl (JEff.boxS rfl (by exact vta) nna rfl ?_);intro S0 p l0 hp)
 repeat' (first|(refine Walk ?_;intros)|refine JC.block ?_|(refine JO.eff rfl rfl rfl (JEff.callV rfl (r2_Check (by exact vta)) rfl ?_);intro _ _)|(refine JO.eff rfl rfl rfl (JEff.callV rfl (r3_Check (by exact vta)) rfl ?_);intro _ _)|(refine JO.guard rfl rfl rfl rfl ?_ ?_<;>intro _)|(refine JC.cond rfl ?_ ?_<;>intro _))
 all_goals (refine JX.ret1 Tryz.results307 (ResV.tmp rfl) (List.nil_sublist _) ?_;exact ⟨rfl,by (first|((simp only [nodeB,z0, *,Bool.and_true,Bool.true_and,Bool.false_and,Bool.and_false,Bool.or_true,Bool.true_or,Bool.false_or,Bool.or_false,Bool.not_true,Bool.not_false])<;>rfl)|(simp only [nodeB,z0, *,Bool.and_true,Bool.true_and,Bool.false_and,Bool.and_false,Bool.or_true,Bool.true_or,Bool.false_or,Bool.or_false,Bool.not_true,Bool.not_false];done)|(simp [nodeB,z0, *];done)|(simp_all [nodeB,z0];done)|(simp_all [nodeB,z0];intros;omega)|(simp_all [nodeB,z0];omega))⟩)
theorem r5_owner {S:SHeap} {u:Value} {o:Owner} (hu:rOwner.V S u o):FnV Tryz.prog 309 #[u] S (.bool (ownerB o)):=by
 (refine Fn.enter (args:=[u]) Tryz.func309 rfl Tryz.ntmps309 rfl ?_;intro w0)
 repeat (first|(refine Walk ?_;intros)|refine JC.block ?_)
 (refine JO.eff rfl rfl rfl (JEff.boxS rfl (by exact vta) nna rfl ?_);intro S0 p l0 hp)
 repeat' (first|(refine Walk ?_;intros)|refine JC.block ?_|(refine JO.eff rfl rfl rfl (JEff.callV rfl (r3_Name _ (by assumption)) rfl ?_);intro _ _)|(refine JO.guard rfl rfl rfl rfl ?_ ?_<;>intro _)|(refine JC.cond rfl ?_ ?_<;>intro _))
 all_goals (refine JX.ret1 Tryz.results309 (ResV.tmp rfl) (List.nil_sublist _) ?_;refine ⟨rfl,?_⟩;by_cases hn:o.topo=noS)
 all_goals first
  | ((first|((simp only [ownerB,noS, *,Bool.and_true,Bool.true_and,Bool.false_and,Bool.and_false,Bool.or_true,Bool.true_or,Bool.false_or,Bool.or_false,Bool.not_true,Bool.not_false])<;>rfl)|(simp only [ownerB,noS, *,Bool.and_true,Bool.true_and,Bool.false_and,Bool.and_false,Bool.or_true,Bool.true_or,Bool.false_or,Bool.or_false,Bool.not_true,Bool.not_false];done)|(simp [ownerB,noS, *];done)|(simp_all [ownerB,noS];done)|(simp_all [ownerB,noS];intros;omega)|(simp_all [ownerB,noS];omega)))
  | (simp_all [ownerB,noS];omega)
  | (simp_all [ownerB,noS])
theorem r5_Node {S:SHeap} {u:Value} {s:Snap} (name:ByteArray) (hu:rSnap.V S u s):FnV Tryz.prog 74 #[u,.string name] S (.int .i64 (idxS (nNames s) name)):=by
 (refine Fn.enter (args:=[u,.string name]) Tryz.func74 rfl Tryz.ntmps74 rfl ?_;intro w0)
 repeat (first|(refine Walk ?_;intros)|refine JC.block ?_)
 (refine JO.eff rfl rfl rfl (JEff.boxS rfl (by exact vta) nna rfl ?_);intro S0 p l0 hp)
 repeat (first|(refine Walk ?_;intros)|refine JC.block ?_)
 rw [nNames,idxS_map]
 refine JC.loop (σ:=SHeap × Nat) (fun q=>q.1) (fun _=>[]) (fun q=>[(1,.string name),(2,.pointer (some p)),(5,.int .i64 q.2)]) (fun q=>S0.le q.1∧q.2≤s.nodes.length∧(s.nodes.findIdx? (fun x=>decide (x.name=name))=((s.nodes.drop q.2).findIdx? (fun x=>decide (x.name=name))).map (·+q.2))) (fun q=>s.nodes.length - q.2) (S0,0) ⟨SHeap.le.refl _,Nat.zero_le _,by simp⟩ rfl rfl (by exact sba) ?_;rintro ⟨S1,k⟩ ⟨hl1,hk,hi⟩;dsimp only at hl1 hk hi ⊢
 repeat (first|(refine Walk ?_;intros)|refine JC.block ?_)
 refine JC.cond rfl (fun hc=>?_) (fun hc=>?_)
 ·have hk':=dlt hc
  obtain ⟨x,hx,hd⟩:=drop_at hk'
  repeat (first|(refine Walk ?_;intros)|refine JC.block ?_)
  refine JC.cond rfl (fun h1=>?_) (fun h1=>?_)
  ·repeat (first|(refine Walk ?_;intros)|refine JC.block ?_)
   refine JX.ret1 Tryz.results74 (ResV.tmp rfl) (List.nil_sublist _) ?_
   exact ⟨rfl,by rw [idx_hit hd h1 hi]⟩
  ·repeat (first|(refine Walk ?_;intros)|refine JC.block ?_)
   exact JX.round (_,k+1) ⟨by exact lea,hk',(idx_step hd h1 hi)⟩ (by simp;omega) rfl rfl (by exact sba)
 ·have hk':=dnlt hc
  repeat (first|(refine Walk ?_;intros)|refine JC.block ?_)
  refine JX.ret1 Tryz.results74 (ResV.tmp rfl) (List.nil_sublist _) ?_
  exact ⟨rfl,by rw [idx_miss (List.drop_eq_nil_of_le hk') hi]⟩
theorem r5_Owner {S:SHeap} {u:Value} {s:Snap} (name:ByteArray) (hu:rSnap.V S u s):FnV Tryz.prog 157 #[u,.string name] S (.int .i64 (idxS (oNames s) name)):=by
 (refine Fn.enter (args:=[u,.string name]) Tryz.func157 rfl Tryz.ntmps157 rfl ?_;intro w0)
 repeat (first|(refine Walk ?_;intros)|refine JC.block ?_)
 (refine JO.eff rfl rfl rfl (JEff.boxS rfl (by exact vta) nna rfl ?_);intro S0 p l0 hp)
 repeat (first|(refine Walk ?_;intros)|refine JC.block ?_)
 rw [oNames,idxS_map]
 refine JC.loop (σ:=SHeap × Nat) (fun q=>q.1) (fun _=>[]) (fun q=>[(1,.string name),(2,.pointer (some p)),(5,.int .i64 q.2)]) (fun q=>S0.le q.1∧q.2≤s.owners.length∧(s.owners.findIdx? (fun x=>decide (x.name=name))=((s.owners.drop q.2).findIdx? (fun x=>decide (x.name=name))).map (·+q.2))) (fun q=>s.owners.length - q.2) (S0,0) ⟨SHeap.le.refl _,Nat.zero_le _,by simp⟩ rfl rfl (by exact sba) ?_;rintro ⟨S1,k⟩ ⟨hl1,hk,hi⟩;dsimp only at hl1 hk hi ⊢
 repeat (first|(refine Walk ?_;intros)|refine JC.block ?_)
 refine JC.cond rfl (fun hc=>?_) (fun hc=>?_)
 ·have hk':=dlt hc
  obtain ⟨x,hx,hd⟩:=drop_at hk'
  repeat (first|(refine Walk ?_;intros)|refine JC.block ?_)
  refine JC.cond rfl (fun h1=>?_) (fun h1=>?_)
  ·repeat (first|(refine Walk ?_;intros)|refine JC.block ?_)
   refine JX.ret1 Tryz.results157 (ResV.tmp rfl) (List.nil_sublist _) ?_
   exact ⟨rfl,by rw [idx_hit hd h1 hi]⟩
  ·repeat (first|(refine Walk ?_;intros)|refine JC.block ?_)
   exact JX.round (_,k+1) ⟨by exact lea,hk',(idx_step hd h1 hi)⟩ (by simp;omega) rfl rfl (by exact sba)
 ·have hk':=dnlt hc
  repeat (first|(refine Walk ?_;intros)|refine JC.block ?_)
  refine JX.ret1 Tryz.results157 (ResV.tmp rfl) (List.nil_sublist _) ?_
  exact ⟨rfl,by rw [idx_miss (List.drop_eq_nil_of_le hk') hi]⟩
theorem r5_rise {S:SHeap} {u:Value} {l:List ByteArray} (hu:(rSlice 16 rStr).V S u l):FnV Tryz.prog 306 #[u] S (.bool (riseN none l)):=by
 obtain ⟨a,c,rfl,_,_,hb,_⟩:=V_slice.1 hu
 unfold big at hb
 (refine Fn.enter (args:=[.slice a l.length c]) Tryz.func306 rfl Tryz.ntmps306 rfl ?_;intro w0)
 repeat (first|(refine Walk ?_;intros)|refine JC.block ?_)
 refine JC.loop (σ:=SHeap × Nat) (fun q=>q.1) (fun _=>[]) (fun q=>[(0,.slice a l.length c),(3,.int .i64 q.2)]) (fun q=>S.le q.1∧q.2≤l.length∧(riseN (prevN l q.2) (l.drop q.2)=riseN none l)) (fun q=>l.length - q.2) (S,0) ⟨SHeap.le.refl _,Nat.zero_le _,rfl⟩ rfl rfl (by exact sba) ?_;rintro ⟨S1,k⟩ ⟨hl1,hk,hi⟩;dsimp only at hl1 hk hi ⊢
 repeat (first|(refine Walk ?_;intros)|refine JC.block ?_)
 refine JC.cond rfl (fun hc=>?_) (fun hc=>?_)
 ·have hk':=dlt hc
  obtain ⟨x,hx,hd⟩:=drop_at hk'
  rw [hd] at hi;simp only [riseN] at hi
  have hnext:prevN l (k+1)=some x:=by simp [prevN,hx]
  repeat (first|(refine Walk ?_;intros)|refine JC.block ?_)
  refine JC.drawT [0,1,2,3,4,5,6,7,8,9,10,11,12,13,14,15,16,17,18,19,20,21] [0,1,2,3,5,6,7,8,9,10,11,12,13,14,15,16,17,18,19,20,21] [] Tryz_mixed (by decide +kernel) (by simp [MEnt.own]) ?_
  repeat (first|(refine Walk ?_;intros)|refine JC.block ?_)
  rcases Nat.eq_zero_or_pos k with h0|h0
  ·subst h0
   repeat' (first|(refine Walk ?_;intros)|refine JC.block ?_|(refine JO.eff rfl rfl rfl (JEff.callV rfl (r3_Name _ (by assumption)) rfl ?_);intro _ _)|(refine JO.guard rfl rfl rfl rfl ?_ ?_<;>intro _)|(refine JC.cond rfl ?_ ?_<;>intro _))
   all_goals simp only [prevN,if_true,Bool.true_and,Bool.and_true] at hi
   all_goals first
    | (refine JX.ret1 Tryz.results306 (ResV.tmp rfl) (List.nil_sublist _) ?_;refine ⟨rfl,?_⟩;have h1:nameB x=false:=(by clear hi hd;simp_all);rw [h1,Bool.false_and] at hi;simp [← hi];done)
    | (have h1:nameB x=true:=(by clear hi hd;simp_all);rw [h1,Bool.true_and] at hi;exact JX.round (_,0+1) ⟨by exact lea,hk',by rw [hnext];exact hi⟩ (by simp;omega) rfl rfl (by exact sba))
    | (exfalso;clear hd;simp_all;done)
    | skip
  ·obtain ⟨y,hy⟩:∃ y,l[((k:Int) - 1).toNat]?=some y:=by
    have:((k:Int) - 1).toNat < l.length:=by omega
    exact ⟨_,List.getElem?_eq_getElem this⟩
   have hpv:prevN l k=some y:=by
    rw [prevN,if_neg (by omega),← hy];congr 1;omega
   rw [hpv] at hi
   have hkp:decide ((0:Int) < (k:Int))=true:=by simp;omega
   repeat' (first|(refine Walk ?_;intros)|refine JC.block ?_|(refine JO.eff rfl rfl rfl (JEff.callV rfl (r3_Name _ (by assumption)) rfl ?_);intro _ _)|(refine JO.guard rfl rfl rfl rfl ?_ ?_<;>intro _)|(refine JC.cond rfl ?_ ?_<;>intro _))
   all_goals first
    | (refine JX.ret1 Tryz.results306 (ResV.tmp rfl) (List.nil_sublist _) ?_;refine ⟨rfl,?_⟩;have h1:(nameB x&&ltS y x)=false:=(by clear hi hd;simp_all [ltS]);rw [h1,Bool.false_and] at hi;simp [← hi];done)
    | (have h1:(nameB x&&ltS y x)=true:=(by clear hi hd;simp_all [ltS]);rw [h1,Bool.true_and] at hi;exact JX.round (_,k+1) ⟨by exact lea,hk',by rw [hnext];exact hi⟩ (by simp;omega) rfl rfl (by exact sba))
    | (exfalso;clear hd;simp_all;done)
    | skip
 ·have hk':=dnlt hc
  rw [List.drop_eq_nil_of_le hk'] at hi
  repeat (first|(refine Walk ?_;intros)|refine JC.block ?_)
  refine JX.ret1 Tryz.results306 (ResV.tmp rfl) (List.nil_sublist _) ?_
  exact ⟨rfl,by rw [← hi];rfl⟩
end Go.Dr
namespace Go.Dr
open Go.Proofs
set_option maxRecDepth 20000
set_option maxHeartbeats 1000000
set_option linter.unusedSimpArgs false
set_option linter.unusedVariables false
def NamesP (s:Snap) (v:Value) (S:SHeap):Prop:=∃ a b c,v=.tuple #[a,b,c]∧(rSlice 16 rStr).V S a (nNames s)∧(rSlice 16 rStr).V S b (pNames s)∧(rSlice 16 rStr).V S c (oNames s)
theorem r5_names {S:SHeap} {u:Value} {s:Snap} (hn:s.nodes.length≤8) (hpn:s.pods.length≤24) (ho:s.owners.length≤8) (hu:rSnap.V S u s):FnR Tryz.prog 305 #[u] S (NamesP s):=by
 (refine Fn.enter (args:=[u]) Tryz.func305 rfl Tryz.ntmps305 rfl ?_;intro w0)
 repeat (first|(refine Walk ?_;intros)|refine JC.block ?_)
 (refine JO.eff rfl rfl rfl (JEff.boxS rfl (by exact vta) nna rfl ?_);intro S0 p l0 hp)
 repeat (first|(refine Walk ?_;intros)|refine JC.block ?_)
 refine JC.newRow 9 1 ?_
 refine JC.loop (σ:=SHeap × Nat × Option Addr × Nat × List Value) (fun q=>q.1) (fun q=>.row w0.heap.size 9 1 (.slice q.2.2.1 q.2.1 q.2.2.2.1) q.2.1 (flatCells q.2.2.2.2)::[]) (fun q=>[(5,.slice q.2.2.1 q.2.1 q.2.2.2.1),(8,.int .i64 q.2.1),(1,.pointer (some p)),(6,.slice none 0 0),(7,.slice none 0 0)]) (fun q=>S0.le q.1∧q.2.1≤s.nodes.length∧allV rStr q.1 q.2.2.2.2 (List.take q.2.1 (nNames s))) (fun q=>s.nodes.length - q.2.1) (S0,0,none,0,[]) ⟨SHeap.le.refl _,Nat.zero_le _,trivial⟩ rfl rfl (by exact sba) ?_;rintro ⟨S1,k,ra,rc,vs⟩ ⟨hl1,hk,hv⟩;dsimp only at hl1 hk hv ⊢
 repeat (first|(refine Walk ?_;intros)|refine JC.block ?_)
 refine JC.cond rfl (fun hc=>?_) (fun hc=>?_)
 ·have hk':=dlt hc
  obtain ⟨x,hx,hd⟩:=drop_at hk'
  have hx2:(nNames s)[k]?=some x.name:=by simp [nNames,hx]
  repeat (first|(refine Walk ?_;intros)|refine JC.block ?_)
  (refine JO.eff rfl rfl rfl (JEff.build (rep:=rStr) (ys:=[x.name]) rfl rfl ⟨(⟨V_str.2 ⟨rfl,by assumption⟩,fun _ _ h=>by cases h⟩),trivial⟩ rfl rfl rfl rfl ?_);intro bb hbb hvv);(repeat (first|(refine Walk ?_;intros)|refine JC.block ?_));(refine JO.eff rfl rfl rfl (JEff.appendL (rep:=rStr) rfl rfl rfl rfl (List.Perm.swap _ _ _) (by exact hvv.flat) (by intro c hc;exact flat_one (fun v hv=>(hvv.size v hv).2) c hc) (by first|omega|(unfold big;omega)) (by unfold big;omega) (by intro l hl;cases hl) rfl ?_);intro ra2 rc2;clear hvv hbb)
  repeat (first|(refine Walk ?_;intros)|refine JC.block ?_)
  exact JX.round (_,k+1,ra2,rc2,vs++[.string x.name]) ⟨by exact lea,hk',allV_snoc (SHeap.le.refl _) hv hx2 (V_str.2 ⟨rfl,by assumption⟩) (fun _ _ h=>by cases h)⟩ (by dsimp only;omega) rfl (by simp [flat_append];rfl) (by exact sba)
 have hk':=dnlt hc
 obtain rfl:k=s.nodes.length:=by omega
 rw [List.take_of_length_le (by simp [nNames])] at hv
 repeat (first|(refine Walk ?_;intros)|refine JC.block ?_)
 refine JC.freezeRow (bt:=16) (rep:=rStr) hv (by simp [nNames]) (by unfold big;omega) (by unfold big;omega) (fun S2 hl2 hv1=>?_)
 clear hv hk' hk hc
 refine JC.newRow 9 1 ?_
 refine JC.loop (σ:=SHeap × Nat × Option Addr × Nat × List Value) (fun q=>q.1) (fun q=>.row w0.heap.size 9 1 (.slice q.2.2.1 q.2.1 q.2.2.2.1) q.2.1 (flatCells q.2.2.2.2)::[]) (fun q=>[(6,.slice q.2.2.1 q.2.1 q.2.2.2.1),(9,.int .i64 q.2.1),(1,.pointer (some p)),(5,.slice ra s.nodes.length rc),(7,.slice none 0 0)]) (fun q=>S2.le q.1∧q.2.1≤s.pods.length∧allV rStr q.1 q.2.2.2.2 (List.take q.2.1 (pNames s))) (fun q=>s.pods.length - q.2.1) (S2,0,none,0,[]) ⟨SHeap.le.refl _,Nat.zero_le _,trivial⟩ rfl rfl (by exact sba) ?_;rintro ⟨S1b,k,rab,rcb,vs⟩ ⟨hl1,hk,hv⟩;dsimp only at hl1 hk hv ⊢
 repeat (first|(refine Walk ?_;intros)|refine JC.block ?_)
 refine JC.cond rfl (fun hc=>?_) (fun hc=>?_)
 ·have hk':=dlt hc
  obtain ⟨x,hx,hd⟩:=drop_at hk'
  have hx2:(pNames s)[k]?=some x.name:=by simp [pNames,hx]
  repeat (first|(refine Walk ?_;intros)|refine JC.block ?_)
  (refine JO.eff rfl rfl rfl (JEff.build (rep:=rStr) (ys:=[x.name]) rfl rfl ⟨(⟨V_str.2 ⟨rfl,by assumption⟩,fun _ _ h=>by cases h⟩),trivial⟩ rfl rfl rfl rfl ?_);intro bb hbb hvv);(repeat (first|(refine Walk ?_;intros)|refine JC.block ?_));(refine JO.eff rfl rfl rfl (JEff.appendL (rep:=rStr) rfl rfl rfl rfl (List.Perm.swap _ _ _) (by exact hvv.flat) (by intro c hc;exact flat_one (fun v hv=>(hvv.size v hv).2) c hc) (by first|omega|(unfold big;omega)) (by unfold big;omega) (by intro l hl;cases hl) rfl ?_);intro ra2 rc2;clear hvv hbb)
  repeat (first|(refine Walk ?_;intros)|refine JC.block ?_)
  exact JX.round (_,k+1,ra2,rc2,vs++[.string x.name]) ⟨by exact lea,hk',allV_snoc (SHeap.le.refl _) hv hx2 (V_str.2 ⟨rfl,by assumption⟩) (fun _ _ h=>by cases h)⟩ (by dsimp only;omega) rfl (by simp [flat_append];rfl) (by exact sba)
 have hk':=dnlt hc
 obtain rfl:k=s.pods.length:=by omega
 rw [List.take_of_length_le (by simp [pNames])] at hv
 repeat (first|(refine Walk ?_;intros)|refine JC.block ?_)
 refine JC.freezeRow (bt:=16) (rep:=rStr) hv (by simp [pNames]) (by unfold big;omega) (by unfold big;omega) (fun S3 hl3 hv2=>?_)
 clear hv hk' hk hc
 refine JC.newRow 9 1 ?_
 refine JC.loop (σ:=SHeap × Nat × Option Addr × Nat × List Value) (fun q=>q.1) (fun q=>.row w0.heap.size 9 1 (.slice q.2.2.1 q.2.1 q.2.2.2.1) q.2.1 (flatCells q.2.2.2.2)::[]) (fun q=>[(7,.slice q.2.2.1 q.2.1 q.2.2.2.1),(10,.int .i64 q.2.1),(1,.pointer (some p)),(5,.slice ra s.nodes.length rc),(6,.slice rab s.pods.length rcb)]) (fun q=>S3.le q.1∧q.2.1≤s.owners.length∧allV rStr q.1 q.2.2.2.2 (List.take q.2.1 (oNames s))) (fun q=>s.owners.length - q.2.1) (S3,0,none,0,[]) ⟨SHeap.le.refl _,Nat.zero_le _,trivial⟩ rfl rfl (by exact sba) ?_;rintro ⟨S1c,k,rac,rcc,vs⟩ ⟨hl1,hk,hv⟩;dsimp only at hl1 hk hv ⊢
 repeat (first|(refine Walk ?_;intros)|refine JC.block ?_)
 refine JC.cond rfl (fun hc=>?_) (fun hc=>?_)
 ·have hk':=dlt hc
  obtain ⟨x,hx,hd⟩:=drop_at hk'
  have hx2:(oNames s)[k]?=some x.name:=by simp [oNames,hx]
  repeat (first|(refine Walk ?_;intros)|refine JC.block ?_)
  (refine JO.eff rfl rfl rfl (JEff.build (rep:=rStr) (ys:=[x.name]) rfl rfl ⟨(⟨V_str.2 ⟨rfl,by assumption⟩,fun _ _ h=>by cases h⟩),trivial⟩ rfl rfl rfl rfl ?_);intro bb hbb hvv);(repeat (first|(refine Walk ?_;intros)|refine JC.block ?_));(refine JO.eff rfl rfl rfl (JEff.appendL (rep:=rStr) rfl rfl rfl rfl (List.Perm.swap _ _ _) (by exact hvv.flat) (by intro c hc;exact flat_one (fun v hv=>(hvv.size v hv).2) c hc) (by first|omega|(unfold big;omega)) (by unfold big;omega) (by intro l hl;cases hl) rfl ?_);intro ra2 rc2;clear hvv hbb)
  repeat (first|(refine Walk ?_;intros)|refine JC.block ?_)
  exact JX.round (_,k+1,ra2,rc2,vs++[.string x.name]) ⟨by exact lea,hk',allV_snoc (SHeap.le.refl _) hv hx2 (V_str.2 ⟨rfl,by assumption⟩) (fun _ _ h=>by cases h)⟩ (by dsimp only;omega) rfl (by simp [flat_append];rfl) (by exact sba)
 have hk':=dnlt hc
 obtain rfl:k=s.owners.length:=by omega
 rw [List.take_of_length_le (by simp [oNames])] at hv
 repeat (first|(refine Walk ?_;intros)|refine JC.block ?_)
 refine JX.freezeRow (bt:=16) (rep:=rStr) hv (by simp [oNames]) (by unfold big;omega) (by unfold big;omega) (fun S4 hl4 hv3=>?_)
 refine JX.ret3 Tryz.results305 (ResV.tmp rfl) (ResV.tmp rfl) (ResV.tmp rfl) (List.nil_sublist _) ?_
 exact ⟨rfl,_,_,_,rfl,by exact vta,by exact vta,by exact vta⟩
theorem r5_pod {S:SHeap} {u v:Value} {s:Snap} {p:Pod} (hu:rSnap.V S u s) (hv:rPod.V S v p):FnV Tryz.prog 308 #[u,v] S (.bool (podB s p)):=by
 (refine Fn.enter (args:=[u,v]) Tryz.func308 rfl Tryz.ntmps308 rfl ?_;intro w0)
 repeat (first|(refine Walk ?_;intros)|refine JC.block ?_)
 (refine JO.eff rfl rfl rfl (JEff.boxS rfl (by exact vta) nna rfl ?_);intro S0 pa l0 hq)
 (refine JO.eff rfl rfl rfl (JEff.boxS rfl (by exact vta) nna rfl ?_);intro S2 pb l2 hq2)
 have hlost:∀ n:Node,s.nodes[(idxS (nNames s) p.on).toNat]?=some n→lostAt s (idxS (nNames s) p.on)=n.lost:=fun n h=>by simp [lostAt,h]
 have hget:0≤idxS (nNames s) p.on→∃ n,s.nodes[(idxS (nNames s) p.on).toNat]?=some n:=fun h=>by
  have h2:=idxF_lt (fun x=>decide (x=p.on)) (nNames s)
  have h3:(idxS (nNames s) p.on).toNat < s.nodes.length:=by
   unfold idxS at h ⊢;simp only [nNames,List.length_map] at h2 h ⊢;omega
  exact ⟨_,List.getElem?_eq_getElem h3⟩
 repeat (first|refine JC.skip ?_|refine JX.then_ ?_|refine JX.then_exit ?_|refine JX.then_ret ?_|refine JX.blk ?_|refine JX.blk_exit ?_|refine JX.blk_other rfl ?_|refine JX.blk_ret ?_|refine JX.partR ?_|refine JX.partE ?_|refine JX.partFR ?_|refine JX.partFE ?_|(refine WOps ?_;intros))
 refine JC.seq ?_
 refine JC.seq ?_
 refine JC.part (σ:=SHeap) (fun q=>q) (fun _=>[]) (fun q=>[(15,.bool (!(decide (p.owner=noS)||decide (0≤idxS (oNames s) p.owner)))),(2,.pointer (some pa)),(3,.pointer (some pb))]) (fun q=>S2.le q) ?_ (fun S3 hlS3=>?_)
 ·have hneq:∀ x:Int,decide (x < 0)=!decide (0≤x):=fun x=>by rw [Bool.eq_iff_iff];simp
  repeat' (first|(refine Walk ?_;intros)|refine JC.block ?_|(refine JO.eff rfl rfl rfl (JEff.callV rfl (r5_Owner _ (by exact vta)) rfl ?_);intro _ _)|(refine JO.guard rfl rfl rfl rfl ?_ ?_<;>intro _)|(refine JC.cond rfl ?_ ?_<;>intro _))
  all_goals (refine JX.partN _ (by exact lea) rfl rfl (subE_bool rfl ?_ (by exact sba));clear hget hlost;simp_all [noS])
 repeat (first|(refine Walk ?_;intros)|refine JC.block ?_)
 refine JC.cond rfl (fun ho=>?_) (fun ho=>?_)
 ·repeat (first|(refine Walk ?_;intros)|refine JC.block ?_)
  refine JX.ret1 Tryz.results308 (ResV.tmp rfl) (List.nil_sublist _) ?_
  refine ⟨rfl,?_⟩
  rw [podB]
  generalize (decide (p.owner=noS)||decide (0≤idxS (oNames s) p.owner))=b at ho ⊢
  cases b<;>simp_all
 have ho2:(decide (p.owner=noS)||decide (0≤idxS (oNames s) p.owner))=true:=by
  generalize (decide (p.owner=noS)||decide (0≤idxS (oNames s) p.owner))=b at ho ⊢
  cases b<;>simp_all
 clear ho
 repeat (first|refine JC.skip ?_|refine JX.then_ ?_|refine JX.then_exit ?_|refine JX.then_ret ?_|refine JX.blk ?_|refine JX.blk_exit ?_|refine JX.blk_other rfl ?_|refine JX.blk_ret ?_|refine JX.partR ?_|refine JX.partE ?_|refine JX.partFR ?_|refine JX.partFE ?_|(refine WOps ?_;intros))
 refine JC.seq ?_
 refine JC.part (σ:=SHeap) (fun q=>q) (fun _=>[]) (fun _=>[(2,.pointer (some pa)),(3,.pointer (some pb))]) (fun q=>S3.le q∧(decide (p.on=noS)||(decide (0≤idxS (nNames s) p.on)&&!lostAt s (idxS (nNames s) p.on)))=true) ?_ (fun S4 hS4=>?_)
 ·repeat (first|(refine Walk ?_;intros)|refine JC.block ?_)
  refine JC.cond rfl (fun hon=>?_) (fun hon=>?_)
  ·have hon:decide (p.on=noS)=false:=by simp at hon;simp [noS,hon]
   repeat (first|(refine Walk ?_;intros)|refine JC.block ?_)
   (refine JO.eff rfl rfl rfl (JEff.callV rfl (r5_Node _ (by exact vta)) rfl ?_);intro _ _)
   by_cases hneg:idxS (nNames s) p.on < 0
   ·have hneg':decide (0≤idxS (nNames s) p.on)=false:=by simp;omega
    have hneg2:decide (idxS (nNames s) p.on < 0)=true:=by simp;omega
    repeat (first|(refine Walk ?_;intros)|refine JC.block ?_)
    refine JO.guard rfl rfl rfl rfl (fun h5=>?_) (fun h5=>?_)
    ·repeat (first|(refine Walk ?_;intros)|refine JC.block ?_)
     refine JX.ret1 Tryz.results308 (ResV.tmp rfl) (List.nil_sublist _) ?_
     refine ⟨rfl,?_⟩;rw [podB,hon,hneg',ho2];rfl
    ·rw [hneg2] at h5;cases h5
   ·have hpos:0≤idxS (nNames s) p.on:=by omega
    obtain ⟨n,hn⟩:=hget hpos
    have hl:=hlost n hn
    have hpos':decide (0≤idxS (nNames s) p.on)=true:=by simp;omega
    have hpos2:decide (idxS (nNames s) p.on < 0)=false:=by simp;omega
    repeat (first|(refine Walk ?_;intros)|refine JC.block ?_)
    refine JO.guard rfl rfl rfl rfl (fun h5=>?_) (fun h5=>?_)
    ·rw [hpos2] at h5;cases h5
    ·repeat (first|(refine Walk ?_;intros)|refine JC.block ?_)
     refine JC.cond rfl (fun h6=>?_) (fun h6=>?_)
     ·repeat (first|(refine Walk ?_;intros)|refine JC.block ?_)
      refine JX.ret1 Tryz.results308 (ResV.tmp rfl) (List.nil_sublist _) ?_
      refine ⟨rfl,?_⟩;rw [podB,hon,hpos',ho2,hl,h6];rfl
     ·repeat (first|(refine Walk ?_;intros)|refine JC.block ?_)
      exact JX.partN _ ⟨by exact lea,by rw [hon,hpos',hl,h6];rfl⟩ rfl rfl (by exact sba)
  ·have hon:decide (p.on=noS)=true:=by simp at hon;simp [noS,hon]
   repeat (first|(refine Walk ?_;intros)|refine JC.block ?_)
   exact JX.partN _ ⟨by exact lea,by rw [hon];rfl⟩ rfl rfl (by exact sba)
 obtain ⟨hl4,hon2⟩:=hS4
 clear hget hlost
 repeat' (first|(refine Walk ?_;intros)|refine JC.block ?_|(refine JO.eff rfl rfl rfl (JEff.callV rfl (r2_Check (by exact vta)) rfl ?_);intro _ _)|(refine JO.eff rfl rfl rfl (JEff.callV rfl (r3_Check (by exact vta)) rfl ?_);intro _ _)|(refine JO.eff rfl rfl rfl (JEff.callV rfl (r3_CheckTerms (by exact vta)) rfl ?_);intro _ _)|(refine JO.eff rfl rfl rfl (JEff.callV rfl (r3_CheckBears (by exact vta)) rfl ?_);intro _ _)|(refine JO.eff rfl rfl rfl (JEff.callV rfl (r5_near (by exact vta)) rfl ?_);intro _ _)|(refine JO.guard rfl rfl rfl rfl ?_ ?_<;>intro _)|(refine JC.cond rfl ?_ ?_<;>intro _))
 all_goals (refine JX.ret1 Tryz.results308 (ResV.tmp rfl) (List.nil_sublist _) ?_;refine ⟨rfl,?_⟩;rw [podB,ho2,hon2];clear ho2 hon2;(first|((simp only [z0, *,Bool.and_true,Bool.true_and,Bool.false_and,Bool.and_false,Bool.or_true,Bool.true_or,Bool.false_or,Bool.or_false,Bool.not_true,Bool.not_false])<;>rfl)|(simp only [z0, *,Bool.and_true,Bool.true_and,Bool.false_and,Bool.and_false,Bool.or_true,Bool.true_or,Bool.false_or,Bool.or_false,Bool.not_true,Bool.not_false];done)|(simp [z0, *];done)|(simp_all [z0];done)|(simp_all [z0];intros;omega)|(simp_all [z0];omega)))
end Go.Dr
namespace Go.Dr
open Go.Proofs
set_option maxRecDepth 20000
set_option maxHeartbeats 1000000
set_option linter.unusedSimpArgs false
set_option linter.unusedVariables false
theorem r5_shaped {S:SHeap} {u:Value} {s:Snap} (hu:rSnap.V S u s):FnV Tryz.prog 254 #[u] S (.bool (shapedB s)):=by
 (refine Fn.enter (args:=[u]) Tryz.func254 rfl Tryz.ntmps254 rfl ?_;intro w0)
 repeat (first|(refine Walk ?_;intros)|refine JC.block ?_)
 (refine JO.eff rfl rfl rfl (JEff.boxS rfl (by exact vta) nna rfl ?_);intro S0 p l0 hp)
 have hmain:∀ (hm:manyB s=false) (S1:SHeap) (hl1:S0.le S1),riseN none (nNames s)&&riseN none (pNames s)&&riseN none (oNames s)=true→shapedB s=(s.nodes.all nodeB&&s.pods.all (podB s)&&s.owners.all ownerB):=by
  intro hm S1 hl1 h
  rw [shapedB,hm]
  simp only [Bool.not_false,Bool.true_and]
  simp only [Bool.and_eq_true,decide_eq_true_eq] at h
  simp [h]
 repeat' (first|(refine Walk ?_;intros)|refine JC.block ?_|(refine JO.guard rfl rfl rfl rfl ?_ ?_<;>intro _)|(refine JC.cond rfl ?_ ?_<;>intro _))
 all_goals first
  | (refine JX.ret1 Tryz.results254 (ResV.tmp rfl) (List.nil_sublist _) ?_;refine ⟨rfl,?_⟩;have h1:manyB s=true:=(by simp_all [manyB]);rw [shapedB,h1];rfl)
  | skip
 have hm:manyB s=false:=(by simp_all [manyB])
 have hm2:s.nodes.length≤8∧s.pods.length≤24∧s.owners.length≤8:=by
  simp only [manyB,Bool.or_eq_false_iff,decide_eq_false_iff_not] at hm;omega
 (refine JO.eff rfl rfl rfl (JEff.callR rfl (r5_names hm2.1 hm2.2.1 hm2.2.2 (by exact vta)) rfl ?_);intro v S2 hl2 hP)
 obtain ⟨a,b,c,rfl,ha,hb,hc⟩:=hP
 repeat' (first|(refine Walk ?_;intros)|refine JC.block ?_|(refine JO.eff rfl rfl rfl (JEff.callV rfl (r5_rise (by exact vta)) rfl ?_);intro _ _)|(refine JO.guard rfl rfl rfl rfl ?_ ?_<;>intro _)|(refine JC.cond rfl ?_ ?_<;>intro _))
 all_goals first
  | (refine JX.ret1 Tryz.results254 (ResV.tmp rfl) (List.nil_sublist _) ?_;refine ⟨rfl,?_⟩;have h3:(riseN none (nNames s)&&riseN none (pNames s)&&riseN none (oNames s))=false:=(by clear hmain;simp_all);rw [shapedB,h3];simp;done)
  | skip
 have h3:(riseN none (nNames s)&&riseN none (pNames s)&&riseN none (oNames s))=true:=by clear hmain;simp_all
 have hsh:shapedB s=(s.nodes.all nodeB&&s.pods.all (podB s)&&s.owners.all ownerB):=by rw [shapedB,hm,h3];rfl
 clear hmain h3
 rw [hsh]
 have hl02:S0.le S2:=by exact lea
 refine JC.loop (σ:=SHeap × Nat) (fun q=>q.1) (fun _=>[]) (fun q=>[(1,.pointer (some p)),(6,.int .i64 q.2)]) (fun q=>S0.le q.1∧q.2≤s.nodes.length∧(s.nodes.drop q.2).all nodeB=s.nodes.all nodeB) (fun q=>s.nodes.length - q.2) (_,0) ⟨by exact lea,Nat.zero_le _,rfl⟩ rfl rfl (by exact sba) ?_;rintro ⟨S5,k⟩ ⟨hl5,hk,hi⟩;dsimp only at hl5 hk hi ⊢
 repeat (first|(refine Walk ?_;intros)|refine JC.block ?_)
 refine JC.cond rfl (fun hc=>?_) (fun hc=>?_)
 ·have hk':=dlt hc
  obtain ⟨x,hx,hd⟩:=drop_at hk'
  rw [hd,List.all_cons] at hi
  repeat (first|(refine Walk ?_;intros)|refine JC.block ?_)
  (refine JO.eff rfl rfl rfl (JEff.callV rfl (r5_node (by exact vta)) rfl ?_);intro _ _)
  repeat (first|(refine Walk ?_;intros)|refine JC.block ?_)
  refine JC.cond rfl (fun h1=>?_) (fun h1=>?_)
  ·have h1:nodeB x=false:=by simpa using h1
   rw [h1,Bool.false_and] at hi
   repeat (first|(refine Walk ?_;intros)|refine JC.block ?_)
   refine JX.ret1 Tryz.results254 (ResV.tmp rfl) (List.nil_sublist _) ?_
   exact ⟨rfl,by rw [← hi];rfl⟩
  ·have h1:nodeB x=true:=by simpa using h1
   rw [h1,Bool.true_and] at hi
   repeat (first|(refine Walk ?_;intros)|refine JC.block ?_)
   exact JX.round (_,k+1) ⟨by exact lea,hk',hi⟩ (by simp;omega) rfl rfl (by exact sba)
 have hk':=dnlt hc
 rw [List.drop_eq_nil_of_le hk',List.all_nil] at hi
 rw [← hi,Bool.true_and]
 clear hi hk hk' hc
 repeat (first|(refine Walk ?_;intros)|refine JC.block ?_)
 refine JC.loop (σ:=SHeap × Nat) (fun q=>q.1) (fun _=>[]) (fun q=>[(1,.pointer (some p)),(7,.int .i64 q.2)]) (fun q=>S0.le q.1∧q.2≤s.pods.length∧(s.pods.drop q.2).all (podB s)=s.pods.all (podB s)) (fun q=>s.pods.length - q.2) (_,0) ⟨by exact lea,Nat.zero_le _,rfl⟩ rfl rfl (by exact sba) ?_;rintro ⟨S6,k⟩ ⟨hl6,hk,hi⟩;dsimp only at hl6 hk hi ⊢
 repeat (first|(refine Walk ?_;intros)|refine JC.block ?_)
 refine JC.cond rfl (fun hc=>?_) (fun hc=>?_)
 ·have hk':=dlt hc
  obtain ⟨x,hx,hd⟩:=drop_at hk'
  rw [hd,List.all_cons] at hi
  repeat (first|(refine Walk ?_;intros)|refine JC.block ?_)
  refine JC.drawT [0,1,2,3,4,5,6,7] [0,1,2,3,4,5,7] [] Tryz_mixed (by decide +kernel) (by simp [MEnt.own]) ?_
  repeat (first|(refine Walk ?_;intros)|refine JC.block ?_)
  (refine JO.eff rfl rfl rfl (JEff.callV rfl (r5_pod (by exact vta) (by exact vta)) rfl ?_);intro _ _)
  repeat (first|(refine Walk ?_;intros)|refine JC.block ?_)
  refine JC.cond rfl (fun h1=>?_) (fun h1=>?_)
  ·have h1:podB s x=false:=by simpa using h1
   rw [h1,Bool.false_and] at hi
   repeat (first|(refine Walk ?_;intros)|refine JC.block ?_)
   refine JX.ret1 Tryz.results254 (ResV.tmp rfl) (List.nil_sublist _) ?_
   exact ⟨rfl,by rw [← hi];rfl⟩
  ·have h1:podB s x=true:=by simpa using h1
   rw [h1,Bool.true_and] at hi
   repeat (first|(refine Walk ?_;intros)|refine JC.block ?_)
   exact JX.round (_,k+1) ⟨by exact lea,hk',hi⟩ (by simp;omega) rfl rfl (by exact sba)
 have hk':=dnlt hc
 rw [List.drop_eq_nil_of_le hk',List.all_nil] at hi
 rw [← hi,Bool.true_and]
 clear hi hk hk' hc
 repeat (first|(refine Walk ?_;intros)|refine JC.block ?_)
 refine JC.loop (σ:=SHeap × Nat) (fun q=>q.1) (fun _=>[]) (fun q=>[(1,.pointer (some p)),(8,.int .i64 q.2)]) (fun q=>S0.le q.1∧q.2≤s.owners.length∧(s.owners.drop q.2).all ownerB=s.owners.all ownerB) (fun q=>s.owners.length - q.2) (_,0) ⟨by exact lea,Nat.zero_le _,rfl⟩ rfl rfl (by exact sba) ?_;rintro ⟨S7,k⟩ ⟨hl7,hk,hi⟩;dsimp only at hl7 hk hi ⊢
 repeat (first|(refine Walk ?_;intros)|refine JC.block ?_)
 refine JC.cond rfl (fun hc=>?_) (fun hc=>?_)
 ·have hk':=dlt hc
  obtain ⟨x,hx,hd⟩:=drop_at hk'
  rw [hd,List.all_cons] at hi
  repeat (first|(refine Walk ?_;intros)|refine JC.block ?_)
  (refine JO.eff rfl rfl rfl (JEff.callV rfl (r5_owner (by exact vta)) rfl ?_);intro _ _)
  repeat (first|(refine Walk ?_;intros)|refine JC.block ?_)
  refine JC.cond rfl (fun h1=>?_) (fun h1=>?_)
  ·have h1:ownerB x=false:=by simpa using h1
   rw [h1,Bool.false_and] at hi
   repeat (first|(refine Walk ?_;intros)|refine JC.block ?_)
   refine JX.ret1 Tryz.results254 (ResV.tmp rfl) (List.nil_sublist _) ?_
   exact ⟨rfl,by rw [← hi]⟩
  ·have h1:ownerB x=true:=by simpa using h1
   rw [h1,Bool.true_and] at hi
   repeat (first|(refine Walk ?_;intros)|refine JC.block ?_)
   exact JX.round (_,k+1) ⟨by exact lea,hk',hi⟩ (by simp;omega) rfl rfl (by exact sba)
 have hk':=dnlt hc
 rw [List.drop_eq_nil_of_le hk',List.all_nil] at hi
 repeat (first|(refine Walk ?_;intros)|refine JC.block ?_)
 refine JX.ret1 Tryz.results254 (ResV.tmp rfl) (List.nil_sublist _) ?_
 exact ⟨rfl,by rw [← hi]⟩
end Go.Dr
namespace Go.Dr
open Go.Proofs
set_option maxRecDepth 20000
set_option maxHeartbeats 1000000
set_option linter.unusedSimpArgs false
set_option linter.unusedVariables false
theorem shaped_small {s:Snap} (h:shapedB s=true):s.nodes.length≤8∧s.pods.length≤24∧s.owners.length≤8:=by
 have hm:manyB s=false:=by
  cases hm:manyB s with
  | false=>rfl
  | true=>rw [shapedB,hm] at h;simp at h
 simp only [manyB,Bool.or_eq_false_iff,decide_eq_false_iff_not] at hm;omega
theorem r5_Check {S:SHeap} {u:Value} {s:Snap} (hu:rSnap.V S u s):FnV Tryz.prog 171 #[u] S (.int .i64 (checkS s)):=by
 (refine Fn.enter (args:=[u]) Tryz.func171 rfl Tryz.ntmps171 rfl ?_;intro w0)
 repeat (first|(refine Walk ?_;intros)|refine JC.block ?_)
 (refine JO.eff rfl rfl rfl (JEff.boxS rfl (by exact vta) nna rfl ?_);intro S0 p l0 hp)
 repeat (first|(refine Walk ?_;intros)|refine JC.block ?_)
 (refine JO.eff rfl rfl rfl (JEff.callV rfl (r5_shaped (by exact vta)) rfl ?_);intro _ _)
 repeat (first|(refine Walk ?_;intros)|refine JC.block ?_)
 refine JC.cond rfl (fun h1=>?_) (fun h1=>?_)
 ·have h1:shapedB s=false:=by simpa using h1
  repeat (first|(refine Walk ?_;intros)|refine JC.block ?_)
  refine JX.ret1 Tryz.results171 (ResV.tmp rfl) (List.nil_sublist _) ?_
  exact ⟨rfl,by rw [checkS,h1];rfl⟩
 have h1:shapedB s=true:=by simpa using h1
 obtain ⟨hn,hpn,ho⟩:=shaped_small h1
 repeat (first|(refine Walk ?_;intros)|refine JC.block ?_)
 rename_i S9 hl9 _
 refine JC.newRow 91 5 ?_
 refine JC.loop (σ:=SHeap × Nat × Option Addr × Nat × List Value) (fun q=>q.1) (fun q=>.row w0.heap.size 91 5 (.slice q.2.2.1 q.2.1 q.2.2.2.1) q.2.1 (flatCells q.2.2.2.2)::[]) (fun q=>[(3,.slice q.2.2.1 q.2.1 q.2.2.2.1),(5,.int .i64 q.2.1),(1,.pointer (some p)),(4,.slice none 0 0)]) (fun q=>S9.le q.1∧q.2.1≤s.nodes.length∧allV (rArr 5) q.1 q.2.2.2.2 (List.take q.2.1 (caps s))) (fun q=>s.nodes.length - q.2.1) (S9,0,none,0,[]) ⟨SHeap.le.refl _,Nat.zero_le _,trivial⟩ rfl rfl (by exact sba) ?_;rintro ⟨S1,k,ra,rc,vs⟩ ⟨hl1,hk,hv⟩;dsimp only at hl1 hk hv ⊢
 repeat (first|(refine Walk ?_;intros)|refine JC.block ?_)
 refine JC.cond rfl (fun hc=>?_) (fun hc=>?_)
 ·have hk':=dlt hc
  obtain ⟨x,hx,hd⟩:=drop_at hk'
  have hx2:(caps s)[k]?=some x.cap:=by simp [caps,hx]
  repeat (first|(refine Walk ?_;intros)|refine JC.block ?_)
  rename_i vv hvv0
  (refine JO.eff rfl rfl rfl (JEff.build (rep:=(rArr 5)) (ys:=[x.cap]) rfl rfl ⟨(⟨hvv0,fun h=>by cases h⟩),trivial⟩ rfl rfl rfl rfl ?_);intro bb hbb hvv);(repeat (first|(refine Walk ?_;intros)|refine JC.block ?_));(refine JO.eff rfl rfl rfl (JEff.appendL (rep:=(rArr 5)) rfl rfl rfl rfl (List.Perm.swap _ _ _) (by exact hvv.flat) (by intro c hc;exact flat_one (fun v hv=>(hvv.size v hv).2) c hc) (by first|omega|(unfold big;omega)) (by unfold big;omega) (by intro l hl;cases hl) rfl ?_);intro ra2 rc2;clear hvv hbb)
  repeat (first|(refine Walk ?_;intros)|refine JC.block ?_)
  exact JX.round (_,k+1,ra2,rc2,vs++[vv]) ⟨by exact lea,hk',allV_snoc (SHeap.le.refl _) hv hx2 hvv0 (fun h=>by cases h)⟩ (by dsimp only;omega) rfl (by simp [flat_append];rfl) (by exact sba)
 have hk':=dnlt hc
 obtain rfl:k=s.nodes.length:=by omega
 rw [List.take_of_length_le (by simp [caps])] at hv
 repeat (first|(refine Walk ?_;intros)|refine JC.block ?_)
 refine JC.freezeRow (bt:=40) (rep:=rArr 5) hv (by simp [caps]) (by unfold big;omega) (by unfold big;omega) (fun S2 hl2 hv1=>?_)
 clear hv hk' hk hc
 refine JC.newRow 91 5 ?_
 refine JC.loop (σ:=SHeap × Nat × Option Addr × Nat × List Value) (fun q=>q.1) (fun q=>.row w0.heap.size 91 5 (.slice q.2.2.1 q.2.1 q.2.2.2.1) q.2.1 (flatCells q.2.2.2.2)::[]) (fun q=>[(4,.slice q.2.2.1 q.2.1 q.2.2.2.1),(6,.int .i64 q.2.1),(1,.pointer (some p)),(3,.slice ra s.nodes.length rc)]) (fun q=>S2.le q.1∧q.2.1≤s.pods.length∧allV (rArr 5) q.1 q.2.2.2.2 (List.take q.2.1 (reqs s))) (fun q=>s.pods.length - q.2.1) (S2,0,none,0,[]) ⟨SHeap.le.refl _,Nat.zero_le _,trivial⟩ rfl rfl (by exact sba) ?_;rintro ⟨S1b,k,rab,rcb,vs⟩ ⟨hl1,hk,hv⟩;dsimp only at hl1 hk hv ⊢
 repeat (first|(refine Walk ?_;intros)|refine JC.block ?_)
 refine JC.cond rfl (fun hc=>?_) (fun hc=>?_)
 ·have hk':=dlt hc
  obtain ⟨x,hx,hd⟩:=drop_at hk'
  have hx2:(reqs s)[k]?=some x.req:=by simp [reqs,hx]
  repeat (first|(refine Walk ?_;intros)|refine JC.block ?_)
  rename_i vv hvv0
  (refine JO.eff rfl rfl rfl (JEff.build (rep:=(rArr 5)) (ys:=[x.req]) rfl rfl ⟨(⟨hvv0,fun h=>by cases h⟩),trivial⟩ rfl rfl rfl rfl ?_);intro bb hbb hvv);(repeat (first|(refine Walk ?_;intros)|refine JC.block ?_));(refine JO.eff rfl rfl rfl (JEff.appendL (rep:=(rArr 5)) rfl rfl rfl rfl (List.Perm.swap _ _ _) (by exact hvv.flat) (by intro c hc;exact flat_one (fun v hv=>(hvv.size v hv).2) c hc) (by first|omega|(unfold big;omega)) (by unfold big;omega) (by intro l hl;cases hl) rfl ?_);intro ra2 rc2;clear hvv hbb)
  repeat (first|(refine Walk ?_;intros)|refine JC.block ?_)
  exact JX.round (_,k+1,ra2,rc2,vs++[vv]) ⟨by exact lea,hk',allV_snoc (SHeap.le.refl _) hv hx2 hvv0 (fun h=>by cases h)⟩ (by dsimp only;omega) rfl (by simp [flat_append];rfl) (by exact sba)
 have hk':=dnlt hc
 obtain rfl:k=s.pods.length:=by omega
 rw [List.take_of_length_le (by simp [reqs])] at hv
 repeat (first|refine JC.skip ?_|refine JX.then_ ?_|refine JX.then_exit ?_|refine JX.then_ret ?_|refine JX.blk ?_|refine JX.blk_exit ?_|refine JX.blk_other rfl ?_|refine JX.blk_ret ?_|refine JX.partR ?_|refine JX.partE ?_|refine JX.partFR ?_|refine JX.partFE ?_|(refine WOps ?_;intros))
 refine JC.freezeRow (bt:=40) (rep:=rArr 5) hv (by simp [reqs]) (by unfold big;omega) (by unfold big;omega) (fun S3 hl3 hv2=>?_)
 repeat (first|(refine Walk ?_;intros)|refine JC.block ?_)
 (refine JO.eff rfl rfl rfl (JEff.callV rfl (r2_Plus (by exact vta)) rfl ?_);intro _ _)
 repeat (first|(refine Walk ?_;intros)|refine JC.block ?_)
 (refine JO.eff rfl rfl rfl (JEff.alloc rfl ?_);intro b7 hb7)
 refine JO.eff rfl rfl rfl (JEff.storeW (rep:=rArr 5) rfl rfl (V_arr.2 ⟨rfl,plusV_fine _⟩) (fun h=>by cases h) (List.Perm.refl _) rfl (by intro l hl;cases hl) ?_)
 repeat (first|(refine Walk ?_;intros)|refine JC.block ?_)
 (refine JO.eff rfl rfl rfl (JEff.callV rfl (r2_Plus (by exact vta)) rfl ?_);intro _ _)
 repeat (first|(refine Walk ?_;intros)|refine JC.block ?_)
 (refine JO.eff rfl rfl rfl (JEff.alloc rfl ?_);intro b9 hb9)
 refine JO.eff rfl rfl rfl (JEff.storeW (rep:=rArr 5) rfl rfl (V_arr.2 ⟨rfl,plusV_fine _⟩) (fun h=>by cases h) (List.Perm.refl _) rfl (by intro l hl;cases hl) ?_)
 repeat' (first|(refine Walk ?_;intros)|refine JC.block ?_|(refine JO.guard rfl rfl rfl rfl ?_ ?_<;>intro _)|(refine JC.cond rfl ?_ ?_<;>intro _))
 all_goals (refine JX.ret1 Tryz.results171 (ResV.tmp rfl) (List.nil_sublist _) ?_;refine ⟨rfl,?_⟩;rw [checkS,h1];simp_all [z0])
end Go.Dr
namespace Go.Dr
def oddP (s:Snap) (n:Int):Bool:=decide (n < -1)||decide ((s.nodes.length:Int)≤n)||(decide (0≤n)&&lostAt s n)
def checkP (s:Snap) (p:List Int):Int:=if !z0 (checkS s) then checkS s else if !decide (p.length=s.pods.length)||p.any (oddP s) then 2 else 0
def valB (n:Node) (key:ByteArray):ByteArray × Bool:=if n.lost then (noS,false) else getL n.labels key
def onN (s:Snap) (p:List Int) (node:Int):List Pod:=((p.zip s.pods).filter (fun x=>decide (x.1=node))).map (fun x=>x.2)
def usedV (s:Snap) (p:List Int) (node:Int):List Int:=(List.range 5).map (fun j=>((onN s p node).map (fun x=>at0 x.req j)).sum)
def ownName (s:Snap) (o:Nat):ByteArray:=match s.owners[o]? with|some x=>x.name|none=>noS
def ownedL (s:Snap) (p:List Int) (o:Nat):List Int:=((p.zip s.pods).filter (fun x=>decide (0≤x.1)&&decide (x.2.owner=ownName s o))).map (fun x=>x.1)
def placedN (s:Snap) (p:List Int) (o:Nat):Int:=(ownedL s p o).length
def countsL (s:Snap) (p:List Int) (o:Nat):List Int:=(List.range s.nodes.length).map (fun (n:Nat)=>(((ownedL s p o).filter (fun x=>decide (x=(n:Int)))).length:Int))
theorem checkP_ok {s:Snap} {p:List Int} (h:checkP s p=0):checkS s=0∧p.length=s.pods.length∧∀ n∈p,oddP s n=false:=by
 unfold checkP at h
 cases h1:z0 (checkS s) with
 | false=>
  rw [h1] at h
  simp [z0] at h1
  simp at h
  exact absurd h h1
 | true=>
  rw [h1] at h
  have h1:checkS s=0:=by simpa [z0] using h1
  refine ⟨h1,?_⟩
  simp only [Bool.not_true,Bool.false_eq_true,if_false] at h
  split at h
  ·cases h
  ·rename_i h2
   simp only [Bool.or_eq_true,not_or,Bool.not_eq_true',decide_eq_false_iff_not,Classical.not_not,Bool.not_eq_true,List.any_eq_false] at h2
   exact ⟨h2.1,fun n hn=>by simpa using h2.2 n hn⟩
end Go.Dr
namespace Go.Dr
open Go.Proofs
set_option maxRecDepth 20000
set_option maxHeartbeats 1000000
set_option linter.unusedSimpArgs false
set_option linter.unusedVariables false
theorem r7_ValueOf {S:SHeap} {u:Value} {n:Node} (key:ByteArray) (hu:rNode.V S u n):FnV Tryz.prog 239 #[u,.string key] S (.tuple #[.string (valB n key).1,.bool (valB n key).2]):=by
 (refine Fn.enter (args:=[u,.string key]) Tryz.func239 rfl Tryz.ntmps239 rfl ?_;intro w0)
 repeat (first|(refine Walk ?_;intros)|refine JC.block ?_)
 (refine JO.eff rfl rfl rfl (JEff.boxS rfl (by exact vta) nna rfl ?_);intro S0 p l0 hp)
 repeat (first|(refine Walk ?_;intros)|refine JC.block ?_)
 refine JC.loop (σ:=SHeap × Nat) (fun q=>q.1) (fun _=>[]) (fun q=>[(1,.string key),(2,.pointer (some p)),(6,.int .i64 q.2)]) (fun q=>S0.le q.1∧q.2≤n.labels.length∧(n.lost=true∨(n.labels.drop q.2).find? (keyIs key)=n.labels.find? (keyIs key))) (fun q=>n.labels.length - q.2) (S0,0) ⟨SHeap.le.refl _,Nat.zero_le _,.inr rfl⟩ rfl rfl (by exact sba) ?_;rintro ⟨S1,k⟩ ⟨hl1,hk,hi⟩;dsimp only at hl1 hk hi ⊢
 repeat (first|(refine Walk ?_;intros)|refine JC.block ?_)
 refine JC.cond rfl (fun hc=>?_) (fun hc=>?_)
 ·have hk':=dlt hc
  obtain ⟨x,hx,hd⟩:=drop_at hk'
  rw [hd,List.find?_cons] at hi
  repeat (first|(refine Walk ?_;intros)|refine JC.block ?_)
  cases hl:n.lost with
  | true=>
   repeat' (first|(refine Walk ?_;intros)|refine JC.block ?_|(refine JO.guard rfl rfl rfl rfl ?_ ?_<;>intro _)|(refine JC.cond rfl ?_ ?_<;>intro _))
   all_goals first
    | (exfalso;simp_all;done)
    | (exact JX.round (_,k+1) ⟨by exact lea,hk',.inl rfl⟩ (by simp;omega) rfl rfl (by exact sba))
    | (exact JX.round (_,k+1) ⟨by exact lea,hk',.inl hl⟩ (by simp;omega) rfl rfl (by exact sba))
  | false=>
   have hi:(match keyIs key x with|true=>some x|false=>List.find? (keyIs key) (List.drop (k+1) n.labels))=n.labels.find? (keyIs key):=by
    rcases hi with h|h
    ·rw [hl] at h;cases h
    ·exact h
   refine JO.guard rfl rfl rfl rfl (fun hg=>?_) (fun hg=>?_)
   ·rw [show keyIs key x=true from hg] at hi
    repeat (first|(refine Walk ?_;intros)|refine JC.block ?_)
    refine JC.cond rfl (fun hl2=>?_) (fun hl2=>?_)
    ·repeat (first|(refine Walk ?_;intros)|refine JC.block ?_)
     refine JX.ret2 Tryz.results239 (ResV.tmp rfl) (ResV.tmp rfl) (List.nil_sublist _) ?_
     refine ⟨rfl,?_⟩
     rw [valB,hl,getL,← hi];rfl
    ·rw [hl] at hl2;cases hl2
   ·rw [show keyIs key x=false from hg] at hi
    repeat (first|(refine Walk ?_;intros)|refine JC.block ?_)
    exact JX.round (_,k+1) ⟨by exact lea,hk',.inr hi⟩ (by simp;omega) rfl rfl (by exact sba)
 ·have hk':=dnlt hc
  rw [List.drop_eq_nil_of_le hk'] at hi
  repeat (first|(refine Walk ?_;intros)|refine JC.block ?_)
  refine JX.ret2 Tryz.results239 (ResV.tmp rfl) (ResV.tmp rfl) (List.nil_sublist _) ?_
  refine ⟨rfl,?_⟩
  rw [valB]
  cases hl:n.lost with
  | true=>rfl
  | false=>
   rw [hl] at hi
   simp only [Bool.false_eq_true,List.find?_nil,false_or] at hi
   rw [getL,← hi];rfl
theorem r7_Check {S:SHeap} {u v:Value} {s:Snap} {p:List Int} (hu:rSnap.V S u s) (hv:(rSlice 8 rI64).V S v p):FnV Tryz.prog 113 #[u,v] S (.int .i64 (checkP s p)):=by
 obtain ⟨a,c,rfl,_,_,hb,_⟩:=V_slice.1 hv
 unfold big at hb
 (refine Fn.enter (args:=[u,.slice a p.length c]) Tryz.func113 rfl Tryz.ntmps113 rfl ?_;intro w0)
 repeat (first|(refine Walk ?_;intros)|refine JC.block ?_)
 (refine JO.eff rfl rfl rfl (JEff.boxS rfl (by exact vta) nna rfl ?_);intro S0 pa l0 hp)
 repeat (first|(refine Walk ?_;intros)|refine JC.block ?_)
 (refine JO.eff rfl rfl rfl (JEff.callV rfl (r5_Check (by exact vta)) rfl ?_);intro _ _)
 repeat (first|(refine Walk ?_;intros)|refine JC.block ?_)
 refine JC.cond rfl (fun h1=>?_) (fun h1=>?_)
 ·have h1:z0 (checkS s)=false:=by simpa [z0] using h1
  repeat (first|(refine Walk ?_;intros)|refine JC.block ?_)
  refine JX.ret1 Tryz.results113 (ResV.tmp rfl) (List.nil_sublist _) ?_
  exact ⟨rfl,by rw [checkP,h1];rfl⟩
 have h1:z0 (checkS s)=true:=by simpa [z0] using h1
 repeat (first|(refine Walk ?_;intros)|refine JC.block ?_)
 refine JC.cond rfl (fun h2=>?_) (fun h2=>?_)
 ·have h2:decide (p.length=s.pods.length)=false:=by simp at h2;simp;omega
  repeat (first|(refine Walk ?_;intros)|refine JC.block ?_)
  refine JX.ret1 Tryz.results113 (ResV.tmp rfl) (List.nil_sublist _) ?_
  exact ⟨rfl,by rw [checkP,h1,h2];rfl⟩
 have h2:decide (p.length=s.pods.length)=true:=by simp at h2;simp;omega
 have hodd:checkP s p=if p.any (oddP s) then 2 else 0:=by rw [checkP,h1,h2];rfl
 rw [hodd]
 repeat (first|(refine Walk ?_;intros)|refine JC.block ?_)
 refine JC.loop (σ:=SHeap × Nat) (fun q=>q.1) (fun _=>[]) (fun q=>[(1,.slice a p.length c),(2,.pointer (some pa)),(6,.int .i64 q.2)]) (fun q=>S0.le q.1∧q.2≤p.length∧(p.drop q.2).any (oddP s)=p.any (oddP s)) (fun q=>p.length - q.2) (_,0) ⟨by exact lea,Nat.zero_le _,rfl⟩ rfl rfl (by exact sba) ?_;rintro ⟨S5,k⟩ ⟨hl5,hk,hi⟩;dsimp only at hl5 hk hi ⊢
 repeat (first|(refine Walk ?_;intros)|refine JC.block ?_)
 refine JC.cond rfl (fun hc=>?_) (fun hc=>?_)
 ·have hk':=dlt hc
  obtain ⟨x,hx,hd⟩:=drop_at hk'
  rw [hd,List.any_cons] at hi
  repeat (first|(refine Walk ?_;intros)|refine JC.block ?_)
  refine JC.drawT [0,1,2,3,4,5,6,7,8,9,10,11,12,13,14,15,16,17,18,19,20,21,22,23,24,25,26,27,28,29,30,31,32] [0,1,2,3,4,5,6,7,8,9,10,11,12,13,14,15,16,17,18,19,20,21,22,23,24,25,26,27,28,29,30,31,32] [] Tryz_mixed (by decide +kernel) (by simp [MEnt.own]) ?_
  by_cases hr:0≤x∧x < s.nodes.length
  ·obtain ⟨nd,hnd⟩:∃ nd,s.nodes[x.toNat]?=some nd:=⟨_,List.getElem?_eq_getElem (by omega)⟩
   have hr0:=hr.1
   have hlo:lostAt s x=nd.lost:=by simp [lostAt,hnd]
   have e1:decide (x < -1)=false:=by simp;omega
   have e2:decide ((s.nodes.length:Int)≤x)=false:=by simp;omega
   have e3:decide (0≤x)=true:=by simp;omega
   have ho:oddP s x=nd.lost:=by rw [oddP,e1,e2,e3,hlo];rfl
   rw [ho] at hi
   repeat (first|(refine Walk ?_;intros)|refine JC.block ?_)
   refine JO.guard rfl rfl rfl rfl (fun g1=>?_) (fun g1=>?_)
   ·rw [e1] at g1;cases g1
   repeat (first|(refine Walk ?_;intros)|refine JC.block ?_)
   refine JO.guard rfl rfl rfl rfl (fun g2=>?_) (fun g2=>?_)
   ·rw [e2] at g2;cases g2
   repeat (first|(refine Walk ?_;intros)|refine JC.block ?_)
   refine JO.guard rfl rfl rfl rfl (fun g3=>?_) (fun g3=>?_)
   ·repeat (first|(refine Walk ?_;intros)|refine JC.block ?_)
    refine JC.cond rfl (fun h9=>?_) (fun h9=>?_)
    ·rw [h9,Bool.true_or] at hi
     repeat (first|(refine Walk ?_;intros)|refine JC.block ?_)
     refine JX.ret1 Tryz.results113 (ResV.tmp rfl) (List.nil_sublist _) ?_
     exact ⟨rfl,by rw [← hi];rfl⟩
    ·rw [h9,Bool.false_or] at hi
     repeat (first|(refine Walk ?_;intros)|refine JC.block ?_)
     exact JX.round (_,k+1) ⟨by exact lea,hk',hi⟩ (by simp;omega) rfl rfl (by exact sba)
   ·rw [e3] at g3;cases g3
  ·have hb2:oddP s x=true∨(x=-1∧oddP s x=false):=by
    by_cases hx1:x=-1
    ·right;refine ⟨hx1,?_⟩;subst hx1;simp [oddP];omega
    ·left
     have:x < -1∨(s.nodes.length:Int)≤x:=by omega
     rcases this with h|h<;>simp [oddP,h]
   rcases hb2 with ho|⟨rfl,ho⟩
   ·rw [ho,Bool.true_or] at hi
    repeat (first|(refine Walk ?_;intros)|refine JC.block ?_)
    refine JO.guard rfl rfl rfl rfl (fun g1=>?_) (fun g1=>?_)
    ·repeat (first|(refine Walk ?_;intros)|refine JC.block ?_)
     refine JX.ret1 Tryz.results113 (ResV.tmp rfl) (List.nil_sublist _) ?_
     exact ⟨rfl,by rw [← hi];rfl⟩
    ·have g1:¬ x < -1:=by simpa using g1
     repeat (first|(refine Walk ?_;intros)|refine JC.block ?_)
     refine JO.guard rfl rfl rfl rfl (fun g2=>?_) (fun g2=>?_)
     ·repeat (first|(refine Walk ?_;intros)|refine JC.block ?_)
      refine JX.ret1 Tryz.results113 (ResV.tmp rfl) (List.nil_sublist _) ?_
      exact ⟨rfl,by rw [← hi];rfl⟩
     ·exfalso
      have g2:¬ (s.nodes.length:Int)≤x:=by simpa using g2
      have:x=-1:=by omega
      subst this
      simp [oddP] at ho;omega
   ·rw [ho,Bool.false_or] at hi
    have e2:decide ((s.nodes.length:Int)≤-1)=false:=by simp;omega
    repeat (first|(refine Walk ?_;intros)|refine JC.block ?_)
    refine JO.guard rfl rfl rfl rfl (fun g2=>?_) (fun g2=>?_)
    ·rw [e2] at g2;cases g2
    repeat (first|(refine Walk ?_;intros)|refine JC.block ?_)
    exact JX.round (_,k+1) ⟨by exact lea,hk',hi⟩ (by simp;omega) rfl rfl (by exact sba)
 ·have hk':=dnlt hc
  rw [List.drop_eq_nil_of_le hk'] at hi
  repeat (first|(refine Walk ?_;intros)|refine JC.block ?_)
  refine JX.ret1 Tryz.results113 (ResV.tmp rfl) (List.nil_sublist _) ?_
  exact ⟨rfl,by rw [← hi];rfl⟩
end Go.Dr
namespace Go.Dr
open Go.Proofs
set_option maxRecDepth 20000
set_option maxHeartbeats 1000000
set_option linter.unusedSimpArgs false
set_option linter.unusedVariables false
theorem ptr_arr {S:SHeap} {p:Addr} {n:Nat} {xs:List Int} (h:PtrTo S p (rArr n) xs):xs.length=n∧∀ x∈xs,Rng x:=by
 obtain ⟨cs,h,_⟩:=h;exact ⟨h.1,h.2.2⟩
theorem ptr_slice {α:Type} {S:SHeap} {p:Addr} {bt:Nat} {rep:Rp α} {xs:List α} (h:PtrTo S p (rSlice bt rep) xs):∀ x∈xs,∃ q,PtrTo S q rep x:=by
 obtain ⟨cs,⟨a,n,c,_,_,_,_,_,hh⟩,_⟩:=h
 intro x hx
 obtain ⟨i,hi⟩:=List.getElem?_of_mem hx
 obtain ⟨ad,_,hp⟩:=hh i x hi
 exact ⟨_,hp⟩
theorem snap_reqs {S:SHeap} {p:Addr} {s:Snap} (h:PtrTo S p rSnap s):∀ x∈s.pods,x.req.length=5∧∀ y∈x.req,Rng y:=by
 intro x hx
 have h1:PtrTo S (p.add 1) (rSlice 240 rPod) s.pods:=h.part (Fld.h (rep:=rSnap) (off:=1))
 obtain ⟨q,hq⟩:=ptr_slice h1 x hx
 have h2:PtrTo S (q.add 2) (rArr 5) x.req:=hq.part (Fld.h (rep:=rPod) (off:=2))
 exact ptr_arr h2
theorem snap_caps {S:SHeap} {p:Addr} {s:Snap} (h:PtrTo S p rSnap s):∀ x∈s.nodes,x.cap.length=5∧∀ y∈x.cap,Rng y:=by
 intro x hx
 have h1:PtrTo S (p.add 0) (rSlice 112 rNode) s.nodes:=h.part (Fld.h (rep:=rSnap) (off:=0))
 obtain ⟨q,hq⟩:=ptr_slice h1 x hx
 have h2:PtrTo S (q.add 1) (rArr 5) x.cap:=hq.part (Fld.h (rep:=rNode) (off:=1))
 exact ptr_arr h2
theorem plus_ok {l:List (List Int)} (h:(plusV l).2=0) (j:Nat) (hj:j < 5):(l.map (fun v=>at0 v j)).any negB=false∧(l.map (fun v=>at0 v j)).sum≤Qty:=by
 have hc:(colQ l j).2=0:=by
  unfold plusV at h
  split at h
  ·rename_i i hi
   rw [List.find?_range_eq_some] at hi
   have:=hi.1
   simp only [Bool.not_eq_true',decide_eq_false_iff_not] at this
   exact absurd h this
  ·rename_i hi
   rw [List.find?_range_eq_none] at hi
   have:=hi j hj
   simpa using this
 unfold colQ addQ at hc
 cases hn:(l.map (fun v=>at0 v j)).any negB with
 | true=>rw [hn] at hc;simp at hc
 | false=>
  rw [hn] at hc
  refine ⟨rfl,?_⟩
  simp only [Bool.false_eq_true,if_false] at hc
  split at hc
  ·simp at hc
  ·rename_i h;omega
theorem checkS_ok {s:Snap} (h:checkS s=0):shapedB s=true∧(plusV (caps s)).2=0∧(plusV (reqs s)).2=0:=by
 unfold checkS at h
 cases h1:shapedB s with
 | false=>rw [h1] at h;simp at h
 | true=>
  rw [h1] at h
  simp only [if_true] at h
  split at h
  ·rename_i h2
   simp only [Bool.and_eq_true,z0,decide_eq_true_eq] at h2
   exact ⟨rfl,h2⟩
  ·cases h
def colsOf (l:List Pod) (x:List Int) (j:Nat):List Int:=(List.range 5).map (fun i=>(l.map (fun y=>at0 y.req i)).sum+if i < j then at0 x i else 0)
theorem colsOf_len (l:List Pod) (x:List Int) (j:Nat):(colsOf l x j).length=5:=by simp [colsOf]
theorem colsOf_zero (l:List Pod) (x x':List Int):colsOf l x 0=colsOf l x' 0:=by simp [colsOf]
theorem colsOf_at (l:List Pod) (x:List Int) (j:Nat) (hj:j < 5):(colsOf l x j)[j]?=some ((l.map (fun y=>at0 y.req j)).sum):=by
 simp [colsOf,hj]
theorem colsOf_set (l:List Pod) (x:List Int) (j:Nat) (hj:j < 5):(colsOf l x j).set j ((l.map (fun y=>at0 y.req j)).sum+at0 x j)=colsOf l x (j+1):=by
 apply List.ext_getElem?
 intro i
 rw [List.getElem?_set]
 simp only [colsOf,List.length_map,List.length_range,List.getElem?_map]
 by_cases h:j=i
 ·subst h;simp [hj]
 ·rw [if_neg h]
  cases hr:(List.range 5)[i]? with
  | none=>rfl
  | some i'=>
   have:i'=i:=by
    rw [List.getElem?_range] at hr
    ·simpa using hr.symm
    ·exact Nat.lt_of_not_le fun hle=>by rw [List.getElem?_eq_none (by simpa using hle)] at hr;cases hr
   subst this
   simp only [Option.map_some]
   have:(i' < j)=(i' < j+1):=by simp;omega
   simp [this]
theorem colsOf_full (l:List Pod) (x:Pod) (y:List Int):colsOf l x.req 5=colsOf (l++[x]) y 0:=by
 unfold colsOf
 apply List.map_congr_left
 intro i hi
 have:i < 5:=by simpa using hi
 simp [this]
def onK (s:Snap) (p:List Int) (node:Int) (k:Nat):List Pod:=(((p.zip s.pods).take k).filter (fun x=>decide (x.1=node))).map (fun x=>x.2)
theorem onK_step {s:Snap} {p:List Int} {node:Int} {k:Nat} {n:Int} {x:Pod} (hn:p[k]?=some n) (hx:s.pods[k]?=some x):onK s p node (k+1)=onK s p node k++(if n=node then [x] else []):=by
 have hz:(p.zip s.pods)[k]?=some (n,x):=by rw [List.getElem?_zip_eq_some];exact ⟨hn,hx⟩
 unfold onK
 rw [List.take_add_one,hz]
 simp only [Option.toList_some,List.filter_append,List.map_append]
 congr 1
 by_cases h:n=node<;>simp [h]
theorem onK_all {s:Snap} {p:List Int} {node:Int} (h:p.length=s.pods.length):onK s p node p.length=onN s p node:=by
 unfold onK onN
 rw [List.take_of_length_le (by simp [h])]
theorem filt_sum {l:List Pod} {f:Pod→Int} (h:∀ x∈l,0≤f x):∀ {m:List Pod},m.Sublist l→(m.map f).sum≤(l.map f).sum∧0≤(m.map f).sum:=by
 intro m hm
 induction hm with
 | slnil=>simp
 | cons a hs ih=>
  have:=ih (fun x hx=>h x (by simp [hx]))
  have:=h a (by simp)
  simp only [List.map_cons,List.sum_cons];omega
 | cons_cons a hs ih=>
  have:=ih (fun x hx=>h x (by simp [hx]))
  have:=h a (by simp)
  simp only [List.map_cons,List.sum_cons];omega
theorem zip_snd_sub:∀ (p:List Int) (l:List Pod),((p.zip l).map (fun x=>x.2)).Sublist l
 | [],l=>by simp
 | _::_,[]=>by simp
 | a::p,x::l=>by
  rw [List.zip_cons_cons,List.map_cons]
  exact (zip_snd_sub p l).cons_cons x
theorem onK_sub (s:Snap) (p:List Int) (node:Int) (k:Nat):(onK s p node k).Sublist s.pods:=by
 have h1:=zip_snd_sub p s.pods
 exact (((List.filter_sublist).trans (List.take_sublist _ _)).map _).trans h1
theorem used_bound {s:Snap} (h:checkS s=0) (p:List Int) (node:Int) (k j:Nat) (hj:j < 5):0≤((onK s p node k).map (fun y=>at0 y.req j)).sum∧((onK s p node k).map (fun y=>at0 y.req j)).sum≤Qty:=by
 obtain ⟨_,_,h3⟩:=checkS_ok h
 obtain ⟨h4,h5⟩:=plus_ok h3 j hj
 have hnn:∀ x∈s.pods,0≤at0 x.req j:=by
  intro x hx
  rw [List.any_eq_false] at h4
  have:=h4 (at0 x.req j) (by simp only [reqs,List.map_map,List.mem_map];exact ⟨x,hx,rfl⟩)
  simpa [negB] using this
 have h6:=filt_sum (f:=fun y=>at0 y.req j) hnn (onK_sub s p node k)
 have h7:(s.pods.map (fun y=>at0 y.req j)).sum≤Qty:=by
  simpa [reqs,List.map_map,Function.comp_def] using h5
 omega
theorem r7_UsedOf {S:SHeap} {u v:Value} {s:Snap} {p:List Int} (node:Int) (hok:checkS s=0) (hlen:p.length=s.pods.length) (hu:rSnap.V S u s) (hv:(rSlice 8 rI64).V S v p):FnV Tryz.prog 299 #[u,v,.int .i64 node] S (.agg (ints (usedV s p node))):=by
 obtain ⟨a,c,rfl,_,_,hb,_⟩:=V_slice.1 hv
 unfold big at hb
 (refine Fn.enter (args:=[u,.slice a p.length c,.int .i64 node]) Tryz.func299 rfl Tryz.ntmps299 rfl ?_;intro w0)
 repeat (first|(refine Walk ?_;intros)|refine JC.block ?_)
 (refine JO.eff rfl rfl rfl (JEff.boxS rfl (by exact vta) nna rfl ?_);intro S0 pa l0 hp)
 repeat (first|(refine Walk ?_;intros)|refine JC.block ?_)
 (refine JO.eff rfl rfl rfl (JEff.alloc rfl ?_);intro b6 hb6)
 repeat (first|(refine Walk ?_;intros)|refine JC.block ?_)
 (refine JO.eff rfl rfl rfl (JEff.alloc rfl ?_);intro b7 hb7)
 repeat (first|(refine Walk ?_;intros)|refine JC.block ?_)
 have hreq:=snap_reqs hp
 refine JC.loop (σ:=SHeap × Nat) (fun q=>q.1) (fun q=>[.blk b7 (.cells (ints (colsOf (onK s p node q.2) [] 0)) 91 (0,0)),.blk b6 (.cells (ints [0,0,0,0,0]) 91 (0,0))]) (fun q=>[(1,.slice a p.length c),(2,.int .i64 node),(3,.pointer (some pa)),(6,.pointer (some ⟨b6,0,none⟩)),(7,.pointer (some ⟨b7,0,none⟩)),(8,.int .i64 q.2)]) (fun q=>S0.le q.1∧q.2≤p.length) (fun q=>p.length - q.2) (S0,0) ⟨SHeap.le.refl _,Nat.zero_le _⟩ rfl rfl (by exact sba) ?_
 rintro ⟨S1,k⟩ ⟨hl1,hk⟩
 dsimp only at hl1 hk ⊢
 repeat (first|(refine Walk ?_;intros)|refine JC.block ?_)
 refine JC.cond rfl (fun hc=>?_) (fun hc=>?_)
 ·have hk':=dlt hc
  obtain ⟨n,hn,hd⟩:=drop_at hk'
  obtain ⟨x,hx⟩:∃ x,s.pods[k]?=some x:=⟨_,List.getElem?_eq_getElem (by omega)⟩
  have hst:=onK_step (node:=node) hn hx
  have hxr:=hreq x (List.mem_of_getElem? hx)
  repeat (first|(refine Walk ?_;intros)|refine JC.block ?_)
  by_cases hnode:n=node
  ·rw [if_pos hnode] at hst
   refine JC.loop (σ:=SHeap × Nat) (fun q=>q.1) (fun q=>[.blk b7 (.cells (ints (colsOf (onK s p node k) x.req q.2)) 91 (0,0)),.blk b6 (.cells (ints [0,0,0,0,0]) 91 (0,0))]) (fun q=>[(1,.slice a p.length c),(2,.int .i64 node),(3,.pointer (some pa)),(6,.pointer (some ⟨b6,0,none⟩)),(7,.pointer (some ⟨b7,0,none⟩)),(8,.int .i64 k),(9,.int .i64 q.2)]) (fun q=>S0.le q.1∧q.2≤5) (fun q=>5 - q.2) (S1,0) ⟨hl1,Nat.zero_le _⟩ (by dsimp only;rw [colsOf_zero _ x.req []]) rfl (by exact sba) ?_
   rintro ⟨S2,j⟩ ⟨hl2,hj⟩
   dsimp only at hl2 hj ⊢
   rcases Nat.lt_or_ge j 5 with hj'|hj'
   ·have e1:decide ((j:Int) < 5)=true:=by simp;omega
    have e2:decide (n=node)=true:=by simp [hnode]
    obtain ⟨z,hz⟩:∃ z,x.req[j]?=some z:=⟨_,List.getElem?_eq_getElem (by omega)⟩
    have hub:=used_bound hok p node k j hj'
    have hub2:=used_bound hok p node (k+1) j hj'
    have hatz:=at0_some hz
    rw [hst] at hub2
    simp only [List.map_append,List.sum_append,List.map_cons,List.map_nil,List.sum_cons,List.sum_nil,hatz] at hub2
    unfold Qty at hub hub2
    repeat (first|(refine Walk ?_;intros)|refine JC.block ?_)
    refine JO.guard rfl rfl rfl rfl (fun g1=>?_) (fun g1=>?_)
    ·repeat (first|(refine Walk ?_;intros)|refine JC.block ?_)
     refine JC.cond rfl (fun g2=>?_) (fun g2=>?_)
     ·repeat (first|(refine Walk ?_;intros)|refine JC.block ?_)
      refine JC.drawT [0,1,2,3,4,5,6,7,8,9,10,11,12,13,14] [0,1,2,3,4,5,6,7,8,9,10,11,12,13] [b7] Tryz_mixed (by decide +kernel) (by simp [MEnt.own]) ?_
      repeat (first|(refine Walk ?_;intros)|refine JC.block ?_)
      refine JO.pure rfl rfl rfl (JPure.indexBI rfl rfl rfl (by omega) (by omega) ?_)
      refine JO.pure rfl rfl rfl (JPure.loadMI rfl (by (first|exact List.mem_cons_self|exact List.mem_cons_of_mem _ List.mem_cons_self|exact List.mem_cons_of_mem _ (List.mem_cons_of_mem _ List.mem_cons_self))) (colsOf_at _ _ j hj') (by unfold Rng;omega) (.inl rfl) rfl ?_)
      repeat (first|(refine Walk ?_;intros)|refine JC.block ?_)
      refine JO.pure rfl rfl rfl (JPure.indexBI rfl rfl rfl (by omega) (by omega) ?_)
      refine JO.eff rfl rfl rfl (JEff.storeI (i:=j) rfl rfl (by unfold Rng;omega) (List.Perm.refl _) (by rw [colsOf_len];omega) (by intro l hl;cases hl;exact List.mem_cons_self) ?_)
      repeat (first|(refine Walk ?_;intros)|refine JC.block ?_)
      exact JX.round (_,j+1) ⟨by exact lea,hj'⟩ (by dsimp only;omega) rfl (by dsimp only;rw [← colsOf_set _ _ j hj',hatz]) (by exact sba)
     ·rw [e2] at g2;cases g2
    ·rw [e1] at g1;cases g1
   ·obtain rfl:j=5:=by omega
    rw [colsOf_full _ _ [],← hst]
    repeat (first|(refine Walk ?_;intros)|refine JC.block ?_)
    exact JX.round (_,k+1) ⟨by exact lea,hk'⟩ (by dsimp only;omega) rfl rfl (by exact sba)
  ·rw [if_neg hnode,List.append_nil] at hst
   refine JC.loop (σ:=SHeap) (fun q=>q) (fun q=>[.blk b7 (.cells (ints (colsOf (onK s p node k) [] 0)) 91 (0,0)),.blk b6 (.cells (ints [0,0,0,0,0]) 91 (0,0))]) (fun q=>[(1,.slice a p.length c),(2,.int .i64 node),(3,.pointer (some pa)),(6,.pointer (some ⟨b6,0,none⟩)),(7,.pointer (some ⟨b7,0,none⟩)),(8,.int .i64 k),(9,.int .i64 0)]) (fun q=>S0.le q) (fun q=>0) S1 hl1 rfl rfl (by exact sba) ?_
   intro S2 hl2
   have e2:decide (n=node)=false:=by simp [hnode]
   repeat (first|(refine Walk ?_;intros)|refine JC.block ?_)
   refine JC.cond rfl (fun g2=>?_) (fun g2=>?_)
   ·rw [e2] at g2;cases g2
   ·repeat (first|(refine Walk ?_;intros)|refine JC.block ?_)
    exact JX.round (_,k+1) ⟨by exact lea,hk'⟩ (by dsimp only;omega) rfl (by dsimp only;rw [hst]) (by exact sba)
 ·have hk':=dnlt hc
  obtain rfl:k=p.length:=by omega
  rw [onK_all hlen]
  have hfin:colsOf (onN s p node) [] 0=usedV s p node:=by simp [colsOf,usedV]
  have hrng:∀ z∈usedV s p node,Rng z:=by
   intro z hz
   obtain ⟨j,hj,rfl⟩:=List.mem_map.1 hz
   have:=used_bound hok p node p.length j (by simpa using hj)
   rw [onK_all hlen] at this
   unfold Qty at this;unfold Rng;omega
  rw [hfin]
  repeat (first|(refine Walk ?_;intros)|refine JC.block ?_)
  refine JO.pure rfl rfl rfl (JPure.loadMA (n:=5) rfl (by (first|exact List.mem_cons_self|exact List.mem_cons_of_mem _ List.mem_cons_self|exact List.mem_cons_of_mem _ (List.mem_cons_of_mem _ List.mem_cons_self))) (by simp [usedV]) hrng (.inl rfl) rfl ?_)
  refine JO.eff rfl rfl rfl (JEff.storeA (n:=5) (xs:=[0,0,0,0,0]) rfl rfl (by simp [usedV]) hrng (List.Perm.swap _ _ _) rfl (by intro l hl;cases hl) ?_)
  repeat (first|(refine Walk ?_;intros)|refine JC.block ?_)
  refine JX.ret1 Tryz.results299 (ResV.cellA (n:=5) rfl (by (first|exact List.mem_cons_self|exact List.mem_cons_of_mem _ List.mem_cons_self|exact List.mem_cons_of_mem _ (List.mem_cons_of_mem _ List.mem_cons_self))) (by simp [usedV])) (List.nil_sublist _) ?_
  exact ⟨rfl,rfl⟩
end Go.Dr
namespace Go.Dr
open Go.Proofs
set_option maxRecDepth 20000
set_option maxHeartbeats 1000000
set_option linter.unusedSimpArgs false
set_option linter.unusedVariables false
def ownedK (s:Snap) (p:List Int) (o:Nat) (k:Nat):List Int:=(((p.zip s.pods).take k).filter (fun x=>decide (0≤x.1)&&decide (x.2.owner=ownName s o))).map (fun x=>x.1)
theorem ownedK_step {s:Snap} {p:List Int} {o k:Nat} {n:Int} {x:Pod} (hn:p[k]?=some n) (hx:s.pods[k]?=some x):ownedK s p o (k+1)=ownedK s p o k++(if (decide (0≤n)&&decide (x.owner=ownName s o))=true then [n] else []):=by
 have hz:(p.zip s.pods)[k]?=some (n,x):=by rw [List.getElem?_zip_eq_some];exact ⟨hn,hx⟩
 unfold ownedK
 rw [List.take_add_one,hz]
 simp only [Option.toList_some,List.filter_append,List.map_append]
 congr 1
 cases h:(decide (0≤n)&&decide (x.owner=ownName s o))<;>simp [List.filter_cons,h]
theorem ownedK_all {s:Snap} {p:List Int} {o:Nat} (h:p.length=s.pods.length):ownedK s p o p.length=ownedL s p o:=by
 unfold ownedK ownedL
 rw [List.take_of_length_le (by simp [h])]
theorem ownedK_len (s:Snap) (p:List Int) (o k:Nat):(ownedK s p o k).length≤k:=by
 unfold ownedK
 rw [List.length_map]
 exact Nat.le_trans (List.length_filter_le _ _) (by simp;omega)
def cntL (N:Nat) (l:List Int):List Int:=(List.range N).map (fun (n:Nat)=>((l.filter (fun x=>decide (x=(n:Int)))).length:Int))
theorem cntL_len (N:Nat) (l:List Int):(cntL N l).length=N:=by simp [cntL]
theorem cntL_at (N:Nat) (l:List Int) (i:Nat) (h:i < N):(cntL N l)[i]?=some ((l.filter (fun x=>decide (x=(i:Int)))).length:Int):=by simp [cntL,h]
theorem cntL_set (N:Nat) (l:List Int) (i:Nat) (h:i < N):(cntL N l).set i (((l.filter (fun x=>decide (x=(i:Int)))).length:Int)+1)=cntL N (l++[(i:Int)]):=by
 apply List.ext_getElem?
 intro j
 rw [List.getElem?_set]
 by_cases hj:i=j
 ·subst hj
  rw [if_pos rfl,cntL_len,if_pos h,cntL_at N _ i h]
  simp [List.filter_append]
 ·rw [if_neg hj]
  rcases Nat.lt_or_ge j N with hlt|hge
  ·rw [cntL_at N _ j hlt,cntL_at N _ j hlt]
   have:¬ (i:Int)=(j:Int):=by omega
   simp [List.filter_append,List.filter_cons,this]
  ·rw [List.getElem?_eq_none (by rw [cntL_len];exact hge),List.getElem?_eq_none (by rw [cntL_len];exact hge)]
theorem cntL_rng (N:Nat) (l:List Int) (h:l.length≤1000000):∀ x∈cntL N l,Rng x:=by
 intro x hx
 obtain ⟨n,_,rfl⟩:=List.mem_map.1 hx
 have:=List.length_filter_le (fun x=>decide (x=(n:Int))) l
 unfold Rng;omega
theorem r7_counts {S:SHeap} {u v:Value} {s:Snap} {p:List Int} (o:Nat) (ho:o < s.owners.length) (hok:checkP s p=0) (hu:rSnap.V S u s) (hv:(rSlice 8 rI64).V S v p):FnR Tryz.prog 298 #[u,v,.int .i64 o] S (fun w S'=>(rSlice 8 rI64).V S' w (countsL s p o)):=by
 obtain ⟨hs,hlen,hodd⟩:=checkP_ok hok
 obtain ⟨hn8,hp24,ho8⟩:=shaped_small (checkS_ok hs).1
 obtain ⟨a,c,rfl,_,_,hb,_⟩:=V_slice.1 hv
 unfold big at hb
 obtain ⟨ow,how⟩:∃ ow,s.owners[o]?=some ow:=⟨_,List.getElem?_eq_getElem ho⟩
 have hname:ownName s o=ow.name:=by simp [ownName,how]
 (refine Fn.enter (args:=[u,.slice a p.length c,.int .i64 o]) Tryz.func298 rfl Tryz.ntmps298 rfl ?_;intro w0)
 repeat (first|(refine Walk ?_;intros)|refine JC.block ?_)
 (refine JO.eff rfl rfl rfl (JEff.boxS rfl (by exact vta) nna rfl ?_);intro S0 pa l0 hp)
 repeat (first|(refine Walk ?_;intros)|refine JC.block ?_)
 refine JO.eff rfl rfl rfl (JEff.makeInts (n:=s.nodes.length) rfl rfl (by unfold big;omega) rfl ?_);intro b hbb
 repeat (first|(refine Walk ?_;intros)|refine JC.block ?_)
 refine JC.loop (σ:=SHeap × Nat) (fun q=>q.1) (fun q=>[.blk b (.cells (ints (cntL s.nodes.length (ownedK s p o q.2))) 3 (0,0))]) (fun q=>[(1,.slice a p.length c),(2,.int .i64 o),(3,.pointer (some pa)),(7,.slice (some ⟨b,0,none⟩) s.nodes.length s.nodes.length),(8,.int .i64 q.2)]) (fun q=>S0.le q.1∧q.2≤p.length) (fun q=>p.length - q.2) (S0,0) ⟨SHeap.le.refl _,Nat.zero_le _⟩ (by dsimp only;congr 3;simp [cntL,ownedK,List.map_const']) rfl (by exact sba) ?_
 rintro ⟨S1,k⟩ ⟨hl1,hk⟩
 dsimp only at hl1 hk ⊢
 repeat (first|(refine Walk ?_;intros)|refine JC.block ?_)
 refine JC.cond rfl (fun hc=>?_) (fun hc=>?_)
 ·have hk':=dlt hc
  obtain ⟨n,hn,hd⟩:=drop_at hk'
  obtain ⟨x,hx⟩:∃ x,s.pods[k]?=some x:=⟨_,List.getElem?_eq_getElem (by omega)⟩
  have hst:=ownedK_step (o:=o) hn hx
  have hno:=hodd n (List.mem_of_getElem? hn)
  have hol:=ownedK_len s p o k
  repeat (first|(refine Walk ?_;intros)|refine JC.block ?_)
  refine JC.drawT [0,1,2,3,4,5,6,7,8,9,10,11,12,13,14,15,16,17,18,19] [0,1,2,3,4,5,6,7,8,9,10,11,12,13,14,15,16,17,18,19] [] Tryz_mixed (by decide +kernel) (by simp [MEnt.own]) ?_
  repeat (first|(refine Walk ?_;intros)|refine JC.block ?_)
  rw [hname] at hst
  refine JO.guard rfl rfl rfl rfl (fun g1=>?_) (fun g1=>?_)
  ·have g1':0≤n:=by simpa using g1
   have hlt:n < s.nodes.length:=by
    simp only [oddP,Bool.or_eq_false_iff,decide_eq_false_iff_not] at hno;omega
   repeat (first|(refine Walk ?_;intros)|refine JC.block ?_)
   refine JC.cond rfl (fun g2=>?_) (fun g2=>?_)
   ·rw [g1,g2,Bool.true_and,if_pos rfl] at hst
    obtain ⟨i,rfl⟩:=Int.eq_ofNat_of_zero_le g1'
    have hi:i < s.nodes.length:=by omega
    have hcl:=List.length_filter_le (fun x=>decide (x=(i:Int))) (ownedK s p o k)
    repeat (first|(refine Walk ?_;intros)|refine JC.block ?_)
    refine JO.pure rfl rfl rfl (JPure.indexRI rfl rfl rfl (by omega) (by omega) ?_)
    refine JO.pure rfl rfl rfl (JPure.loadMI (off:=i) rfl (by (first|exact List.mem_cons_self|exact List.mem_cons_of_mem _ List.mem_cons_self|exact List.mem_cons_of_mem _ (List.mem_cons_of_mem _ List.mem_cons_self))) (cntL_at _ _ i hi) (by unfold Rng;omega) (.inl rfl) rfl ?_)
    repeat (first|(refine Walk ?_;intros)|refine JC.block ?_)
    refine JO.pure rfl rfl rfl (JPure.indexRI rfl rfl rfl (by omega) (by omega) ?_)
    refine JO.eff rfl rfl rfl (JEff.storeI (i:=i) rfl rfl (by unfold Rng;omega) (List.Perm.refl _) (by rw [cntL_len];exact hi) (by intro l hl;cases hl) ?_)
    repeat (first|(refine Walk ?_;intros)|refine JC.block ?_)
    exact JX.round (_,k+1) ⟨by exact lea,hk'⟩ (by dsimp only;omega) rfl (by dsimp only;rw [hst,← cntL_set _ _ i hi]) (by exact sba)
   ·rw [g1,g2] at hst
    simp only [Bool.and_false,Bool.false_eq_true,if_false,List.append_nil] at hst
    repeat (first|(refine Walk ?_;intros)|refine JC.block ?_)
    exact JX.round (_,k+1) ⟨by exact lea,hk'⟩ (by dsimp only;omega) rfl (by dsimp only;rw [hst]) (by exact sba)
  ·rw [g1] at hst
   simp only [Bool.false_and,Bool.false_eq_true,if_false,List.append_nil] at hst
   repeat (first|(refine Walk ?_;intros)|refine JC.block ?_)
   exact JX.round (_,k+1) ⟨by exact lea,hk'⟩ (by dsimp only;omega) rfl (by dsimp only;rw [hst]) (by exact sba)
 ·have hk':=dnlt hc
  obtain rfl:k=p.length:=by omega
  have hol:=ownedK_len s p o p.length
  rw [ownedK_all hlen] at hol ⊢
  repeat (first|(refine Walk ?_;intros)|refine JC.block ?_)
  refine JX.freezeInts (by rw [cntL_len]) (Nat.le_refl _) (by unfold big;omega) (cntL_rng _ _ (by omega)) hbb (fun S2 hl2 hV=>?_)
  refine JX.ret1 Tryz.results298 (ResV.tmp rfl) (List.nil_sublist _) ?_
  exact ⟨rfl,hV⟩
end Go.Dr
namespace Go.Dr
open Go.Proofs
set_option maxRecDepth 20000
set_option maxHeartbeats 1000000
set_option linter.unusedSimpArgs false
set_option linter.unusedVariables false
theorem sum_set:∀ {xs:List Int} {i:Nat} {z v:Int},xs[i]?=some z→(xs.set i v).sum=xs.sum - z+v
 | [],_,_,_,h=>by simp at h
 | x::xs,0,z,v,h=>by simp at h;subst h;simp;omega
 | x::xs,i+1,z,v,h=>by
  have:=sum_set (v:=v) (show xs[i]?=some z by simpa using h)
  simp [this];omega
theorem cnt_sum (N:Nat) (l:List Int) (h:∀ x∈l,0≤x∧x < N):∀ k,(cntL N (l.take k)).sum=((l.take k).length:Int)
 | 0=>by simp [cntL,List.map_const',List.sum_replicate_int]
 | k+1=>by
  have ih:=cnt_sum N l h k
  rw [List.take_add_one]
  cases hx:l[k]? with
  | none=>simpa using ih
  | some x=>
   obtain ⟨h0,h1⟩:=h x (List.mem_of_getElem? hx)
   obtain ⟨i,rfl⟩:=Int.eq_ofNat_of_zero_le h0
   have hi:i < N:=by omega
   simp only [Option.toList_some]
   have e:=cntL_set N (l.take k) i hi
   rw [← e,sum_set (cntL_at N _ i hi),ih]
   simp;omega
theorem owned_in {s:Snap} {p:List Int} {o:Nat} (hodd:∀ n∈p,oddP s n=false):∀ x∈ownedL s p o,0≤x∧x < s.nodes.length:=by
 intro x hx
 unfold ownedL at hx
 obtain ⟨y,hy,rfl⟩:=List.mem_map.1 hx
 obtain ⟨hy1,hy2⟩:=List.mem_filter.1 hy
 have hm:y.1∈p:=(List.of_mem_zip (a:=y.1) (b:=y.2) hy1).1
 have h1:=hodd _ hm
 simp only [oddP,Bool.or_eq_false_iff,decide_eq_false_iff_not] at h1
 simp only [Bool.and_eq_true,decide_eq_true_eq] at hy2
 omega
theorem counts_sum {s:Snap} {p:List Int} {o:Nat} (hodd:∀ n∈p,oddP s n=false):(countsL s p o).sum=placedN s p o:=by
 have:=cnt_sum s.nodes.length (ownedL s p o) (owned_in hodd) (ownedL s p o).length
 rw [List.take_length] at this
 exact this
theorem counts_nn (s:Snap) (p:List Int) (o:Nat):(countsL s p o).any negB=false:=by
 rw [List.any_eq_false]
 intro x hx
 obtain ⟨n,_,rfl⟩:=List.mem_map.1 hx
 simp [negB]
theorem r7_PlacedOf {S:SHeap} {u v:Value} {s:Snap} {p:List Int} (o:Nat) (ho:o < s.owners.length) (hok:checkP s p=0) (hu:rSnap.V S u s) (hv:(rSlice 8 rI64).V S v p):FnV Tryz.prog 297 #[u,v,.int .i64 o] S (.int .i64 (placedN s p o)):=by
 obtain ⟨hs,hlen,hodd⟩:=checkP_ok hok
 obtain ⟨hn8,hp24,ho8⟩:=shaped_small (checkS_ok hs).1
 have hsum:=counts_sum (o:=o) hodd
 have hneg:=counts_nn s p o
 have hple:placedN s p o≤24:=by
  have:(ownedL s p o).length≤p.length:=by rw [← ownedK_all hlen];exact ownedK_len _ _ _ _
  unfold placedN;omega
 (refine Fn.enter (args:=[u,v,.int .i64 o]) Tryz.func297 rfl Tryz.ntmps297 rfl ?_;intro w0)
 repeat (first|(refine Walk ?_;intros)|refine JC.block ?_)
 (refine JO.eff rfl rfl rfl (JEff.boxS rfl (by exact vta) nna rfl ?_);intro S0 pa l0 hp)
 repeat (first|(refine Walk ?_;intros)|refine JC.block ?_)
 (refine JO.eff rfl rfl rfl (JEff.callR rfl (r7_counts o ho hok (by exact vta) (by exact vta)) rfl ?_);intro w S2 hl2 hV)
 obtain ⟨a,c,rfl,_,_,hb,_⟩:=V_slice.1 hV
 unfold big at hb
 generalize hL:countsL s p o=L at *
 repeat (first|(refine Walk ?_;intros)|refine JC.block ?_)
 refine JC.loop (σ:=SHeap × Nat) (fun q=>q.1) (fun _=>[]) (fun q=>[(7,.int .i64 (L.take q.2).sum),(8,.slice a L.length c),(9,.int .i64 q.2)]) (fun q=>S2.le q.1∧q.2≤L.length∧(True)) (fun q=>L.length - q.2) (S2,0) ⟨SHeap.le.refl _,Nat.zero_le _,trivial⟩ rfl rfl (by exact sba) ?_;rintro ⟨S1,k⟩ ⟨hl1,hk,hi⟩;dsimp only at hl1 hk hi ⊢
 repeat (first|(refine Walk ?_;intros)|refine JC.block ?_)
 refine JC.cond rfl (fun hc=>?_) (fun hc=>?_)
 ·have hk':=dlt hc
  obtain ⟨x,hx,hd⟩:=drop_at hk'
  have h1:=sum_take_nn hneg k
  have h2:=take_at hx
  have h3:=sum_take hneg (k+1)
  have h4:=at_nn hneg hx
  repeat (first|(refine Walk ?_;intros)|refine JC.block ?_)
  exact JX.round (_,k+1) ⟨by exact lea,hk',trivial⟩ (by simp;omega) rfl rfl (by dsimp only;rw [h2];exact sba)
 ·have hk':=dnlt hc
  rw [List.take_of_length_le hk',hsum]
  repeat (first|(refine Walk ?_;intros)|refine JC.block ?_)
  refine JX.ret1 Tryz.results297 (ResV.tmp rfl) (List.nil_sublist _) ?_
  exact ⟨rfl,rfl⟩
end Go.Dr
namespace Go.Dr
def domIns (v:ByteArray) (out:List ByteArray):List ByteArray:=
 out.takeWhile (fun x=>ltS x v)++(match out.dropWhile (fun x=>ltS x v) with|[]=>[v]|x::r=>if x=v then x::r else v::x::r)
def domStep (key:ByteArray) (out:List ByteArray) (n:Node):List ByteArray:=if (valB n key).2=true then domIns (valB n key).1 out else out
def domL (s:Snap) (key:ByteArray):List ByteArray:=s.nodes.foldl (domStep key) []
def inDom (s:Snap) (key v:ByteArray) (n:Nat):Bool:=match s.nodes[n]? with|some x=>(valB x key).2&&decide ((valB x key).1=v)|none=>false
def topoOf (s:Snap) (o:Nat):ByteArray:=match s.owners[o]? with|some x=>x.topo|none=>noS
def domCount (s:Snap) (p:List Int) (o:Nat) (v:ByteArray):Int:=((List.range s.nodes.length).map (fun n=>if inDom s (topoOf s o) v n=true then at0 (countsL s p o) n else 0)).sum
def spreadL (s:Snap) (p:List Int) (o:Nat):List Int:=(domL s (topoOf s o)).map (domCount s p o)
def applyP (s:Snap) (p:List Int) (x:Step):List Int × Int:=
 if !z0 (checkP s p) then ([],checkP s p)
 else if !decide (x.kind=1)&&!decide (x.kind=2) then ([],2)
 else if decide (x.pod < 0)||decide ((p.length:Int)≤x.pod)||decide (x.node < 0)||(decide (x.kind=2)&&decide ((s.nodes.length:Int)≤x.node))||(decide (x.kind=1)&&!decide (x.node=0)) then ([],9)
 else if (decide (at0 p x.pod.toNat=-1)==decide (x.kind=1))||(decide (x.kind=2)&&lostAt s x.node) then ([],110)
 else (p.set x.pod.toNat (if x.kind=2 then x.node else -1),0)
theorem takeWhile_take {α:Type} (f:α→Bool):∀ (l:List α) (k:Nat),(∀ x∈l.take k,f x=true)→(∀ x,l[k]?=some x→f x=false)→l.takeWhile f=l.take k∧l.dropWhile f=l.drop k
 | [],k,_,_=>by simp
 | x::l,0,_,h=>by
  have:=h x rfl
  simp [List.takeWhile_cons,List.dropWhile_cons,this]
 | x::l,k+1,h,h2=>by
  have hx:=h x (by simp)
  have:=takeWhile_take f l k (fun y hy=>h y (by simp [hy])) (fun y hy=>h2 y (by simpa using hy))
  simp [List.takeWhile_cons,List.dropWhile_cons,hx,this]
end Go.Dr
namespace Go.Dr
open Go.Proofs
set_option maxRecDepth 20000
set_option maxHeartbeats 1000000
set_option linter.unusedSimpArgs false
set_option linter.unusedVariables false
theorem ptr_str {S:SHeap} {p:Addr} {s:ByteArray} (h:PtrTo S p rStr s):s.size≤big:=by
 obtain ⟨cs,h,_⟩:=h;exact h.2
theorem snap_val {S:SHeap} {p:Addr} {s:Snap} (h:PtrTo S p rSnap s) (key:ByteArray):∀ x∈s.nodes,(valB x key).1.size≤big:=by
 intro x hx
 have h1:PtrTo S (p.add 0) (rSlice 112 rNode) s.nodes:=h.part (Fld.h (rep:=rSnap) (off:=0))
 obtain ⟨q,hq⟩:=ptr_slice h1 x hx
 have h2:PtrTo S (q.add 6) (rSlice 32 rLabel) x.labels:=hq.part (Fld.h (rep:=rNode) (off:=6))
 unfold valB getL
 split
 ·exact Nat.zero_le _
 ·split
  ·rename_i l hl
   obtain ⟨q2,hq2⟩:=ptr_slice h2 l (List.mem_of_find?_eq_some hl)
   have h3:PtrTo S (q2.add 1) rStr l.value:=hq2.part (Fld.h (rep:=rLabel) (off:=1))
   exact ptr_str h3
  ·exact Nat.zero_le _
def domK (s:Snap) (key:ByteArray) (i:Nat):List ByteArray:=(s.nodes.take i).foldl (domStep key) []
theorem domK_step {s:Snap} {key:ByteArray} {i:Nat} {n:Node} (h:s.nodes[i]?=some n):domK s key (i+1)=domStep key (domK s key i) n:=by
 unfold domK
 rw [List.take_add_one,h];simp [List.foldl_append]
theorem domIns_len (v:ByteArray) (l:List ByteArray):(domIns v l).length≤l.length+1:=by
 have h:l.length=(l.takeWhile (fun x=>ltS x v)).length+(l.dropWhile (fun x=>ltS x v)).length:=by
  rw [← List.length_append,List.takeWhile_append_dropWhile]
 unfold domIns
 rw [List.length_append,h]
 split
 ·rename_i h1;rw [h1];simp
 ·rename_i h1;rw [h1];split<;>simp<;>omega
theorem domK_len (s:Snap) (key:ByteArray):∀ i,(domK s key i).length≤i
 | 0=>by simp [domK]
 | i+1=>by
  have ih:=domK_len s key i
  cases h:s.nodes[i]? with
  | none=>
   have:domK s key (i+1)=domK s key i:=by
    unfold domK
    rw [List.take_add_one,h];simp
   rw [this];omega
  | some n=>
   rw [domK_step h,domStep]
   split
   ·have:=domIns_len (valB n key).1 (domK s key i);omega
   ·omega
theorem s240_L7v {P K:Prop} (k:K) (h:Goal K→P:=by
 intro zk
 (first|refine Walk ?_|refine JC.blockX [2] rfl ?_|(refine JO.eff rfl rfl rfl (JEff.callV rfl (r7_ValueOf _ (by exact vta)) rfl ?_);intro zqa zqb)|(refine WBox ?_))
 (repeat (first|revert zqg|revert zqf|revert zqe|revert zqd|revert zqc|revert zqb|revert zqa))
 exact zk.k):P:=h ⟨k⟩
theorem r7_domains {S:SHeap} {u:Value} {s:Snap} (key:ByteArray) (hu:rSnap.V S u s) (hn:s.nodes.length≤1000):FnL Tryz.prog 240 #[u,.string key] S 16 rStr (domL s key):=by
 (refine Fn.enter (args:=[u,.string key]) Tryz.func240 rfl Tryz.ntmps240 rfl ?_;intro w0)
 repeat (refine s240_L7v ?_;intros)
 have hsv:∀ x∈s.nodes,(valB x key).1.size≤big:=snap_val (by assumption) key
 refine JC.loopF0 (σ:=Nat × Option Addr × Nat) [(1,_),(2,_)] (fun q=>[(5,.slice q.2.1 (domK s key q.1).length q.2.2),(6,.int .i64 q.1)]) (fun Sk q=>q.1≤s.nodes.length∧(rSlice 16 rStr).V Sk (.slice q.2.1 (domK s key q.1).length q.2.2) (domK s key q.1)) (fun q=>s.nodes.length - q.1) ((0,none,0)) (by exact sba) (by exact sba) (⟨Nat.zero_le _,V_nil⟩) ?_;rintro Sk ⟨i,ra,rc⟩ hlk hik;(try dsimp only at hik);dsimp only [List.cons_append,List.nil_append]
 obtain ⟨hi,hV⟩:=hik
 have hlen:=domK_len s key i
 repeat (refine s240_L7v ?_;intros)
 refine JC.cond rfl (fun hc=>?_) (fun hc=>?_)
 ·have hi':=dlt hc
  obtain ⟨x,hx,hd⟩:=drop_at hi'
  have hst:=domK_step (key:=key) hx
  repeat (refine s240_L7v ?_;intros)
  refine JC.cond rfl (fun hv=>?_) (fun hv=>?_)
  ·rw [domStep,if_neg (by simpa using hv)] at hst
   repeat (refine s240_L7v ?_;intros)
   exact JX.roundF ((i+1,ra,rc)) (by exact lea) (by dsimp only;rw [hst];exact ⟨by omega,by exact vta⟩) (by (try dsimp only);omega) rfl (by (try dsimp only);rw [hst];exact sba) (by exact sba)
  ·rw [domStep,if_pos (by simpa using hv)] at hst
   generalize hL:domK s key i=L at *
   have hvs:=hsv x (List.mem_of_getElem? hx)
   generalize hvv:(valB x key).1=v at *
   repeat (refine s240_L7v ?_;intros)
   refine JC.partF0 (σ:=Nat) [(1,_),(2,_),(5,_),(6,_),(7,_)] (fun j=>[(9,.int .i64 j)]) (fun Sj j=>j≤L.length∧(∀ y∈L.take j,ltS y v=true)∧(∀ y,L[j]?=some y→ltS y v=false)) ?_ (by exact sba) ?_;rotate_left;rintro Sj j hlj hij;(try dsimp only at hij);dsimp only [List.cons_append,List.nil_append];rotate_left;refine JC.block ?_
   ·repeat (refine s240_L7v ?_;intros)
    refine JC.loopF0 [(1,_),(2,_),(5,_),(6,_),(7,_)] (fun (j:Nat)=>[(9,.int .i64 j)]) (fun Sj j=>j≤L.length∧(∀ y∈L.take j,ltS y v=true)) (fun j=>L.length - j) 0 (by exact sba) (by exact sba) ⟨Nat.zero_le _,by simp⟩ ?_;intro Sj j hlj hij;obtain ⟨hj,hij⟩:=hij;(try dsimp only at hj hij);dsimp only [List.cons_append,List.nil_append]
    repeat (refine s240_L7v ?_;intros)
    refine JO.guard rfl rfl rfl rfl (fun hc2=>?_) (fun hc2=>?_)
    ·have hj':=dlt hc2
     obtain ⟨y,hy,hd2⟩:=drop_at hj'
     repeat (refine s240_L7v ?_;intros)
     refine JC.cond rfl (fun hc3=>?_) (fun hc3=>?_)
     ·repeat (refine s240_L7v ?_;intros)
      exact JX.roundF (j+1) (by exact lea) ⟨by omega,(by intro z hz;rw [List.take_add_one,hy] at hz;rcases List.mem_append.1 hz with hz|hz;exact hij z hz;simp at hz;subst hz;exact hc3)⟩ (by (try dsimp only);omega) rfl (by exact sba) (by exact sba)
     ·repeat (refine s240_L7v ?_;intros)
      exact JX.partF (j) (by exact lea) (⟨by omega,hij,by intro z hz;rw [hy] at hz;cases hz;exact hc3⟩) rfl (by exact sba) (by exact sba)
    ·have hj':=dnlt hc2
     repeat (refine s240_L7v ?_;intros)
     exact JX.partF (j) (by exact lea) (⟨by omega,hij,by intro z hz;rw [List.getElem?_eq_none hj'] at hz;cases hz⟩) rfl (by exact sba) (by exact sba)
   obtain ⟨hj,hlt,hge⟩:=hij
   obtain ⟨e1,e2⟩:=takeWhile_take (fun y=>ltS y v) L j hlt hge
   repeat (refine s240_L7v ?_;intros)
   refine JO.guard rfl rfl rfl rfl (fun hc4=>?_) (fun hc4=>?_)
   ·have hj':=dlt hc4
    obtain ⟨y,hy,hd2⟩:=drop_at hj'
    repeat (refine s240_L7v ?_;intros)
    refine JC.cond rfl (fun hc5=>?_) (fun hc5=>?_)
    ·have hyv:y=v:=by simpa using hc5
     have:domIns v L=L:=by
      unfold domIns
      rw [e1,e2,hd2];dsimp only;rw [if_pos hyv,← hd2,List.take_append_drop]
     rw [this] at hst
     repeat (refine s240_L7v ?_;intros)
     exact JX.roundF ((i+1,ra,rc)) (by exact lea) (by dsimp only;rw [hst];exact ⟨by omega,by exact vta⟩) (by (try dsimp only);omega) rfl (by (try dsimp only);rw [hst];exact sba) (by exact sba)
    ·have hyv:¬ y=v:=by simpa using hc5
     have hins:domIns v L=L.take j++[v]++L.drop j:=by
      unfold domIns
      rw [e1,e2,hd2];dsimp only;rw [if_neg hyv];simp
     repeat (refine s240_L7v ?_;intros)
     (first|refine JC.newRow 9 1 ?_|refine JO.newRow 9 1 ?_|refine JX.newRow 9 1 ?_)
     repeat (refine s240_L7v ?_;intros)
     refine JO.pure rfl rfl rfl (JPure.sliceS (xs:=L) (rep:=rStr) (bt:=16) rfl (by exact vta) rfl rfl rfl (by omega) (by omega) (by omega) ?_);intro a1 c1 ys1 hys1 hV1 hyl1 hyb1
     repeat (refine s240_L7v ?_;intros)
     (refine JO.eff rfl rfl rfl (JEff.appendS (rep:=rStr) rfl rfl hV1 rfl rfl (List.Perm.refl _) (by unfold big;omega) (by unfold big;omega) (by intro l hl;cases hl) rfl ?_);intro a2 c2 us1 hus1)
     repeat (refine s240_L7v ?_;intros)
     (refine JO.eff rfl rfl rfl (JEff.build (rep:=rStr) (ys:=[v]) rfl rfl ⟨(⟨V_str.2 ⟨rfl,hvs⟩,fun _ _ h=>by cases h⟩),trivial⟩ rfl rfl rfl rfl ?_);intro bb hbb hvv);(repeat (first|(refine Walk ?_;intros)|refine JC.block ?_));(refine JO.eff rfl rfl rfl (JEff.appendL (rep:=rStr) rfl rfl rfl rfl (List.Perm.swap _ _ _) (by exact hvv.flat) (by intro c hc;exact flat_one (fun v hv=>(hvv.size v hv).2) c hc) (by first|omega|(unfold big;omega)) (by unfold big;omega) (by intro l hl;cases hl) rfl ?_);intro a3 c3;clear hvv hbb)
     repeat (refine s240_L7v ?_;intros)
     refine JO.pure rfl rfl rfl (JPure.sliceS (xs:=L) (rep:=rStr) (bt:=16) rfl (by exact vta) rfl rfl rfl (by omega) (by omega) (by omega) ?_);intro a4 c4 ys2 hys2 hV2 hyl2 hyb2
     repeat (refine s240_L7v ?_;intros)
     (refine JO.eff rfl rfl rfl (JEff.appendS (rep:=rStr) rfl rfl hV2 rfl rfl (List.Perm.refl _) (by unfold big;omega) (by unfold big;omega) (by intro l hl;cases hl) rfl ?_);intro a5 c5 us2 hus2)
     repeat (refine s240_L7v ?_;intros)
     simp only [List.nil_append,List.toList_toArray,← flat_append]
     have hlen2:=congrArg List.length hins
     simp only [List.length_append,List.length_cons,List.length_nil,List.length_take,List.length_drop] at hlen2
     have hys:ys1++[v]++ys2=domIns v L:=by
      rw [hins,hys1,hys2,show ((j:Int) - 0).toNat=j by omega,show ((j:Int)).toNat=j by omega,show (Int.toNat 0)=0 by rfl,List.drop_zero,List.take_of_length_le (l:=L.drop j) (by rw [List.length_drop];omega)]
     have hnn:0+ys1.length+1+ys2.length=(domIns v L).length:=by rw [← hys];simp;omega
     refine JX.freezeRow (rep:=rStr) (bt:=16) (xs:=domIns v L) (by rw [← hys];exact allV_three (by exact lea) hus1 (V_str.2 ⟨rfl,hvs⟩) (fun _ _ h=>by cases h) hus2) hnn (by unfold big;omega) (by unfold big;omega) (fun S9 hl9 hV9=>?_)
     rw [hnn] at hV9 ⊢
     exact JX.roundF ((i+1,a5,c5)) (by exact lea) (by dsimp only;rw [hst];exact ⟨by omega,hV9⟩) (by (try dsimp only);omega) rfl (by (try dsimp only);rw [hst];exact sba) (by exact sba)
   ·have hj':=dnlt hc4
    have hins:domIns v L=L.take j++[v]++L.drop j:=by
     unfold domIns
     rw [e1,e2,List.drop_eq_nil_of_le hj'];simp
    repeat (refine s240_L7v ?_;intros)
    (first|refine JC.newRow 9 1 ?_|refine JO.newRow 9 1 ?_|refine JX.newRow 9 1 ?_)
    repeat (refine s240_L7v ?_;intros)
    refine JO.pure rfl rfl rfl (JPure.sliceS (xs:=L) (rep:=rStr) (bt:=16) rfl (by exact vta) rfl rfl rfl (by omega) (by omega) (by omega) ?_);intro a1 c1 ys1 hys1 hV1 hyl1 hyb1
    repeat (refine s240_L7v ?_;intros)
    (refine JO.eff rfl rfl rfl (JEff.appendS (rep:=rStr) rfl rfl hV1 rfl rfl (List.Perm.refl _) (by unfold big;omega) (by unfold big;omega) (by intro l hl;cases hl) rfl ?_);intro a2 c2 us1 hus1)
    repeat (refine s240_L7v ?_;intros)
    (refine JO.eff rfl rfl rfl (JEff.build (rep:=rStr) (ys:=[v]) rfl rfl ⟨(⟨V_str.2 ⟨rfl,hvs⟩,fun _ _ h=>by cases h⟩),trivial⟩ rfl rfl rfl rfl ?_);intro bb hbb hvv);(repeat (first|(refine Walk ?_;intros)|refine JC.block ?_));(refine JO.eff rfl rfl rfl (JEff.appendL (rep:=rStr) rfl rfl rfl rfl (List.Perm.swap _ _ _) (by exact hvv.flat) (by intro c hc;exact flat_one (fun v hv=>(hvv.size v hv).2) c hc) (by first|omega|(unfold big;omega)) (by unfold big;omega) (by intro l hl;cases hl) rfl ?_);intro a3 c3;clear hvv hbb)
    repeat (refine s240_L7v ?_;intros)
    refine JO.pure rfl rfl rfl (JPure.sliceS (xs:=L) (rep:=rStr) (bt:=16) rfl (by exact vta) rfl rfl rfl (by omega) (by omega) (by omega) ?_);intro a4 c4 ys2 hys2 hV2 hyl2 hyb2
    repeat (refine s240_L7v ?_;intros)
    (refine JO.eff rfl rfl rfl (JEff.appendS (rep:=rStr) rfl rfl hV2 rfl rfl (List.Perm.refl _) (by unfold big;omega) (by unfold big;omega) (by intro l hl;cases hl) rfl ?_);intro a5 c5 us2 hus2)
    repeat (refine s240_L7v ?_;intros)
    simp only [List.nil_append,List.toList_toArray,← flat_append]
    have hlen2:=congrArg List.length hins
    simp only [List.length_append,List.length_cons,List.length_nil,List.length_take,List.length_drop] at hlen2
    have hys:ys1++[v]++ys2=domIns v L:=by
     rw [hins,hys1,hys2,show ((j:Int) - 0).toNat=j by omega,show ((j:Int)).toNat=j by omega,show (Int.toNat 0)=0 by rfl,List.drop_zero,List.take_of_length_le (l:=L.drop j) (by rw [List.length_drop];omega)]
    have hnn:0+ys1.length+1+ys2.length=(domIns v L).length:=by rw [← hys];simp;omega
    refine JX.freezeRow (rep:=rStr) (bt:=16) (xs:=domIns v L) (by rw [← hys];exact allV_three (by exact lea) hus1 (V_str.2 ⟨rfl,hvs⟩) (fun _ _ h=>by cases h) hus2) hnn (by unfold big;omega) (by unfold big;omega) (fun S9 hl9 hV9=>?_)
    rw [hnn] at hV9 ⊢
    exact JX.roundF ((i+1,a5,c5)) (by exact lea) (by dsimp only;rw [hst];exact ⟨by omega,hV9⟩) (by (try dsimp only);omega) rfl (by (try dsimp only);rw [hst];exact sba) (by exact sba)
 ·have hi':=dnlt hc
  have hfin:domK s key i=domL s key:=by unfold domK domL;rw [List.take_of_length_le hi']
  rw [hfin] at hV
  repeat (refine s240_L7v ?_;intros)
  (refine JX.ret1 Tryz.results240 (ResV.tmp rfl) (List.nil_sublist _) ?_)
  rw [hfin]
  exact ⟨rfl,hV⟩
end Go.Dr
namespace Go.Dr
open Go.Proofs
set_option maxRecDepth 20000
set_option maxHeartbeats 1000000
set_option linter.unusedSimpArgs false
set_option linter.unusedVariables false
def domSum (s:Snap) (key:ByteArray) (c:List Int) (v:ByteArray) (k:Nat):Int:=((List.range k).map (fun n=>if inDom s key v n=true then at0 c n else 0)).sum
theorem domSum_step (s:Snap) (key:ByteArray) (c:List Int) (v:ByteArray) (k:Nat):domSum s key c v (k+1)=domSum s key c v k+(if inDom s key v k=true then at0 c k else 0):=by
 unfold domSum
 rw [List.range_succ,List.map_append,List.sum_append];simp
theorem domSum_rng {s:Snap} {key:ByteArray} {c:List Int} {v:ByteArray} (h:∀ x∈c,0≤x∧x≤1000):∀ k,0≤domSum s key c v k∧domSum s key c v k≤1000*k
 | 0=>by simp [domSum]
 | k+1=>by
  have ih:=domSum_rng (s:=s) (key:=key) (v:=v) h k
  rw [domSum_step]
  have hk:0≤at0 c k∧at0 c k≤1000:=by
   unfold at0
   rw [List.getD_eq_getElem?_getD]
   cases hc:c[k]? with
   | none=>simp
   | some x=>exact h x (List.mem_of_getElem? hc)
  split<;>omega
theorem counts_rng {s:Snap} {p:List Int} {o:Nat} (h:p.length≤1000) (hlen:p.length=s.pods.length):∀ x∈countsL s p o,0≤x∧x≤1000:=by
 intro x hx
 obtain ⟨n,_,rfl⟩:=List.mem_map.1 hx
 have h1:=List.length_filter_le (fun x=>decide (x=(n:Int))) (ownedL s p o)
 have h2:(ownedL s p o).length≤p.length:=by rw [← ownedK_all hlen];exact ownedK_len _ _ _ _
 omega
theorem countsL_len (s:Snap) (p:List Int) (o:Nat):(countsL s p o).length=s.nodes.length:=by simp [countsL]
theorem s242_L7w {P K:Prop} (k:K) (h:Goal K→P:=by
 intro zk
 (first|refine Walk ?_|refine JC.block ?_|(refine JO.eff rfl rfl rfl (JEff.callV rfl (r7_ValueOf _ (by exact vta)) rfl ?_);intro zqa zqb)|(refine JO.eff rfl rfl rfl (JEff.callL rfl (r7_domains _ (by exact vta) (by omega)) rfl ?_);intro zqa zqb zqc zqd zqe zqf)|(refine JO.eff rfl rfl rfl (JEff.callL rfl (r7_counts _ (by assumption) (by assumption) (by exact vta) (by exact vta)) rfl ?_);intro zqa zqb zqc zqd zqe zqf)|(refine WBox ?_))
 (repeat (first|revert zqg|revert zqf|revert zqe|revert zqd|revert zqc|revert zqb|revert zqa))
 exact zk.k):P:=h ⟨k⟩
theorem r7_SpreadOf {S:SHeap} {u v:Value} {s:Snap} {p:List Int} (o:Nat) (ho:o < s.owners.length) (hok:checkP s p=0) (hu:rSnap.V S u s) (hv:(rSlice 8 rI64).V S v p):FnL Tryz.prog 242 #[u,v,.int .i64 o] S 8 rI64 (spreadL s p o):=by
 obtain ⟨hs,hlen,hodd⟩:=checkP_ok hok
 obtain ⟨hn8,hp24,ho8⟩:=shaped_small (checkS_ok hs).1
 obtain ⟨ow,how⟩:∃ ow,s.owners[o]?=some ow:=⟨_,List.getElem?_eq_getElem ho⟩
 have htp:topoOf s o=ow.topo:=by simp [topoOf,how]
 have hcr:=counts_rng (o:=o) (by omega) hlen
 have hcl:=countsL_len s p o
 have hdl:=domK_len s ow.topo s.nodes.length
 have hsp:spreadL s p o=(domL s ow.topo).map (fun v=>domSum s ow.topo (countsL s p o) v s.nodes.length):=by unfold spreadL;rw [htp];apply List.map_congr_left;intro v _;unfold domCount domSum;rw [htp]
 have hdl:(domL s ow.topo).length≤s.nodes.length:=by unfold domK at hdl;rw [List.take_length] at hdl;exact hdl
 rw [hsp]
 (refine Fn.enter (args:=[u,v,.int .i64 o]) Tryz.func242 rfl Tryz.ntmps242 rfl ?_;intro w0)
 repeat (refine s242_L7w ?_;intros)
 generalize countsL s p o=c at *
 generalize domL s ow.topo=D at *
 (first|refine JC.newRow 3 1 ?_|refine JO.newRow 3 1 ?_|refine JX.newRow 3 1 ?_)
 refine JC.loopF (σ:=Nat × Option Addr × Nat × List Value) [(3,_),(8,_),(9,_),(10,_)] (fun q=>[(7,.slice q.2.1 ((fun i=>(D.take i).map (fun v=>domSum s ow.topo c v s.nodes.length)) q.1).length q.2.2.1),(11,((fun i=>.int .i64 i) q.1))]) (fun q=>[.row w0.heap.size 3 (Rp.sz rI64) (.slice q.2.1 ((fun i=>(D.take i).map (fun v=>domSum s ow.topo c v s.nodes.length)) q.1).length q.2.2.1) ((fun i=>(D.take i).map (fun v=>domSum s ow.topo c v s.nodes.length)) q.1).length (flatCells q.2.2.2)]) (fun Si q=>q.1≤D.length∧allV rI64 Si q.2.2.2 ((fun i=>(D.take i).map (fun v=>domSum s ow.topo c v s.nodes.length)) q.1)∧((fun i=>True) q.1)) (fun q=>D.length - q.1) (0,none,0,[]) (by exact sba) (by exact sba) (by first|rfl|simp) (⟨Nat.zero_le _,trivial,trivial⟩) ?_;rintro Si ⟨i,rai,rci,vsi⟩ hli ⟨hi,hvi,hii⟩;(try dsimp only at hi hvi hii);dsimp only [List.cons_append,List.nil_append]
 repeat (refine s242_L7w ?_;intros)
 refine JC.cond rfl (fun hc=>?_) (fun hc=>?_)
 ·have hi':=dlt hc
  obtain ⟨d,hd,_⟩:=drop_at hi'
  have hst:(D.take (i+1)).map (fun v=>domSum s ow.topo c v s.nodes.length)=(D.take i).map (fun v=>domSum s ow.topo c v s.nodes.length)++[domSum s ow.topo c d s.nodes.length]:=by rw [List.take_add_one,hd];simp
  have hrr:=domSum_rng (s:=s) (key:=ow.topo) (v:=d) hcr s.nodes.length
  have hln:((D.take i).map (fun v=>domSum s ow.topo c v s.nodes.length)).length≤1000:=by rw [List.length_map,List.length_take];omega
  repeat (refine s242_L7w ?_;intros)
  refine JC.loopF0 [(3,_),(7,_),(8,_),(9,_),(10,_),(11,_)] (fun (k:Nat)=>[(12,.int .i64 (domSum s ow.topo c d k)),(13,.int .i64 k)]) (fun Sk k=>k≤c.length∧(True)) (fun k=>c.length - k) 0 (by exact sba) (by exact sba) ⟨Nat.zero_le _,trivial⟩ ?_;intro Sk k hlk hik;obtain ⟨hk,hik⟩:=hik;(try dsimp only at hk hik);dsimp only [List.cons_append,List.nil_append]
  repeat (refine s242_L7w ?_;intros)
  refine JC.cond rfl (fun hc2=>?_) (fun hc2=>?_)
  ·have hk':=dlt hc2
   obtain ⟨y,hy,_⟩:=drop_at hk'
   obtain ⟨nd,hnd⟩:∃ nd,s.nodes[k]?=some nd:=⟨_,List.getElem?_eq_getElem (by omega)⟩
   have hs2:=domSum_step s ow.topo c d k
   have hr2:=domSum_rng (s:=s) (key:=ow.topo) (v:=d) hcr k
   have hy2:=hcr y (List.mem_of_getElem? hy)
   have hin:inDom s ow.topo d k=((valB nd ow.topo).2&&decide ((valB nd ow.topo).1=d)):=by simp [inDom,hnd]
   rw [hin,at0_some hy] at hs2
   cases hb:((valB nd ow.topo).2&&decide ((valB nd ow.topo).1=d)) with
   | true=>
    rw [hb,if_pos rfl] at hs2
    repeat' (first|(refine s242_L7w ?_;intros)|(refine JO.guard rfl rfl rfl rfl ?_ ?_<;>intro _)|(refine JC.cond rfl ?_ ?_<;>intro _))
    all_goals first
     | (refine JX.roundF (k+1) (by exact lea) ⟨by omega,(trivial)⟩ (by (try dsimp only);omega) rfl ?_ (by exact sba);(try dsimp only);rw [hs2];exact sba;done)
     | (exfalso;clear hs2 hst;simp_all;done)
   | false=>
    rw [hb,if_neg (by simp),Int.add_zero] at hs2
    repeat' (first|(refine s242_L7w ?_;intros)|(refine JO.guard rfl rfl rfl rfl ?_ ?_<;>intro _)|(refine JC.cond rfl ?_ ?_<;>intro _))
    all_goals first
     | (refine JX.roundF (k+1) (by exact lea) ⟨by omega,(trivial)⟩ (by (try dsimp only);omega) rfl ?_ (by exact sba);(try dsimp only);rw [hs2];exact sba;done)
     | (exfalso;clear hs2 hst;simp_all;done)
  ·have hk':=dnlt hc2
   obtain rfl:k=s.nodes.length:=by omega
   repeat (refine s242_L7w ?_;intros)
   (refine JO.eff rfl rfl rfl (JEff.build (rep:=rI64) (ys:=[domSum s ow.topo c d s.nodes.length]) rfl rfl ⟨⟨(V_i64.2 ⟨rfl,by unfold Rng;omega⟩),nna⟩,trivial⟩ rfl rfl rfl rfl ?_);intro bb hbb hvv);(repeat (first|(refine Walk ?_;intros)|refine JC.block ?_));(refine JO.eff rfl rfl rfl (JEff.appendL (rep:=rI64) rfl rfl rfl rfl (List.Perm.swap _ _ _) (by exact hvv.flat) (by intro c hc;exact flat_one (fun v hv=>(hvv.size v hv).2) c hc) (by first|omega|(unfold big;omega)) (by unfold big;omega) (by first|exact rowT_ok|(intro l hl;cases hl)) rfl ?_);intro a2 c2;clear hvv hbb)
   repeat (refine s242_L7w ?_;intros)
   exact JX.roundF (i+1,a2,c2,vsi++[(.int .i64 (domSum s ow.topo c d s.nodes.length))]) (by exact lea) ⟨by omega,by (try dsimp only);rw [hst];exact allV_add (by exact lea) hvi (V_i64.2 ⟨rfl,by unfold Rng;omega⟩) nna,(trivial)⟩ (by (try dsimp only);omega) (by (try dsimp only);rw [hst];(simp [flat_append]<;>omega)) (by (try dsimp only);rw [hst];simp only [List.length_append,List.length_cons,List.length_nil];exact sba) (by exact sba)
 ·have hi':=dnlt hc
  rw [List.take_of_length_le hi'] at hvi ⊢
  have hl9:(D.map (fun v=>domSum s ow.topo c v s.nodes.length)).length≤1000:=by rw [List.length_map];omega
  repeat (refine s242_L7w ?_;intros)
  refine JX.freezeRow (rep:=rI64) (bt:=8) hvi rfl (by unfold big;omega) (by unfold big;omega) (fun S9 hl9 hV9=>?_)
  (refine JX.ret1 Tryz.results242 (ResV.tmp rfl) (List.nil_sublist _) ?_)
  exact ⟨rfl,hV9⟩
end Go.Dr
namespace Go.Dr
def near8 (s:Snap) (a b:Nat) (key:ByteArray):Bool:=
 match s.nodes[a]?,s.nodes[b]? with
 | some x,some y=>(valB x key).2&&(valB y key).2&&decide ((valB x key).1=(valB y key).1)
 | _,_=>false
def termsN (l:List Term) (labels:List Label):Int:=(l.filter (fun t=>!holdsB [t] labels)).length
def taintsN (l bears:List Label):Int:=(l.filter (fun t=>!bearsB bears [t])).length
def single8 (s:Snap) (name:ByteArray):Bool:=match s.owners.find? (fun o=>decide (o.name=name)) with|some o=>o.single|none=>false
theorem filt_take {α:Type} {l:List α} {f:α→Bool} {k:Nat} {x:α} (h:l[k]?=some x):(((l.take (k+1)).filter f).length:Int)=((l.take k).filter f).length+(if f x=true then 1 else 0):=by
 rw [List.take_add_one,h]
 cases hf:f x<;>simp [List.filter_append,List.filter_cons,hf]
theorem filt_le {α:Type} (l:List α) (f:α→Bool) (k:Nat):((l.take k).filter f).length≤k:=Nat.le_trans (List.length_filter_le _ _) (by simp;omega)
theorem cut1 {α:Type} {l:List α} {k:Nat} {x:α} (h:l[k]?=some x):(l.drop ((k:Int)).toNat).take ((k:Int)+1 - (k:Int)).toNat=[x]:=by
 obtain ⟨hl,hx⟩:=List.getElem?_eq_some_iff.1 h
 have e:((k:Int)+1 - (k:Int)).toNat=1:=by omega
 have e2:((k:Int)).toNat=k:=by omega
 rw [e,e2,List.drop_eq_getElem_cons hl,hx];rfl
end Go.Dr
namespace Go.Dr
open Go.Proofs
set_option maxRecDepth 20000
set_option maxHeartbeats 1000000
set_option linter.unusedSimpArgs false
set_option linter.unusedVariables false
theorem r8_near {S:SHeap} {u:Value} {s:Snap} (a b:Nat) (key:ByteArray) (ha:a < s.nodes.length) (hb:b < s.nodes.length) (hu:rSnap.V S u s):FnV Tryz.prog 361 #[u,.int .i64 a,.int .i64 b,.string key] S (.bool (near8 s a b key)):=by
 obtain ⟨x,hx⟩:∃ x,s.nodes[a]?=some x:=⟨_,List.getElem?_eq_getElem ha⟩
 obtain ⟨y,hy⟩:∃ y,s.nodes[b]?=some y:=⟨_,List.getElem?_eq_getElem hb⟩
 (refine Fn.enter (args:=[u,.int .i64 a,.int .i64 b,.string key]) Tryz.func361 rfl Tryz.ntmps361 rfl ?_;intro w0)
 repeat (first|(refine Walk ?_;intros)|refine JC.block ?_)
 (refine JO.eff rfl rfl rfl (JEff.boxS rfl (by exact vta) nna rfl ?_);intro S0 pa l0 hp)
 repeat (first|(refine Walk ?_;intros)|refine JC.block ?_)
 (refine JO.eff rfl rfl rfl (JEff.callV rfl (r7_ValueOf key (by exact vta)) rfl ?_);intro _ _)
 repeat (first|(refine Walk ?_;intros)|refine JC.block ?_)
 (refine JO.eff rfl rfl rfl (JEff.callV rfl (r7_ValueOf key (by exact vta)) rfl ?_);intro _ _)
 repeat' (first|(refine Walk ?_;intros)|refine JC.block ?_|(refine JO.guard rfl rfl rfl rfl ?_ ?_<;>intro _)|(refine JC.cond rfl ?_ ?_<;>intro _))
 all_goals (refine JX.ret1 Tryz.results361 (ResV.tmp rfl) (List.nil_sublist _) ?_;refine ⟨rfl,?_⟩;simp only [near8,hx,hy];simp [*])
theorem r8_single {S:SHeap} {u:Value} {s:Snap} (name:ByteArray) (hu:rSnap.V S u s):FnV Tryz.prog 328 #[u,.string name] S (.bool (single8 s name)):=by
 (refine Fn.enter (args:=[u,.string name]) Tryz.func328 rfl Tryz.ntmps328 rfl ?_;intro w0)
 repeat (first|(refine Walk ?_;intros)|refine JC.block ?_)
 (refine JO.eff rfl rfl rfl (JEff.boxS rfl (by exact vta) nna rfl ?_);intro S0 pa l0 hp)
 repeat (first|(refine Walk ?_;intros)|refine JC.block ?_)
 refine JC.loop (σ:=SHeap × Nat) (fun q=>q.1) (fun _=>[]) (fun q=>[(1,.string name),(2,.pointer (some pa)),(5,.int .i64 q.2)]) (fun q=>S0.le q.1∧q.2≤s.owners.length∧((s.owners.drop q.2).find? (fun o=>decide (o.name=name))=s.owners.find? (fun o=>decide (o.name=name)))) (fun q=>s.owners.length - q.2) (S0,0) ⟨SHeap.le.refl _,Nat.zero_le _,rfl⟩ rfl rfl (by exact sba) ?_;rintro ⟨S1,k⟩ ⟨hl1,hk,hi⟩;dsimp only at hl1 hk hi ⊢
 repeat (first|(refine Walk ?_;intros)|refine JC.block ?_)
 refine JC.cond rfl (fun hc=>?_) (fun hc=>?_)
 ·have hk':=dlt hc
  obtain ⟨x,hx,hd⟩:=drop_at hk'
  rw [hd,List.find?_cons] at hi
  repeat (first|(refine Walk ?_;intros)|refine JC.block ?_)
  refine JC.cond rfl (fun h1=>?_) (fun h1=>?_)
  ·rw [h1] at hi
   repeat (first|(refine Walk ?_;intros)|refine JC.block ?_)
   refine JX.ret1 Tryz.results328 (ResV.tmp rfl) (List.nil_sublist _) ?_
   exact ⟨rfl,by rw [single8,← hi]⟩
  ·rw [h1] at hi
   repeat (first|(refine Walk ?_;intros)|refine JC.block ?_)
   exact JX.round (_,k+1) ⟨by exact lea,hk',hi⟩ (by simp;omega) rfl rfl (by exact sba)
 ·have hk':=dnlt hc
  rw [List.drop_eq_nil_of_le hk'] at hi
  repeat (first|(refine Walk ?_;intros)|refine JC.block ?_)
  refine JX.ret1 Tryz.results328 (ResV.tmp rfl) (List.nil_sublist _) ?_
  exact ⟨rfl,by rw [single8,← hi];rfl⟩
theorem r8_terms {S:SHeap} {u v:Value} {l:List Term} {labels:List Label} (hu:(rSlice 40 rTerm).V S u l) (hv:(rSlice 32 rLabel).V S v labels):FnV Tryz.prog 325 #[u,v] S (.int .i64 (termsN l labels)):=by
 obtain ⟨a,c,rfl,_,_,hb,_⟩:=V_slice.1 hu
 unfold big at hb
 (refine Fn.enter (args:=[.slice a l.length c,v]) Tryz.func325 rfl Tryz.ntmps325 rfl ?_;intro w0)
 repeat (first|(refine Walk ?_;intros)|refine JC.block ?_)
 refine JC.loop (σ:=SHeap × Nat) (fun q=>q.1) (fun _=>[]) (fun q=>[(0,.slice a l.length c),(1,v),(5,.int .i64 ((l.take q.2).filter (fun t=>!holdsB [t] labels)).length),(6,.int .i64 q.2)]) (fun q=>S.le q.1∧q.2≤l.length∧(True)) (fun q=>l.length - q.2) (S,0) ⟨SHeap.le.refl _,Nat.zero_le _,trivial⟩ rfl rfl (by exact sba) ?_;rintro ⟨S1,k⟩ ⟨hl1,hk,hi⟩;dsimp only at hl1 hk hi ⊢
 repeat (first|(refine Walk ?_;intros)|refine JC.block ?_)
 refine JC.cond rfl (fun hc=>?_) (fun hc=>?_)
 ·have hk':=dlt hc
  obtain ⟨x,hx,hd⟩:=drop_at hk'
  have hst:=filt_take (f:=fun t=>!holdsB [t] labels) hx
  have hle:=filt_le l (fun t=>!holdsB [t] labels) k
  repeat (first|(refine Walk ?_;intros)|refine JC.block ?_)
  refine JO.pure rfl rfl rfl (JPure.sliceS (xs:=l) (rep:=rTerm) (bt:=40) rfl (by exact vta) rfl rfl rfl (by omega) (by omega) (by omega) ?_);intro a1 c1 ys hys hV hyl hyb
  rw [cut1 hx] at hys
  subst hys
  repeat (first|(refine Walk ?_;intros)|refine JC.block ?_)
  (refine JO.eff rfl rfl rfl (JEff.callV rfl (r3_Holds (by exact vta) (by exact vta)) rfl ?_);intro _ _)
  repeat (first|(refine Walk ?_;intros)|refine JC.block ?_)
  refine JC.cond rfl (fun h1=>?_) (fun h1=>?_)
  ·rw [h1,if_pos rfl] at hst
   repeat (first|(refine Walk ?_;intros)|refine JC.block ?_)
   exact JX.round (_,k+1) ⟨by exact lea,hk',trivial⟩ (by simp;omega) rfl rfl (by dsimp only;rw [hst];exact sba)
  ·rw [h1,if_neg (by simp),Int.add_zero] at hst
   repeat (first|(refine Walk ?_;intros)|refine JC.block ?_)
   exact JX.round (_,k+1) ⟨by exact lea,hk',trivial⟩ (by simp;omega) rfl rfl (by dsimp only;rw [hst];exact sba)
 ·have hk':=dnlt hc
  rw [List.take_of_length_le hk']
  repeat (first|(refine Walk ?_;intros)|refine JC.block ?_)
  refine JX.ret1 Tryz.results325 (ResV.tmp rfl) (List.nil_sublist _) ?_
  exact ⟨rfl,rfl⟩
theorem r8_taints {S:SHeap} {u v:Value} {l bears:List Label} (hu:(rSlice 32 rLabel).V S u l) (hv:(rSlice 32 rLabel).V S v bears):FnV Tryz.prog 326 #[u,v] S (.int .i64 (taintsN l bears)):=by
 obtain ⟨a,c,rfl,_,_,hb,_⟩:=V_slice.1 hu
 unfold big at hb
 (refine Fn.enter (args:=[.slice a l.length c,v]) Tryz.func326 rfl Tryz.ntmps326 rfl ?_;intro w0)
 repeat (first|(refine Walk ?_;intros)|refine JC.block ?_)
 refine JC.loop (σ:=SHeap × Nat) (fun q=>q.1) (fun _=>[]) (fun q=>[(0,.slice a l.length c),(1,v),(5,.int .i64 ((l.take q.2).filter (fun t=>!bearsB bears [t])).length),(6,.int .i64 q.2)]) (fun q=>S.le q.1∧q.2≤l.length∧(True)) (fun q=>l.length - q.2) (S,0) ⟨SHeap.le.refl _,Nat.zero_le _,trivial⟩ rfl rfl (by exact sba) ?_;rintro ⟨S1,k⟩ ⟨hl1,hk,hi⟩;dsimp only at hl1 hk hi ⊢
 repeat (first|(refine Walk ?_;intros)|refine JC.block ?_)
 refine JC.cond rfl (fun hc=>?_) (fun hc=>?_)
 ·have hk':=dlt hc
  obtain ⟨x,hx,hd⟩:=drop_at hk'
  have hst:=filt_take (f:=fun t=>!bearsB bears [t]) hx
  have hle:=filt_le l (fun t=>!bearsB bears [t]) k
  repeat (first|(refine Walk ?_;intros)|refine JC.block ?_)
  refine JO.pure rfl rfl rfl (JPure.sliceS (xs:=l) (rep:=rLabel) (bt:=32) rfl (by exact vta) rfl rfl rfl (by omega) (by omega) (by omega) ?_);intro a1 c1 ys hys hV hyl hyb
  rw [cut1 hx] at hys
  subst hys
  repeat (first|(refine Walk ?_;intros)|refine JC.block ?_)
  (refine JO.eff rfl rfl rfl (JEff.callV rfl (r3_Bears (by exact vta) (by exact vta)) rfl ?_);intro _ _)
  repeat (first|(refine Walk ?_;intros)|refine JC.block ?_)
  refine JC.cond rfl (fun h1=>?_) (fun h1=>?_)
  ·rw [h1,if_pos rfl] at hst
   repeat (first|(refine Walk ?_;intros)|refine JC.block ?_)
   exact JX.round (_,k+1) ⟨by exact lea,hk',trivial⟩ (by simp;omega) rfl rfl (by dsimp only;rw [hst];exact sba)
  ·rw [h1,if_neg (by simp),Int.add_zero] at hst
   repeat (first|(refine Walk ?_;intros)|refine JC.block ?_)
   exact JX.round (_,k+1) ⟨by exact lea,hk',trivial⟩ (by simp;omega) rfl rfl (by dsimp only;rw [hst];exact sba)
 ·have hk':=dnlt hc
  rw [List.take_of_length_le hk']
  repeat (first|(refine Walk ?_;intros)|refine JC.block ?_)
  refine JX.ret1 Tryz.results326 (ResV.tmp rfl) (List.nil_sublist _) ?_
  exact ⟨rfl,rfl⟩
end Go.Dr
namespace Go.Dr
def cntI (n:Nat) (f:Nat→Bool):Int:=((List.range n).filter f).length
theorem cntI_step (n:Nat) (f:Nat→Bool):cntI (n+1) f=cntI n f+(if f n=true then 1 else 0):=by
 unfold cntI
 rw [List.range_succ,List.filter_append]
 cases hf:f n<;>simp [hf]
theorem cntI_rng (n:Nat) (f:Nat→Bool):0≤cntI n f∧cntI n f≤n:=by
 unfold cntI
 have:=List.length_filter_le f (List.range n)
 simp at this ⊢;omega
def aboutF (s:Snap) (p:List Int) (i:Nat) (x:Near) (others:Bool) (j:Nat):Bool:=
 match p[j]?,s.pods[j]?,p[i]? with
 | some n,some q,some m=>decide (0≤n)&&!(others&&decide (j=i))&&near8 s n.toNat m.toNat x.topo&&holdsB x.terms q.labels
 | _,_,_=>false
def about8 (s:Snap) (p:List Int) (i:Nat) (x:Near) (others:Bool):Int:=cntI p.length (aboutF s p i x others)
def doubleF (s:Snap) (p:List Int) (i:Nat) (j:Nat):Bool:=
 match p[j]?,s.pods[j]?,p[i]?,s.pods[i]? with
 | some n,some q,some m,some r=>!decide (j=i)&&decide (n=m)&&decide (q.owner=r.owner)
 | _,_,_,_=>false
def double8 (s:Snap) (p:List Int) (i:Nat):Int:=cntI p.length (doubleF s p i)
end Go.Dr
namespace Go.Dr
open Go.Proofs
set_option maxRecDepth 20000
set_option maxHeartbeats 1000000
set_option linter.unusedSimpArgs false
set_option linter.unusedVariables false
theorem r8_doubles {S:SHeap} {u v:Value} {s:Snap} {p:List Int} (i:Nat) (hi:i < p.length) (hlen:p.length=s.pods.length) (hu:rSnap.V S u s) (hv:(rSlice 8 rI64).V S v p):FnV Tryz.prog 329 #[u,v,.int .i64 i] S (.int .i64 (double8 s p i)):=by
 obtain ⟨a,c,rfl,_,_,hb,_⟩:=V_slice.1 hv
 unfold big at hb
 obtain ⟨m,hm⟩:∃ m,p[i]?=some m:=⟨_,List.getElem?_eq_getElem hi⟩
 obtain ⟨r,hr⟩:∃ r,s.pods[i]?=some r:=⟨_,List.getElem?_eq_getElem (by omega)⟩
 (refine Fn.enter (args:=[u,.slice a p.length c,.int .i64 i]) Tryz.func329 rfl Tryz.ntmps329 rfl ?_;intro w0)
 repeat (first|(refine Walk ?_;intros)|refine JC.block ?_)
 (refine JO.eff rfl rfl rfl (JEff.boxS rfl (by exact vta) nna rfl ?_);intro S0 pa l0 hp)
 repeat (first|(refine Walk ?_;intros)|refine JC.block ?_)
 refine JC.loop (σ:=SHeap × Nat) (fun q=>q.1) (fun _=>[]) (fun q=>[(1,.slice a p.length c),(2,.int .i64 i),(3,.pointer (some pa)),(7,.int .i64 (cntI q.2 (doubleF s p i))),(8,.int .i64 q.2)]) (fun q=>S0.le q.1∧q.2≤p.length∧(True)) (fun q=>p.length - q.2) (S0,0) ⟨SHeap.le.refl _,Nat.zero_le _,trivial⟩ rfl rfl (by exact sba) ?_;rintro ⟨S1,k⟩ ⟨hl1,hk,hi⟩;dsimp only at hl1 hk hi ⊢
 repeat (first|(refine Walk ?_;intros)|refine JC.block ?_)
 refine JC.cond rfl (fun hc=>?_) (fun hc=>?_)
 ·have hk':=dlt hc
  obtain ⟨n,hn,hd⟩:=drop_at hk'
  obtain ⟨x,hx⟩:∃ x,s.pods[k]?=some x:=⟨_,List.getElem?_eq_getElem (by omega)⟩
  have hst:=cntI_step k (doubleF s p i)
  have hrg:=cntI_rng k (doubleF s p i)
  have hf:doubleF s p i k=(!decide (k=i)&&decide (n=m)&&decide (x.owner=r.owner)):=by simp [doubleF,hn,hx,hm,hr]
  have hki:decide ((k:Int)=(i:Int))=decide (k=i):=by rw [Bool.eq_iff_iff];simp;omega
  rw [hf] at hst
  clear hd hf
  repeat (first|(refine Walk ?_;intros)|refine JC.block ?_)
  refine JC.drawT [0,1,2,3,4,5,6,7,8,9,10,11,12,13,14,15,16,17,18,19,20,21,22,23,24,25,26,27,28] [0,1,2,3,4,5,6,7,8,9,10,11,12,13,14,15,16,17,18,19,20,21,22,23,24,25,26,27,28] [] Tryz_mixed (by decide +kernel) (by simp [MEnt.own]) ?_
  repeat' (first|(refine Walk ?_;intros)|refine JC.block ?_|(refine JO.guard rfl rfl rfl rfl ?_ ?_<;>intro _)|(refine JC.cond rfl ?_ ?_<;>intro _))
  all_goals
   cases h9:(!decide (k=i)&&decide (n=m)&&decide (x.owner=r.owner)) with
   | false=>
    rw [h9,if_neg (by simp),Int.add_zero] at hst
    first
     | (refine JX.round (_,k+1) ⟨by exact lea,hk',trivial⟩ (by simp;omega) rfl rfl ?_;dsimp only;rw [hst];exact sba;done)
     | (exfalso;clear hst;simp_all;done)
   | true=>
    rw [h9,if_pos rfl] at hst
    first
     | (refine JX.round (_,k+1) ⟨by exact lea,hk',trivial⟩ (by simp;omega) rfl rfl ?_;dsimp only;rw [hst];exact sba;done)
     | (exfalso;clear hst;simp_all;done)
 ·have hk':=dnlt hc
  obtain rfl:k=p.length:=by omega
  repeat (first|(refine Walk ?_;intros)|refine JC.block ?_)
  refine JX.ret1 Tryz.results329 (ResV.tmp rfl) (List.nil_sublist _) ?_
  exact ⟨rfl,rfl⟩
end Go.Dr
