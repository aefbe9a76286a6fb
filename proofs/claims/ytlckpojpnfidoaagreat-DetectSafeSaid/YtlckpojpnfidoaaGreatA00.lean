/- Part 1 of the rules and of the walks that the proofs of this seat rest on; no condition. -/
import Derived.OrdersIn
import Derived.Below
import Derived.Maps.AppendAt
import Derived.Laws.Cells
import Derived.Laws.OwnMore
import Derived.Laws.Sem
import Derived.Laws.Entries
import Derived.Laws.Small
import Derived.Laws.Strings
import Derived.ControlIn
import Derived.Lib.Bytealg
import Derived.Laws.CopyRow
import Derived.Laws.Externs
import Derived.Laws.RangeString
set_option linter.unusedVariables false
set_option linter.unusedSimpArgs false
namespace Go.Dr
open Go.RowKit
def FR (r:Option Nat):Fence:={ fn:=fun _=>True,depth:=none,alive:=false,round:=r }
def SubX (T:Nat→Prop) (w w':World):Prop:=∀ b o,¬ T b→w.heap[b]?=some o→w'.heap[b]?=some o
theorem SubX.refl (T:Nat→Prop) (w:World):SubX T w w:=fun _ _ _ h=>h
theorem SubX.trans {T:Nat→Prop} {a b c:World} (h:SubX T a b) (k:SubX T b c):SubX T a c:=fun i o hi ho=>k i o hi (h i o hi ho)
theorem SubX.mono {T T':Nat→Prop} {a b:World} (h:SubX T a b) (ht:∀ x,T x→T' x):SubX T' a b:=fun i o hi ho=>h i o (fun hx=>hi (ht _ hx)) ho
def mildOp:Op→Bool
 | .alloc _|.box ..|.buildSlice ..|.makeSlice ..=>true
 | _=>false
def TE (T:Nat→Prop) (o:Oper):Nat→Prop:=cond (mildOp o.op) (fun _=>False) T
theorem TE_le {T:Nat→Prop} {o:Oper}:∀ x,TE T o x→T x:=by
 intro x h
 unfold TE at h
 cases hm:mildOp o.op<;>rw [hm] at h
 ·exact h
 ·exact h.elim
theorem TE_mild {T T':Nat→Prop} {o:Oper} (hm:mildOp o.op=true):∀ x,TE T o x→T' x:=by
 intro x h
 unfold TE at h
 rw [hm] at h
 exact h.elim
section
variable (r:Option Nat) (P:Program) (ops:Array Oper) (eff:Nat→Bool) (anch:Nat→Bool) (Q:(Nat→Prop)→Act→World→Prop)
def NoExit:Exit→Act→World→Prop:=fun _ _ _=>False
def DF:(Nat→Prop)→List Nat→Act→World→Prop
 | T,[],a,w=>Q T a w
 | T0,i::rest,a,w=>∃ T:Nat→Prop,(∀ b,T b→T0 b)∧∃ o,ops[i]?=some o ∧
  if Region.wanted o (yielded ops a.tmps)=true then
   if eff i=true then o.wpIn (FR r) 0 P a w (fun a' w'=>SubX (TE T o) w w'∧DF T rest a' w') NoExit
   else ∃ v,(∀ w',SubX (if anch i=true then fun _=>False else T) w w'→(execOp a.eval o).run P w'=.ok (.value v) w')∧DF T rest (a.put o.dst v) w
  else DF T rest (a.put o.dst undef) w
end
section
variable {r:Option Nat} {P:Program} {ops:Array Oper} {eff:Nat→Bool} {anch:Nat→Bool} {T:Nat→Prop} {Q:(Nat→Prop)→Act→World→Prop}
theorem DF.cons_mono {i:Nat} {R R':List Nat} (h:∀ T a w,DF r P ops eff anch Q T R a w→DF r P ops eff anch Q T R' a w) {a:Act} {w:World}
  (hd:DF r P ops eff anch Q T (i::R) a w):DF r P ops eff anch Q T (i::R') a w:=by
 simp only [DF] at hd ⊢
 obtain ⟨T1,hT1,o,ho,hd⟩:=hd
 refine ⟨T1,hT1,o,ho,?_⟩
 split at hd
 ·rename_i hw
  rw [if_pos hw]
  split at hd
  ·rename_i he
   rw [if_pos he]
   exact Oper.wpIn_mono (fun a w hh=>⟨hh.1,h _ _ _ hh.2⟩) hd
  ·rename_i he
   rw [if_neg he]
   obtain ⟨v,hv,hd⟩:=hd
   exact ⟨v,hv,h _ _ _ hd⟩
 ·rename_i hw
  rw [if_neg hw]
  exact h _ _ _ hd
def tame (o:Oper):Bool:=match o.op with|.select ..|.defer _|.go _=>false|_=>true
theorem tame_select {o:Oper} (h:tame o=true):∀ cs b,o.op≠.select cs b:=by
 intro cs b hc;simp [tame,hc] at h
theorem tame_defer {o:Oper} (h:tame o=true):∀ c,o.op≠.defer c:=by
 intro c hc;simp [tame,hc] at h
theorem eff_put {ox oi:Oper} {v:Value} (hap:ox.apart ops oi=true) (hsx:tame ox=true) (hsi:tame oi=true)
  {K:Act→World→Prop} {a:Act} {w:World} (h:oi.wpIn (FR r) 0 P (a.put ox.dst v) w K NoExit) :
  oi.wpIn (FR r) 0 P a w (fun a' w'=>(execOp a'.eval ox=execOp a.eval ox∧Region.wanted ox (yielded ops a'.tmps)=Region.wanted ox (yielded ops a.tmps))∧K (a'.put ox.dst v) w') NoExit:=by
 obtain ⟨h1,h2,h3⟩:=Oper.apart_spec hap
 have keep:∀ (b:Act) (u:Value),execOp (b.put oi.dst u).eval ox=execOp b.eval ox∧Region.wanted ox (yielded ops (b.put oi.dst u).tmps)=Region.wanted ox (yielded ops b.tmps):=
  fun b u=>⟨execOp_put ox (tame_select hsx) b oi.dst u h3,wanted_put ox b oi.dst u h3⟩
 have keepD:∀ (d:Deferred) (u:Value),execOp (({ a with defers:=d::a.defers }:Act).put oi.dst u).eval ox=execOp a.eval ox∧Region.wanted ox (yielded ops (({ a with defers:=d::a.defers }:Act).put oi.dst u).tmps)=Region.wanted ox (yielded ops a.tmps):=
  fun d u=>⟨(keep { a with defers:=d::a.defers } u).1,(keep { a with defers:=d::a.defers } u).2⟩
 unfold Oper.wpIn at *
 rw [about_put oi w a ox.dst v h1] at h
 refine ⟨h.1,?_⟩
 have h:=h.2
 rw [Oper.semAt_eq _ _ _ (tame_defer hsi),execOp_put oi (tame_select hsi) a ox.dst v h1] at h
 rw [Oper.semAt_eq _ _ _ (tame_defer hsi)]
 generalize (execOp a.eval oi).run P w=q at *
 cases q with
 | ok x w'=>
  cases x<;>simp only [Oper.uponIn] at h ⊢
  case value u=>exact ⟨keep a u,by rw [← Act.put_comm a v u h2];exact h⟩
  case skip=>exact ⟨keep a _,by rw [← Act.put_comm a v undef h2];exact h⟩
  case defer d=>
   refine ⟨keepD d _,?_⟩
   rw [← Act.put_comm _ v undef h2,← Act.put_defers]
   exact h
  case enter f args=>
   refine ⟨h.1,CallsIn.mono h.2 fun e w'' he=>?_⟩
   cases e with
   | returned u=>exact ⟨keep a u,by rw [← Act.put_comm a v u h2];exact he⟩
   | panicked c=>exact he
   | outgrown=>exact he
  case row row args=>exact ⟨h.1,RowsIn.mono h.2 fun u w'' he=>⟨keep a u,by rw [← Act.put_comm a v u h2];exact he⟩⟩
  case round l f tmps assign body=>
   refine ⟨h.1,RoundIn.mono h.2 fun e w'' he=>?_⟩
   cases e with
   | returned u=>exact ⟨keep a u,by rw [← Act.put_comm a v u h2];exact he⟩
   | panicked c=>exact he
   | outgrown=>exact he
 | halt x w'=>
  cases x<;>simp only [Oper.uponIn] at h ⊢
  case panic u=>exact h.elim
theorem DF.swap {x i:Nat} {ox oi:Oper} {R:List Nat} {a:Act} {w:World} (hx:ops[x]?=some ox) (hi:ops[i]?=some oi) (hex:eff x=false)
  (hap:ox.apart ops oi=true) (htx:tame ox=true) (hti:tame oi=true) (han:eff i=true→anch x=false∨mildOp oi.op=true)
  (h:DF r P ops eff anch Q T (x::i::R) a w):DF r P ops eff anch Q T (i::x::R) a w:=by
 obtain ⟨h1,h2,h3⟩:=Oper.apart_spec hap
 simp only [DF] at h ⊢
 obtain ⟨T1,hT1,ox',hox',h⟩:=h
 obtain rfl:ox=ox':=by rw [hx] at hox';exact Option.some.inj hox'
 -- what x comes to
 by_cases hwx:Region.wanted ox (yielded ops a.tmps)=true
 ·rw [if_pos hwx,if_neg (by simp [hex])] at h
  obtain ⟨v,hv,T2,hT2,oi',hoi',h⟩:=h
  obtain rfl:oi=oi':=by rw [hi] at hoi';exact Option.some.inj hoi'
  rw [wanted_put oi a ox.dst v h1] at h
  refine ⟨T2,fun b hb=>hT1 b (hT2 b hb),oi,hi,?_⟩
  have less:∀ w',SubX (if anch x=true then fun _=>False else T2) w w'→SubX (if anch x=true then fun _=>False else T1) w w':=fun w' hs=>hs.mono (by
   intro b hb
   split at hb
   ·exact hb.elim
   ·rename_i ha
    rw [if_neg ha];exact hT2 b hb)
  by_cases hwi:Region.wanted oi (yielded ops a.tmps)=true
  ·rw [if_pos hwi] at h ⊢
   by_cases hei:eff i=true
   ·rw [if_pos hei] at h ⊢
    refine Oper.wpIn_mono ?_ (eff_put hap htx hti h)
    rintro a' w' ⟨⟨e1,e2⟩,hs,hd⟩
    refine ⟨hs,T2,fun _ h=>h,ox,hx,?_⟩
    rw [e2,if_pos hwx,if_neg (by simp [hex])]
    refine ⟨v,fun w'' hs''=>?_,hd⟩
    rw [e1]
    refine hv w'' (less w'' ?_)
    rcases han hei with hax|hm
    ·simp only [hax,Bool.false_eq_true,if_false] at hs'' ⊢
     exact (hs.mono TE_le).trans hs''
    ·exact (hs.mono (TE_mild hm)).trans hs''
   ·rw [if_neg hei] at h ⊢
    obtain ⟨u,hu,hd⟩:=h
    refine ⟨u,fun w' hs=>?_,T2,fun _ h=>h,ox,hx,?_⟩
    ·have:=hu w' hs
     rwa [execOp_put oi (tame_select hti) a ox.dst v h1] at this
    ·rw [wanted_put ox a oi.dst u h3,if_pos hwx,if_neg (by simp [hex])]
     refine ⟨v,fun w' hs=>?_,?_⟩
     ·rw [execOp_put ox (tame_select htx) a oi.dst u h3];exact hv w' (less w' hs)
     ·rw [← Act.put_comm a v u h2];exact hd
  ·rw [if_neg hwi] at h ⊢
   refine ⟨T2,fun _ h=>h,ox,hx,?_⟩
   rw [wanted_put ox a oi.dst undef h3,if_pos hwx,if_neg (by simp [hex])]
   refine ⟨v,fun w' hs=>?_,?_⟩
   ·rw [execOp_put ox (tame_select htx) a oi.dst undef h3];exact hv w' (less w' hs)
   ·rw [← Act.put_comm a v undef h2];exact h
 ·rw [if_neg hwx] at h
  obtain ⟨T2,hT2,oi',hoi',h⟩:=h
  obtain rfl:oi=oi':=by rw [hi] at hoi';exact Option.some.inj hoi'
  rw [wanted_put oi a ox.dst undef h1] at h
  refine ⟨T2,fun b hb=>hT1 b (hT2 b hb),oi,hi,?_⟩
  by_cases hwi:Region.wanted oi (yielded ops a.tmps)=true
  ·rw [if_pos hwi] at h ⊢
   by_cases hei:eff i=true
   ·rw [if_pos hei] at h ⊢
    refine Oper.wpIn_mono ?_ (eff_put hap htx hti h)
    rintro a' w' ⟨⟨e1,e2⟩,hs,hd⟩
    refine ⟨hs,T2,fun _ h=>h,ox,hx,?_⟩
    rw [e2,if_neg hwx]
    exact hd
   ·rw [if_neg hei] at h ⊢
    obtain ⟨u,hu,hd⟩:=h
    refine ⟨u,fun w' hs=>?_,T2,fun _ h=>h,ox,hx,?_⟩
    ·have:=hu w' hs
     rwa [execOp_put oi (tame_select hti) a ox.dst undef h1] at this
    ·rw [wanted_put ox a oi.dst u h3,if_neg hwx,← Act.put_comm a undef u h2];exact hd
  ·rw [if_neg hwi] at h ⊢
   refine ⟨T2,fun _ h=>h,ox,hx,?_⟩
   rw [wanted_put ox a oi.dst undef h3,if_neg hwx,← Act.put_comm a undef undef h2];exact h
theorem DF.shrink {T0:Nat→Prop} (hT:∀ b,T b→T0 b) (hQ:∀ a w,Q T a w→Q T0 a w):∀ {L:List Nat} {a:Act} {w:World},DF r P ops eff anch Q T L a w→DF r P ops eff anch Q T0 L a w
 | [],_,_,h=>hQ _ _ h
 | i::L,a,w,h=>by
  simp only [DF] at h ⊢
  obtain ⟨T1,h1,h⟩:=h
  exact ⟨T1,fun b hb=>hT b (h1 b hb),h⟩
def maskOf (ms:List Nat) (o:Oper):Nat:=
 o.after.toList.foldl (fun s e=>if Region.binds .any e=true then s ||| (2 ^ e.on ||| ms.getD e.on 0) else s) 0
def masks (ops:List Oper):List Nat:=ops.foldl (fun ms o=>ms++[maskOf ms o]) []
theorem maskOf_bit {ms:List Nat} {o:Oper} {i:Nat} (h:(maskOf ms o).testBit i=true) :
  ∃ e∈o.after,Region.binds .any e=true∧(i=e.on∨(ms.getD e.on 0).testBit i=true):=by
 have key:∀ (l:List Edge) (s:Nat),(l.foldl (fun s e=>if Region.binds .any e=true then s ||| (2 ^ e.on ||| ms.getD e.on 0) else s) s).testBit i=true →
   s.testBit i=true∨∃ e∈l,Region.binds .any e=true∧(i=e.on∨(ms.getD e.on 0).testBit i=true):=by
  intro l
  induction l with
  | nil=>intro s h;exact .inl h
  | cons e l ih=>
   intro s h
   simp only [List.foldl_cons] at h
   rcases ih _ h with h|⟨e',he',h'⟩
   ·by_cases hb:Region.binds .any e=true
    ·rw [if_pos hb,Nat.testBit_or,Nat.testBit_or,Bool.or_eq_true,Bool.or_eq_true] at h
     rcases h with h|h|h
     ·exact .inl h
     ·refine .inr ⟨e,by simp,hb,.inl ?_⟩
      rw [Nat.testBit_two_pow] at h
      exact (of_decide_eq_true h).symm
     ·exact .inr ⟨e,by simp,hb,.inr h⟩
    ·rw [if_neg hb] at h;exact .inl h
   ·exact .inr ⟨e',List.mem_cons_of_mem _ he',h'⟩
 rcases key _ _ h with h|⟨e,he,h⟩
 ·simp at h
 ·exact ⟨e,by simpa using he,h⟩
def pairOK (ops:Array Oper) (eff anch:Nat→Bool) (ms:List Nat) (i j:Nat):Bool:=
 !(i==j)&&!(ms.getD i 0).testBit j&&((ms.getD j 0).testBit i||(!eff i&&(match ops[i]?,ops[j]? with|some a,some b=>a.apart ops b&&(!eff j||!anch i||mildOp b.op)|_,_=>false)))
def pairsOK (ops:Array Oper) (eff anch:Nat→Bool) (ms:List Nat):List Nat→Bool
 | []=>true
 | i::l=>l.all (fun j=>pairOK ops eff anch ms i j)&&pairsOK ops eff anch ms l
theorem pairsOK_iff {ops:Array Oper} {eff anch:Nat→Bool} {ms:List Nat} {l:List Nat} (h:pairsOK ops eff anch ms l=true) :
  l.Pairwise (fun i j=>pairOK ops eff anch ms i j=true):=by
 induction l with
 | nil=>exact .nil
 | cons i l ih=>
  simp only [pairsOK,Bool.and_eq_true,List.all_eq_true] at h
  exact .cons h.1 (ih h.2)
def regionOK (ops:Array Oper) (eff anch:Nat→Bool) (L:List Nat):Bool:=
 let ms:=masks ops.toList
 L.length==ops.size&&(List.range ops.size).all (fun i=>L.contains i) &&
 ((List.range ops.size).all fun i=>match ops[i]? with|some o=>tame o&&(ms.getD i 0==maskOf ms o)&&o.after.toList.all (fun e=>!Region.binds .any e||Nat.blt e.on ops.size)|none=>false) &&
 (L.all fun i=>Nat.blt i ops.size&&!(ms.getD i 0).testBit i) &&
 pairsOK ops eff anch ms L
theorem DF.front {ms:List Nat} {i:Nat} {oi:Oper} {L2:List Nat} (hi:ops[i]?=some oi) (hti:tame oi=true)
  (htame:∀ (j:Nat) (o:Oper),ops[j]?=some o→tame o=true) :
  ∀ (L1:List Nat) (T:Nat→Prop) (a:Act) (w:World),(∀ x∈L1,pairOK ops eff anch ms x i=true∧(ms.getD i 0).testBit x=false) →
   DF r P ops eff anch Q T (L1++i::L2) a w→DF r P ops eff anch Q T (i::(L1++L2)) a w:=by
 intro L1
 induction L1 with
 | nil=>intro T a w _ h;exact h
 | cons x L1 ih=>
  intro T a w hp h
  have hx:=hp x (by simp)
  have h':DF r P ops eff anch Q T (x::i::(L1++L2)) a w:=DF.cons_mono (fun T a w hh=>ih T a w (fun y hy=>hp y (List.mem_cons_of_mem _ hy)) hh) h
  obtain ⟨h1,h2⟩:=hx
  simp only [pairOK,h2,Bool.false_or,Bool.and_eq_true,Bool.not_eq_true'] at h1
  obtain ⟨⟨_,_⟩,he,hap⟩:=h1
  rw [hi] at hap
  cases hox:ops[x]? with
  | none=>rw [hox] at hap;simp at hap
  | some ox=>
   rw [hox] at hap
   simp only [Bool.and_eq_true] at hap
   refine DF.swap hox hi he hap.1 (htame x ox hox) hti ?_ h'
   intro hei
   simpa [hei] using hap.2
theorem bit_of_edge {ms:List Nat} {o:Oper} {e:Edge} (he:e∈o.after) (hb:Region.binds .any e=true):(maskOf ms o).testBit e.on=true:=by
 have key:∀ (l:List Edge) (s:Nat),(e∈l∨s.testBit e.on=true)→(l.foldl (fun s e=>if Region.binds .any e=true then s ||| (2 ^ e.on ||| ms.getD e.on 0) else s) s).testBit e.on=true:=by
  intro l
  induction l with
  | nil=>intro s h;simpa using h
  | cons e' l ih'=>
   intro s h
   simp only [List.foldl_cons]
   refine ih' _ ?_
   rcases h with h|h
   ·rcases List.mem_cons.1 h with rfl|h
    ·right
     rw [if_pos hb,Nat.testBit_or,Nat.testBit_or,Nat.testBit_two_pow];simp
    ·exact .inl h
   ·right
    split
    ·rw [Nat.testBit_or,h];rfl
    ·exact h
 exact key _ _ (.inl (by simpa using he))
theorem DF.any {ms:List Nat} (htame:∀ (j:Nat) (o:Oper),ops[j]?=some o→tame o=true) (hms:∀ (j:Nat) (o:Oper),ops[j]?=some o→ms.getD j 0=maskOf ms o)
  (hedge:∀ (j:Nat) (o:Oper),ops[j]?=some o→∀ e∈o.after,Region.binds .any e=true→e.on < ops.size) (Q':Exit→Act→World→Prop)
  (hQ:∀ T a w,Q T a w→Q' .normal a w) (hQp:∀ x a w,NoExit x a w→Q' x a w) :
  ∀ (fuel:Nat) (L:List Nat) (listed:Array Bool) (T:Nat→Prop) (a:Act) (w:World),listed.size=ops.size→L.length=fuel→L.Nodup→(∀ i∈L,i < ops.size) →
   (∀ i,i < ops.size→(listed.getD i false=false↔i∈L))→(∀ i,listed.getD i false=true→∀ j,(ms.getD i 0).testBit j=true→listed.getD j false=true) →
   (∀ i∈L,(ms.getD i 0).testBit i=false) →
   L.Pairwise (fun i j=>pairOK ops eff anch ms i j=true) →
   DF r P ops eff anch Q T L a w→wpAnyIn (FR r) 0 P .any ops Q' fuel listed a w:=by
 intro fuel
 have lem:∀ (listed:Array Bool),listed.size=ops.size→∀ i,i < ops.size→listed.getD i true=listed.getD i false:=by
  intro listed hs i hi
  have hj':i < listed.size:=by omega
  simp [hj']
 induction fuel with
 | zero=>
  intro L listed T a w hsz hlen hnd hlt hli hcl hself hpw hd
  obtain rfl:L=[]:=List.eq_nil_of_length_eq_zero hlen
  refine ⟨?_,hQ _ _ _ hd⟩
  refine List.eq_nil_iff_forall_not_mem.2 fun i hi=>?_
  obtain ⟨h0,o,ho,_⟩:=mem_ready.1 hi
  have hi':=(Array.getElem?_eq_some_iff.1 ho).1
  rw [lem listed hsz i hi'] at h0
  have:=(hli i hi').1 h0
  simp at this
 | succ fuel ih=>
  intro L listed T a w hsz hlen hnd hlt hli hcl hself hpw hd
  have lst:∀ j,j < ops.size→j∉L→listed.getD j false=true:=by
   intro j hj hjl
   have h:=mt (hli j hj).1 hjl
   simpa using h
  refine ⟨fun hr=>?_,fun i hi=>?_⟩
  ·exfalso
   cases L with
   | nil=>simp at hlen
   | cons i L=>
    have hi:=hlt i (by simp)
    have hmem:i∈Region.ready .any ops listed:=by
     refine mem_ready.2 ⟨by rw [lem listed hsz i hi];exact (hli i hi).2 (by simp),ops[i],Array.getElem?_eq_getElem hi,fun e he hb=>?_⟩
     have hbit:(ms.getD i 0).testBit e.on=true:=by
      rw [hms i ops[i] (Array.getElem?_eq_getElem hi)]
      exact bit_of_edge he hb
     refine lst e.on (hedge i _ (Array.getElem?_eq_getElem hi) e he hb) fun hm=>?_
     rcases List.mem_cons.1 hm with h|h
     ·have:=hself i (by simp)
      rw [h,this] at hbit;cases hbit
     ·have:=(List.pairwise_cons.1 hpw).1 _ h
      simp only [pairOK,hbit] at this
      simp at this
    rw [hr] at hmem
    simp at hmem
  ·obtain ⟨h0,o,ho,hall⟩:=mem_ready.1 hi
   have hi':=(Array.getElem?_eq_some_iff.1 ho).1
   rw [lem listed hsz i hi'] at h0
   have hiL:=(hli i hi').1 h0
   obtain ⟨L1,L2,rfl⟩:=List.append_of_mem hiL
   have hanc:∀ x,(ms.getD i 0).testBit x=true→listed.getD x false=true:=by
    intro x hx
    rw [hms i o ho] at hx
    obtain ⟨e,he,hb,h⟩:=maskOf_bit hx
    have hon:=hall e he hb
    rcases h with rfl|h
    ·exact hon
    ·exact hcl _ hon _ h
   have hL1:∀ x∈L1,pairOK ops eff anch ms x i=true∧(ms.getD i 0).testBit x=false:=by
    intro x hx
    refine ⟨(List.pairwise_append.1 hpw).2.2 x hx i (by simp),?_⟩
    cases hb:(ms.getD i 0).testBit x with
    | false=>rfl
    | true=>
     have h1:=hanc x hb
     have h2:=(hli x (hlt x (by simp [hx]))).2 (by simp [hx])
     rw [h1] at h2;cases h2
   have hd':=DF.front ho (htame i o ho) htame L1 T a w hL1 hd
   -- the rest
   have hnd':(L1++L2).Nodup∧i∉L1++L2:=by
    have h:=List.pairwise_append.1 hnd
    have h2:=List.pairwise_cons.1 h.2.1
    refine ⟨List.pairwise_append.2 ⟨h.1,h2.2,fun x hx y hy=>h.2.2 x hx y (List.mem_cons_of_mem _ hy)⟩,fun hm=>?_⟩
    rcases List.mem_append.1 hm with hm|hm
    ·exact h.2.2 i hm i (by simp) rfl
    ·exact h2.1 i hm rfl
   have rest:∀ T a' w',DF r P ops eff anch Q T (L1++L2) a' w'→wpAnyIn (FR r) 0 P .any ops Q' fuel (listed.setIfInBounds i true) a' w':=by
    intro T a' w' hdd
    refine ih (L1++L2) _ T a' w' (by simpa using hsz) (by simp at hlen ⊢;omega) hnd'.1 (fun x hx=>hlt x ?_) ?_ ?_ (fun x hx=>hself x ?_) ?_ hdd
    ·rcases List.mem_append.1 hx with h|h<;>simp [h]
    ·intro j hj
     by_cases hji:i=j
     ·subst hji
      have hil:i < listed.size:=by omega
      simp [hil]
      have:=hnd'.2
      simpa using this
     ·rw [getD_set_ne false hji,hli j hj]
      simp only [List.mem_append,List.mem_cons]
      constructor
      ·rintro (h|h|h)
       ·exact .inl h
       ·exact absurd h.symm hji
       ·exact .inr h
      ·rintro (h|h)
       ·exact .inl h
       ·exact .inr (.inr h)
    ·intro k hk j hj
     by_cases hki:i=k
     ·subst hki
      exact getD_set_true (hanc j hj)
     ·rw [getD_set_ne false hki] at hk
      exact getD_set_true (hcl k hk j hj)
    ·rcases List.mem_append.1 hx with h|h<;>simp [h]
    ·rw [List.pairwise_append] at hpw ⊢
     exact ⟨hpw.1,(List.pairwise_cons.1 hpw.2.1).2,fun x hx y hy=>hpw.2.2 x hx y (List.mem_cons_of_mem _ hy)⟩
   unfold wpOpIn
   rw [ho]
   simp only [DF] at hd'
   obtain ⟨T1,hT1,o',ho',hd'⟩:=hd'
   obtain rfl:o=o':=by rw [ho] at ho';exact Option.some.inj ho'
   by_cases hw:Region.wanted o (yielded ops a.tmps)=true
   ·rw [if_pos hw] at hd'
    simp only [hw,if_true]
    by_cases he:eff i=true
    ·rw [if_pos he] at hd'
     have h1:=Oper.wpIn_mono (K':=wpAnyIn (FR r) 0 P .any ops Q' fuel (listed.setIfInBounds i true)) (fun a w hh=>rest T1 a w hh.2) hd'
     -- the panics
     unfold Oper.wpIn at h1 ⊢
     refine ⟨h1.1,?_⟩
     have h1:=h1.2
     generalize (o.semAt (FR r).round a.eval).run P w=q at h1 ⊢
     cases q with
     | ok x w'=>
      cases x<;>simp only [Oper.uponIn] at h1 ⊢ <;>
       first
        | exact h1
        | exact ⟨h1.1,CallsIn.mono h1.2 (fun e w'' he=>by cases e<;>first|exact he|exact hQp _ _ _ he|(obtain ⟨a0,w0,h0⟩:=he;exact h0.elim))⟩
        | exact ⟨h1.1,RoundIn.mono h1.2 (fun e w'' he=>by cases e<;>first|exact he|exact hQp _ _ _ he|(obtain ⟨a0,w0,h0⟩:=he;exact h0.elim))⟩
     | halt x w'=>cases x<;>simp only [Oper.uponIn] at h1 ⊢<;>first|exact h1|exact hQp _ _ _ h1
    ·rw [if_neg he] at hd'
     obtain ⟨v,hv,hd'⟩:=hd'
     have hrun:=hv w (SubX.refl _ _)
     unfold Oper.wpIn
     refine ⟨fun _ _=>trivial,?_⟩
     rw [Oper.semAt_eq _ _ _ (tame_defer (htame i o ho)),hrun]
     exact rest _ _ _ hd'
   ·rw [if_neg hw] at hd'
    simp only [hw,Bool.false_eq_true,if_false]
    exact ⟨fun _ _=>trivial,rest _ _ _ hd'⟩
theorem wp_region_df {id:Nat} {Q':Exit→Act→World→Prop} {a:Act} {w:World} (hm:P.follows .mixedOrders=true) (L:List Nat) (eff anch:Nat→Bool) (T:Nat→Prop)
  (hchk:regionOK ops eff anch L=true) (hQ:∀ x a w,NoExit x a w→Q' x a w)
  (h:DF r P ops eff anch (fun _ a w=>Q' .normal a w) T L a { w with drawn:=w.drawn+1 }):(Code.region id ops true).wpIn (FR r) 0 P Q' a w:=by
 simp only [regionOK,Bool.and_eq_true,List.all_eq_true,beq_iff_eq,List.mem_range] at hchk
 obtain ⟨⟨⟨⟨hlen,hmem⟩,hop⟩,hl⟩,hp⟩:=hchk
 have hopj:∀ (j:Nat) (o:Oper),ops[j]?=some o→tame o=true∧(masks ops.toList).getD j 0=maskOf (masks ops.toList) o∧(∀ e∈o.after,Region.binds .any e=true→e.on < ops.size):=by
  intro j o ho
  have hj:=(Array.getElem?_eq_some_iff.1 ho).1
  have h:=hop j hj
  rw [ho] at h
  simp only [Bool.and_eq_true,beq_iff_eq,List.all_eq_true] at h
  refine ⟨h.1.1,h.1.2,fun e he hb=>?_⟩
  have:=h.2 e (by simpa using he)
  simp [hb] at this
  exact this
 have hlt:∀ i∈L,i < ops.size:=fun i hi=>by
  have:=hl i hi
  simp at this
  exact this.1
 have hmemL:∀ i,i < ops.size→i∈L:=fun i hi=>by simpa using hmem i hi
 have hnd:L.Nodup:=(pairsOK_iff hp).imp fun {i j} h hij=>by
  simp [pairOK,hij] at h
 refine wpIn_region_any hm ?_
 refine DF.any (ms:=masks ops.toList) (fun j o ho=>(hopj j o ho).1) (fun j o ho=>(hopj j o ho).2.1) (fun j o ho=>(hopj j o ho).2.2) Q' (fun _ _ _ h=>h) hQ
  ops.size L _ T a _ (by simp) hlen hnd hlt ?_ ?_ ?_ (pairsOK_iff hp) h
 ·intro i hi
  simp [hi,hmemL i hi]
 ·intro i hi
  exfalso
  by_cases h:i < ops.size<;>simp [h] at hi
 ·intro i hi
  have:=hl i hi
  simp at this
  simpa using this.2
theorem wp_region_seq {id:Nat} {Q':Exit→Act→World→Prop} {a:Act} {w:World} (eff anch:Nat→Bool) (T:Nat→Prop)
  (htame:ops.toList.all tame=true) (hQ:∀ x a w,NoExit x a w→Q' x a w)
  (h:DF r P ops eff anch (fun _ a w=>Q' .normal a w) T (List.range ops.size) a w):(Code.region id ops false).wpIn (FR r) 0 P Q' a w:=by
 refine wpIn_region ?_
 have ht:∀ (j:Nat) (o:Oper),ops[j]?=some o→tame o=true:=by
  intro j o ho
  obtain ⟨hj,rfl⟩:=Array.getElem?_eq_some_iff.1 ho
  exact List.all_eq_true.1 htame _ (by simp)
 have key:∀ (L:List Nat) (T:Nat→Prop) (a:Act) (w:World),DF r P ops eff anch (fun _ a w=>Q' .normal a w) T L a w→wpOpsIn (FR r) 0 P ops Q' L a w:=by
  intro L
  induction L with
  | nil=>intro T a w h;exact h
  | cons i L ih=>
   intro T a w h
   simp only [DF] at h
   obtain ⟨T1,hT1,o,ho,h⟩:=h
   simp only [wpOpsIn,ho]
   by_cases hw:Region.wanted o (yielded ops a.tmps)=true
   ·rw [if_pos hw] at h ⊢
    by_cases he:eff i=true
    ·rw [if_pos he] at h
     have h1:=Oper.wpIn_mono (K':=wpOpsIn (FR r) 0 P ops Q' L) (fun a w hh=>ih T1 a w hh.2) h
     unfold Oper.wpIn at h1 ⊢
     refine ⟨h1.1,?_⟩
     have h1:=h1.2
     generalize (o.semAt (FR r).round a.eval).run P w=q at h1 ⊢
     cases q with
     | ok x w'=>
      cases x<;>simp only [Oper.uponIn] at h1 ⊢ <;>
       first
        | exact h1
        | exact ⟨h1.1,CallsIn.mono h1.2 (fun e w'' he=>by cases e<;>first|exact he|exact hQ _ _ _ he|(obtain ⟨a0,w0,h0⟩:=he;exact h0.elim))⟩
        | exact ⟨h1.1,RoundIn.mono h1.2 (fun e w'' he=>by cases e<;>first|exact he|exact hQ _ _ _ he|(obtain ⟨a0,w0,h0⟩:=he;exact h0.elim))⟩
     | halt x w'=>cases x<;>simp only [Oper.uponIn] at h1 ⊢<;>first|exact h1|exact hQ _ _ _ h1
    ·rw [if_neg he] at h
     obtain ⟨v,hv,h⟩:=h
     have hrun:=hv w (SubX.refl _ _)
     unfold Oper.wpIn
     refine ⟨fun _ _=>trivial,?_⟩
     rw [Oper.semAt_eq _ _ _ (tame_defer (ht i o ho)),hrun]
     exact ih _ _ _ h
   ·rw [if_neg hw] at h ⊢
    exact ⟨fun _ _=>trivial,ih _ _ _ h⟩
 exact key _ T a w h
end
/-! ### Orders that part -/
inductive Pl where
 | nil
 | op (i:Nat) (t:Pl)
 | alt (a b:Pl)
def ofL:List Nat→Pl→Pl
 | [],t=>t
 | i::l,t=>.op i (ofL l t)
def DT (r:Option Nat) (P:Program) (ops:Array Oper) (eff anch:Nat→Bool) (Q:(Nat→Prop)→Act→World→Prop):Pl→(Nat→Prop)→Act→World→Prop
 | .nil,T,a,w=>Q T a w
 | .op i t,T,a,w=>DF r P ops eff anch (DT r P ops eff anch Q t) T [i] a w
 | .alt x y,T,a,w=>DT r P ops eff anch Q x T a w∧DT r P ops eff anch Q y T a w
theorem DT.shrink {r:Option Nat} {P:Program} {ops:Array Oper} {eff anch:Nat→Bool} {Q:(Nat→Prop)→Act→World→Prop} {T T0:Nat→Prop} (hT:∀ b,T b→T0 b) (hQ:∀ a w,Q T a w→Q T0 a w) :
  ∀ {t:Pl} {a:Act} {w:World},DT r P ops eff anch Q t T a w→DT r P ops eff anch Q t T0 a w
 | .nil,_,_,h=>hQ _ _ h
 | .op i t,_,_,h=>by
  unfold DT at h ⊢
  simp only [DF] at h ⊢
  obtain ⟨T1,h1,h⟩:=h
  exact ⟨T1,fun b hb=>hT b (h1 b hb),h⟩
 | .alt x y,_,_,h=>⟨DT.shrink hT hQ h.1,DT.shrink hT hQ h.2⟩
end Go.Dr
namespace Go.Dr
open Go.RowKit
/-! ### Memory that stays -/
abbrev SHeap:=Nat→Option Obj
def SHeap.le (S S':SHeap):Prop:=∀ b o,S b=some o→S' b=some o
theorem SHeap.le.refl (S:SHeap):S.le S:=fun _ _ h=>h
theorem SHeap.le.trans {A B C:SHeap} (h:A.le B) (k:B.le C):A.le C:=fun b o x=>k b o (h b o x)
def SHeap.put (S:SHeap) (b:Nat) (o:Obj):SHeap:=fun k=>if k=b then some o else S k
theorem SHeap.put_self (S:SHeap) (b:Nat) (o:Obj):S.put b o b=some o:=by simp [SHeap.put]
theorem SHeap.le_put {S:SHeap} {b:Nat} (o:Obj) (h:S b=none):S.le (S.put b o):=by
 intro k o' hk
 unfold SHeap.put
 split
 ·rename_i e;subst e;rw [h] at hk;cases hk
 ·exact hk
def Agree (S:SHeap) (w:World):Prop:=∀ b o,S b=some o→w.heap[b]?=some o
theorem Agree.mono {S S':SHeap} {w:World} (h:Agree S' w) (hl:S.le S'):Agree S w:=fun b o x=>h b o (hl b o x)
theorem Agree.fresh {S:SHeap} {w:World} (h:Agree S w):∀ b,w.heap.size≤b→S b=none:=by
 intro b hb
 cases hs:S b with
 | none=>rfl
 | some o=>
  have:=h b o hs
  rw [Array.getElem?_eq_none hb] at this;cases this
def SHeap.cell? (S:SHeap) (a:Addr):Option Value:=
 match S a.block with
 | some (.cells c _ _)=>if a.spot.isSome then none else c[a.off]?
 | _=>none
theorem SHeap.cell_mono {S S':SHeap} {a:Addr} {v:Value} (hl:S.le S') (h:S.cell? a=some v):S'.cell? a=some v:=by
 unfold SHeap.cell? at *
 cases hs:S a.block with
 | none=>rw [hs] at h;cases h
 | some o=>rw [hs] at h;rw [hl _ _ hs];exact h
theorem Agree.cell {S:SHeap} {w:World} {a:Addr} {v:Value} (hg:Agree S w) (h:S.cell? a=some v):w.cell? a=some v:=by
 unfold SHeap.cell? at h
 unfold World.cell?
 cases hs:S a.block with
 | none=>rw [hs] at h;cases h
 | some o=>rw [hs] at h;rw [hg _ _ hs];exact h
/-! ### Known rows -/
inductive MEnt where
 | blk (b:Nat) (o:Obj)
 | row (base:Nat) (e:TypeId) (sz:Nat) (v:Value) (n:Nat) (xs:List Value)
def MEnt.own:MEnt→Option Nat
 | .blk b _=>some b
 | .row _ _ _ v _ _=>v.ownBlock
def MEnt.ok:MEnt→World→Prop
 | .blk b o,w=>w.heap[b]?=some o
 | .row base e sz v n xs,w=>w.ownsRow base e sz v n xs
theorem MEnt.ok.lt {m:MEnt} {w:World} (h:m.ok w):∀ b,m.own=some b→b < w.heap.size:=by
 intro b hb
 cases m with
 | blk b' o=>
  obtain rfl:b'=b:=by simpa [MEnt.own] using hb
  exact (Array.getElem?_eq_some_iff.1 h).1
 | row base e sz v n xs=>exact (World.ownsRow.lt h b hb).2
theorem MEnt.ok.keep {m:MEnt} {w w':World} (h:m.ok w) (hb:∀ b,m.own=some b→w'.heap[b]?=w.heap[b]?):m.ok w':=by
 cases m with
 | blk b o=>exact (hb b rfl).trans h
 | row base e sz v n xs=>
  obtain ⟨h1,h2⟩:=h
  refine ⟨h1,?_⟩
  rcases h2 with h2|⟨g,cap,cur,rfl,hg,hh,r⟩
  ·exact .inl h2
  ·exact .inr ⟨g,cap,cur,rfl,hg,by rw [hb g rfl];exact hh,r⟩
def MSep (m m':MEnt):Prop:=∀ b,m.own=some b→m'.own≠some b
structure Wd (w0:World) (B0:List Nat) (S0 S:SHeap) (M:List MEnt) (w:World):Prop where
 os:w.os=w0.os
 tape:w.tape=w0.tape
 output:w.output=w0.output
 size:w0.heap.size≤w.heap.size
 drawn:w0.drawn≤w.drawn
 keep:∀ k,k < w0.heap.size→k∉B0→w.heap[k]?=w0.heap[k]?
 le:S0.le S
 new:∀ b,S b≠none→S0 b≠none∨w0.heap.size≤b
 agree:Agree S w
 ok:∀ m∈M,m.ok w
 sep:M.Pairwise MSep
 out:∀ m∈M,∀ b,m.own=some b→S b=none∧(w0.heap.size≤b∨b∈B0)
section
variable {w0 w w':World} {B0:List Nat} {S0 S S':SHeap} {M M':List MEnt}
theorem Wd.start (hg:Agree S w) (hok:∀ m∈M,m.ok w) (hsep:M.Pairwise MSep) (hout:∀ m∈M,∀ b,m.own=some b→S b=none) :
  Wd w (M.filterMap MEnt.own) S S M w:=
 ⟨rfl,rfl,rfl,Nat.le_refl _,Nat.le_refl _,fun _ _ _=>rfl,SHeap.le.refl _,fun _ h=>.inl h,hg,hok,hsep,
  fun m hm b hb=>⟨hout m hm b hb,.inr (List.mem_filterMap.2 ⟨m,hm,hb⟩)⟩⟩
theorem Wd.start0 (hg:Agree S w):Wd w [] S S [] w:=
 Wd.start (M:=[]) hg (by simp) (by simp) (by simp)
theorem Wd.same (h:Wd w0 B0 S0 S M w) (ho:w'.os=w.os) (ht:w'.tape=w.tape) (hu:w'.output=w.output) (hh:w'.heap=w.heap) (hd:w.drawn≤w'.drawn:=by first|exact Nat.le_refl _|exact Nat.le_succ _):Wd w0 B0 S0 S M w':=
 ⟨ho.trans h.os,ht.trans h.tape,hu.trans h.output,by rw [hh];exact h.size,Nat.le_trans h.drawn hd,fun k a b=>by rw [hh];exact h.keep k a b,h.le,h.new,
  fun b o x=>by rw [hh];exact h.agree b o x,fun m hm=>(h.ok m hm).keep (fun b _=>by rw [hh]),h.sep,h.out⟩
theorem Wd.drew (h:Wd w0 B0 S0 S M w):Wd w0 B0 S0 S M { w with drawn:=w.drawn+1 }:=h.same rfl rfl rfl rfl
theorem Wd.fresh (h:Wd w0 B0 S0 S M w):S w.heap.size=none:=h.agree.fresh _ (Nat.le_refl _)
theorem alloc_old (w:World) (o:Obj) {k:Nat} (hk:k < w.heap.size):(w.alloc o).heap[k]?=w.heap[k]?:=Below.heap_alloc w o k hk
theorem alloc_new (w:World) (o:Obj):(w.alloc o).heap[w.heap.size]?=some o:=heap_alloc_new w o
theorem Wd.alloc (h:Wd w0 B0 S0 S M w) (o:Obj):Wd w0 B0 S0 S (.blk w.heap.size o::M) (w.alloc o) where
 os:=h.os
 tape:=h.tape
 output:=h.output
 size:=by have:=h.size;simp;omega
 drawn:=h.drawn
 keep:=fun k a b=>by rw [alloc_old w o (by have:=h.size;omega)];exact h.keep k a b
 le:=h.le
 new:=h.new
 agree:=fun b o' x=>by
  have:=h.agree b o' x
  rw [alloc_old w o (Array.getElem?_eq_some_iff.1 this).1];exact this
 ok:=fun m hm=>by
  rcases List.mem_cons.1 hm with rfl|hm
  ·exact alloc_new w o
  ·exact (h.ok m hm).keep fun b hb=>alloc_old w o ((h.ok m hm).lt b hb)
 sep:=List.pairwise_cons.2 ⟨fun m hm b hb hb'=>by
  have:=(h.ok m hm).lt b hb'
  simp [MEnt.own] at hb
  omega,h.sep⟩
 out:=fun m hm b hb=>by
  rcases List.mem_cons.1 hm with rfl|hm
  ·simp only [MEnt.own,Option.some.injEq] at hb
   subst hb
   exact ⟨h.fresh,.inl h.size⟩
  ·exact h.out m hm b hb
theorem Wd.sub (h:Wd w0 B0 S0 S M w) (hs:M'.Sublist M):Wd w0 B0 S0 S M' w:=
 { h with ok:=fun m hm=>h.ok m (hs.subset hm),sep:=h.sep.sublist hs,out:=fun m hm=>h.out m (hs.subset hm) }
theorem MSep.symm {m m':MEnt} (h:MSep m m'):MSep m' m:=fun b hb hb'=>h b hb' hb
theorem Wd.perm (h:Wd w0 B0 S0 S M w) (hp:M'.Perm M):Wd w0 B0 S0 S M' w:=
 { h with ok:=fun m hm=>h.ok m (hp.mem_iff.1 hm),sep:=(hp.pairwise_iff (fun h=>MSep.symm h)).2 h.sep,out:=fun m hm=>h.out m (hp.mem_iff.1 hm) }
theorem Wd.freeze {b:Nat} {o:Obj} (h:Wd w0 B0 S0 S (.blk b o::M) w) (hb0:w0.heap.size≤b):Wd w0 B0 S0 (S.put b o) M w where
 os:=h.os
 tape:=h.tape
 output:=h.output
 size:=h.size
 drawn:=h.drawn
 keep:=h.keep
 le:=h.le.trans (SHeap.le_put o (h.out (.blk b o) (by simp) b rfl).1)
 new:=fun k hk=>by
  by_cases e:k=b
  ·subst e;exact .inr hb0
  ·exact h.new k (by simpa [SHeap.put,e] using hk)
 agree:=fun k o' hk=>by
  by_cases e:k=b
  ·subst e
   rw [SHeap.put_self] at hk;cases hk
   exact h.ok (.blk k _) (by simp)
  ·exact h.agree k o' (by simpa [SHeap.put,e] using hk)
 ok:=fun m hm=>h.ok m (List.mem_cons_of_mem _ hm)
 sep:=(List.pairwise_cons.1 h.sep).2
 out:=fun m hm k hk=>by
  have h1:=h.out m (List.mem_cons_of_mem _ hm) k hk
  refine ⟨?_,h1.2⟩
  have hne:=(List.pairwise_cons.1 h.sep).1 m hm b rfl
  have:k≠b:=fun e=>hne (e▸hk)
  simp [SHeap.put,this,h1.1]
theorem Wd.turn {b:Nat} {o o':Obj} (h:Wd w0 B0 S0 S (.blk b o::M) w) (ho:w'.os=w.os) (ht:w'.tape=w.tape) (hu:w'.output=w.output)
  (hs:w'.heap.size=w.heap.size) (hk:∀ k,k≠b→w'.heap[k]?=w.heap[k]?) (hb:w'.heap[b]?=some o') (hd:w.drawn≤w'.drawn:=by exact Nat.le_refl _):Wd w0 B0 S0 S (.blk b o'::M) w' where
 os:=ho.trans h.os
 tape:=ht.trans h.tape
 output:=hu.trans h.output
 size:=by rw [hs];exact h.size
 drawn:=Nat.le_trans h.drawn hd
 keep:=fun k a hb0=>by
  have h1:=(h.out (.blk b o) (by simp) b rfl).2
  have:k≠b:=by rintro rfl;rcases h1 with h1|h1<;>first|omega|exact hb0 h1
  rw [hk k this];exact h.keep k a hb0
 le:=h.le
 new:=h.new
 agree:=fun k o1 x=>by
  have h1:=(h.out (.blk b o) (by simp) b rfl).1
  have:k≠b:=by rintro rfl;rw [h1] at x;cases x
  rw [hk k this];exact h.agree k o1 x
 ok:=fun m hm=>by
  rcases List.mem_cons.1 hm with rfl|hm'
  ·exact hb
  ·refine (h.ok m (List.mem_cons_of_mem _ hm')).keep fun k hkb=>hk k ?_
   intro e
   exact (List.pairwise_cons.1 h.sep).1 m hm' k (by rw [e];rfl) hkb
 sep:=List.pairwise_cons.2 ⟨fun m hm k hk'=>(List.pairwise_cons.1 h.sep).1 m hm k hk',(List.pairwise_cons.1 h.sep).2⟩
 out:=fun m hm k hk'=>by
  rcases List.mem_cons.1 hm with rfl|hm
  ·exact h.out (.blk b o) (by simp) k hk'
  ·exact h.out m (List.mem_cons_of_mem _ hm) k hk'
theorem Wd.call {Mc Mr:List MEnt} (h:Wd w0 B0 S0 S (Mc++Mr) w) (k:Wd w (Mc.filterMap MEnt.own) S S' M' w'):Wd w0 B0 S0 S' (M'++Mr) w':=by
 have hsep:=List.pairwise_append.1 h.sep
 have notin:∀ m∈Mr,∀ b,m.own=some b→b∉Mc.filterMap MEnt.own:=by
  intro m hm b hb hmem
  obtain ⟨m',hm',hb'⟩:=List.mem_filterMap.1 hmem
  exact hsep.2.2 m' hm' m hm b hb' hb
 refine ⟨k.os.trans h.os,k.tape.trans h.tape,k.output.trans h.output,Nat.le_trans h.size k.size,Nat.le_trans h.drawn k.drawn,?_,h.le.trans k.le,?_,k.agree,?_,?_,?_⟩
 ·intro j hj hjb
  refine (k.keep j (Nat.lt_of_lt_of_le hj h.size) fun hmem=>?_).trans (h.keep j hj hjb)
  obtain ⟨m',hm',hb'⟩:=List.mem_filterMap.1 hmem
  rcases (h.out m' (by simp [hm']) j hb').2 with h1|h1
  ·omega
  ·exact hjb h1
 ·intro b hb
  rcases k.new b hb with h1|h1
  ·exact h.new b h1
  ·exact .inr (Nat.le_trans h.size h1)
 ·intro m hm
  rcases List.mem_append.1 hm with hm|hm
  ·exact k.ok m hm
  ·have h1:=h.ok m (by simp [hm])
   exact h1.keep fun b hb=>k.keep b (h1.lt b hb) (notin m hm b hb)
 ·refine List.pairwise_append.2 ⟨k.sep,hsep.2.1,fun m hm m' hm' b hb hb'=>?_⟩
  have h1:=h.ok m' (by simp [hm'])
  rcases (k.out m hm b hb).2 with h2|h2
  ·have:=h1.lt b hb';omega
  ·exact notin m' hm' b hb' h2
 ·intro m hm b hb
  rcases List.mem_append.1 hm with hm|hm
  ·have h1:=k.out m hm b hb
   refine ⟨h1.1,?_⟩
   rcases h1.2 with h2|h2
   ·exact .inl (Nat.le_trans h.size h2)
   ·obtain ⟨m',hm',hb'⟩:=List.mem_filterMap.1 h2
    exact (h.out m' (by simp [hm']) b hb').2
  ·have h1:=h.out m (by simp [hm]) b hb
   refine ⟨?_,h1.2⟩
   cases hs:S' b with
   | none=>rfl
   | some o=>
    exfalso
    rcases k.new b (by simp [hs]) with h2|h2
    ·exact h2 h1.1
    ·have:=(h.ok m (by simp [hm])).lt b hb;omega
end
theorem Wd.below {w0 w:World} {S0 S:SHeap} {M:List MEnt} (h:Wd w0 [] S0 S M w):Below w0.heap.size w0 w:=
 ⟨h.os,h.tape,h.output,h.size,fun k hk=>h.keep k hk (by simp)⟩
/-! ### Contracts -/
def Fn (P:Program) (f:FuncId) (args:Array Value) (S:SHeap) (M:List MEnt) (Post:Value→SHeap→List MEnt→Prop):Prop:=
 ∀ w,Agree S w→(∀ m∈M,m.ok w)→M.Pairwise MSep→(∀ m∈M,∀ b,m.own=some b→S b=none) →
  Calls P f args w fun e w'=>∃ v S' M',e=.returned v∧Wd w (M.filterMap MEnt.own) S S' M' w'∧Post v S' M'
theorem Fn.mono {P:Program} {f:FuncId} {args:Array Value} {S:SHeap} {M:List MEnt} {Post Post':Value→SHeap→List MEnt→Prop} (h:Fn P f args S M Post)
  (hp:∀ v S' M',S.le S'→Post v S' M'→Post' v S' M'):Fn P f args S M Post':=
 fun w hg hok hs ho=>(h w hg hok hs ho).mono fun _ _ ⟨v,S',M',he,hw,hpp⟩=>⟨v,S',M',he,hw,hp v S' M' hw.le hpp⟩
abbrev FnR (P:Program) (f:FuncId) (args:Array Value) (S:SHeap) (Post:Value→SHeap→Prop):Prop:=Fn P f args S [] fun v S' M'=>M'=[]∧Post v S'
abbrev FnV (P:Program) (f:FuncId) (args:Array Value) (S:SHeap) (v:Value):Prop:=Fn P f args S [] fun v' _ M'=>M'=[]∧v'=v
end Go.Dr
namespace Go.Dr
def Rng (x:Int):Prop:=-9223372036854775808≤x∧x≤9223372036854775807
def big:Nat:=140737488355328
theorem add_add (p:Addr) (i j:Nat):(p.add i).add j=p.add (i+j):=by
 unfold Addr.add
 by_cases h1:i=0<;>by_cases h2:j=0<;>simp [h1,h2,Nat.add_assoc]
theorem add_zero (p:Addr):p.add 0=p:=by simp [Addr.add]
theorem add_plain (g j:Nat):(⟨g,0,none⟩:Addr).add j=⟨g,j,none⟩:=by unfold Addr.add;split<;>simp_all
structure Rp (α:Type) where
 sz:Nat
 agg:Bool
 R:SHeap→List Value→α→Prop
 mono:∀ {S S':SHeap} {cs:List Value} {x:α},S.le S'→R S cs x→R S' cs x
 len:∀ {S:SHeap} {cs:List Value} {x:α},R S cs x→cs.length=sz
 one:agg=false→sz=1
 flat:∀ {S:SHeap} {cs:List Value} {x:α},R S cs x→∀ c∈cs,c.oneCell'=true
def Rp.V {α:Type} (rep:Rp α) (S:SHeap) (v:Value) (x:α):Prop:=∃ cs,rep.R S cs x∧if rep.agg=true then v=.agg cs.toArray else cs=[v]
theorem Rp.V.mono {α:Type} {rep:Rp α} {S S':SHeap} {v:Value} {x:α} (h:rep.V S v x) (hl:S.le S'):rep.V S' v x:=by
 obtain ⟨cs,h1,h2⟩:=h;exact ⟨cs,rep.mono hl h1,h2⟩
theorem Rp.V.cells {α:Type} {rep:Rp α} {S:SHeap} {v:Value} {x:α} (h:rep.V S v x) (hn:rep.agg=false→∀ cs,v≠.agg cs):rep.R S v.cells.toList x:=by
 obtain ⟨cs,h1,h2⟩:=h
 split at h2
 ·subst h2;simpa [Value.cells] using h1
 ·rename_i ha
  subst h2
  have:=hn (by simpa using ha)
  cases v<;>simp_all [Value.cells]
def PtrTo {α:Type} (S:SHeap) (p:Addr) (rep:Rp α) (x:α):Prop:=∃ cs,rep.R S cs x∧∀ j v,cs[j]?=some v→S.cell? (p.add j)=some v
theorem PtrTo.mono {α:Type} {S S':SHeap} {p:Addr} {rep:Rp α} {x:α} (h:PtrTo S p rep x) (hl:S.le S'):PtrTo S' p rep x:=by
 obtain ⟨cs,h1,h2⟩:=h;exact ⟨cs,rep.mono hl h1,fun j v hv=>SHeap.cell_mono hl (h2 j v hv)⟩
/-! ### Plain kinds -/
def rI64:Rp Int where
 sz:=1
 agg:=false
 R:=fun _ cs x=>cs=[.int .i64 x]∧Rng x
 mono:=fun _ h=>h
 len:=fun h=>by rw [h.1];rfl
 one:=fun _=>rfl
 flat:=fun h=>by rw [h.1];simp [Value.oneCell']
def rInt (k:IntKind):Rp Int where
 sz:=1
 agg:=false
 R:=fun _ cs x=>cs=[.int k x]
 mono:=fun _ h=>h
 len:=fun h=>by rw [h];rfl
 one:=fun _=>rfl
 flat:=fun h=>by rw [h];simp [Value.oneCell']
def rBool:Rp Bool where
 sz:=1
 agg:=false
 R:=fun _ cs x=>cs=[.bool x]
 mono:=fun _ h=>h
 len:=fun h=>by rw [h];rfl
 one:=fun _=>rfl
 flat:=fun h=>by rw [h];simp [Value.oneCell']
def rStr:Rp ByteArray where
 sz:=1
 agg:=false
 R:=fun _ cs x=>cs=[.string x]∧x.size≤big
 mono:=fun _ h=>h
 len:=fun h=>by rw [h.1];rfl
 one:=fun _=>rfl
 flat:=fun h=>by rw [h.1];simp [Value.oneCell']
def rVal:Rp Value where
 sz:=1
 agg:=false
 R:=fun _ cs x=>cs=[x]∧x.oneCell'=true
 mono:=fun _ h=>h
 len:=fun h=>by rw [h.1];rfl
 one:=fun _=>rfl
 flat:=fun h=>by rw [h.1];simpa using h.2
def rSlice {α:Type} (bt:Nat) (rep:Rp α):Rp (List α) where
 sz:=1
 agg:=false
 R:=fun S cs xs=>∃ a n c,cs=[.slice a n c]∧xs.length=n∧n≤c∧n*bt≤big∧n≤big∧∀ i x,xs[i]?=some x→∃ ad,a=some ad∧PtrTo S (ad.add (i*rep.sz)) rep x
 mono:=fun hl h=>by
  obtain ⟨a,n,c,h1,h2,h3,h4,h5,h6⟩:=h
  exact ⟨a,n,c,h1,h2,h3,h4,h5,fun i x hx=>let ⟨ad,e,hp⟩:=h6 i x hx;⟨ad,e,hp.mono hl⟩⟩
 len:=fun h=>by obtain ⟨a,n,c,h1,_⟩:=h;rw [h1];rfl
 one:=fun _=>rfl
 flat:=fun h=>by obtain ⟨a,n,c,h1,_⟩:=h;rw [h1];simp [Value.oneCell']
def rSeq {α β:Type} (a:Rp α) (b:Rp β):Rp (α × β) where
 sz:=a.sz+b.sz
 agg:=true
 R:=fun S cs x=>∃ c1 c2,cs=c1++c2∧a.R S c1 x.1∧b.R S c2 x.2
 mono:=fun hl h=>let ⟨c1,c2,e,h1,h2⟩:=h;⟨c1,c2,e,a.mono hl h1,b.mono hl h2⟩
 len:=fun h=>by obtain ⟨c1,c2,e,h1,h2⟩:=h;rw [e,List.length_append,a.len h1,b.len h2]
 one:=fun h=>by cases h
 flat:=fun h c hc=>by
  obtain ⟨c1,c2,e,h1,h2⟩:=h
  rw [e] at hc
  rcases List.mem_append.1 hc with hc|hc
  ·exact a.flat h1 c hc
  ·exact b.flat h2 c hc
def rMap {α γ:Type} (f:γ→α) (a:Rp α):Rp γ where
 sz:=a.sz
 agg:=true
 R:=fun S cs x=>a.R S cs (f x)
 mono:=fun hl h=>a.mono hl h
 len:=fun h=>a.len h
 one:=fun h=>by cases h
 flat:=fun h=>a.flat h
def rArr (n:Nat):Rp (List Int) where
 sz:=n
 agg:=true
 R:=fun _ cs xs=>xs.length=n∧cs=xs.map (fun x=>Value.int .i64 x)∧∀ x∈xs,Rng x
 mono:=fun _ h=>h
 len:=fun h=>by rw [h.2.1,List.length_map];exact h.1
 one:=fun h=>by cases h
 flat:=fun h c hc=>by
  rw [h.2.1] at hc
  obtain ⟨x,_,rfl⟩:=List.mem_map.1 hc
  rfl
/-! ### Parts -/
def Part {α β:Type} (rep:Rp α) (off:Nat) (repF:Rp β) (g:α→β):Prop:=
 ∀ S cs x,rep.R S cs x→∃ pre mid post,cs=pre++mid++post∧pre.length=off∧repF.R S mid (g x)
theorem Part.first {α β:Type} {a:Rp α} {b:Rp β}:Part (rSeq a b) 0 a (fun x=>x.1):=by
 intro S cs x h
 obtain ⟨c1,c2,e,h1,_⟩:=h
 exact ⟨[],c1,c2,by simpa using e,rfl,h1⟩
theorem Part.next {α β γ:Type} {a:Rp α} {b:Rp β} {off n:Nat} {f:Rp γ} {g:β→γ} (h:Part b off f g) (hn:a.sz+off=n):Part (rSeq a b) n f (fun x=>g x.2):=by
 intro S cs x hx
 obtain ⟨c1,c2,e,h1,h2⟩:=hx
 obtain ⟨pre,mid,post,e2,hl,hm⟩:=h S c2 x.2 h2
 exact ⟨c1++pre,mid,post,by rw [e,e2];simp,by rw [List.length_append,a.len h1,hl,hn],hm⟩
theorem Part.last {α β:Type} {a:Rp α} {b:Rp β} {n:Nat} (hn:a.sz=n):Part (rSeq a b) n b (fun x=>x.2):=by
 intro S cs x hx
 obtain ⟨c1,c2,e,h1,h2⟩:=hx
 exact ⟨c1,c2,[],by simpa using e,by rw [a.len h1,hn],h2⟩
theorem Part.map {α γ β:Type} {a:Rp α} {f:γ→α} {off:Nat} {r:Rp β} {g:α→β} (h:Part a off r g):Part (rMap f a) off r (fun x=>g (f x)):=
 fun S cs x hx=>h S cs (f x) hx
theorem Part.whole {α γ:Type} {a:Rp α} {f:γ→α}:Part (rMap f a) 0 a f:=fun S cs x h=>⟨[],cs,[],by simp,rfl,h⟩
theorem PtrTo.part {α β:Type} {S:SHeap} {p:Addr} {rep:Rp α} {x:α} {off:Nat} {repF:Rp β} {g:α→β} (h:PtrTo S p rep x) (hp:Part rep off repF g) :
  PtrTo S (p.add off) repF (g x):=by
 obtain ⟨cs,h1,h2⟩:=h
 obtain ⟨pre,mid,post,e,hl,hm⟩:=hp S cs x h1
 refine ⟨mid,hm,fun j v hv=>?_⟩
 rw [add_add]
 refine h2 (off+j) v ?_
 have hj:j < mid.length:=by
  rcases Nat.lt_or_ge j mid.length with h|h
  ·exact h
  ·rw [List.getElem?_eq_none h] at hv;cases hv
 rw [e,List.append_assoc,List.getElem?_append_right (by omega),List.getElem?_append_left (by omega),show off+j - pre.length=j by omega]
 exact hv
/-! ### Values -/
theorem V_i64 {S:SHeap} {v:Value} {x:Int}:rI64.V S v x↔v=.int .i64 x∧Rng x:=by
 constructor
 ·rintro ⟨cs,h1,h2⟩
  have h2:cs=[v]:=by simpa [rI64] using h2
  rw [h2] at h1
  exact ⟨by simpa using h1.1,h1.2⟩
 ·rintro ⟨rfl,h⟩;exact ⟨_,⟨rfl,h⟩,by simp [rI64]⟩
theorem V_bool {S:SHeap} {v:Value} {x:Bool}:rBool.V S v x↔v=.bool x:=by
 constructor
 ·rintro ⟨cs,h1,h2⟩
  have h2:cs=[v]:=by simpa [rBool] using h2
  rw [h2] at h1
  simpa [rBool] using h1
 ·rintro rfl;exact ⟨_,rfl,by simp [rBool]⟩
theorem V_val {S:SHeap} {v x:Value}:rVal.V S v x↔v=x∧x.oneCell'=true:=by
 constructor
 ·rintro ⟨cs,h1,h2⟩
  have h2:cs=[v]:=by simpa [rVal] using h2
  rw [h2] at h1
  exact ⟨by simpa using h1.1,h1.2⟩
 ·rintro ⟨rfl,h⟩;exact ⟨_,⟨rfl,h⟩,by simp [rVal]⟩
theorem V_str {S:SHeap} {v:Value} {x:ByteArray}:rStr.V S v x↔v=.string x∧x.size≤big:=by
 constructor
 ·rintro ⟨cs,h1,h2⟩
  have h2:cs=[v]:=by simpa [rStr] using h2
  rw [h2] at h1
  exact ⟨by simpa using h1.1,h1.2⟩
 ·rintro ⟨rfl,h⟩;exact ⟨_,⟨rfl,h⟩,by simp [rStr]⟩
theorem V_slice {α:Type} {bt:Nat} {rep:Rp α} {S:SHeap} {v:Value} {xs:List α}:(rSlice bt rep).V S v xs ↔
  ∃ a c,v=.slice a xs.length c∧xs.length≤c∧xs.length*bt≤big∧xs.length≤big∧∀ i x,xs[i]?=some x→∃ ad,a=some ad∧PtrTo S (ad.add (i*rep.sz)) rep x:=by
 constructor
 ·rintro ⟨cs,⟨a,n,c,e,rfl,h1,h2,h3,h4⟩,h⟩
  have h:cs=[v]:=by simpa [rSlice] using h
  rw [h] at e
  exact ⟨a,c,by simpa using e,h1,h2,h3,h4⟩
 ·rintro ⟨a,c,rfl,h1,h2,h3,h4⟩;exact ⟨_,⟨a,_,c,rfl,rfl,h1,h2,h3,h4⟩,by simp [rSlice]⟩
theorem V_nil {α:Type} {bt:Nat} {rep:Rp α} {S:SHeap}:(rSlice bt rep).V S (.slice none 0 0) []:=
 V_slice.2 ⟨none,0,rfl,by simp,by simp,by simp,by simp⟩
/-! ### Types -/
def isAggD:TypeDesc→Bool
 | .struct _|.array _ _=>true
 | _=>false
def tyRB (P:Program) (T:TypeId) (agg:Bool) (sz:Nat):Bool:=
 (match P.underlying T with|some d=>isAggD d==agg|none=>false)&&(match P.info? T with|some i=>Nat.beq i.size sz|none=>false)
class TyR {α:Type} (P:Program) (T:TypeId) (rep:Rp α):Prop where
 b:tyRB P T rep.agg rep.sz=true
theorem TyR.u {α:Type} {P:Program} {T:TypeId} {rep:Rp α} (h:TyR P T rep):∃ d,P.underlying T=some d∧isAggD d=rep.agg:=by
 have hb:=h.b
 unfold tyRB at hb
 simp only [Bool.and_eq_true] at hb
 have h1:=hb.1
 split at h1
 ·rename_i d hd;exact ⟨d,hd,by simpa using h1⟩
 ·cases h1
theorem TyR.i {α:Type} {P:Program} {T:TypeId} {rep:Rp α} (h:TyR P T rep):∃ i,P.info? T=some i∧i.size=rep.sz:=by
 have hb:=h.b
 unfold tyRB at hb
 simp only [Bool.and_eq_true] at hb
 have h1:=hb.2
 split at h1
 ·rename_i i hi;exact ⟨i,hi,Nat.eq_of_beq_eq_true h1⟩
 ·cases h1
theorem run_isAgg {α:Type} {P:Program} {T:TypeId} {rep:Rp α} (h:TyR P T rep) (w:World):(isAgg T).run P w=.ok rep.agg w:=by
 obtain ⟨d,hd,ha⟩:=h.u
 unfold isAgg
 simp only [Sem.run_bind,run_underlying hd,Result.andThen_ok]
 rw [← ha]
 cases d<;>rfl
theorem run_sizeOf {α:Type} {P:Program} {T:TypeId} {rep:Rp α} (h:TyR P T rep) (w:World):(sizeOf T).run P w=.ok rep.sz w:=by
 obtain ⟨i,hi,hs⟩:=h.i
 simp [sizeOf,typeInfo,hi,hs]
theorem load_run {α:Type} {P:Program} {T:TypeId} {rep:Rp α} {S:SHeap} {p:Addr} {x:α} (h:TyR P T rep) (hp:PtrTo S p rep x) :
  ∃ v,rep.V S v x∧∀ w,Agree S w→(loadVar T p).run P w=.ok v w:=by
 obtain ⟨cs,h1,h2⟩:=hp
 have hlen:=rep.len h1
 cases ha:rep.agg with
 | true=>
  refine ⟨.agg cs.toArray,⟨cs,h1,by simp [ha]⟩,fun w hw=>?_⟩
  unfold loadVar
  simp only [Sem.run_bind,run_isAgg h,Result.andThen_ok,ha,if_true,run_sizeOf h]
  rw [← hlen,run_loadCells_list (P:=P) w p cs (fun j v hv=>hw.cell (h2 j v hv))]
  rfl
 | false=>
  have h1s:=rep.one ha
  obtain ⟨c,rfl⟩:∃ c,cs=[c]:=by
   match cs,hlen with
   | [c],_=>exact ⟨c,rfl⟩
   | [],h=>simp [h1s] at h
   | _::_::_,h=>simp [h1s] at h
  refine ⟨c,⟨[c],h1,by simp [ha]⟩,fun w hw=>?_⟩
  have hc:=hw.cell (h2 0 c rfl)
  rw [add_zero] at hc
  unfold loadVar
  simp only [Sem.run_bind,run_isAgg h,Result.andThen_ok,ha,Bool.false_eq_true,if_false]
  simp [load,Sem.run,hc]
end Go.Dr
namespace Go.Dr
open Go.RowKit
/-! ### The slots -/
abbrev Env:=List (Nat × Value)
def Env.get?:Env→Nat→Option Value
 | [],_=>none
 | (k,v)::e,t=>bif Nat.beq k t then some v else Env.get? e t
structure Holds (N:Nat) (e:Env) (a:Act):Prop where
 size:a.tmps.size=N
 at_:∀ t v,Env.get? e t=some v→a.tmps[t]?=some v
theorem Holds.put {N:Nat} {e:Env} {a:Act} (h:Holds N e a) {d:Nat} (hd:Nat.blt d N=true) (v:Value):Holds N ((d,v)::e) (a.put (some d) v):=by
 have hd':d < N:=by simpa [Nat.blt_eq] using hd
 refine ⟨by simp [Act.put,h.size],fun t u ht=>?_⟩
 simp only [Env.get?] at ht
 by_cases e1:d=t
 ·subst e1
  rw [Nat.beq_refl] at ht
  cases ht
  simp [Act.put,h.size,hd']
 ·have:Nat.beq d t=false:=by cases h:Nat.beq d t with|false=>rfl|true=>exact absurd (Nat.eq_of_beq_eq_true h) e1
  rw [this] at ht
  simp only [Act.put]
  rw [Array.getElem?_setIfInBounds_ne e1]
  exact h.at_ t u ht
def subE:Env→Env→Prop
 | [],_=>True
 | (t,v)::l,e=>Env.get? e t=some v∧subE l e
theorem subE.get {e' e:Env} (h:subE e' e):∀ t v,Env.get? e' t=some v→Env.get? e t=some v:=by
 induction e' with
 | nil=>intro t v hh;cases hh
 | cons p l ih=>
  obtain ⟨k,u⟩:=p
  intro t v hh
  simp only [Env.get?] at hh
  cases hb:Nat.beq k t with
  | true=>
   have e1:=Nat.eq_of_beq_eq_true hb
   subst e1
   rw [Nat.beq_refl] at hh
   cases hh
   exact h.1
  | false=>rw [hb] at hh;exact ih h.2 t v hh
theorem Holds.sub {N:Nat} {e e':Env} {a:Act} (h:Holds N e a) (hs:∀ t v,Env.get? e' t=some v→Env.get? e t=some v):Holds N e' a:=
 ⟨h.size,fun t v ht=>h.at_ t v (hs t v ht)⟩
def ev (e:Env):Operand→Option Value
 | .tmp t=>Env.get? e t
 | .const v=>some v
 | .global g=>some (.pointer (some ⟨g,0,none⟩))
 | .func f=>some (.func (.func f) #[] #[])
theorem Holds.eval {N:Nat} {e:Env} {a:Act} (h:Holds N e a) {x:Operand} {v:Value} (hx:ev e x=some v):a.eval x=v:=by
 cases x with
 | tmp t=>
  have:=h.at_ t v hx
  simp [Act.eval,Array.getD_eq_getD_getElem?,this]
 | const u=>simpa [ev,Act.eval] using hx
 | global g=>simpa [ev,Act.eval] using hx
 | func f=>simpa [ev,Act.eval] using hx
def gok (ops:Array Oper) (e:Env) (o:Oper):Option Bool:=
 match o.guard with
 | none=>some true
 | some (g,want)=>
  match (ops[g]?).bind (·.dst) with
  | some t=>match Env.get? e t with
   | some (.bool b)=>some (b==want)
   | some (.tuple _)=>some false
   | _=>none
  | none=>none
theorem Holds.wanted {N:Nat} {ops:Array Oper} {e:Env} {o:Oper} {a:Act} {b:Bool} (h:Holds N e a) (hg:gok ops e o=some b):Region.wanted o (yielded ops a.tmps)=b:=by
 unfold gok at hg
 unfold Region.wanted
 cases hgd:o.guard with
 | none=>rw [hgd] at hg;simpa using hg
 | some gw=>
  obtain ⟨g,want⟩:=gw
  rw [hgd] at hg
  simp only at hg ⊢
  cases ht:(ops[g]?).bind (·.dst) with
  | none=>rw [ht] at hg;cases hg
  | some t=>
   rw [ht] at hg
   simp only at hg
   cases hv:Env.get? e t with
   | none=>rw [hv] at hg;cases hg
   | some v=>
    rw [hv] at hg
    cases v<;>simp only [reduceCtorEq,Option.some.injEq] at hg
    case tuple vs=>
     have hy:yielded ops a.tmps g=none:=by
      unfold yielded
      rw [ht]
      simp [h.at_ t _ hv]
     rw [hy,← hg]
     cases want<;>rfl
    rename_i b'
    have hy:yielded ops a.tmps g=some b':=by
     unfold yielded
     rw [ht]
     simp [h.at_ t _ hv]
    rw [hy,← hg]
    cases b'<;>cases want<;>rfl
/-! ### The judgements -/
structure Cx where
 P:Program
 r:Option Nat
 N:Nat
 D:List Deferred
 w0:World
 B0:List Nat
 S0:SHeap
structure Cx.W (C:Cx) (S:SHeap) (M:List MEnt) (e:Env) (a:Act) (w:World):Prop where
 env:Holds C.N e a
 defers:a.defers=C.D
 wd:Wd C.w0 C.B0 C.S0 S M w
abbrev Post:=Exit→Act→World→Prop
structure JC (C:Cx) (c:Code) (Q:Post) (S:SHeap) (M:List MEnt) (e:Env):Prop where
 run:∀ a w,C.W S M e a w→c.wpIn (FR C.r) 0 C.P Q a w
structure JX (C:Cx) (x:Exit) (Q:Post) (S:SHeap) (M:List MEnt) (e:Env):Prop where
 run:∀ a w,C.W S M e a w→Q x a w
def effOp:Op→Bool
 | .move _|.assign _|.pick ..|.load ..|.fieldAddr ..|.field ..|.indexAddr ..|.index ..|.extract ..|.binOp ..|.unOp ..|.nilCheck _|.slice ..|.build ..|.convert ..|.makeInterface ..
 | .typeAssert ..|.makeFunc ..|.lookup ..=>false
 | .call { callee:=.builtin .len,.. }|.call { callee:=.builtin .min,.. }|.call { callee:=.builtin .max,.. }=>false
 | _=>true
structure Rg where
 ops:Array Oper
 anch:List Nat
 T:Option (List Nat)
 t:Pl
 fe:List Nat
def Rg.isEff (R:Rg) (i:Nat):Bool:=match R.ops[i]? with|some o=>effOp o.op||R.fe.any (Nat.beq i)|none=>true
def Rg.isAnch (R:Rg) (i:Nat):Bool:=R.anch.any (Nat.beq i)
def Rg.TP (R:Rg):Nat→Prop:=fun b=>match R.T with|none=>True|some l=>b∈l
def Rg.TS (R:Rg) (S:SHeap):Nat→Prop:=fun b=>R.TP b∧S b=none
theorem Rg.TS_le {R:Rg} {S S':SHeap} (h:S.le S'):∀ b,R.TS S' b→R.TS S b:=by
 intro b hb
 refine ⟨hb.1,?_⟩
 cases hS:S b with
 | none=>rfl
 | some o=>have:=h b o hS;rw [hb.2] at this;cases this
def TOK (_:Option (List Nat)) (_:SHeap) (_:World):Prop:=True
def Cx.DF (C:Cx) (R:Rg) (Q:Post) (S:SHeap) (L:List Nat) (a:Act) (w:World):Prop:=Dr.DF C.r C.P R.ops R.isEff R.isAnch (Dr.DT C.r C.P R.ops R.isEff R.isAnch (fun _ a w=>Q .normal a w) R.t) (R.TS S) L a w
theorem Cx.DF.shrink {C:Cx} {R:Rg} {Q:Post} {S S':SHeap} {L:List Nat} {a:Act} {w:World} (h:S.le S') (hd:C.DF R Q S' L a w):C.DF R Q S L a w:=Dr.DF.shrink (Rg.TS_le h) (fun _ _ hh=>Dr.DT.shrink (Rg.TS_le h) (fun _ _ h=>h) hh) hd
structure JO (C:Cx) (R:Rg) (L:List Nat) (Q:Post) (S:SHeap) (M:List MEnt) (e:Env):Prop where
 run:∀ a w,C.W S M e a w→TOK R.T S w→C.DF R Q S L a w
section
variable {C:Cx} {R:Rg} {Q:Post} {S S':SHeap} {M M':List MEnt} {e e':Env}
/-! ### Code -/
theorem JC.seq {x y:Code} (h:JC C x (Exit.then (y.wpIn (FR C.r) 0 C.P Q) Q) S M e):JC C (.seq x y) Q S M e:=⟨fun a w hw=>wpIn_seq (h.run a w hw)⟩
theorem JX.then_ {y:Code} (h:JC C y Q S M e):JX C .normal (Exit.then (y.wpIn (FR C.r) 0 C.P Q) Q) S M e:=⟨fun a w hw=>h.run a w hw⟩
theorem JX.then_exit {K:Act→World→Prop} {id:Nat} (h:JX C (.exit id) Q S M e):JX C (.exit id) (Exit.then K Q) S M e:=⟨h.run⟩
theorem JX.then_ret {K:Act→World→Prop} (h:JX C .ret Q S M e):JX C .ret (Exit.then K Q) S M e:=⟨h.run⟩
theorem JX.blk {id:Nat} (h:JX C .normal Q S M e):JX C .normal (Exit.inBlock id Q) S M e:=⟨h.run⟩
theorem JX.blk_exit {id:Nat} (h:JX C .normal Q S M e):JX C (.exit id) (Exit.inBlock id Q) S M e:=⟨fun a w hw=>by
 show if id=id then Q .normal a w else _
 rw [if_pos rfl];exact h.run a w hw⟩
theorem JX.blk_other {id id':Nat} (hn:Nat.beq id' id=false) (h:JX C (.exit id') Q S M e):JX C (.exit id') (Exit.inBlock id Q) S M e:=⟨fun a w hw=>by
 show if id'=id then Q .normal a w else Q (.exit id') a w
 rw [if_neg (fun e=>by rw [e,Nat.beq_refl] at hn;cases hn)];exact h.run a w hw⟩
theorem JX.blk_ret {id:Nat} (h:JX C .ret Q S M e):JX C .ret (Exit.inBlock id Q) S M e:=⟨h.run⟩
theorem JC.skip (h:JX C .normal Q S M e):JC C .skip Q S M e:=⟨fun a w hw=>wpIn_skip (h.run a w hw)⟩
theorem JC.exit {id:Nat} (h:JX C (.exit id) Q S M e):JC C (.exit id) Q S M e:=⟨fun a w hw=>wpIn_exit (h.run a w hw)⟩
theorem JC.ret (h:JX C .ret Q S M e):JC C .ret Q S M e:=⟨fun a w hw=>wpIn_ret (h.run a w hw)⟩
theorem JC.block {id:Nat} {c:Code} (h:JC C c (Exit.inBlock id Q) S M e):JC C (.block id c) Q S M e:=⟨fun a w hw=>wpIn_block (h.run a w hw)⟩
theorem JC.cond {c:Operand} {x y:Code} {b:Bool} (hc:ev e c=some (.bool b)) (h1:b=true→JC C x Q S M e) (h2:b=false→JC C y Q S M e):JC C (.cond c x y) Q S M e:=⟨fun a w hw=>by
 refine wpIn_cond (hw.env.eval hc) ?_
 cases b with
 | true=>exact (h1 rfl).run a w hw
 | false=>exact (h2 rfl).run a w hw⟩
theorem JC.condT {c:Operand} {x y:Code} (hc:ev e c=some (.bool true)) (h1:JC C x Q S M e):JC C (.cond c x y) Q S M e:=JC.cond hc (fun _=>h1) (fun h=>by cases h)
theorem JC.condF {c:Operand} {x y:Code} (hc:ev e c=some (.bool false)) (h1:JC C y Q S M e):JC C (.cond c x y) Q S M e:=JC.cond hc (fun h=>by cases h) (fun _=>h1)
theorem JC.region {id:Nat} {ops:Array Oper} (ht:ops.toList.all tame=true)
  (h:JO C ⟨ops,List.range ops.size,none,.nil,[]⟩ (List.range ops.size) Q S M e):JC C (.region id ops false) Q S M e:=⟨fun a w hw=>
 wp_region_seq (Rg.isEff ⟨ops,List.range ops.size,none,.nil,[]⟩) (Rg.isAnch ⟨ops,List.range ops.size,none,.nil,[]⟩) (Rg.TS ⟨ops,List.range ops.size,none,.nil,[]⟩ S) ht (fun _ _ _ h=>h.elim) (h.run a w hw trivial)⟩
theorem JC.draw {id:Nat} {ops:Array Oper} (L anch:List Nat) (T:List Nat) (hm:C.P.follows .mixedOrders=true)
  (hchk:regionOK ops (Rg.isEff ⟨ops,anch,some T,.nil,[]⟩) (Rg.isAnch ⟨ops,anch,some T,.nil,[]⟩) L=true) (hT:∀ b∈T,∃ m∈M,m.own=some b)
  (h:JO C ⟨ops,anch,some T,.nil,[]⟩ L Q S M e):JC C (.region id ops true) Q S M e:=⟨fun a w hw=>by
 exact wp_region_df hm L _ _ (Rg.TS ⟨ops,anch,some T,.nil,[]⟩ S) hchk (fun _ _ _ h=>h.elim) (h.run a _ ⟨hw.env,hw.defers,hw.wd.drew⟩ trivial)⟩
theorem JC.weaken {c:Code} (h:JC C c Q S' M' e') (hw:∀ a w,C.W S M e a w→C.W S' M' e' a w):JC C c Q S M e:=⟨fun a w k=>h.run a w (hw a w k)⟩
theorem JC.env {c:Code} (e':Env) (hs:subE e' e) (h:JC C c Q S M e'):JC C c Q S M e:=
 h.weaken fun _ _ k=>⟨k.env.sub hs.get,k.defers,k.wd⟩
/-! ### Loops -/
def LoopPost (C:Cx) {σ:Type} (S1:σ→SHeap) (M1:σ→List MEnt) (e1:σ→Env) (V:σ→Prop) (μ:σ→Nat) (s:σ):Act→World→Prop:=
 fun a w=>∃ s',V s'∧C.W (S1 s') (M1 s') (e1 s') a w∧μ s' < μ s
theorem least {p:Nat→Prop} (h:∃ n,p n):∃ n,p n∧∀ m,p m→n≤m:=by
 obtain ⟨n,hn⟩:=h
 induction n using Nat.strongRecOn with
 | _ n ih=>
  by_cases hh:∃ m,m < n∧p m
  ·obtain ⟨m,hm,hp⟩:=hh;exact ih m hm hp
  ·exact ⟨n,hn,fun m hm=>by
    rcases Nat.lt_or_ge m n with h|h
    ·exact absurd ⟨m,h,hm⟩ hh
    ·exact h⟩
open Classical in
theorem JC.loop {c:Code} {σ:Type} (S1:σ→SHeap) (M1:σ→List MEnt) (e1:σ→Env) (V:σ→Prop) (μ:σ→Nat) (s0:σ) (h0:V s0) (hM:M1 s0=M) (hS:S1 s0=S)
  (he:subE (e1 s0) e)
  (h:∀ s,V s→JC C c (Exit.then (LoopPost C S1 M1 e1 V μ s) Q) (S1 s) (M1 s) (e1 s)):JC C (.loop c) Q S M e:=⟨fun a w k=>by
 subst hM;subst hS
 let p:Act→World→Nat→Prop:=fun a w n=>∃ s,V s∧C.W (S1 s) (M1 s) (e1 s) a w∧μ s=n
 refine wpIn_loop (fun a w=>∃ n,p a w n) (fun a w=>if hh:∃ n,p a w n then Classical.choose (least hh) else 0) ⟨_,s0,h0,⟨k.env.sub he.get,k.defers,k.wd⟩,rfl⟩ ?_
 intro a w hI
 have hmin:=Classical.choose_spec (least hI)
 obtain ⟨s,hv,hw,hn⟩:=hmin.1
 refine wpIn_mono ((h s hv).run a w hw) ?_
 intro x a' w' hx
 cases x<;>first|exact hx|skip
 obtain ⟨s',hv',hw',hlt⟩:=hx
 have hI':∃ n,p a' w' n:=⟨_,s',hv',hw',rfl⟩
 refine ⟨hI',?_⟩
 simp only [dif_pos hI,dif_pos hI']
 have h2:=(Classical.choose_spec (least hI')).2 (μ s') ⟨s',hv',hw',rfl⟩
 omega⟩
theorem JX.round {K:Post} {σ:Type} {S1:σ→SHeap} {M1:σ→List MEnt} {e1:σ→Env} {V:σ→Prop} {μ:σ→Nat} {s:σ} (s':σ) (hv:V s') (hlt:μ s' < μ s) (hS:S1 s'=S) (hM:M1 s'=M) (he:subE (e1 s') e) :
  JX C .normal (Exit.then (LoopPost C S1 M1 e1 V μ s) K) S M e:=⟨fun _ _ hw=>⟨s',hv,by subst hS;subst hM;exact ⟨hw.env.sub he.get,hw.defers,hw.wd⟩,hlt⟩⟩
end
end Go.Dr
namespace Go.Dr
open Go.RowKit
/-! ### What the program's tables say -/
class Und (P:Program) (t:TypeId) (d:outParam TypeDesc):Prop where
 h:P.underlying t=some d
def fOffB (P:Program) (T:TypeId) (k off:Nat):Bool:=
 match P.underlying T with
 | some (.struct fs)=>match fs[k]? with
  | some f=>Nat.beq f.offset off&&(match P.info? f.type with|some i=>Nat.ble 1 i.size|none=>false)
  | none=>false
 | _=>false
class FOff (P:Program) (T:TypeId) (k:Nat) (off:outParam Nat):Prop where
 b:fOffB P T k off=true
theorem FOff.h {P:Program} {T:TypeId} {k off:Nat} (h:FOff P T k off):∃ fs f,P.underlying T=some (.struct fs)∧fs[k]?=some f∧f.offset=off∧∃ i,P.info? f.type=some i∧i.size≠0:=by
 have hb:=h.b
 unfold fOffB at hb
 split at hb
 ·rename_i fs hu
  split at hb
  ·rename_i f hf
   simp only [Bool.and_eq_true] at hb
   have h1:=Nat.eq_of_beq_eq_true hb.1
   have h2:=hb.2
   split at h2
   ·rename_i i hi
    exact ⟨fs,f,hu,hf,h1,i,hi,by have:=Nat.le_of_ble_eq_true h2;omega⟩
   ·cases h2
  ·cases hb
 ·cases hb
class Fld {α:Type} {β:outParam Type} (rep:Rp α) (off:Nat) (repF:outParam (Rp β)) (g:outParam (α→β)):Prop where
 h:Part rep off repF g
def entB (P:Program) (f:FuncId):Bool:=
 match P.funcs[f]? with
 | some fn => !(fn.name == "runtime.NumGoroutine") && fn.body.isSome
 | none=>false
class Ent (P:Program) (f:FuncId):Prop where
 b:entB P f=true
theorem Ent.h {P : Program} {f : FuncId} (h : Ent P f) : ∃ fn, P.funcs[f]? = some fn ∧ (fn.name == "runtime.NumGoroutine") = false ∧ fn.body.isNone = false := by
 have hb:=h.b
 unfold entB at hb
 split at hb
 ·rename_i fn hf
  simp only [Bool.and_eq_true,Bool.not_eq_true'] at hb
  refine ⟨fn,hf,hb.1,?_⟩
  cases h1:fn.body<;>simp_all
 ·cases hb
theorem run_enter {P:Program} {f:FuncId} (h:Ent P f) (args:Array Value) (w:World):(callFunc f args).run P w=.ok (.enter f args) w:=by
 obtain ⟨fn,hf,hn,hb⟩:=h.h
 have hn' : ¬ fn.name = "runtime.NumGoroutine" := by simpa using hn
 have hb':¬ fn.body=none:=by intro h;simp [h] at hb
 simp [callFunc,program,hf,hn',hb',Sem.run]
def evs (e:Env):List Operand→Option (List Value)
 | []=>some []
 | x::l=>match ev e x,evs e l with
  | some v,some vs=>some (v::vs)
  | _,_=>none
theorem Holds.evals {N:Nat} {e:Env} {a:Act} (h:Holds N e a) {xs:List Operand} {vs:List Value} (hx:evs e xs=some vs):xs.map a.eval=vs:=by
 induction xs generalizing vs with
 | nil=>simpa [evs] using hx
 | cons x l ih=>
  unfold evs at hx
  cases h1:ev e x with
  | none=>rw [h1] at hx;cases hx
  | some v=>
   cases h2:evs e l with
   | none=>rw [h1,h2] at hx;cases hx
   | some us=>
    rw [h1,h2] at hx
    cases hx
    rw [List.map_cons,h.eval h1,ih h2]
section
variable {C:Cx} {R:Rg} {Q:Post} {S S' S1:SHeap} {M M':List MEnt} {e e':Env} {rest:List Nat}
/-! ### The head of a region's list -/
structure JPure (C:Cx) (R:Rg) (an:Bool) (o:Oper) (rest:List Nat) (Q:Post) (S:SHeap) (M:List MEnt) (e:Env):Prop where
 run:∀ a w,C.W S M e a w→TOK R.T S w→∃ v,(∀ w',SubX (if an=true then fun _=>False else R.TS S) w w'→(execOp a.eval o).run C.P w'=.ok (.value v) w')∧C.DF R Q S rest (a.put o.dst v) w
structure JEff (C:Cx) (R:Rg) (o:Oper) (rest:List Nat) (Q:Post) (S:SHeap) (M:List MEnt) (e:Env):Prop where
 run:∀ a w,C.W S M e a w→TOK R.T S w→o.wpIn (FR C.r) 0 C.P a w (fun a' w'=>SubX (TE (R.TS S) o) w w'∧C.DF R Q S rest a' w') NoExit
theorem JO.done {ops:Array Oper} {an fe:List Nat} {T:Option (List Nat)} (k:JX C .normal Q S M e):JO C ⟨ops,an,T,.nil,fe⟩ [] Q S M e:=⟨fun a w hw _=>k.run a w hw⟩
theorem DT_ofL {r:Option Nat} {P:Program} {ops:Array Oper} {eff anch:Nat→Bool} {Q:(Nat→Prop)→Act→World→Prop} {t:Pl}:∀ {L:List Nat} {T:Nat→Prop} {a:Act} {w:World},Dr.DF r P ops eff anch (Dr.DT r P ops eff anch Q t) T L a w→Dr.DT r P ops eff anch Q (ofL L t) T a w
 | [],_,_,_,h=>h
 | i::L,T,a,w,h=>by
  unfold ofL Dr.DT
  have key:∀ {K K':(Nat→Prop)→Act→World→Prop} (_:∀ T a w,K T a w→K' T a w),Dr.DF r P ops eff anch K T [i] a w→Dr.DF r P ops eff anch K' T [i] a w:=by
   intro K K' hk hd
   simp only [Dr.DF] at hd ⊢
   obtain ⟨T1,hT1,o,ho,hd⟩:=hd
   refine ⟨T1,hT1,o,ho,?_⟩
   split at hd
   ·rename_i hw
    rw [if_pos hw]
    split at hd
    ·rename_i he
     rw [if_pos he]
     exact Oper.wpIn_mono (fun a w hh=>⟨hh.1,hk _ _ _ hh.2⟩) hd
    ·rename_i he
     rw [if_neg he]
     obtain ⟨v,hv,hd⟩:=hd
     exact ⟨v,hv,hk _ _ _ hd⟩
   ·rename_i hw
    rw [if_neg hw]
    exact hk _ _ _ hd
  refine key (fun T a w hh=>DT_ofL hh) (K:=fun T a w=>Dr.DF r P ops eff anch (Dr.DT r P ops eff anch Q t) T L a w) ?_
  simp only [Dr.DF] at h ⊢
  exact h
theorem JO.alt {ops:Array Oper} {an fe:List Nat} {T:Option (List Nat)} {t1 t2:Pl} {L1 L2:List Nat} (h1:JO C ⟨ops,an,T,t1,fe⟩ L1 Q S M e) (h2:JO C ⟨ops,an,T,t2,fe⟩ L2 Q S M e):JO C ⟨ops,an,T,.alt (ofL L1 t1) (ofL L2 t2),fe⟩ [] Q S M e:=⟨fun a w hw ht=>
 ⟨DT_ofL (h1.run a w hw ht),DT_ofL (h2.run a w hw ht)⟩⟩
theorem JO.pure {i:Nat} {o:Oper} (ho:R.ops[i]?=some o) (hg:gok R.ops e o=some true) (he:R.isEff i=false) (k:JPure C R (R.isAnch i) o rest Q S M e):JO C R (i::rest) Q S M e:=⟨fun a w hw ht=>by
 obtain ⟨v,hv,hd⟩:=k.run a w hw ht
 refine ⟨_,fun _ h=>h,o,ho,?_⟩
 rw [if_pos (hw.env.wanted hg),if_neg (by rw [he];simp)]
 exact ⟨v,hv,hd⟩⟩
theorem JO.eff {i:Nat} {o:Oper} (ho:R.ops[i]?=some o) (hg:gok R.ops e o=some true) (he:R.isEff i=true) (k:JEff C R o rest Q S M e):JO C R (i::rest) Q S M e:=⟨fun a w hw ht=>by
 refine ⟨_,fun _ h=>h,o,ho,?_⟩
 rw [if_pos (hw.env.wanted hg),if_pos he]
 exact k.run a w hw ht⟩
theorem JO.skip {i d:Nat} {o:Oper} (ho:R.ops[i]?=some o) (hg:gok R.ops e o=some false) (hd:o.dst=some d) (hdN:Nat.blt d C.N=true) (k:JO C R rest Q S M ((d,undef)::e)):JO C R (i::rest) Q S M e:=⟨fun a w hw ht=>by
 refine ⟨_,fun _ h=>h,o,ho,?_⟩
 rw [if_neg (by rw [hw.env.wanted hg];simp),hd]
 exact k.run _ w ⟨hw.env.put hdN _,hw.defers,hw.wd⟩ ht⟩
theorem JO.skip0 {i:Nat} {o:Oper} (ho:R.ops[i]?=some o) (hg:gok R.ops e o=some false) (hd:o.dst=none) (k:JO C R rest Q S M e):JO C R (i::rest) Q S M e:=⟨fun a w hw ht=>by
 refine ⟨_,fun _ h=>h,o,ho,?_⟩
 rw [if_neg (by rw [hw.env.wanted hg];simp),hd]
 exact k.run _ w hw ht⟩
theorem JO.guard {i g t:Nat} {o:Oper} {want b:Bool} (_ho:R.ops[i]?=some o) (_hg:o.guard=some (g,want)) (_ht:(R.ops[g]?).bind (·.dst)=some t) (hb:Env.get? e t=some (.bool b))
  (h1:b=true→JO C R (i::rest) Q S M ((t,.bool true)::e)) (h2:b=false→JO C R (i::rest) Q S M ((t,.bool false)::e)):JO C R (i::rest) Q S M e:=by
 have key:∀ (b':Bool),b=b'→(JO C R (i::rest) Q S M ((t,.bool b')::e))→JO C R (i::rest) Q S M e:=by
  rintro b' rfl h
  refine ⟨fun a w hw htt=>?_⟩
  refine h.run a w ⟨hw.env.sub fun u v hu=>?_,hw.defers,hw.wd⟩ htt
  simp only [Env.get?] at hu
  cases hx:Nat.beq t u with
  | true=>
   have e1:=Nat.eq_of_beq_eq_true hx
   subst e1
   rw [Nat.beq_refl] at hu
   exact hb.trans hu
  | false=>rw [hx] at hu;exact hu
 cases b with
 | true=>exact key true rfl (h1 rfl)
 | false=>exact key false rfl (h2 rfl)
theorem TS_agree {w w':World} {an:Bool} (hg:Agree S w) (hs:SubX (if an=true then fun _=>False else R.TS S) w w'):Agree S w':=by
 intro b o hb
 refine hs b o ?_ (hg b o hb)
 split
 ·exact fun h=>h
 ·intro hT
  rw [hT.2] at hb;cases hb
theorem effS {o:Oper} {w w':World} (hs:SubX (TE R.TP o) w w') (h:Agree S w) (h':Agree S w'):SubX (TE (R.TS S) o) w w':=by
 intro b x hb hx
 cases hm:mildOp o.op with
 | true=>
  refine hs b x ?_ hx
  unfold TE
  rw [hm]
  exact fun h=>h
 | false=>
  unfold TE at hs hb
  rw [hm] at hs hb
  cases hS:S b with
  | none=>exact hs b x (fun ht=>hb ⟨ht,hS⟩) hx
  | some y=>
   have:=h b y hS
   rw [this] at hx
   cases hx
   exact h' b _ hS
theorem JPure.of {an:Bool} {o:Oper} {d:Nat} {v:Value} (hd:o.dst=some d) (hdN:Nat.blt d C.N=true) (hv:∀ a w',Holds C.N e a→(execOp a.eval o).run C.P w'=.ok (.value v) w')
  (k:JO C R rest Q S M ((d,v)::e)):JPure C R an o rest Q S M e:=⟨fun a w hw ht=>by
 refine ⟨v,fun w' _=>hv a w' hw.env,?_⟩
 rw [hd]
 exact k.run _ w ⟨hw.env.put hdN _,hw.defers,hw.wd⟩ ht⟩
theorem JPure.ofS {i:Nat} {o:Oper} {d:Nat} {v:Value} (hd:o.dst=some d) (hdN:Nat.blt d C.N=true) (hv:∀ a w',Holds C.N e a→Agree S w'→(execOp a.eval o).run C.P w'=.ok (.value v) w')
  (k:JO C R rest Q S M ((d,v)::e)):JPure C R (R.isAnch i) o rest Q S M e:=⟨fun a w hw ht=>by
 refine ⟨v,fun w' hs=>hv a w' hw.env (TS_agree hw.wd.agree hs),?_⟩
 rw [hd]
 exact k.run _ w ⟨hw.env.put hdN _,hw.defers,hw.wd⟩ ht⟩
/-! ### Plain operations -/
variable {an:Bool} {d:Nat} {ty:TypeId} {pos:String} {aft:Array Edge} {g:Option (Nat × Bool)}
theorem JPure.move {x:Operand} {v:Value} (hx:ev e x=some v) (hdN:Nat.blt d C.N=true) (k:JO C R rest Q S M ((d,v)::e)):JPure C R an ⟨some d,.move x,ty,pos,aft,g⟩ rest Q S M e:=
 JPure.of rfl hdN (fun a w' h=>by simp [execOp,h.eval hx]) k
theorem JPure.assign {x:Operand} {v:Value} (hx:ev e x=some v) (hdN:Nat.blt d C.N=true) (k:JO C R rest Q S M ((d,v)::e)):JPure C R an ⟨some d,.assign x,ty,pos,aft,g⟩ rest Q S M e:=
 JPure.of rfl hdN (fun a w' h=>by simp [execOp,h.eval hx]) k
theorem JPure.pickT {c x y:Operand} {v:Value} (hc:ev e c=some (.bool true)) (hx:ev e x=some v) (hdN:Nat.blt d C.N=true) (k:JO C R rest Q S M ((d,v)::e)):JPure C R an ⟨some d,.pick c x y,ty,pos,aft,g⟩ rest Q S M e:=
 JPure.of rfl hdN (fun a w' h=>by simp [execOp,h.eval hx,h.eval hc,asBool]) k
theorem JPure.pickF {c x y:Operand} {v:Value} (hc:ev e c=some (.bool false)) (hx:ev e y=some v) (hdN:Nat.blt d C.N=true) (k:JO C R rest Q S M ((d,v)::e)):JPure C R an ⟨some d,.pick c x y,ty,pos,aft,g⟩ rest Q S M e:=
 JPure.of rfl hdN (fun a w' h=>by simp [execOp,h.eval hx,h.eval hc,asBool]) k
def bin (op:BinOp):Value→Value→Option Value
 | .int k a,.int k' b=>
  if k≠k' then none else
  match op with
  | .add=>some (.int k (k.wrap (a+b)))
  | .sub=>some (.int k (k.wrap (a - b)))
  | .mul=>some (.int k (k.wrap (a*b)))
  | .eql=>some (.bool (decide (a=b)))
  | .neq=>some (.bool (!decide (a=b)))
  | .lss=>some (.bool (decide (a < b)))
  | .leq=>some (.bool (decide (a≤b)))
  | .gtr=>some (.bool (decide (b < a)))
  | .geq=>some (.bool (decide (b≤a)))
  | _=>none
 | .string a,.string b=>
  match op with
  | .eql=>some (.bool (decide (a=b)))
  | .neq=>some (.bool (!decide (a=b)))
  | .lss=>some (.bool (Op.bytesLess a.data.toList b.data.toList))
  | .gtr=>some (.bool (Op.bytesLess b.data.toList a.data.toList))
  | .leq=>some (.bool (!Op.bytesLess b.data.toList a.data.toList))
  | .geq=>some (.bool (!Op.bytesLess a.data.toList b.data.toList))
  | _=>none
 | _,_=>none
theorem bytesLess_total:∀ a b:List UInt8,(Op.bytesLess b a)=!(Op.bytesLess a b||a==b)
 | [],[]=>rfl
 | [],_::_=>by simp [Op.bytesLess]
 | _::_,[]=>by simp [Op.bytesLess]
 | x::a,y::b=>by
  have ih:=bytesLess_total a b
  simp only [Op.bytesLess,ih]
  by_cases h1:x < y
  ·have h2:¬ y < x:=fun h=>by have:=UInt8.lt_iff_toNat_lt.1 h1;have:=UInt8.lt_iff_toNat_lt.1 h;omega
   have h3:(y==x)=false:=by
    rw [beq_eq_false_iff_ne];rintro rfl;exact absurd h1 h2
   simp [h1,h2,h3]
  ·by_cases h2:y < x
   ·have h3:(x==y)=false:=by rw [beq_eq_false_iff_ne];rintro rfl;exact absurd h2 h1
    simp [h1,h2,h3]
   ·have a1:¬ x.toNat < y.toNat:=fun h=>h1 (UInt8.lt_iff_toNat_lt.2 h)
    have a2:¬ y.toNat < x.toNat:=fun h=>h2 (UInt8.lt_iff_toNat_lt.2 h)
    have h3:x=y:=UInt8.toNat_inj.1 (by omega)
    subst h3
    simp [h1]
theorem str_eq (a b:ByteArray):(a.data.toList==b.data.toList)=decide (a=b):=by
 by_cases h:a=b
 ·subst h;simp
 ·have:¬ a.data=b.data:=fun hh=>h (by
   cases a;cases b;simp at hh;simp [hh])
  simp [h,this]
theorem run_str (op:BinOp) (t:TypeId) (a b:ByteArray) (r:Value) (h:bin op (.string a) (.string b)=some r) {P:Program} (w:World):(binOp op t (.string a) (.string b)).run P w=.ok r w:=by
 have e1:binOp op t (.string a) (.string b)=Op.stringOp op a b:=by cases op<;>simp [binOp]
 rw [e1]
 have tot:=bytesLess_total a.data.toList b.data.toList
 have eqs:=str_eq a b
 cases op<;>simp only [bin,reduceCtorEq,Option.some.injEq] at h<;>subst h<;>simp only [Op.stringOp,ByteArray.toList_eq,eqs,Sem.run_pure]
 all_goals rw [tot,eqs]
 all_goals simp
theorem JPure.bin {op:BinOp} {t t':TypeId} {x y:Operand} {u v r:Value} (hx:ev e x=some u) (hy:ev e y=some v) (hr:bin op u v=some r) (hdN:Nat.blt d C.N=true) (k:JO C R rest Q S M ((d,r)::e)) :
  JPure C R an ⟨some d,.binOp op t x y t',ty,pos,aft,g⟩ rest Q S M e:=
 JPure.of rfl hdN (fun a w' h=>by
  simp only [execOp,h.eval hx,h.eval hy]
  unfold Dr.bin at hr
  split at hr
  ·split at hr
   ·cases hr
   ·rename_i hk
    have hk':=Classical.not_not.1 hk
    subst hk'
    split at hr<;>cases hr<;>simp [go_sem,Op.intArith,eqGuard]
    all_goals rfl
  ·rename_i a b
   have:=run_str op t a b r (by unfold Dr.bin;exact hr) (P:=C.P) w'
   simp [go_sem,this]
  ·cases hr) k
theorem JPure.arith {op:BinOp} {t t':TypeId} {x y:Operand} {a b:Int} {r:Int} (hx:ev e x=some (.int .i64 a)) (hy:ev e y=some (.int .i64 b))
  (hr:(match op with|.add=>some (a+b)|.sub=>some (a - b)|.mul=>some (a*b)|_=>none)=some r) (hw:Rng r) (hdN:Nat.blt d C.N=true) (k:JO C R rest Q S M ((d,.int .i64 r)::e)) :
  JPure C R an ⟨some d,.binOp op t x y t',ty,pos,aft,g⟩ rest Q S M e:=by
 have hwr:IntKind.i64.wrap r=r:=by rw [IntKind.wrap_i64];unfold Rng at hw;omega
 refine JPure.bin hx hy (r:=.int .i64 r) ?_ hdN k
 cases op<;>simp only [reduceCtorEq,Option.some.injEq] at hr<;>subst hr<;>simp [Dr.bin,hwr]
theorem JPure.not {t:TypeId} {x:Operand} {b:Bool} (hx:ev e x=some (.bool b)) (hdN:Nat.blt d C.N=true) (k:JO C R rest Q S M ((d,.bool (!b))::e)):JPure C R an ⟨some d,.unOp .not t x,ty,pos,aft,g⟩ rest Q S M e:=
 JPure.of rfl hdN (fun a w' h=>by simp [execOp,h.eval hx,Op.unary]) k
def nth:List Value→Nat→Option Value
 | [],_=>none
 | v::_,0=>some v
 | _::l,n+1=>nth l n
theorem nth_eq:∀ (l:List Value) (n:Nat),nth l n=l[n]?
 | [],_=>rfl
 | _::_,0=>rfl
 | _::l,n+1=>by rw [nth,nth_eq l n];simp
theorem JPure.extract {x:Operand} {i:Nat} {vs:Array Value} {v:Value} (hx:ev e x=some (.tuple vs)) (hv:nth vs.toList i=some v) (hdN:Nat.blt d C.N=true) (k:JO C R rest Q S M ((d,v)::e)):JPure C R an ⟨some d,.extract x i,ty,pos,aft,g⟩ rest Q S M e:=
 JPure.of rfl hdN (fun a w' h=>by
  have h1:vs[i]?=some v:=by rw [nth_eq] at hv;simpa using hv
  simp [execOp,h.eval hx,Instr.extract,h1]) k
theorem JPure.lenS {t E:TypeId} {x:Operand} {a:Option Addr} {n c:Nat} (hx:ev e x=some (.slice a n c)) [hu:Und C.P t (.slice E)] (hdN:Nat.blt d C.N=true) (k:JO C R rest Q S M ((d,.int .i64 n)::e)) :
  JPure C R an ⟨some d,.call { callee:=.builtin .len,args:=#[x],argTypes:=#[t] },ty,pos,aft,g⟩ rest Q S M e:=
 JPure.of rfl hdN (fun a w' h=>by simp [execOp,resolve,invoke,builtin,h.eval hx,Builtin.len_,run_underlying hu.h,goInt]) k
theorem JPure.lenT {t:TypeId} {x:Operand} {s:ByteArray} (hx:ev e x=some (.string s)) [hu:Und C.P t .string] (hdN:Nat.blt d C.N=true) (k:JO C R rest Q S M ((d,.int .i64 s.size)::e)) :
  JPure C R an ⟨some d,.call { callee:=.builtin .len,args:=#[x],argTypes:=#[t] },ty,pos,aft,g⟩ rest Q S M e:=
 JPure.of rfl hdN (fun a w' h=>by simp [execOp,resolve,invoke,builtin,h.eval hx,Builtin.len_,run_underlying hu.h,goInt]) k
theorem JPure.min2 {ts:Array TypeId} {x y:Operand} {k:IntKind} {a b:Int} (hx:ev e x=some (.int k a)) (hy:ev e y=some (.int k b)) (hdN:Nat.blt d C.N=true) (k:JO C R rest Q S M ((d,.int k (min a b))::e)) :
  JPure C R an ⟨some d,.call { callee:=.builtin .min,args:=#[x,y],argTypes:=ts },ty,pos,aft,g⟩ rest Q S M e:=
 JPure.of rfl hdN (fun a' w' h=>by
  have:(if b < a then b else a)=min a b:=by rw [Int.min_def];split<;>split<;>omega
  simp [execOp,resolve,invoke,builtin,h.eval hx,h.eval hy,run_min_int2,this]) k
theorem JPure.max2 {ts:Array TypeId} {x y:Operand} {k:IntKind} {a b:Int} (hx:ev e x=some (.int k a)) (hy:ev e y=some (.int k b)) (hdN:Nat.blt d C.N=true) (k:JO C R rest Q S M ((d,.int k (max a b))::e)) :
  JPure C R an ⟨some d,.call { callee:=.builtin .max,args:=#[x,y],argTypes:=ts },ty,pos,aft,g⟩ rest Q S M e:=
 JPure.of rfl hdN (fun a' w' h=>by
  have:(if a < b then b else a)=max a b:=by rw [Int.max_def];split<;>split<;>omega
  simp [execOp,resolve,invoke,builtin,h.eval hx,h.eval hy,run_max_int2,this]) k
theorem JPure.nilP {x:Operand} {p:Addr} (hx:ev e x=some (.pointer (some p))) (hdN:Nat.blt d C.N=true) (k:JO C R rest Q S M ((d,.pointer (some p))::e)):JPure C R an ⟨some d,.nilCheck x,ty,pos,aft,g⟩ rest Q S M e:=
 JPure.of rfl hdN (fun a w' h=>by simp [execOp,h.eval hx]) k
theorem JPure.nilF {x:Operand} {f:FuncId} {fs cs:Array Value} (hx:ev e x=some (.func (.func f) fs cs)) (hdN:Nat.blt d C.N=true) (k:JO C R rest Q S M ((d,.func (.func f) fs cs)::e)):JPure C R an ⟨some d,.nilCheck x,ty,pos,aft,g⟩ rest Q S M e:=
 JPure.of rfl hdN (fun a w' h=>by simp [execOp,h.eval hx]) k
/-! ### Reading S -/
theorem run_fieldAt {P:Program} {T:TypeId} {k off:Nat} [h:FOff P T k off] (p:Addr) (w:World):(Instr.fieldAt T (.pointer (some p)) k).run P w=.ok (.pointer (some (p.add off))) w:=by
 obtain ⟨fs,f,hu,hf,ho,i,hi,hs⟩:=h.h
 subst ho
 simp [Instr.fieldAt,run_underlying hu,hf,Instr.sureAddr,fieldPlace,sizeOf,typeInfo,hi,hs]
theorem JPure.fieldP {T:TypeId} {x:Operand} {n off:Nat} {p:Addr} (hx:ev e x=some (.pointer (some p))) [FOff C.P T n off] (hdN:Nat.blt d C.N=true) (k:JO C R rest Q S M ((d,.pointer (some (p.add off)))::e)) :
  JPure C R an ⟨some d,.fieldAddr T x n,ty,pos,aft,g⟩ rest Q S M e:=
 JPure.of rfl hdN (fun a w' h=>by simp [execOp,h.eval hx,run_fieldAt]) k
theorem JPure.fieldS {α β:Type} {T:TypeId} {x:Operand} {n off:Nat} {p:Addr} {rep:Rp α} {x0:α} {repF:Rp β} {gg:α→β} (hx:ev e x=some (.pointer (some p))) (hp:PtrTo S p rep x0) [FOff C.P T n off] [hf:Fld rep off repF gg] (hdN:Nat.blt d C.N=true)
  (k:∀ q,PtrTo S q repF (gg x0)→JO C R rest Q S M ((d,.pointer (some q))::e)) :
  JPure C R an ⟨some d,.fieldAddr T x n,ty,pos,aft,g⟩ rest Q S M e:=JPure.fieldP (off:=off) hx hdN (k _ (hp.part hf.h))
theorem JPure.load {α:Type} {i:Nat} {T:TypeId} {x:Operand} {p:Addr} {rep:Rp α} {x0:α} (hx:ev e x=some (.pointer (some p))) (hp:PtrTo S p rep x0) [ht:TyR C.P T rep] (hdN:Nat.blt d C.N=true)
  (k:∀ v,rep.V S v x0→JO C R rest Q S M ((d,v)::e)):JPure C R (R.isAnch i) ⟨some d,.load T x,ty,pos,aft,g⟩ rest Q S M e:=by
 obtain ⟨v,hv,hrun⟩:=load_run ht hp
 exact JPure.ofS rfl hdN (fun a w' h hg=>by simp [execOp,h.eval hx,Instr.loadAt,Instr.sureAddr,hrun w' hg]) (k v hv)
theorem JPure.loadI {i:Nat} {T:TypeId} {x:Operand} {p:Addr} {x0:Int} (hx:ev e x=some (.pointer (some p))) (hp:PtrTo S p rI64 x0) [ht:TyR C.P T rI64] (hdN:Nat.blt d C.N=true)
  (k:Rng x0→JO C R rest Q S M ((d,.int .i64 x0)::e)):JPure C R (R.isAnch i) ⟨some d,.load T x,ty,pos,aft,g⟩ rest Q S M e:=
 JPure.load hx hp hdN fun v hv=>by obtain ⟨rfl,h⟩:=V_i64.1 hv;exact k h
theorem JPure.loadB {i:Nat} {T:TypeId} {x:Operand} {p:Addr} {x0:Bool} (hx:ev e x=some (.pointer (some p))) (hp:PtrTo S p rBool x0) [ht:TyR C.P T rBool] (hdN:Nat.blt d C.N=true)
  (k:JO C R rest Q S M ((d,.bool x0)::e)):JPure C R (R.isAnch i) ⟨some d,.load T x,ty,pos,aft,g⟩ rest Q S M e:=
 JPure.load hx hp hdN fun v hv=>by obtain rfl:=V_bool.1 hv;exact k
theorem JPure.loadT {i:Nat} {T:TypeId} {x:Operand} {p:Addr} {x0:ByteArray} (hx:ev e x=some (.pointer (some p))) (hp:PtrTo S p rStr x0) [ht:TyR C.P T rStr] (hdN:Nat.blt d C.N=true)
  (k:x0.size≤big→JO C R rest Q S M ((d,.string x0)::e)):JPure C R (R.isAnch i) ⟨some d,.load T x,ty,pos,aft,g⟩ rest Q S M e:=
 JPure.load hx hp hdN fun v hv=>by obtain ⟨rfl,h⟩:=V_str.1 hv;exact k h
theorem JPure.loadV {i:Nat} {T:TypeId} {x:Operand} {p:Addr} {x0:Value} (hx:ev e x=some (.pointer (some p))) (hp:PtrTo S p rVal x0) [ht:TyR C.P T rVal] (hdN:Nat.blt d C.N=true)
  (k:JO C R rest Q S M ((d,x0)::e)):JPure C R (R.isAnch i) ⟨some d,.load T x,ty,pos,aft,g⟩ rest Q S M e:=
 JPure.load hx hp hdN fun v hv=>by obtain ⟨rfl,_⟩:=V_val.1 hv;exact k
theorem JPure.loadL {α:Type} {i bt:Nat} {T:TypeId} {x:Operand} {p:Addr} {rep:Rp α} {x0:List α} (hx:ev e x=some (.pointer (some p))) (hp:PtrTo S p (rSlice bt rep) x0) [ht:TyR C.P T (rSlice bt rep)] (hdN:Nat.blt d C.N=true)
  (k:∀ a c,(rSlice bt rep).V S (.slice a x0.length c) x0→x0.length≤140737488355328→JO C R rest Q S M ((d,.slice a x0.length c)::e)):JPure C R (R.isAnch i) ⟨some d,.load T x,ty,pos,aft,g⟩ rest Q S M e:=
 JPure.load hx hp hdN fun v hv=>by
  obtain ⟨a,c,rfl,_,_,hb,_⟩:=V_slice.1 hv
  exact k a c hv hb
theorem JPure.indexS {α:Type} {bt:Nat} {T E:TypeId} {x y:Operand} {v:Value} {xs:List α} {rep:Rp α} {k':IntKind} {i:Int} {z:α} (hx:ev e x=some v) (hv:(rSlice bt rep).V S v xs) (hy:ev e y=some (.int k' i))
  [hu:Und C.P T (.slice E)] [ht:TyR C.P E rep] (hdN:Nat.blt d C.N=true) (h0:0≤i) (hz:xs[i.toNat]?=some z)
  (k:∀ q,PtrTo S q rep z→JO C R rest Q S M ((d,.pointer (some q))::e)):JPure C R an ⟨some d,.indexAddr T x y,ty,pos,aft,g⟩ rest Q S M e:=by
 obtain ⟨a,c,rfl,h1,h2,h3,h4⟩:=V_slice.1 hv
 obtain ⟨ad,rfl,hp⟩:=h4 _ _ hz
 have hlt:i.toNat < xs.length:=(List.getElem?_eq_some_iff.1 hz).1
 refine JPure.of rfl hdN (fun a w' h=>?_) (k _ hp)
 simp [execOp,h.eval hx,h.eval hy,Instr.indexAt,asIntOf,run_underlying hu.h,run_sizeOf ht,h0,show i < (xs.length:Int) by omega]
theorem JPure.indexA {T E:TypeId} {n:Nat} {x y:Operand} {p:Addr} {xs:List Int} {k':IntKind} {i:Int} {z:Int} (hx:ev e x=some (.pointer (some p))) (hv:PtrTo S p (rArr n) xs) (hy:ev e y=some (.int k' i))
  [hu:Und C.P T (.array n E)] [ht:TyR C.P E rI64] (hdN:Nat.blt d C.N=true) (h0:0≤i) (hz:xs[i.toNat]?=some z)
  (k:∀ q,PtrTo S q rI64 z→JO C R rest Q S M ((d,.pointer (some q))::e)):JPure C R an ⟨some d,.indexAddr T x y,ty,pos,aft,g⟩ rest Q S M e:=by
 obtain ⟨cs,⟨hl,rfl,hr⟩,hc⟩:=hv
 have hlt:i.toNat < xs.length:=(List.getElem?_eq_some_iff.1 hz).1
 have hs:(rI64:Rp Int).sz=1:=rfl
 refine JPure.of rfl hdN (fun a w' h=>?_) (k (p.add i.toNat) ⟨_,⟨rfl,hr z (List.mem_of_getElem? hz)⟩,fun j v hj=>?_⟩)
 ·simp [execOp,h.eval hx,h.eval hy,Instr.indexAt,asIntOf,run_underlying hu.h,run_sizeOf ht,h0,show i < (n:Int) by omega,Instr.sureAddr,hs]
 ·cases j with
  | zero=>
   cases hj
   rw [add_zero]
   exact hc _ _ (by simp [hz])
  | succ j=>cases hj
theorem JPure.indexT {T:TypeId} {x y:Operand} {s:ByteArray} {k':IntKind} {i:Int} {c:UInt8} (hx:ev e x=some (.string s)) (hy:ev e y=some (.int k' i)) [hu:Und C.P T .string] (hdN:Nat.blt d C.N=true)
  (h0:0≤i) (hz:s.data.toList[i.toNat]?=some c) (k:JO C R rest Q S M ((d,.int .u8 c.toNat)::e)):JPure C R an ⟨some d,.index T x y,ty,pos,aft,g⟩ rest Q S M e:=by
 have h1:s[i.toNat]?=some c:=by
  have hlt:=(List.getElem?_eq_some_iff.1 hz).1
  have hv:=(List.getElem?_eq_some_iff.1 hz).2
  have hlt':i.toNat < s.size:=by simpa using hlt
  rw [getElem?_pos s i.toNat hlt',← hv]
  rfl
 refine JPure.of rfl hdN (fun a w' h=>?_) k
 simp [execOp,h.eval hx,h.eval hy,Instr.index,asIntOf,run_underlying hu.h,h0,h1]
/-! ### Calls -/
theorem JEff.ofCalls {f:FuncId} {vs:Array Value} {o:Oper} (hsem:∀ a w,C.W S M e a w→(execOp a.eval o).run C.P w=.ok (.enter f vs) w) (htame:(tame o&&!mildOp o.op)=true)
  (hc:∀ a w,C.W S M e a w→TOK R.T S w→Calls C.P f vs w fun e' w'=>∃ v,e'=.returned v∧SubX R.TP w w'∧∃ S',S.le S'∧Agree S' w'∧C.DF R Q S' rest (a.put o.dst v) w'):JEff C R o rest Q S M e:=⟨fun a w hw ht=>by
 simp only [Bool.and_eq_true,Bool.not_eq_true'] at htame
 unfold Oper.wpIn
 refine ⟨fun _ _=>trivial,?_⟩
 rw [Oper.semAt_eq _ _ _ (tame_defer htame.1),hsem a w hw,Oper.uponIn_enter]
 refine ⟨fun h=>by simp [FR] at h,?_⟩
 have h1:=hc a w hw ht
 have h2:CallsIn (FR C.r) 0 C.P f vs w (fun e' w'=>∃ v,e'=.returned v∧SubX R.TP w w'∧∃ S',S.le S'∧Agree S' w'∧C.DF R Q S' rest (a.put o.dst v) w'):=by
  have h3:=(callsIn_wide (n:=0)).2 h1
  exact h3
 refine CallsIn.mono h2 fun e' w' ⟨v,he,hs,S',hl,hg,hd⟩=>?_
 subst he
 have hte:TE R.TP o=R.TP:=by unfold TE;rw [htame.2];rfl
 exact ⟨effS (by rw [hte];exact hs) hw.wd.agree (hg.mono hl),hd.shrink hl⟩⟩
def MayWrite (R:Rg) (Mc:List MEnt):Prop:=∀ l,R.T=some l→∀ m∈Mc,∀ b,m.own=some b→b∈l
theorem JEff.fn {f:FuncId} {vs:Array Value} {o:Oper} {d:Nat} {Mc Mr:List MEnt} {PP:Value→SHeap→List MEnt→Prop}
  (hsem:∀ a w,Holds C.N e a→(execOp a.eval o).run C.P w=.ok (.enter f vs) w) (htame:(tame o&&!mildOp o.op)=true) (hd:o.dst=some d) (hdN:Nat.blt d C.N=true)
  (hM:(Mc++Mr).Perm M) (hmw:MayWrite R Mc) (hf:Fn C.P f vs S Mc PP) (k:∀ v S' M',S.le S'→PP v S' M'→JO C R rest Q S' (M'++Mr) ((d,v)::e)):JEff C R o rest Q S M e:=
 JEff.ofCalls (fun a w hw=>hsem a w hw.env) htame fun a w hw ht=>by
  have hwd:=hw.wd.perm hM
  have hsep:=(List.pairwise_append.1 hwd.sep).1
  refine (hf w hwd.agree (fun m hm=>hwd.ok m (by simp [hm])) hsep (fun m hm b hb=>(hwd.out m (by simp [hm]) b hb).1)).mono ?_
  rintro e' w' ⟨v,S',M',rfl,hw',hp⟩
  refine ⟨v,rfl,?_,S',hw'.le,hw'.agree,?_⟩
  ·intro b o' hb hbo
   have hlt:=(Array.getElem?_eq_some_iff.1 hbo).1
   rw [hw'.keep b hlt fun hmem=>?_]
   ·exact hbo
   ·apply hb
    unfold Rg.TP
    cases hl:R.T with
    | none=>trivial
    | some l=>
     obtain ⟨m,hm,hmb⟩:=List.mem_filterMap.1 hmem
     exact hmw l hl m hm b hmb
  ·rw [hd]
   exact (k v S' M' hw'.le hp).run _ w' ⟨hw.env.put hdN _,hw.defers,hwd.call hw'⟩ trivial
theorem sem_call {P:Program} {N:Nat} {e:Env} {f:FuncId} [hE:Ent P f] {args:Array Operand} {ts:Array TypeId} {vs:List Value} (hargs:evs e args.toList=some vs) (dst:Option Nat) (ty:TypeId) (pos:String) (aft:Array Edge) (g:Option (Nat × Bool)) :
  ∀ a w,Holds N e a→(execOp a.eval ⟨dst,.call { callee:=.value (.func f),args,argTypes:=ts },ty,pos,aft,g⟩).run P w=.ok (.enter f vs.toArray) w:=by
 intro a w h
 have h1:args.map a.eval=vs.toArray:=by
  have:=h.evals hargs
  rw [← this,← Array.toList_map,Array.toArray_toList]
 simp [execOp,resolve,Act.eval,Deferred.ofValue,invoke,h1,run_enter hE]
theorem sem_dyn {P:Program} {N:Nat} {e:Env} {x:Operand} {f:FuncId} {fs cs:Array Value} (hE:Ent P f) {args:Array Operand} {ts:Array TypeId} {vs:List Value} (hx:ev e x=some (.func (.func f) fs cs)) (hargs:evs e args.toList=some vs) (dst:Option Nat) (ty:TypeId) (pos:String) (aft:Array Edge) (g:Option (Nat × Bool)) :
  ∀ a w,Holds N e a→(execOp a.eval ⟨dst,.call { callee:=.value x,args,argTypes:=ts },ty,pos,aft,g⟩).run P w=.ok (.enter f (fs++vs.toArray++cs)) w:=by
 intro a w h
 have h1:args.map a.eval=vs.toArray:=by
  have:=h.evals hargs
  rw [← this,← Array.toList_map,Array.toArray_toList]
 simp [execOp,resolve,h.eval hx,Deferred.ofValue,invoke,h1,run_enter hE]
theorem JEff.callV {f:FuncId} [Ent C.P f] {args:Array Operand} {ts:Array TypeId} {vs:List Value} {r:Value} (hargs:evs e args.toList=some vs) (hf:FnV C.P f vs.toArray S r) (hdN:Nat.blt d C.N=true)
  (k:∀ S',S.le S'→JO C R rest Q S' M ((d,r)::e)):JEff C R ⟨some d,.call { callee:=.value (.func f),args,argTypes:=ts },ty,pos,aft,g⟩ rest Q S M e:=
 JEff.fn (Mc:=[]) (Mr:=M) (sem_call hargs _ _ _ _ _) rfl rfl hdN (List.Perm.refl _) (by intro l hl m hm;cases hm) hf fun v S' M' hl hp=>by
  obtain ⟨rfl,rfl⟩:=hp;exact k S' hl
theorem JEff.callR {f:FuncId} [Ent C.P f] {args:Array Operand} {ts:Array TypeId} {vs:List Value} {PP:Value→SHeap→Prop} (hargs:evs e args.toList=some vs) (hf:FnR C.P f vs.toArray S PP) (hdN:Nat.blt d C.N=true)
  (k:∀ v S',S.le S'→PP v S'→JO C R rest Q S' M ((d,v)::e)):JEff C R ⟨some d,.call { callee:=.value (.func f),args,argTypes:=ts },ty,pos,aft,g⟩ rest Q S M e:=
 JEff.fn (Mc:=[]) (Mr:=M) (sem_call hargs _ _ _ _ _) rfl rfl hdN (List.Perm.refl _) (by intro l hl m hm;cases hm) hf fun v S' M' hl hp=>by
  obtain ⟨rfl,hp⟩:=hp;exact k v S' hl hp
end
end Go.Dr
namespace Go.Dr
open Go.RowKit
def envOf:Nat→List Value→Env
 | _,[]=>[]
 | i,v::l=>(i,v)::envOf (i+1) l
theorem envOf_get:∀ (l:List Value) (i t:Nat) (v:Value),Env.get? (envOf i l) t=some v→i≤t∧l[t - i]?=some v:=by
 intro l
 induction l with
 | nil=>intro i t v h;cases h
 | cons u l ih=>
  intro i t v h
  simp only [envOf,Env.get?] at h
  cases hb:Nat.beq i t with
  | true=>
   have e:=Nat.eq_of_beq_eq_true hb
   subst e
   rw [Nat.beq_refl] at h
   cases h
   exact ⟨Nat.le_refl _,by simp⟩
  | false=>
   rw [hb] at h
   obtain ⟨h1,h2⟩:=ih (i+1) t v h
   refine ⟨by omega,?_⟩
   rw [show t - i=(t - (i+1))+1 by omega,List.getElem?_cons_succ]
   exact h2
def EndPost (w0:World) (B0:List Nat) (S0:SHeap) (Post:Value→SHeap→List MEnt→Prop) (e:Ending) (w:World):Prop:=
 ∃ v S' M',e=.returned v∧Wd w0 B0 S0 S' M' w∧Post v S' M'
theorem Fn.enter {P:Program} {f:FuncId} {fn:Func} {c:Code} {args:List Value} {S:SHeap} {M:List MEnt} {PP:Value→SHeap→List MEnt→Prop} {N:Nat}
  (hf:P.funcs[f]?=some fn) (hb:fn.body=some c) (hn:fn.ntmps=N) (hlen:Nat.ble args.length N=true)
  (h:∀ w0,JC ⟨P,none,N,[],w0,M.filterMap MEnt.own,S⟩ c (bodyPost P fn (EndPost w0 (M.filterMap MEnt.own) S PP)) S M (envOf 0 args)):Fn P f args.toArray S M PP:=by
 intro w hg hok hsep hout
 refine calls_of_wp hf hb ?_
 refine (wpIn_wide (n:=0)).1 ?_
 refine (h w).run _ w ⟨⟨?_,fun t v ht=>?_⟩,rfl,Wd.start hg hok hsep hout⟩
 ·have:args.length≤N:=by simpa [Nat.ble_eq] using hlen
  simp [hn];omega
 ·obtain ⟨_,h2⟩:=envOf_get args 0 t v ht
  have hlt:=(List.getElem?_eq_some_iff.1 h2).1
  simp at hlt
  have h3:args[t]=v:=(List.getElem?_eq_some_iff.1 h2).2
  simp [Array.getElem?_append,hlt,h3]
section
variable {C:Cx} {R:Rg} {Q:Post} {S S' S1:SHeap} {M M':List MEnt} {e e':Env} {rest:List Nat}
/-! ### Results -/
def resOf (tmps:Array Value):ResultVar→Sem Value
 | .tmp t=>pure (tmps.getD t undef)
 | .cell p t=>do loadVar t (← asAddr (tmps.getD p undef))
theorem results_eq (fn:Func) (tmps:Array Value):results fn tmps=(do let vs ← fn.results.mapM (resOf tmps);pure (if h:vs.size=1 then vs[0] else .tuple vs)):=by
 unfold results
 congr 2
def ResV (C:Cx) (S:SHeap) (M:List MEnt) (e:Env) (rv:ResultVar) (v:Value):Prop:=
 ∀ a w,C.W S M e a w→(resOf a.tmps rv).run C.P w=.ok v w
theorem ResV.tmp {t:Nat} {v:Value} (h:Env.get? e t=some v):ResV C S M e (.tmp t) v:=fun a w hw=>by
 have:=hw.env.at_ t v h
 simp [resOf,this]
theorem ResV.cell {α:Type} {p:Nat} {T:TypeId} {q:Addr} {rep:Rp α} {x:α} (h:Env.get? e p=some (.pointer (some q))) (hq:PtrTo S q rep x) [ht:TyR C.P T rep]:∃ v,rep.V S v x∧ResV C S M e (.cell p T) v:=by
 obtain ⟨v,hv,hrun⟩:=load_run ht hq
 refine ⟨v,hv,fun a w hw=>?_⟩
 have:=hw.env.at_ p _ h
 simp [resOf,this,asAddr,hrun w hw.wd.agree]
theorem run_results1 {P:Program} {fn:Func} {r:ResultVar} {v:Value} {tmps:Array Value} {w:World} (hr:fn.results=#[r])
  (h:(resOf tmps r).run P w=.ok v w):(results fn tmps).run P w=.ok v w:=by
 rw [results_eq,hr]
 simp [Array.mapM_eq_mapM_toList,h]
theorem run_results2 {P:Program} {fn:Func} {r1 r2:ResultVar} {v1 v2:Value} {tmps:Array Value} {w:World} (hr:fn.results=#[r1,r2])
  (h1:(resOf tmps r1).run P w=.ok v1 w) (h2:(resOf tmps r2).run P w=.ok v2 w):(results fn tmps).run P w=.ok (.tuple #[v1,v2]) w:=by
 rw [results_eq,hr]
 simp [Array.mapM_eq_mapM_toList,h1,h2]
theorem run_results3 {P:Program} {fn:Func} {r1 r2 r3:ResultVar} {v1 v2 v3:Value} {tmps:Array Value} {w:World} (hr:fn.results=#[r1,r2,r3])
  (h1:(resOf tmps r1).run P w=.ok v1 w) (h2:(resOf tmps r2).run P w=.ok v2 w) (h3:(resOf tmps r3).run P w=.ok v3 w):(results fn tmps).run P w=.ok (.tuple #[v1,v2,v3]) w:=by
 rw [results_eq,hr]
 simp [Array.mapM_eq_mapM_toList,h1,h2,h3]
variable {fn:Func} {w0:World} {B0:List Nat} {S0:SHeap} {PP:Value→SHeap→List MEnt→Prop}
theorem JX.ret1 {P:Program} {r:Option Nat} {N:Nat} {rv:ResultVar} {v:Value} (hr:fn.results=#[rv]) (hv:ResV ⟨P,r,N,[],w0,B0,S0⟩ S M e rv v) (hM:M'.Sublist M) (hp:PP v S M') :
  JX ⟨P,r,N,[],w0,B0,S0⟩ .ret (bodyPost P fn (EndPost w0 B0 S0 PP)) S M e:=⟨fun a w hw=>
 ⟨hw.defers,v,run_results1 hr (hv a w hw),v,S,M',rfl,hw.wd.sub hM,hp⟩⟩
theorem JX.ret2 {P:Program} {r:Option Nat} {N:Nat} {r1 r2:ResultVar} {v1 v2:Value} (hr:fn.results=#[r1,r2]) (h1:ResV ⟨P,r,N,[],w0,B0,S0⟩ S M e r1 v1) (h2:ResV ⟨P,r,N,[],w0,B0,S0⟩ S M e r2 v2)
  (hM:M'.Sublist M) (hp:PP (.tuple #[v1,v2]) S M'):JX ⟨P,r,N,[],w0,B0,S0⟩ .ret (bodyPost P fn (EndPost w0 B0 S0 PP)) S M e:=⟨fun a w hw=>
 ⟨hw.defers,_,run_results2 hr (h1 a w hw) (h2 a w hw),_,S,M',rfl,hw.wd.sub hM,hp⟩⟩
theorem JX.ret3 {P:Program} {r:Option Nat} {N:Nat} {r1 r2 r3:ResultVar} {v1 v2 v3:Value} (hr:fn.results=#[r1,r2,r3]) (h1:ResV ⟨P,r,N,[],w0,B0,S0⟩ S M e r1 v1) (h2:ResV ⟨P,r,N,[],w0,B0,S0⟩ S M e r2 v2)
  (h3:ResV ⟨P,r,N,[],w0,B0,S0⟩ S M e r3 v3) (hM:M'.Sublist M) (hp:PP (.tuple #[v1,v2,v3]) S M'):JX ⟨P,r,N,[],w0,B0,S0⟩ .ret (bodyPost P fn (EndPost w0 B0 S0 PP)) S M e:=⟨fun a w hw=>
 ⟨hw.defers,_,run_results3 hr (h1 a w hw) (h2 a w hw) (h3 a w hw),_,S,M',rfl,hw.wd.sub hM,hp⟩⟩
theorem JX.end0 {P:Program} {r:Option Nat} {N:Nat} (hr:fn.results=#[]) (hM:M'.Sublist M) (hp:PP (.tuple #[]) S M') :
  JX ⟨P,r,N,[],w0,B0,S0⟩ .normal (bodyPost P fn (EndPost w0 B0 S0 PP)) S M e:=⟨fun a w hw=>
 ⟨hw.defers,_,(by unfold results;rw [hr];simp),_,S,M',rfl,hw.wd.sub hM,hp⟩⟩
/-! ### New memory -/
theorem JEff.ofRun {o:Oper} {d:Nat} (htame:tame o=true) (hd:o.dst=some d) (hdN:Nat.blt d C.N=true)
  (h:∀ a w,C.W S M e a w→∃ v w',(execOp a.eval o).run C.P w=.ok (.value v) w'∧SubX (TE R.TP o) w w'∧w.heap.size≤w'.heap.size ∧
   ∃ S' M',Wd C.w0 C.B0 C.S0 S' M' w'∧S.le S'∧JO C R rest Q S' M' ((d,v)::e)):JEff C R o rest Q S M e:=⟨fun a w hw ht=>by
 obtain ⟨v,w',hrun,hs,hsz,S',M',hwd,hnew,k⟩:=h a w hw
 unfold Oper.wpIn
 refine ⟨fun _ _=>trivial,?_⟩
 rw [Oper.semAt_eq _ _ _ (tame_defer htame),hrun,Oper.uponIn_value]
 refine ⟨effS hs hw.wd.agree (hwd.agree.mono hnew),?_⟩
 rw [hd]
 exact (k.run _ w' ⟨hw.env.put hdN _,hw.defers,hwd⟩ trivial).shrink hnew⟩
theorem subX_alloc (T:Nat→Prop) (w:World) (o:Obj):SubX T w (w.alloc o):=fun b o' _ h=>by
 rw [alloc_old w o (Array.getElem?_eq_some_iff.1 h).1];exact h
variable {d:Nat} {ty:TypeId} {pos:String} {aft:Array Edge} {g:Option (Nat × Bool)}
theorem run_newVar {P:Program} (t:TypeId) (v:Value) (w:World):(newVar t v).run P w=.ok ⟨w.heap.size,0,none⟩ (w.alloc (.cells v.cells t)):=by
 simp [newVar,newRow,newObj,Sem.run]
theorem JEff.box {T:TypeId} {x:Operand} {v:Value} (hx:ev e x=some v) (hdN:Nat.blt d C.N=true)
  (k:∀ b,C.w0.heap.size≤b→JO C R rest Q S (.blk b (.cells v.cells T)::M) ((d,.pointer (some ⟨b,0,none⟩))::e)):JEff C R ⟨some d,.box T x,ty,pos,aft,g⟩ rest Q S M e:=
 JEff.ofRun rfl rfl hdN fun a w hw=>⟨.pointer (some ⟨w.heap.size,0,none⟩),w.alloc (.cells v.cells T),by simp [execOp,Instr.box,hw.env.eval hx,run_newVar],subX_alloc _ _ _,by simp,
  S,_,hw.wd.alloc _,SHeap.le.refl _,k _ hw.wd.size⟩
theorem JEff.boxS {α:Type} {T:TypeId} {x:Operand} {v:Value} {rep:Rp α} {x0:α} (hx:ev e x=some v) (hv:rep.V S v x0) (hn:rep.agg=false→∀ cs,v≠.agg cs) (hdN:Nat.blt d C.N=true)
  (k:∀ S' p,S.le S'→PtrTo S' p rep x0→JO C R rest Q S' M ((d,.pointer (some p))::e)):JEff C R ⟨some d,.box T x,ty,pos,aft,g⟩ rest Q S M e:=
 JEff.ofRun rfl rfl hdN fun a w hw=>by
  have hfr:=hw.wd.fresh
  have hle:=SHeap.le_put (.cells v.cells T) hfr
  refine ⟨.pointer (some ⟨w.heap.size,0,none⟩),w.alloc (.cells v.cells T),by simp [execOp,Instr.box,hw.env.eval hx,run_newVar],subX_alloc _ _ _,by simp,
   S.put w.heap.size (.cells v.cells T),M,(hw.wd.alloc _).freeze hw.wd.size,hle,k _ _ hle ?_⟩
  have hc:=hv.cells hn
  refine ⟨_,rep.mono hle hc,fun j u hu=>?_⟩
  rw [add_plain]
  simp only [SHeap.cell?,SHeap.put_self]
  simpa using hu
theorem JX.freeze {x:Exit} {b:Nat} {o:Obj} (hb:C.w0.heap.size≤b) (k:∀ S',S.le S'→S' b=some o→JX C x Q S' M e):JX C x Q S (.blk b o::M) e:=⟨fun a w hw=>by
 have hn:=(hw.wd.out (.blk b o) (by simp) b rfl).1
 exact (k (S.put b o) (SHeap.le_put o hn) (SHeap.put_self _ _ _)).run a w ⟨hw.env,hw.defers,hw.wd.freeze hb⟩⟩
theorem JC.freeze {c:Code} {b:Nat} {o:Obj} (hb:C.w0.heap.size≤b) (k:∀ S',S.le S'→S' b=some o→JC C c Q S' M e):JC C c Q S (.blk b o::M) e:=⟨fun a w hw=>by
 have hn:=(hw.wd.out (.blk b o) (by simp) b rfl).1
 exact (k (S.put b o) (SHeap.le_put o hn) (SHeap.put_self _ _ _)).run a w ⟨hw.env,hw.defers,hw.wd.freeze hb⟩⟩
theorem JO.freeze {L:List Nat} {b:Nat} {o:Obj} (hb:C.w0.heap.size≤b) (hT:∀ l,R.T=some l→b∉l) (k:∀ S',S.le S'→S' b=some o→JO C R L Q S' M e):JO C R L Q S (.blk b o::M) e:=⟨fun a w hw ht=>by
 have hn:=(hw.wd.out (.blk b o) (by simp) b rfl).1
 exact ((k (S.put b o) (SHeap.le_put o hn) (SHeap.put_self _ _ _)).run a w ⟨hw.env,hw.defers,hw.wd.freeze hb⟩ trivial).shrink (SHeap.le_put o hn)⟩
end
end Go.Dr
namespace Go.Dr
structure Label where
 key:ByteArray
 value:ByteArray
 deriving DecidableEq,Inhabited
def rLabel:Rp Label:=rMap (fun x:Label=>(x.key,x.value)) (rSeq rStr rStr)
instance:Fld rLabel 0 rStr Label.key:=⟨(Part.map Part.first)⟩
instance:Fld rLabel 1 rStr Label.value:=⟨(Part.map (Part.last rfl))⟩
structure Term where
 kind:Int
 key:ByteArray
 value:ByteArray
 deriving DecidableEq,Inhabited
def rTerm:Rp Term:=rMap (fun x:Term=>(x.kind,x.key,x.value)) (rSeq rI64 (rSeq rStr rStr))
instance:Fld rTerm 0 rI64 Term.kind:=⟨(Part.map Part.first)⟩
instance:Fld rTerm 1 rStr Term.key:=⟨(Part.map (Part.next Part.first rfl))⟩
instance:Fld rTerm 2 rStr Term.value:=⟨(Part.map (Part.next (Part.last rfl) rfl))⟩
structure Near where
 topo:ByteArray
 terms:List Term
 deriving DecidableEq,Inhabited
def rNear:Rp Near:=rMap (fun x:Near=>(x.topo,x.terms)) (rSeq rStr (rSlice 40 rTerm))
instance:Fld rNear 0 rStr Near.topo:=⟨(Part.map Part.first)⟩
instance:Fld rNear 1 (rSlice 40 rTerm) Near.terms:=⟨(Part.map (Part.last rfl))⟩
structure Node where
 name:ByteArray
 cap:List Int
 labels:List Label
 taints:List Label
 cordon:Bool
 lost:Bool
 deriving DecidableEq,Inhabited
def rNode:Rp Node:=rMap (fun x:Node=>(x.name,x.cap,x.labels,x.taints,x.cordon,x.lost)) (rSeq rStr (rSeq (rArr 5) (rSeq (rSlice 32 rLabel) (rSeq (rSlice 32 rLabel) (rSeq rBool rBool)))))
instance:Fld rNode 0 rStr Node.name:=⟨(Part.map Part.first)⟩
instance:Fld rNode 1 (rArr 5) Node.cap:=⟨(Part.map (Part.next Part.first rfl))⟩
instance:Fld rNode 6 (rSlice 32 rLabel) Node.labels:=⟨(Part.map (Part.next (Part.next Part.first rfl) rfl))⟩
instance:Fld rNode 7 (rSlice 32 rLabel) Node.taints:=⟨(Part.map (Part.next (Part.next (Part.next Part.first rfl) rfl) rfl))⟩
instance:Fld rNode 8 rBool Node.cordon:=⟨(Part.map (Part.next (Part.next (Part.next (Part.next Part.first rfl) rfl) rfl) rfl))⟩
instance:Fld rNode 9 rBool Node.lost:=⟨(Part.map (Part.next (Part.next (Part.next (Part.next (Part.last rfl) rfl) rfl) rfl) rfl))⟩
structure Pod where
 name:ByteArray
 owner:ByteArray
 req:List Int
 labels:List Label
 wher:List Term
 bears:List Label
 with_:Near
 apart:Near
 on:ByteArray
 deriving DecidableEq,Inhabited
def rPod:Rp Pod:=rMap (fun x:Pod=>(x.name,x.owner,x.req,x.labels,x.wher,x.bears,x.with_,x.apart,x.on)) (rSeq rStr (rSeq rStr (rSeq (rArr 5) (rSeq (rSlice 32 rLabel) (rSeq (rSlice 40 rTerm) (rSeq (rSlice 32 rLabel) (rSeq rNear (rSeq rNear rStr))))))))
instance:Fld rPod 0 rStr Pod.name:=⟨(Part.map Part.first)⟩
instance:Fld rPod 1 rStr Pod.owner:=⟨(Part.map (Part.next Part.first rfl))⟩
instance:Fld rPod 2 (rArr 5) Pod.req:=⟨(Part.map (Part.next (Part.next Part.first rfl) rfl))⟩
instance:Fld rPod 7 (rSlice 32 rLabel) Pod.labels:=⟨(Part.map (Part.next (Part.next (Part.next Part.first rfl) rfl) rfl))⟩
instance:Fld rPod 8 (rSlice 40 rTerm) Pod.wher:=⟨(Part.map (Part.next (Part.next (Part.next (Part.next Part.first rfl) rfl) rfl) rfl))⟩
instance:Fld rPod 9 (rSlice 32 rLabel) Pod.bears:=⟨(Part.map (Part.next (Part.next (Part.next (Part.next (Part.next Part.first rfl) rfl) rfl) rfl) rfl))⟩
instance:Fld rPod 10 rNear Pod.with_:=⟨(Part.map (Part.next (Part.next (Part.next (Part.next (Part.next (Part.next Part.first rfl) rfl) rfl) rfl) rfl) rfl))⟩
instance:Fld rPod 12 rNear Pod.apart:=⟨(Part.map (Part.next (Part.next (Part.next (Part.next (Part.next (Part.next (Part.next Part.first rfl) rfl) rfl) rfl) rfl) rfl) rfl))⟩
instance:Fld rPod 14 rStr Pod.on:=⟨(Part.map (Part.next (Part.next (Part.next (Part.next (Part.next (Part.next (Part.next (Part.last rfl) rfl) rfl) rfl) rfl) rfl) rfl) rfl))⟩
structure Owner where
 name:ByteArray
 min:Int
 topo:ByteArray
 skew:Int
 single:Bool
 deriving DecidableEq,Inhabited
def rOwner:Rp Owner:=rMap (fun x:Owner=>(x.name,x.min,x.topo,x.skew,x.single)) (rSeq rStr (rSeq rI64 (rSeq rStr (rSeq rI64 rBool))))
instance:Fld rOwner 0 rStr Owner.name:=⟨(Part.map Part.first)⟩
instance:Fld rOwner 1 rI64 Owner.min:=⟨(Part.map (Part.next Part.first rfl))⟩
instance:Fld rOwner 2 rStr Owner.topo:=⟨(Part.map (Part.next (Part.next Part.first rfl) rfl))⟩
instance:Fld rOwner 3 rI64 Owner.skew:=⟨(Part.map (Part.next (Part.next (Part.next Part.first rfl) rfl) rfl))⟩
instance:Fld rOwner 4 rBool Owner.single:=⟨(Part.map (Part.next (Part.next (Part.next (Part.last rfl) rfl) rfl) rfl))⟩
structure Snap where
 nodes:List Node
 pods:List Pod
 owners:List Owner
 deriving DecidableEq,Inhabited
def rSnap:Rp Snap:=rMap (fun x:Snap=>(x.nodes,x.pods,x.owners)) (rSeq (rSlice 112 rNode) (rSeq (rSlice 240 rPod) (rSlice 56 rOwner)))
instance:Fld rSnap 0 (rSlice 112 rNode) Snap.nodes:=⟨(Part.map Part.first)⟩
instance:Fld rSnap 1 (rSlice 240 rPod) Snap.pods:=⟨(Part.map (Part.next Part.first rfl))⟩
instance:Fld rSnap 2 (rSlice 56 rOwner) Snap.owners:=⟨(Part.map (Part.next (Part.last rfl) rfl))⟩
structure Step where
 kind:Int
 pod:Int
 node:Int
 deriving DecidableEq,Inhabited
def rStep:Rp Step:=rMap (fun x:Step=>(x.kind,x.pod,x.node)) (rSeq rI64 (rSeq rI64 rI64))
instance:Fld rStep 0 rI64 Step.kind:=⟨(Part.map Part.first)⟩
instance:Fld rStep 1 rI64 Step.pod:=⟨(Part.map (Part.next Part.first rfl))⟩
instance:Fld rStep 2 rI64 Step.node:=⟨(Part.map (Part.next (Part.last rfl) rfl))⟩
structure Clause where
 kind:Int
 a:Int
 b:Int
 by_:Int
 deriving DecidableEq,Inhabited
def rClause:Rp Clause:=rMap (fun x:Clause=>(x.kind,x.a,x.b,x.by_)) (rSeq rI64 (rSeq rI64 (rSeq rI64 rI64)))
instance:Fld rClause 0 rI64 Clause.kind:=⟨(Part.map Part.first)⟩
instance:Fld rClause 1 rI64 Clause.a:=⟨(Part.map (Part.next Part.first rfl))⟩
instance:Fld rClause 2 rI64 Clause.b:=⟨(Part.map (Part.next (Part.next Part.first rfl) rfl))⟩
instance:Fld rClause 3 rI64 Clause.by_:=⟨(Part.map (Part.next (Part.next (Part.last rfl) rfl) rfl))⟩
structure Move where
 pod:Int
 to:Int
 deriving DecidableEq,Inhabited
def rMove:Rp Move:=rMap (fun x:Move=>(x.pod,x.to)) (rSeq rI64 rI64)
instance:Fld rMove 0 rI64 Move.pod:=⟨(Part.map Part.first)⟩
instance:Fld rMove 1 rI64 Move.to:=⟨(Part.map (Part.last rfl))⟩
structure Drop where
 move:Move
 why:Clause
 deriving DecidableEq,Inhabited
def rDrop:Rp Drop:=rMap (fun x:Drop=>(x.move,x.why)) (rSeq rMove rClause)
instance:Fld rDrop 0 rMove Drop.move:=⟨(Part.map Part.first)⟩
instance:Fld rDrop 2 rClause Drop.why:=⟨(Part.map (Part.last rfl))⟩
structure Plan where
 steps:List Step
 moves:List Move
 drops:List Drop
 hops:Int
 deriving DecidableEq,Inhabited
def rPlan:Rp Plan:=rMap (fun x:Plan=>(x.steps,x.moves,x.drops,x.hops)) (rSeq (rSlice 24 rStep) (rSeq (rSlice 16 rMove) (rSeq (rSlice 48 rDrop) rI64)))
instance:Fld rPlan 0 (rSlice 24 rStep) Plan.steps:=⟨(Part.map Part.first)⟩
instance:Fld rPlan 1 (rSlice 16 rMove) Plan.moves:=⟨(Part.map (Part.next Part.first rfl))⟩
instance:Fld rPlan 2 (rSlice 48 rDrop) Plan.drops:=⟨(Part.map (Part.next (Part.next Part.first rfl) rfl))⟩
instance:Fld rPlan 3 rI64 Plan.hops:=⟨(Part.map (Part.next (Part.next (Part.last rfl) rfl) rfl))⟩
structure Wrong where
 why:Int
 pod:Int
 node:Int
 deriving DecidableEq,Inhabited
def rWrong:Rp Wrong:=rMap (fun x:Wrong=>(x.why,x.pod,x.node)) (rSeq rI64 (rSeq rI64 rI64))
instance:Fld rWrong 0 rI64 Wrong.why:=⟨(Part.map Part.first)⟩
instance:Fld rWrong 1 rI64 Wrong.pod:=⟨(Part.map (Part.next Part.first rfl))⟩
instance:Fld rWrong 2 rI64 Wrong.node:=⟨(Part.map (Part.next (Part.last rfl) rfl))⟩
structure Pol where
 low:List Int
 high:List Int
 on:Int
 drain:List ByteArray
 maxMoves:Int
 tries:Int
 rollback:Bool
 deriving DecidableEq,Inhabited
def rPol:Rp Pol:=rMap (fun x:Pol=>(x.low,x.high,x.on,x.drain,x.maxMoves,x.tries,x.rollback)) (rSeq (rArr 2) (rSeq (rArr 2) (rSeq rI64 (rSeq (rSlice 16 rStr) (rSeq rI64 (rSeq rI64 rBool))))))
instance:Fld rPol 0 (rArr 2) Pol.low:=⟨(Part.map Part.first)⟩
instance:Fld rPol 2 (rArr 2) Pol.high:=⟨(Part.map (Part.next Part.first rfl))⟩
instance:Fld rPol 4 rI64 Pol.on:=⟨(Part.map (Part.next (Part.next Part.first rfl) rfl))⟩
instance:Fld rPol 5 (rSlice 16 rStr) Pol.drain:=⟨(Part.map (Part.next (Part.next (Part.next Part.first rfl) rfl) rfl))⟩
instance:Fld rPol 6 rI64 Pol.maxMoves:=⟨(Part.map (Part.next (Part.next (Part.next (Part.next Part.first rfl) rfl) rfl) rfl))⟩
instance:Fld rPol 7 rI64 Pol.tries:=⟨(Part.map (Part.next (Part.next (Part.next (Part.next (Part.next Part.first rfl) rfl) rfl) rfl) rfl))⟩
instance:Fld rPol 8 rBool Pol.rollback:=⟨(Part.map (Part.next (Part.next (Part.next (Part.next (Part.next (Part.last rfl) rfl) rfl) rfl) rfl) rfl))⟩
structure Ask where
 p:List Int
 own:Bool
 deriving DecidableEq,Inhabited
def rAsk:Rp Ask:=rMap (fun x:Ask=>(x.p,x.own)) (rSeq (rSlice 8 rI64) rBool)
instance:Fld rAsk 0 (rSlice 8 rI64) Ask.p:=⟨(Part.map Part.first)⟩
instance:Fld rAsk 1 rBool Ask.own:=⟨(Part.map (Part.last rfl))⟩
end Go.Dr
namespace Go.Dr
def isLetter (c:Int):Bool:=decide (97≤c)&&decide (c≤122)
def isInside (c:Int):Bool:=isLetter c||(decide (48≤c)&&decide (c≤57))||decide (c=45)
def valueB (s:ByteArray):Bool:=s.data.toList.all (fun c=>isInside c.toNat)&&decide (1≤s.size)&&decide (s.size≤15)
def nameB (s:ByteArray):Bool:=valueB s&&(match s.data.toList with|c::_=>isLetter c.toNat|[]=>false)
def starS:ByteArray:=⟨#[42]⟩
def noS:ByteArray:=⟨#[]⟩
def ltS (a b:ByteArray):Bool:=Op.bytesLess a.data.toList b.data.toList
def riseL (a b:Label) (star:Bool):Bool:=ltS a.key b.key||(star&&decide (a.key=b.key)&&ltS a.value b.value)
def oneL (star:Bool) (l:Label):Bool:=nameB l.key&&(valueB l.value||(star&&decide (l.value=starS)))
def rowL (star:Bool):Option Label→List Label→Bool
 | _,[]=>true
 | p,l::r=>oneL star l&&(match p with|some a=>riseL a l star|none=>true)&&rowL star (some l) r
def checkL (star:Bool) (l:List Label):Int:=if decide (l.length≤6)&&rowL star none l then 0 else 2
def valuedB (k:Int):Bool:=decide (k=1)||decide (k=2)
def oneT (t:Term):Bool:=decide (1≤t.kind)&&decide (t.kind≤4)&&nameB t.key&&(if valuedB t.kind then valueB t.value else decide (t.value=noS))
def checkT (l:List Term):Int:=if decide (l.length≤6)&&l.all oneT then 0 else 2
def keyIs (key:ByteArray) (l:Label):Bool:=decide (l.key=key)
def getL (l:List Label) (key:ByteArray):ByteArray × Bool:=
 match l.find? (keyIs key) with
 | some x=>(x.value,true)
 | none=>(noS,false)
def holdsT (t:Term) (l:List Label):Bool:=
 if t.kind=1 then (getL l t.key).2&&decide ((getL l t.key).1=t.value)
 else if t.kind=2 then !(getL l t.key).2||!decide ((getL l t.key).1=t.value)
 else if t.kind=3 then (getL l t.key).2
 else !(getL l t.key).2
def holdsB (ts:List Term) (l:List Label):Bool:=ts.all (fun t=>holdsT t l)
def bears1 (t b:Label):Bool:=decide (b.key=t.key)&&(decide (b.value=t.value)||decide (b.value=starS))
def bearsB (bears taints:List Label):Bool:=taints.all (fun t=>bears.any (bears1 t))
def cmpS (a b:ByteArray):Int:=Lib.compareBytes a.data.toList b.data.toList
theorem drop_at {α:Type} {l:List α} {k:Nat} (h:k < l.length):∃ x,l[k]?=some x∧l.drop k=x::l.drop (k+1):=
 ⟨l[k],List.getElem?_eq_getElem h,List.drop_eq_getElem_cons h⟩
theorem dlt {a b:Nat} (h:decide ((a:Int) < (b:Int))=true):a < b:=by simpa using h
theorem dnlt {a b:Nat} (h:decide ((a:Int) < (b:Int))=false):b≤a:=by simpa using h
end Go.Dr
namespace Go.Dr
def Qty:Int:=1099511627776
theorem dlt5 {k:Nat} (h:decide ((k:Int) < 5)=true):k < 5:=by have:=of_decide_eq_true h;omega
theorem dnlt5 {k:Nat} (h:decide ((k:Int) < 5)=false):5≤k:=by have:=of_decide_eq_false h;omega
def negB (x:Int):Bool:=decide (x < 0)
def overB (x:Int):Bool:=decide (Qty < x)
def addQ (l:List Int):Int × Int:=if l.any negB then (0,2) else if Qty < l.sum then (0,10) else (l.sum,0)
def checkV (v:List Int):Int:=if v.any negB then 2 else if v.any overB then 10 else 0
def at0 (v:List Int) (i:Nat):Int:=v.getD i 0
def colQ (l:List (List Int)) (i:Nat):Int × Int:=addQ (l.map (fun v=>at0 v i))
def plusV (l:List (List Int)):List Int × Int:=
 match (List.range 5).find? (fun i=>!decide ((colQ l i).2=0)) with
 | some i=>([0,0,0,0,0],(colQ l i).2)
 | none=>((List.range 5).map (fun i=>(colQ l i).1),0)
theorem sum_nn:∀ {l:List Int},l.any negB=false→0≤l.sum
 | [],_=>by simp
 | x::l,h=>by
  simp only [List.any_cons,Bool.or_eq_false_iff] at h
  have:=sum_nn h.2
  have h1:¬ x < 0:=by simpa [negB] using h.1
  simp only [List.sum_cons];omega
theorem any_drop {p:Int→Bool} {l:List Int} (h:l.any p=false) (k:Nat):(l.drop k).any p=false:=by
 rw [List.any_eq_false] at h ⊢
 exact fun x hx=>h x (List.mem_of_mem_drop hx)
theorem sum_take {l:List Int} (h:l.any negB=false) (k:Nat):(l.take k).sum≤l.sum:=by
 have h1:(l.take k).sum+(l.drop k).sum=l.sum:=by rw [← List.sum_append,List.take_append_drop]
 have h2:=sum_nn (any_drop h k)
 omega
theorem sum_take_nn {l:List Int} (h:l.any negB=false) (k:Nat):0≤(l.take k).sum:=by
 refine sum_nn ?_
 rw [List.any_eq_false] at h ⊢
 exact fun x hx=>h x (List.mem_of_mem_take hx)
theorem take_at {l:List Int} {k:Nat} {x:Int} (h:l[k]?=some x):(l.take (k+1)).sum=(l.take k).sum+x:=by
 rw [List.take_add_one,h];simp [List.sum_append]
theorem at0_some {v:List Int} {i:Nat} {x:Int} (h:v[i]?=some x):at0 v i=x:=by simp [at0,h]
theorem addQ_rng (l:List Int):Rng (addQ l).1∧((addQ l).2=0∨(addQ l).2=2∨(addQ l).2=10):=by
 unfold addQ Rng
 cases h:l.any negB with
 | true=>simp
 | false=>
  have:=sum_nn h
  simp only [Bool.false_eq_true,if_false]
  split
  ·simp
  ·rename_i h;unfold Qty at h;constructor
   ·constructor<;>dsimp only<;>omega
   ·simp
theorem plusV_fine (l:List (List Int)):(plusV l).1.length=5∧∀ x∈(plusV l).1,Rng x:=by
 unfold plusV
 split
 ·exact ⟨rfl,fun x hx=>by unfold Rng;simp at hx;omega⟩
 ·refine ⟨by simp,fun x hx=>?_⟩
  obtain ⟨i,_,rfl⟩:=List.mem_map.1 hx
  exact (addQ_rng _).1
end Go.Dr
namespace Go.Dr
open Go.RowKit
class Zero (P:Program) (T:TypeId) (z:outParam Value):Prop where
 h:(P.info? T).map (·.zero)=some (some z)
theorem run_zero {P:Program} {T:TypeId} {z:Value} (h:Zero P T z) (w:World):(zeroValue T).run P w=.ok z w:=by
 obtain ⟨i,hi,hz⟩:=Option.map_eq_some_iff.1 h.h
 simp [zeroValue,typeInfo,hi,hz]
section
variable {C:Cx} {R:Rg} {Q:Post} {S S' S1:SHeap} {M M':List MEnt} {e e':Env} {rest:List Nat}
variable {d:Nat} {ty:TypeId} {pos:String} {aft:Array Edge} {g:Option (Nat × Bool)} {an:Bool}
theorem JEff.ofSkip {o:Oper} (htame:tame o=true) (hd:o.dst=none)
  (h:∀ a w,C.W S M e a w→∃ w',(execOp a.eval o).run C.P w=.ok .skip w'∧SubX (TE R.TP o) w w'∧w.heap.size≤w'.heap.size ∧
   ∃ S' M',Wd C.w0 C.B0 C.S0 S' M' w'∧S.le S'∧JO C R rest Q S' M' e):JEff C R o rest Q S M e:=⟨fun a w hw ht=>by
 obtain ⟨w',hrun,hs,hsz,S',M',hwd,hnew,k⟩:=h a w hw
 unfold Oper.wpIn
 refine ⟨fun _ _=>trivial,?_⟩
 rw [Oper.semAt_eq _ _ _ (tame_defer htame),hrun,Oper.uponIn_skip]
 refine ⟨effS hs hw.wd.agree (hwd.agree.mono hnew),?_⟩
 rw [hd]
 exact (k.run _ w' ⟨hw.env,hw.defers,hwd⟩ trivial).shrink hnew⟩
/-! ### Variables -/
theorem JEff.alloc {T:TypeId} {z:Value} [hz:Zero C.P T z] (hdN:Nat.blt d C.N=true)
  (k:∀ b,C.w0.heap.size≤b→JO C R rest Q S (.blk b (.cells z.cells T)::M) ((d,.pointer (some ⟨b,0,none⟩))::e)):JEff C R ⟨some d,.alloc T,ty,pos,aft,g⟩ rest Q S M e:=
 JEff.ofRun rfl rfl hdN fun a w hw=>⟨.pointer (some ⟨w.heap.size,0,none⟩),w.alloc (.cells z.cells T),by simp [execOp,Instr.alloc,run_zero hz,run_newVar],subX_alloc _ _ _,by simp,
  S,_,hw.wd.alloc _,SHeap.le.refl _,k _ hw.wd.size⟩
theorem setRow_at (w:World) (b:Nat) (cs cs':Array Value) (t:TypeId) (fr:Nat × Nat) (h:w.heap[b]?=some (.cells cs' t fr)):(w.setRow b cs).heap[b]?=some (.cells cs t fr):=by
 unfold World.setRow
 simp [Array.getElem?_modify,h]
theorem setRow_other (w:World) (b k:Nat) (cs:Array Value) (h:k≠b):(w.setRow b cs).heap[k]?=w.heap[k]?:=by
 unfold World.setRow
 simp only [Array.getElem?_modify]
 rw [if_neg (by omega)]
theorem run_storeVar {P:Program} {T:TypeId} {n:Nat} (hs:∃ i,P.info? T=some i∧i.size=n) (b off:Nat) (c:Array Value) (t:TypeId) (v:Value) (w:World) (hb:w.heap[b]?=some (.cells c t (0,0)))
  (hn:v.cells.size=n) (hl:off+n≤c.size) (hf:∀ x∈v.cells.toList,x.oneCell'=true) :
  (storeVar T ⟨b,off,none⟩ v).run P w=.ok () (w.setRow b (c.toList.take off++v.cells.toList++c.toList.drop (off+n)).toArray):=by
 obtain ⟨i,hi,hs⟩:=hs
 unfold storeVar
 simp only [Sem.run_bind,sizeOf,typeInfo]
 simp only [program,Sem.run,hi,Result.andThen_ok,Sem.run_pure,hs,hn]
 simp only [ne_eq,not_true_eq_false,if_false]
 have:=run_storeCells_at (P:=P) b off t v.cells.toList 0 c w hb (by simp [hn];omega) hf
 simp only [Nat.add_zero,Array.length_toList,hn] at this
 exact this
theorem JEff.store {α:Type} {T t:TypeId} {x y:Operand} {b off:Nat} {c:Array Value} {v:Value} {rep:Rp α} {x0:α} {Mr:List MEnt} (hx:ev e x=some (.pointer (some ⟨b,off,none⟩))) (hy:ev e y=some v)
  (hv:rep.V S v x0) (hn:rep.agg=false→∀ cs,v≠.agg cs) [ht:TyR C.P T rep] (hM:(MEnt.blk b (.cells c t (0,0))::Mr).Perm M) (hl:off+rep.sz≤c.size) (hT:∀ l,R.T=some l→b∈l)
  (k:JO C R rest Q S (.blk b (.cells (c.toList.take off++v.cells.toList++c.toList.drop (off+rep.sz)).toArray t (0,0))::Mr) e):JEff C R ⟨none,.store T x y,ty,pos,aft,g⟩ rest Q S M e:=
 JEff.ofSkip rfl rfl fun a w hw=>by
  have hwd:=hw.wd.perm hM
  have hb:w.heap[b]?=some (.cells c t (0,0)):=hwd.ok (.blk b (.cells c t (0,0))) (by simp)
  have hc:=hv.cells hn
  have hlen:v.cells.size=rep.sz:=by have:=rep.len hc;simpa using this
  refine ⟨w.setRow b (c.toList.take off++v.cells.toList++c.toList.drop (off+rep.sz)).toArray,?_,?_,by simp [World.setRow],S,_,hwd.turn rfl rfl rfl (by simp [World.setRow]) (fun k hk=>setRow_other w b k _ hk) (setRow_at w b _ _ t _ hb),SHeap.le.refl _,k⟩
  ·simp only [execOp,hw.env.eval hx,hw.env.eval hy,Instr.storeAt,Instr.sureAddr,Sem.run_bind,Sem.run_pure,Result.andThen_ok,run_storeVar ht.i b off c t v w hb hlen hl (rep.flat hc)]
  ·intro k o hk ho
   have:k≠b:=by
    rintro rfl
    apply hk
    unfold Rg.TP
    cases hl:R.T with
    | none=>trivial
    | some l=>exact hT l hl
   rw [setRow_other w b k _ this];exact ho
theorem JEff.storeW {α:Type} {T t:TypeId} {x y:Operand} {b:Nat} {c:Array Value} {v:Value} {rep:Rp α} {x0:α} {Mr:List MEnt} (hx:ev e x=some (.pointer (some ⟨b,0,none⟩))) (hy:ev e y=some v)
  (hv:rep.V S v x0) (hn:rep.agg=false→∀ cs,v≠.agg cs) [ht:TyR C.P T rep] (hM:(MEnt.blk b (.cells c t (0,0))::Mr).Perm M) (hl:rep.sz=c.size) (hT:∀ l,R.T=some l→b∈l)
  (k:JO C R rest Q S (.blk b (.cells v.cells t (0,0))::Mr) e):JEff C R ⟨none,.store T x y,ty,pos,aft,g⟩ rest Q S M e:=by
 refine JEff.store hx hy hv hn hM (by omega) hT ?_
 have h1:(c.toList.take 0++v.cells.toList++c.toList.drop (0+rep.sz)).toArray=v.cells:=by
  rw [List.take_zero,List.nil_append,Nat.zero_add,List.drop_eq_nil_of_le (by simp [hl]),List.append_nil,Array.toArray_toList]
 rw [h1];exact k
theorem cells_ptr {α:Type} {S:SHeap} {b:Nat} {t:TypeId} {v:Value} {rep:Rp α} {x:α} {fr:Nat × Nat} (hb:S b=some (.cells v.cells t fr)) (hc:rep.R S v.cells.toList x):PtrTo S ⟨b,0,none⟩ rep x:=by
 refine ⟨_,hc,fun j u hu=>?_⟩
 rw [add_plain]
 simp only [SHeap.cell?,hb]
 simpa using hu
theorem JO.freezeV {α:Type} {L:List Nat} {b:Nat} {t:TypeId} {v:Value} {fr:Nat × Nat} {rep:Rp α} {x:α} (hv:rep.V S v x) (hn:rep.agg=false→∀ cs,v≠.agg cs) (hb:C.w0.heap.size≤b) (hT:∀ l,R.T=some l→b∉l)
  (k:∀ S',S.le S'→PtrTo S' ⟨b,0,none⟩ rep x→JO C R L Q S' M e):JO C R L Q S (.blk b (.cells v.cells t fr)::M) e:=
 JO.freeze hb hT fun S' hl hs=>k S' hl (cells_ptr hs (rep.mono hl (hv.cells hn)))
theorem JX.freezeV {α:Type} {x1:Exit} {b:Nat} {t:TypeId} {v:Value} {fr:Nat × Nat} {rep:Rp α} {x:α} (hv:rep.V S v x) (hn:rep.agg=false→∀ cs,v≠.agg cs) (hb:C.w0.heap.size≤b)
  (k:∀ S',S.le S'→PtrTo S' ⟨b,0,none⟩ rep x→JX C x1 Q S' M e):JX C x1 Q S (.blk b (.cells v.cells t fr)::M) e:=
 JX.freeze hb fun S' hl hs=>k S' hl (cells_ptr hs (rep.mono hl (hv.cells hn)))
def Rp.val {α:Type} (rep:Rp α) (cs:List Value):Value:=if rep.agg=true then .agg cs.toArray else cs.headD undef
theorem Rp.val_V {α:Type} {rep:Rp α} {S:SHeap} {cs:List Value} {x:α} (h:rep.R S cs x):rep.V S (rep.val cs) x:=by
 refine ⟨cs,h,?_⟩
 unfold Rp.val
 split
 ·rfl
 ·rename_i ha
  have:=rep.len h
  rw [rep.one (by simpa using ha)] at this
  match cs,this with
  | [c],_=>rfl
theorem load_cells {α:Type} {P:Program} {T:TypeId} {rep:Rp α} (h:TyR P T rep) {p:Addr} {cs:List Value} (hlen:cs.length=rep.sz) {w:World} (hc:∀ j v,cs[j]?=some v→w.cell? (p.add j)=some v) :
  (loadVar T p).run P w=.ok (rep.val cs) w:=by
 unfold loadVar Rp.val
 cases ha:rep.agg with
 | true=>
  simp only [Sem.run_bind,run_isAgg h,Result.andThen_ok,ha,if_true,run_sizeOf h]
  rw [← hlen,run_loadCells_list (P:=P) w p cs hc]
  rfl
 | false=>
  rw [rep.one ha] at hlen
  match cs,hlen with
  | [c],_=>
   have h0:=hc 0 c rfl
   rw [add_zero] at h0
   simp only [Sem.run_bind,run_isAgg h,Result.andThen_ok,ha,Bool.false_eq_true,if_false]
   simp [load,Sem.run,h0]
theorem JPure.loadM {α:Type} {i:Nat} {T t:TypeId} {x:Operand} {b off:Nat} {c:Array Value} {fr:Nat × Nat} {rep:Rp α} {x0:α} {mid:List Value} (hx:ev e x=some (.pointer (some ⟨b,off,none⟩))) (hM:MEnt.blk b (.cells c t fr)∈M)
  (hc:(c.toList.drop off).take rep.sz=mid) (hr:rep.R S mid x0) [ht:TyR C.P T rep] (hst:R.isAnch i=true∨∃ l,R.T=some l∧b∉l) (hdN:Nat.blt d C.N=true)
  (k:JO C R rest Q S M ((d,rep.val mid)::e)):JPure C R (R.isAnch i) ⟨some d,.load T x,ty,pos,aft,g⟩ rest Q S M e:=⟨fun a w hw htk=>by
 have hwb:w.heap[b]?=some (.cells c t fr):=hw.wd.ok _ hM
 refine ⟨rep.val mid,fun w' hs=>?_,k.run _ w ⟨hw.env.put hdN _,hw.defers,hw.wd⟩ htk⟩
 have hwb':w'.heap[b]?=some (.cells c t fr):=by
  refine hs b _ ?_ hwb
  split
  ·exact fun h=>h
  ·rename_i ha
   rcases hst with h|⟨l,hl,h⟩
   ·exact absurd h ha
   ·intro hT
    have h1:=hT.1
    unfold Rg.TP at h1
    rw [hl] at h1
    exact h h1
 have hrun:=load_cells ht (p:=⟨b,off,none⟩) (cs:=mid) (rep.len hr) (w:=w') (fun j v hv=>by
  have hadd:(⟨b,off,none⟩:Addr).add j=⟨b,off+j,none⟩:=by unfold Addr.add;split<;>simp_all
  rw [hadd]
  simp only [World.cell?,hwb']
  rw [← hc,List.getElem?_take] at hv
  split at hv
  ·rw [List.getElem?_drop] at hv;simpa using hv
  ·cases hv)
 simp [execOp,hw.env.eval hx,Instr.loadAt,Instr.sureAddr,hrun]⟩
theorem run_eqB {P:Program} {T:TypeId} (hu:P.underlying T=some .bool) (b c:Bool) (w:World):(Op.equal T (.bool b) (.bool c)).run P w=.ok (b==c) w:=by
 show (Op.equalIn (9999+1) T (.bool b) (.bool c)).run P w=_
 rw [Op.equalIn]
 simp only [Sem.run_bind,run_underlying hu,Result.andThen_ok,Sem.run_pure]
theorem JPure.eqB {T t':TypeId} {x y:Operand} {b c:Bool} (hx:ev e x=some (.bool b)) (hy:ev e y=some (.bool c)) [hu:Und C.P T .bool] (hdN:Nat.blt d C.N=true) (k:JO C R rest Q S M ((d,.bool (b==c))::e)) :
  JPure C R an ⟨some d,.binOp .eql T x y t',ty,pos,aft,g⟩ rest Q S M e:=
 JPure.of rfl hdN (fun a w' h=>by
  have h1:binOp .eql T (.bool b) (.bool c)=(do pure (.bool (← Op.equal T (.bool b) (.bool c)))):=rfl
  simp only [execOp,h.eval hx,h.eval hy,eqGuard_at_bool,pure_bind,h1,Sem.run_bind,run_eqB hu.h,Result.andThen_ok,Sem.run_pure]) k
theorem JPure.neB {T t':TypeId} {x y:Operand} {b c:Bool} (hx:ev e x=some (.bool b)) (hy:ev e y=some (.bool c)) [hu:Und C.P T .bool] (hdN:Nat.blt d C.N=true) (k:JO C R rest Q S M ((d,.bool (!(b==c)))::e)) :
  JPure C R an ⟨some d,.binOp .neq T x y t',ty,pos,aft,g⟩ rest Q S M e:=
 JPure.of rfl hdN (fun a w' h=>by
  have h1:binOp .neq T (.bool b) (.bool c)=(do pure (.bool (!(← Op.equal T (.bool b) (.bool c))))):=rfl
  simp only [execOp,h.eval hx,h.eval hy,eqGuard_at_bool,pure_bind,h1,Sem.run_bind,run_eqB hu.h,Result.andThen_ok,Sem.run_pure]) k
/-! ### Function values,conversions -/
theorem JPure.makeFunc {f:FuncId} {fs cs:Array Operand} {us vs:List Value} (h1:evs e fs.toList=some us) (h2:evs e cs.toList=some vs) (hdN:Nat.blt d C.N=true) (k:JO C R rest Q S M ((d,.func (.func f) us.toArray vs.toArray)::e)) :
  JPure C R an ⟨some d,.makeFunc (.func f) fs cs,ty,pos,aft,g⟩ rest Q S M e:=
 JPure.of rfl hdN (fun a w' h=>by
  have e1:fs.map a.eval=us.toArray:=by rw [← h.evals h1,← Array.toList_map,Array.toArray_toList]
  have e2:cs.map a.eval=vs.toArray:=by rw [← h.evals h2,← Array.toList_map,Array.toArray_toList]
  simp [execOp,Instr.makeFunc,e1,e2]) k
theorem JPure.conv {src dst:TypeId} {x:Operand} {k0 kd:IntKind} {n m:Int} {ds:TypeDesc} (hx:ev e x=some (.int k0 n)) [hs:Und C.P src ds] [hd:Und C.P dst (.int kd)] (hw:kd.wrap n=m) (hdN:Nat.blt d C.N=true) (k:JO C R rest Q S M ((d,.int kd m)::e)) :
  JPure C R an ⟨some d,.convert src dst x,ty,pos,aft,g⟩ rest Q S M e:=
 JPure.of rfl hdN (fun a w' h=>by
  simp only [execOp,h.eval hx,convert,Sem.run_bind,run_underlying hs.h,run_underlying hd.h,Result.andThen_ok]
  cases ds<;>simp [Conv.intToInt,hw]) k
theorem sem_dynL {P:Program} {N:Nat} {e:Env} {x:Operand} {f:FuncId} {fs cs:Array Value} (hE:Ent P f) {args:Array Operand} {ts:Array TypeId} {vs:List Value} (hx:ev e x=some (.func (.func f) fs cs)) (hargs:evs e args.toList=some vs) (dst:Option Nat) (ty:TypeId) (pos:String) (aft:Array Edge) (g:Option (Nat × Bool)) :
  ∀ a w,Holds N e a→(execOp a.eval ⟨dst,.call { callee:=.value x,args,argTypes:=ts },ty,pos,aft,g⟩).run P w=.ok (.enter f (fs.toList++vs++cs.toList).toArray) w:=by
 intro a w h
 rw [sem_dyn hE hx hargs dst ty pos aft g a w h]
 congr 2
 simp
theorem JEff.dynV {f:FuncId} {x:Operand} {fs cs:Array Value} {args:Array Operand} {ts:Array TypeId} {vs:List Value} {r:Value} (hx:ev e x=some (.func (.func f) fs cs)) (hE:Ent C.P f) (hargs:evs e args.toList=some vs) (hf:FnV C.P f (fs.toList++vs++cs.toList).toArray S r) (hdN:Nat.blt d C.N=true)
  (k:∀ S',S.le S'→JO C R rest Q S' M ((d,r)::e)):JEff C R ⟨some d,.call { callee:=.value x,args,argTypes:=ts },ty,pos,aft,g⟩ rest Q S M e:=
 JEff.fn (Mc:=[]) (Mr:=M) (sem_dynL hE hx hargs _ _ _ _ _) rfl rfl hdN (List.Perm.refl _) (by intro l hl m hm;cases hm) hf fun v S' M' hl hp=>by
  obtain ⟨rfl,rfl⟩:=hp;exact k S' hl
theorem JEff.ext {f:FuncId} {args:Array Operand} {ts:Array TypeId} {vs:List Value} {r:Value} (hargs:evs e args.toList=some vs) (hr:∀ w,(callFunc f vs.toArray).run C.P w=.ok (.value r) w) (hdN:Nat.blt d C.N=true)
  (k:JO C R rest Q S M ((d,r)::e)):JEff C R ⟨some d,.call { callee:=.value (.func f),args,argTypes:=ts },ty,pos,aft,g⟩ rest Q S M e:=
 JEff.ofRun rfl rfl hdN fun a w hw=>by
  have h1:args.map a.eval=vs.toArray:=by rw [← hw.env.evals hargs,← Array.toList_map,Array.toArray_toList]
  exact ⟨r,w,by simp [execOp,resolve,Act.eval,Deferred.ofValue,invoke,h1,hr],SubX.refl _ _,Nat.le_refl _,S,M,hw.wd,SHeap.le.refl _,k⟩
end
theorem wrap_u8_i32 (c:UInt8):IntKind.i32.wrap (c.toNat:Int)=(c.toNat:Int):=by
 rw [IntKind.wrap_i32]
 have:=c.toNat_lt
 omega
end Go.Dr
namespace Go.Dr
open Go.RowKit
section
variable {C:Cx} {R:Rg} {Q:Post} {S S' S1:SHeap} {M M':List MEnt} {e e':Env} {rest:List Nat}
variable {d:Nat} {ty:TypeId} {pos:String} {aft:Array Edge} {g:Option (Nat × Bool)} {an:Bool}
theorem run_newObj {P:Program} (o:Obj) (w:World):(newObj o).run P w=.ok w.heap.size (w.alloc o):=by
 simp [newObj,Sem.run]
theorem JEff.rangeT {T:TypeId} {x:Operand} {s:ByteArray} (hx:ev e x=some (.string s)) [hu:Und C.P T .string] (hdN:Nat.blt d C.N=true)
  (k:∀ b,C.w0.heap.size≤b→JO C R rest Q S (.blk b (.stringIter s 0)::M) ((d,.pointer (some ⟨b,0,none⟩))::e)):JEff C R ⟨some d,.range T x,ty,pos,aft,g⟩ rest Q S M e:=
 JEff.ofRun rfl rfl hdN fun a w hw=>⟨.pointer (some ⟨w.heap.size,0,none⟩),w.alloc (.stringIter s 0),by
   simp only [execOp,hw.env.eval hx,Instr.range,Sem.run_bind,run_underlying hu.h,Result.andThen_ok,Sem.run_pure,run_newObj],subX_alloc _ _ _,by simp,
  S,_,hw.wd.alloc _,SHeap.le.refl _,k _ hw.wd.size⟩
def putObj (w:World) (b:Nat) (o:Obj):World:={ w with heap:=w.heap.setIfInBounds b o }
theorem putObj_at (w:World) (b:Nat) (o o':Obj) (h:w.heap[b]?=some o'):(putObj w b o).heap[b]?=some o:=by
 have:=(Array.getElem?_eq_some_iff.1 h).1
 simp [putObj,this]
theorem putObj_other (w:World) (b k:Nat) (o:Obj) (h:k≠b):(putObj w b o).heap[k]?=w.heap[k]?:=by
 simp only [putObj]
 rw [Array.getElem?_setIfInBounds_ne (Ne.symm h)]
theorem subX_put {R:Rg} {w w':World} {b:Nat} (hT:∀ l,R.T=some l→b∈l) (hk:∀ k,k≠b→w'.heap[k]?=w.heap[k]?):SubX R.TP w w':=by
 intro k o hk' ho
 have:k≠b:=by
  rintro rfl
  apply hk'
  unfold Rg.TP
  cases hl:R.T with
  | none=>trivial
  | some l=>exact hT l hl
 rw [hk k this];exact ho
theorem JEff.nextT {x:Operand} {s:ByteArray} {b p:Nat} {Mr:List MEnt} (hx:ev e x=some (.pointer (some ⟨b,0,none⟩))) (hM:(MEnt.blk b (.stringIter s p)::Mr).Perm M) (hT:∀ l,R.T=some l→b∈l) (hdN:Nat.blt d C.N=true)
  (k1:p < s.size→JO C R rest Q S (.blk b (.stringIter s (p+(Utf8.decode s p).2))::Mr) ((d,.tuple #[.bool true,.int .i64 p,.int .i32 (Utf8.decode s p).1])::e))
  (k2:s.size≤p→JO C R rest Q S M ((d,.tuple #[.bool false])::e)):JEff C R ⟨some d,.next x true,ty,pos,aft,g⟩ rest Q S M e:=
 JEff.ofRun rfl rfl hdN fun a w hw=>by
  have hwd:=hw.wd.perm hM
  have hb:w.heap[b]?=some (.stringIter s p):=hwd.ok (.blk b (.stringIter s p)) (by simp)
  by_cases hp:p < s.size
  ·refine ⟨_,putObj w b (.stringIter s (p+(Utf8.decode s p).2)),?_,subX_put hT (fun k hk=>putObj_other w b k _ hk),by simp [putObj],S,_,hwd.turn rfl rfl rfl (by simp [putObj]) (fun k hk=>putObj_other w b k _ hk) (putObj_at w b _ _ hb),SHeap.le.refl _,k1 hp⟩
   simp [execOp,hw.env.eval hx,Instr.next,getObj,setObj,Sem.run,hb,hp,putObj,goInt]
  ·refine ⟨_,w,?_,SubX.refl _ _,Nat.le_refl _,S,M,hw.wd,SHeap.le.refl _,k2 (by omega)⟩
   simp [execOp,hw.env.eval hx,Instr.next,getObj,Sem.run,hb,hp]
end
theorem decode_pos (s:ByteArray) (p:Nat):1≤(Utf8.decode s p).2:=by
 unfold Utf8.decode
 dsimp only
 repeat' split
 all_goals simp
theorem decode_high (s:ByteArray) (p:Nat) (h:p < s.size) (hb:128≤(s[p]'h).toNat):128≤(Utf8.decode s p).1:=by
 have h0:(s.get! (p+0)).toNat=(s[p]'h).toNat:=by
  rw [Nat.add_zero]
  congr 1
  show s.data[p]! = _
  rw [getElem!_pos s.data p (by simpa using h)];rfl
 have h1:¬ (s.get! (p+0)).toNat < 128:=by rw [h0];omega
 unfold Utf8.decode
 dsimp only
 rw [if_neg h1]
 repeat' split
 all_goals simp_all [Utf8.runeError]
 all_goals omega
def scanR (g:Int→Bool) (s:ByteArray):Nat→Nat→Int
 | 0,_=>-1
 | f+1,p=>if p < s.size then (if g (Utf8.decode s p).1=true then (p:Int) else scanR g s f (p+(Utf8.decode s p).2)) else -1
theorem scanR_all (ok:Int→Bool) (hok:∀ c:Int,128≤c→ok c=false) (s:ByteArray):∀ (f p:Nat),p≤s.size→s.size - p≤f →
  decide (scanR (fun c=>!ok c) s f p < 0)=(s.data.toList.drop p).all (fun c=>ok c.toNat):=by
 intro f
 induction f with
 | zero=>
  intro p hp hf
  rw [List.drop_eq_nil_of_le (by simp;omega)]
  simp [scanR]
 | succ f ih=>
  intro p hp hf
  unfold scanR
  by_cases hlt:p < s.size
  ·have hd:s.data.toList.drop p=(s[p]'hlt)::s.data.toList.drop (p+1):=by
    have:=List.drop_eq_getElem_cons (l:=s.data.toList) (i:=p) (by simpa using hlt)
    simp only [Array.getElem_toList] at this
    exact this
   rw [if_pos hlt,hd,List.all_cons]
   by_cases ha:(s[p]'hlt).toNat < 128
   ·rw [decode_ascii s p hlt ha]
    cases hk:ok ((s[p]'hlt).toNat:Int) with
    | true=>
     simp only [Bool.not_true,Bool.false_eq_true,if_false,Bool.true_and]
     exact ih (p+1) (by omega) (by omega)
    | false=>simp
   ·have h1:=decode_high s p hlt (by omega)
    have h2:ok ((Utf8.decode s p).1:Int)=false:=hok _ (by omega)
    have h3:ok ((s[p]'hlt).toNat:Int)=false:=hok _ (by omega)
    simp [h2,h3]
  ·rw [if_neg hlt,List.drop_eq_nil_of_le (by simp;omega)]
   simp
end Go.Dr
