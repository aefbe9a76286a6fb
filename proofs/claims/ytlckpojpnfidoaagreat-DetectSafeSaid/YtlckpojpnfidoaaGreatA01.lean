/- Part 2 of the rules and of the walks that the proofs of this seat rest on; no condition. -/
import Derived.Test.YtlckpojpnfidoaaGreatA00
import Derived.Great.BuildSlice
import Derived.Laws.MakeOwn
import Derived.Laws.StructEq
import Derived.Laws.Slices
import Derived.Lib.SliceRun
set_option linter.unusedVariables false
set_option linter.unusedSimpArgs false
namespace Go.Dr
open Go.RowKit
class Byt (P:Program) (E:TypeId) (bt:outParam Nat):Prop where
 h:(P.info? E).map (·.bytes)=some bt
def flatCells:List Value→List Value
 | []=>[]
 | v::l=>v.cells.toList++flatCells l
def idxd:Nat→List Value→List (Nat × Value)
 | _,[]=>[]
 | i,v::l=>(i,v)::idxd (i+1) l
theorem foldl_set (vs:List Value):∀ (j off:Nat) (cs:Array Value),off+j+vs.length≤cs.size →
  ((vs.zipIdx j).foldl (fun cs (c,k)=>cs.setIfInBounds (off+k) c) cs).toList=cs.toList.take (off+j)++vs++cs.toList.drop (off+j+vs.length):=by
 induction vs with
 | nil=>intro j off cs h;simp
 | cons v vs ih=>
  intro j off cs h
  rw [List.zipIdx_cons,List.foldl_cons]
  have hl:off+j < cs.size:=by simp at h;omega
  rw [ih (j+1) off _ (by simp at h ⊢;omega)]
  simp only [Array.toList_setIfInBounds]
  have hlt:off+j < cs.toList.length:=by simpa using hl
  have e1:(cs.toList.set (off+j) v).take (off+(j+1))=cs.toList.take (off+j)++[v]:=by
   rw [show off+(j+1)=(off+j)+1 by omega,List.take_succ_eq_append_getElem (by simpa using hlt),List.take_set_of_le (Nat.le_refl _)]
   simp
  have e2:(cs.toList.set (off+j) v).drop (off+(j+1)+vs.length)=cs.toList.drop (off+j+(v::vs).length):=by
   rw [List.drop_set_of_lt (by omega)]
   congr 1
   simp;omega
  rw [e1,e2]
  simp
theorem fill_flat (sz:Nat):∀ (vs:List Value) (i:Nat) (cs:Array Value),(∀ v∈vs,v.cells.size=sz)→(i+vs.length)*sz≤cs.size →
  ∃ cs',Instr.fill (fun i=>some (i*sz,sz)) cs (idxd i vs)=some cs'∧cs'.toList=cs.toList.take (i*sz)++flatCells vs++cs.toList.drop ((i+vs.length)*sz):=by
 intro vs
 induction vs with
 | nil=>intro i cs _ _;exact ⟨cs,rfl,by simp [flatCells]⟩
 | cons v vs ih=>
  intro i cs hs hl
  have hv:=hs v (by simp)
  have hmul:(i+(v::vs).length)*sz=i*sz+sz+vs.length*sz:=by simp [Nat.add_mul];omega
  have hle:i*sz+sz≤cs.size:=by omega
  have hf:=foldl_set v.cells.toList 0 (i*sz) cs (by simp [hv];omega)
  simp only [Nat.add_zero,Array.length_toList,hv] at hf
  have hzi:v.cells.zipIdx.foldl (fun cs (x:Value × Nat)=>match x with|(c,j)=>cs.setIfInBounds (i*sz+j) c) cs=(v.cells.toList.zipIdx 0).foldl (fun cs (x:Value × Nat)=>match x with|(c,j)=>cs.setIfInBounds (i*sz+j) c) cs:=by
   rw [← Array.foldl_toList];simp
  obtain ⟨cs',h1,h2⟩:=ih (i+1) ((v.cells.toList.zipIdx 0).foldl (fun cs (x:Value × Nat)=>match x with|(c,j)=>cs.setIfInBounds (i*sz+j) c) cs) (fun u hu=>hs u (by simp [hu])) (by
   have hsz:((v.cells.toList.zipIdx 0).foldl (fun cs (x:Value × Nat)=>match x with|(c,j)=>cs.setIfInBounds (i*sz+j) c) cs).size=cs.size:=by
    have:=congrArg List.length hf
    simp [hv] at this
    show (List.foldl (fun (cs:Array Value) (x:Value × Nat)=>cs.setIfInBounds (i*sz+x.2) x.1) cs v.cells.toList.zipIdx).size=cs.size
    omega
   rw [hsz];rw [show (i+1+vs.length)*sz=i*sz+sz+vs.length*sz by simp [Nat.add_mul]];omega)
  refine ⟨cs',?_,?_⟩
  ·simp only [idxd,Instr.fill]
   rw [if_neg (by simp [hv];omega),hzi]
   exact h1
  ·rw [h2,hf]
   have hA:(cs.toList.take (i*sz)++v.cells.toList).length=(i+1)*sz:=by
    rw [List.length_append,List.length_take,Array.length_toList,Array.length_toList,hv,Nat.add_mul]
    omega
   rw [List.take_append_of_le_length (by rw [hA];exact Nat.le_refl _),List.take_of_length_le (by rw [hA];exact Nat.le_refl _)]
   rw [List.drop_append,hA,List.drop_eq_nil_of_le (by rw [hA];simp [Nat.add_mul]),List.nil_append,List.drop_drop]
   simp only [flatCells,List.append_assoc]
   congr 4
   simp [Nat.add_mul];omega
def allV {α:Type} (rep:Rp α) (S:SHeap):List Value→List α→Prop
 | [],[]=>True
 | v::vs,x::xs=>(rep.V S v x∧(rep.agg=false→∀ cs,v≠.agg cs))∧allV rep S vs xs
 | _,_=>False
theorem allV.length {α:Type} {rep:Rp α} {S:SHeap}:∀ {vs:List Value} {xs:List α},allV rep S vs xs→vs.length=xs.length
 | [],[],_=>rfl
 | _::_,_::_,h=>by simp [h.2.length]
theorem allV.mono {α:Type} {rep:Rp α} {S S':SHeap} (hl:S.le S'):∀ {vs:List Value} {xs:List α},allV rep S vs xs→allV rep S' vs xs
 | [],[],_=>trivial
 | _::_,_::_,h=>⟨⟨h.1.1.mono hl,h.1.2⟩,h.2.mono hl⟩
theorem allV.append {α:Type} {rep:Rp α} {S:SHeap} {us:List Value} {ys:List α} (k:allV rep S us ys):∀ {vs:List Value} {xs:List α},allV rep S vs xs→allV rep S (vs++us) (xs++ys)
 | [],[],_=>k
 | _::_,_::_,h=>⟨h.1,allV.append k h.2⟩
theorem allV.size {α:Type} {rep:Rp α} {S:SHeap}:∀ {vs:List Value} {xs:List α},allV rep S vs xs→∀ v∈vs,v.cells.size=rep.sz∧(∀ c∈v.cells.toList,c.oneCell'=true)
 | [],[],_,_,hv=>by cases hv
 | _::_,_::_,h,u,hu=>by
  rcases List.mem_cons.1 hu with rfl|hu
  ·have hc:=h.1.1.cells h.1.2
   refine ⟨by have:=rep.len hc;simpa using this,rep.flat hc⟩
  ·exact h.2.size u hu
theorem flat_append (vs us:List Value):flatCells (vs++us)=flatCells vs++flatCells us:=by
 induction vs with
 | nil=>rfl
 | cons v vs ih=>simp [flatCells,ih]
theorem flat_len {n:Nat}:∀ {vs:List Value},(∀ v∈vs,v.cells.size=n)→(flatCells vs).length=vs.length*n
 | [],_=>by simp [flatCells]
 | v::vs,h=>by
  have h1:=h v (by simp)
  have h2:=flat_len (vs:=vs) (fun u hu=>h u (by simp [hu]))
  simp only [flatCells,List.length_append,Array.length_toList,h1,h2,List.length_cons,Nat.add_mul]
  omega
theorem allV.flat {α:Type} {rep:Rp α} {S:SHeap} {vs:List Value} {xs:List α} (h:allV rep S vs xs):(flatCells vs).toArray.size=xs.length*rep.sz:=by
 have h1:=flat_len (n:=rep.sz) (vs:=vs) (fun v hv=>(h.size v hv).1)
 rw [List.size_toArray,h1,h.length]
theorem flat_one {vs:List Value} (h:∀ v∈vs,∀ c∈v.cells.toList,c.oneCell'=true):∀ c∈flatCells vs,c.oneCell'=true:=by
 induction vs with
 | nil=>intro c hc;cases hc
 | cons v vs ih=>
  intro c hc
  rcases List.mem_append.1 hc with hc|hc
  ·exact h v (by simp) c hc
  ·exact ih (fun u hu=>h u (by simp [hu])) c hc
theorem allV.at_ {α:Type} {rep:Rp α} {S:SHeap}:∀ {vs:List Value} {xs:List α},allV rep S vs xs→∀ i x,xs[i]?=some x→∃ pre mid post,flatCells vs=pre++mid++post∧pre.length=i*rep.sz∧rep.R S mid x
 | [],[],_,i,x,hx=>by cases hx
 | v::vs,y::ys,h,i,x,hx=>by
  have hc:=h.1.1.cells h.1.2
  cases i with
  | zero=>
   have hx:y=x:=by simpa using hx
   subst hx
   exact ⟨[],v.cells.toList,flatCells vs,by simp [flatCells],by simp,hc⟩
  | succ i=>
   obtain ⟨pre,mid,post,e,hl,hr⟩:=h.2.at_ i x (by simpa using hx)
   refine ⟨v.cells.toList++pre,mid,post,by simp [flatCells,e],?_,hr⟩
   rw [List.length_append,rep.len hc,hl,Nat.add_mul];omega
theorem slice_of_block {α:Type} {rep:Rp α} {S0 S:SHeap} {bt g n cap:Nat} {E:TypeId} {fr:Nat × Nat} {cur:Array Value} {vs:List Value} {xs:List α} (hl:S0.le S) (hg:S g=some (.cells cur E fr)) (hv:allV rep S0 vs xs)
  (hn:n=xs.length) (hc:n≤cap) (hb:n*bt≤big) (hb1:n≤big) (ht:cur.toList.take (n*rep.sz)=flatCells vs):(rSlice bt rep).V S (.slice (some ⟨g,0,none⟩) n cap) xs:=by
 subst hn
 refine V_slice.2 ⟨_,cap,rfl,hc,hb,hb1,fun i x hx=>⟨_,rfl,?_⟩⟩
 obtain ⟨pre,mid,post,e,hpl,hr⟩:=hv.at_ i x hx
 refine ⟨mid,rep.mono hl hr,fun j v hj=>?_⟩
 rw [add_plain]
 have hadd:(⟨g,i*rep.sz,none⟩:Addr).add j=⟨g,i*rep.sz+j,none⟩:=by unfold Addr.add;split<;>simp_all
 rw [hadd]
 simp only [SHeap.cell?,hg]
 have hj':j < mid.length:=by
  rcases Nat.lt_or_ge j mid.length with h|h
  ·exact h
  ·rw [List.getElem?_eq_none h] at hj;cases hj
 have h1:(cur.toList.take (xs.length*rep.sz))[i*rep.sz+j]?=some v:=by
  rw [ht,e,List.append_assoc,List.getElem?_append_right (by omega),List.getElem?_append_left (by omega),show i*rep.sz+j - pre.length=j by omega]
  exact hj
 rw [List.getElem?_take] at h1
 split at h1
 ·simpa using h1
 ·cases h1
section
variable {C:Cx} {R:Rg} {Q:Post} {S S' S1:SHeap} {M M':List MEnt} {e e':Env} {rest:List Nat}
variable {d:Nat} {ty:TypeId} {pos:String} {aft:Array Edge} {g:Option (Nat × Bool)} {an:Bool}
def partOps:Nat→List (Nat × Operand)→Option (List Operand)
 | _,[]=>some []
 | i,(j,x)::l=>bif Nat.beq i j then (match partOps (i+1) l with|some xs=>some (x::xs)|none=>none) else none
theorem partOps_eval {N:Nat} {e:Env} {a:Act} (h:Holds N e a):∀ {ps:List (Nat × Operand)} {i:Nat} {xs:List Operand} {vs:List Value},partOps i ps=some xs→evs e xs=some vs→ps.map (fun p=>(p.1,a.eval p.2))=idxd i vs:=by
 intro ps
 induction ps with
 | nil=>intro i xs vs h1 h2;simp [partOps] at h1;subst h1;simp [evs] at h2;subst h2;rfl
 | cons p ps ih=>
  obtain ⟨j,x⟩:=p
  intro i xs vs h1 h2
  simp only [partOps] at h1
  cases hb:Nat.beq i j with
  | false=>rw [hb] at h1;cases h1
  | true=>
   rw [hb] at h1
   have e1:=Nat.eq_of_beq_eq_true hb
   subst e1
   simp only [cond_true] at h1
   cases hp:partOps (i+1) ps with
   | none=>rw [hp] at h1;cases h1
   | some ys=>
    rw [hp] at h1
    cases h1
    simp only [evs] at h2
    cases hx:ev e x with
    | none=>rw [hx] at h2;cases h2
    | some v=>
     cases hy:evs e ys with
     | none=>rw [hx,hy] at h2;cases h2
     | some us=>
      rw [hx,hy] at h2
      cases h2
      simp only [List.map_cons,idxd,h.eval hx,ih hp hy]
theorem run_build {α:Type} {P:Program} {T E:TypeId} {n:Nat} {parts:Array (Nat × Value)} {vs:List Value} {rep:Rp α} {z:Value} (hu:Und P T (.slice E)) (ht:TyR P E rep) (hz:Zero P E z) (hp:parts.toList=idxd 0 vs) (hn:vs.length=n)
  (hs:∀ v∈vs,v.cells.size=rep.sz) (hsmall:Nat.ble (n*rep.sz) 16777216=true) (hpos:Nat.ble 1 (n*rep.sz)=true) (w:World) :
  (Instr.buildSlice T n parts).run P w=.ok (.slice (some ⟨w.heap.size,0,none⟩) n n) (w.alloc (.cells (flatCells vs).toArray E)):=by
 obtain ⟨i,hi,hsz⟩:=ht.i
 obtain ⟨i',hi',hz'⟩:=Option.map_eq_some_iff.1 hz.h
 have:i=i':=by rw [hi] at hi';exact Option.some.inj hi'
 subst this
 have h1:=Nat.le_of_ble_eq_true hsmall
 have h2:=Nat.le_of_ble_eq_true hpos
 obtain ⟨cs',hf,hl⟩:=fill_flat rep.sz vs 0 ((Array.range (n*rep.sz)).map (z.cells[· % z.cells.size]!)) hs (by simp [hn])
 have hcs:cs'=(flatCells vs).toArray:=by
  apply Array.ext'
  rw [hl]
  simp [hn]
 subst hcs
 refine run_buildSlice w T E n parts _ i z hu.h hi hz' (by rw [hsz];omega) (by rw [hsz];omega) ?_
 rw [hsz,hp];exact hf
theorem JEff.build {α:Type} {T E:TypeId} {n:Nat} {parts:Array (Nat × Operand)} {xs:List Operand} {vs:List Value} {rep:Rp α} {z:Value} {ys:List α} (h1:partOps 0 parts.toList=some xs) (h2:evs e xs=some vs) (hv:allV rep S vs ys)
  [hu:Und C.P T (.slice E)] [ht:TyR C.P E rep] [hz:Zero C.P E z] (hn:vs.length=n) (hsmall:Nat.ble (n*rep.sz) 16777216=true) (hpos:Nat.ble 1 (n*rep.sz)=true) (hdN:Nat.blt d C.N=true)
  (k:∀ b,C.w0.heap.size≤b→allV rep S vs ys→JO C R rest Q S (.blk b (.cells (flatCells vs).toArray E)::M) ((d,.slice (some ⟨b,0,none⟩) n n)::e)):JEff C R ⟨some d,.buildSlice T n parts,ty,pos,aft,g⟩ rest Q S M e:=
 JEff.ofRun rfl rfl hdN fun a w hw=>by
  have hp:(parts.map fun (i,x)=>(i,a.eval x)).toList=idxd 0 vs:=by
   rw [Array.toList_map];exact partOps_eval hw.env h1 h2
  have hr:=run_build (parts:=parts.map fun (i,x)=>(i,a.eval x)) hu ht hz hp hn (fun v hv'=>(hv.size v hv').1) hsmall hpos w
  exact ⟨_,w.alloc (.cells (flatCells vs).toArray E),by simp only [execOp,Sem.run_bind,hr,Result.andThen_ok,Sem.run_pure],subX_alloc _ _ _,by simp,S,_,hw.wd.alloc _,SHeap.le.refl _,k _ hw.wd.size hv⟩
theorem JEff.buildS {α:Type} {T E:TypeId} {n bt:Nat} {parts:Array (Nat × Operand)} {xs:List Operand} {vs:List Value} {rep:Rp α} {z:Value} {ys:List α} (h1:partOps 0 parts.toList=some xs) (h2:evs e xs=some vs) (hv:allV rep S vs ys)
  [hu:Und C.P T (.slice E)] [ht:TyR C.P E rep] [hz:Zero C.P E z] (hn:vs.length=n) (hsmall:Nat.ble (n*rep.sz) 16777216=true) (hpos:Nat.ble 1 (n*rep.sz)=true) (hbt:n*bt≤big) (hdN:Nat.blt d C.N=true)
  (k:∀ S' a,S.le S'→(rSlice bt rep).V S' (.slice a n n) ys→JO C R rest Q S' M ((d,.slice a n n)::e)):JEff C R ⟨some d,.buildSlice T n parts,ty,pos,aft,g⟩ rest Q S M e:=
 JEff.ofRun rfl rfl hdN fun a w hw=>by
  have hp:(parts.map fun (i,x)=>(i,a.eval x)).toList=idxd 0 vs:=by
   rw [Array.toList_map];exact partOps_eval hw.env h1 h2
  have hr:=run_build (parts:=parts.map fun (i,x)=>(i,a.eval x)) hu ht hz hp hn (fun v hv'=>(hv.size v hv').1) hsmall hpos w
  have hle:=SHeap.le_put (.cells (flatCells vs).toArray E) hw.wd.fresh
  refine ⟨.slice (some ⟨w.heap.size,0,none⟩) n n,w.alloc (.cells (flatCells vs).toArray E),by simp only [execOp,Sem.run_bind,hr,Result.andThen_ok,Sem.run_pure],subX_alloc _ _ _,by simp,S.put w.heap.size (.cells (flatCells vs).toArray E),M,(hw.wd.alloc _).freeze hw.wd.size,hle,k _ _ hle ?_⟩
  have hlen:=hv.length
  have hfl:=flat_len (n:=rep.sz) (vs:=vs) (fun v hv'=>(hv.size v hv').1)
  have hsm:=Nat.le_of_ble_eq_true hsmall
  have hps:=Nat.le_of_ble_eq_true hpos
  have hsp:0 < rep.sz:=by
   rcases Nat.eq_zero_or_pos rep.sz with h|h
   ·rw [h] at hps;omega
   ·exact h
  have hn1:n≤n*rep.sz:=Nat.le_mul_of_pos_right _ hsp
  refine slice_of_block hle (SHeap.put_self _ _ _) hv (by omega) (Nat.le_refl _) hbt (by unfold big;omega) ?_
  rw [List.take_of_length_le (by simp [hfl,hn])]
end
/-! ### Rows that grow -/
theorem run_append_d {P:Program} (w:World) (base:Nat) (t ty e:TypeId) (i:TypeInfo) (z:Value) (size bytes:Nat) (ht:P.underlying t=some (.slice e)) (hi:P.info? e=some i) (hz:i.zero=some z)
  (hsize:i.size=size) (hby:i.bytes=bytes) (hzs:z.cells.size=size) (hsz:0 < size) (v:Value) (n:Nat) (xs:List Value) (hown:w.ownsRow base e size v n xs)
  (a:Addr) (m c:Nat) (news:List Value) (hl:news.length=m*size) (hnews:∀ j u,news[j]?=some u→w.cell? (a.add j)=some u) (h1:∀ u∈news,u.oneCell'=true)
  (h63:n+m≤maxLen) (hbytes:(n+m)*bytes≤140737488355328) (hbase:base≤w.heap.size) :
  ∃ v' w',(Builtin.append_ #[t,t] ty #[v,.slice (some a) m c]).run P w=.ok v' w'∧w'.ownsRow base e size v' (n+m) (xs++news)∧w.grownBy w' v.ownBlock ∧
   (v'=.slice none 0 0↔v=.slice none 0 0∧m=0)∧(v'.ownBlock=v.ownBlock∨v'.ownBlock=some w.heap.size)∧w.drawn≤w'.drawn:=by
 obtain ⟨v',w',hr,r1,r2,r3,r4⟩:=run_append_own_at (P:=P) w base t ty e i z size bytes ht hi hz hsize hby hzs hsz v n xs hown a m c news hl hnews h1 h63 hbytes hbase
 refine ⟨v',w',hr,r1,r2,r3,r4,?_⟩
 have key:∀ {v1:Value} {w1:World},(Builtin.append_ #[t,t] ty #[v,.slice (some a) m c]).run P w=.ok v1 w1→w.drawn≤w1.drawn→w.drawn≤w'.drawn:=fun {v1 w1} e1 e2=>by
  rw [hr] at e1;cases e1;exact e2
 have hs63:n+m≤9223372036854775807:=by simp only [maxLen] at h63;omega
 subst hsize
 subst hby
 rcases hown.2 with ⟨rfl,rfl⟩|⟨g,cap,cur,rfl,_,hg,_,_,hcs,_⟩
 ·by_cases hm:m=0
  ·subst hm
   have e0:(Builtin.append_ #[t,t] ty #[.slice none 0 0,.slice (some a) 0 c]).run P w=.ok (.slice none 0 0) w:=by
    simp [Builtin.append_,run_underlying ht,sizeOf,typeInfo,hi,Builtin.lenOf,Builtin.firstCells,loadCells,loadCellsFrom]
   exact key e0 (Nat.le_refl _)
  ·exact key (run_append_nil (P:=P) w t ty e i z ht hi hz a m c news hl hnews (by omega) (by omega) (by have hb:=hbytes;simp only [Nat.zero_add] at hb;omega)) (Nat.le_succ _)
 ·by_cases hroom:n+m≤cap
  ·exact key (run_append_room (P:=P) w t ty e i ht hi g n cap cur hg a m c news hl hnews h1 hroom (by rw [hl,hcs,← Nat.add_mul];exact Nat.mul_le_mul_right _ hroom)) (Nat.le_refl _)
  ·exact key (run_append_grow (P:=P) w t ty e i z ht hi hz ⟨g,0,none⟩ n cap xs hown.1 (hown.cells (g:=g) rfl) a m c news hl hnews (by omega) (by omega) (growslice_fits (by omega) hbytes)) (Nat.le_succ _)
theorem Wd.rowTurn {w0 w w':World} {B0:List Nat} {S0 S:SHeap} {M:List MEnt} {e:TypeId} {sz:Nat} {v v':Value} {n n':Nat} {xs xs':List Value} (h:Wd w0 B0 S0 S (.row w0.heap.size e sz v n xs::M) w)
  (hg:w.grownBy w' v.ownBlock) (hd:w.drawn≤w'.drawn) (hr:w'.ownsRow w0.heap.size e sz v' n' xs') (ho:v'.ownBlock=v.ownBlock∨v'.ownBlock=some w.heap.size):Wd w0 B0 S0 S (.row w0.heap.size e sz v' n' xs'::M) w' where
 os:=hg.os.trans h.os
 tape:=hg.tape.trans h.tape
 output:=hg.output.trans h.output
 size:=Nat.le_trans h.size hg.size
 drawn:=Nat.le_trans h.drawn hd
 keep:=fun k hk hb=>by
  refine (hg.block k (Nat.lt_of_lt_of_le hk h.size) fun e1=>?_).trans (h.keep k hk hb)
  have:=(World.ownsRow.lt (h.ok (.row w0.heap.size e sz v n xs) (by simp)) k e1.symm).1
  omega
 le:=h.le
 new:=h.new
 agree:=fun k o hk=>by
  have h1:=h.agree k o hk
  rw [hg.block k (Array.getElem?_eq_some_iff.1 h1).1 fun e1=>?_]
  ·exact h1
  ·have:=(h.out (.row w0.heap.size e sz v n xs) (by simp) k e1.symm).1
   rw [this] at hk;cases hk
 ok:=fun m hm=>by
  rcases List.mem_cons.1 hm with rfl|hm
  ·exact hr
  ·have h1:=h.ok m (List.mem_cons_of_mem _ hm)
   exact h1.keep fun k hk=>hg.block k (h1.lt k hk) fun e1=>(List.pairwise_cons.1 h.sep).1 m hm k e1.symm hk
 sep:=List.pairwise_cons.2 ⟨fun m hm k hk hk'=>by
  rcases ho with ho|ho
  ·exact (List.pairwise_cons.1 h.sep).1 m hm k ((show v.ownBlock=some k from ho.symm.trans hk)) hk'
  ·have h1:=(h.ok m (List.mem_cons_of_mem _ hm)).lt k hk'
   have h2:some w.heap.size=some k:=ho.symm.trans hk
   cases h2;omega,(List.pairwise_cons.1 h.sep).2⟩
 out:=fun m hm k hk=>by
  rcases List.mem_cons.1 hm with rfl|hm
  ·rcases ho with ho|ho
   ·exact h.out (.row w0.heap.size e sz v n xs) (by simp) k ((show v.ownBlock=some k from ho.symm.trans hk))
   ·have h2:some w.heap.size=some k:=ho.symm.trans hk
    cases h2
    exact ⟨h.fresh,.inl h.size⟩
  ·exact h.out m (List.mem_cons_of_mem _ hm) k hk
theorem Wd.newRow {w0 w:World} {B0:List Nat} {S0 S:SHeap} {M:List MEnt} (E:TypeId) (sz:Nat) (h:Wd w0 B0 S0 S M w):Wd w0 B0 S0 S (.row w0.heap.size E sz (.slice none 0 0) 0 []::M) w:=
 { h with
  ok:=fun m hm=>by
   rcases List.mem_cons.1 hm with rfl|hm
   ·exact ⟨by simp,.inl ⟨rfl,rfl⟩⟩
   ·exact h.ok m hm
  sep:=List.pairwise_cons.2 ⟨fun m _ k hk=>(by cases hk),h.sep⟩
  out:=fun m hm k hk=>by
   rcases List.mem_cons.1 hm with rfl|hm
   ·cases hk
   ·exact h.out m hm k hk }
theorem ownsRow_form {w:World} {base:Nat} {e:TypeId} {sz n:Nat} {v:Value} {xs:List Value} (h:w.ownsRow base e sz v n xs):∃ a c,v=.slice a n c:=by
 rcases h.2 with ⟨rfl,rfl⟩|⟨g,cap,cur,rfl,_⟩
 ·exact ⟨none,0,rfl⟩
 ·exact ⟨_,cap,rfl⟩
theorem Wd.freezeRow {α:Type} {w0 w:World} {B0:List Nat} {S0 S:SHeap} {M:List MEnt} {E:TypeId} {bt n:Nat} {v:Value} {vs:List Value} {rep:Rp α} {xs:List α} (h:Wd w0 B0 S0 S (.row w0.heap.size E rep.sz v n (flatCells vs)::M) w)
  (hv:allV rep S vs xs) (hn:n=xs.length) (hb:n*bt≤big) (hb1:n≤big):∃ S',S.le S'∧(rSlice bt rep).V S' v xs∧Wd w0 B0 S0 S' M w∧(∀ b,S' b≠none→S b≠none∨some b=v.ownBlock):=by
 have hr:=h.ok (.row w0.heap.size E rep.sz v n (flatCells vs)) (by simp)
 have hM:M.Sublist (.row w0.heap.size E rep.sz v n (flatCells vs)::M):=List.sublist_cons_self _ _
 rcases hr.2 with ⟨rfl,rfl⟩|⟨gb,cap,cur,rfl,hg,hh,hc,hm,hs,ht⟩
 ·have:xs=[]:=List.eq_nil_of_length_eq_zero hn.symm
  subst this
  exact ⟨S,SHeap.le.refl _,V_nil,h.sub hM,fun _ h=>Or.inl h⟩
 ·have hout:=h.out (.row w0.heap.size E rep.sz (.slice (some ⟨gb,0,none⟩) n cap) n (flatCells vs)) (by simp) gb rfl
  have h2:Wd w0 B0 S0 S (.blk gb (.cells cur E (0,0))::M) w:=
   { h with
    ok:=fun m hm=>by
     rcases List.mem_cons.1 hm with rfl|hm
     ·exact hh
     ·exact h.ok m (List.mem_cons_of_mem _ hm)
    sep:=List.pairwise_cons.2 ⟨fun m hm k hk=>(List.pairwise_cons.1 h.sep).1 m hm k hk,(List.pairwise_cons.1 h.sep).2⟩
    out:=fun m hm k hk=>by
     rcases List.mem_cons.1 hm with rfl|hm
     ·simp only [MEnt.own,Option.some.injEq] at hk
      subst hk
      exact hout
     ·exact h.out m (List.mem_cons_of_mem _ hm) k hk }
  refine ⟨S.put gb (.cells cur E (0,0)),SHeap.le_put _ hout.1,slice_of_block (SHeap.le_put _ hout.1) (SHeap.put_self _ _ _) hv hn hc hb hb1 ht,h2.freeze hg,fun b hb'=>?_⟩
  by_cases e1:b=gb
  ·subst e1;exact .inr rfl
  ·left;simpa [SHeap.put,e1] using hb'
section
variable {C:Cx} {R:Rg} {Q:Post} {S S' S1:SHeap} {M M':List MEnt} {e e':Env} {rest:List Nat}
variable {d:Nat} {ty:TypeId} {pos:String} {aft:Array Edge} {g:Option (Nat × Bool)} {an:Bool}
theorem JC.newRow {c:Code} (E:TypeId) (sz:Nat) (k:JC C c Q S (.row C.w0.heap.size E sz (.slice none 0 0) 0 []::M) e):JC C c Q S M e:=⟨fun a w hw=>k.run a w ⟨hw.env,hw.defers,hw.wd.newRow E sz⟩⟩
theorem JX.freezeRow {α:Type} {x:Exit} {E:TypeId} {bt n:Nat} {v:Value} {vs:List Value} {rep:Rp α} {xs:List α} (hv:allV rep S vs xs) (hn:n=xs.length) (hb:n*bt≤big) (hb1:n≤big)
  (k:∀ S',S.le S'→(rSlice bt rep).V S' v xs→JX C x Q S' M e):JX C x Q S (.row C.w0.heap.size E rep.sz v n (flatCells vs)::M) e:=⟨fun a w hw=>by
 obtain ⟨S',hl,hV,hwd,_⟩:=hw.wd.freezeRow hv hn hb hb1
 exact (k S' hl hV).run a w ⟨hw.env,hw.defers,hwd⟩⟩
theorem JC.freezeRow {α:Type} {x:Code} {E:TypeId} {bt n:Nat} {v:Value} {vs:List Value} {rep:Rp α} {xs:List α} (hv:allV rep S vs xs) (hn:n=xs.length) (hb:n*bt≤big) (hb1:n≤big)
  (k:∀ S',S.le S'→(rSlice bt rep).V S' v xs→JC C x Q S' M e):JC C x Q S (.row C.w0.heap.size E rep.sz v n (flatCells vs)::M) e:=⟨fun a w hw=>by
 obtain ⟨S',hl,hV,hwd,_⟩:=hw.wd.freezeRow hv hn hb hb1
 exact (k S' hl hV).run a w ⟨hw.env,hw.defers,hwd⟩⟩
theorem subX_grown {R:Rg} {w w':World} {v:Value} (hg:w.grownBy w' v.ownBlock) (hT:∀ l,R.T=some l→∀ b,v.ownBlock=some b→b∈l):SubX R.TP w w':=by
 intro k o hk ho
 rw [hg.block k (Array.getElem?_eq_some_iff.1 ho).1 fun e1=>?_]
 ·exact ho
 ·apply hk
  unfold Rg.TP
  cases hl:R.T with
  | none=>trivial
  | some l=>exact hT l hl k e1.symm
theorem JEff.appendL {α:Type} {T E:TypeId} {x y:Operand} {b n m bt:Nat} {v:Value} {xs:List Value} {cs:Array Value} {fr:Nat × Nat} {rep:Rp α} {z:Value} {Mr:List MEnt} (hx:ev e x=some v) (hy:ev e y=some (.slice (some ⟨b,0,none⟩) m m))
  [hu:Und C.P T (.slice E)] [ht:TyR C.P E rep] [hz:Zero C.P E z] (hzs:z.cells.size=rep.sz) [hby:Byt C.P E bt] (hsz:Nat.ble 1 rep.sz=true)
  (hM:(MEnt.row C.w0.heap.size E rep.sz v n xs::.blk b (.cells cs E fr)::Mr).Perm M) (hcs:cs.size=m*rep.sz) (h1:∀ c∈cs.toList,c.oneCell'=true) (hbig:(n+m)*bt≤big) (hbig1:n+m≤big)
  (hT:∀ l,R.T=some l→∀ b,v.ownBlock=some b→b∈l) (hdN:Nat.blt d C.N=true)
  (k:∀ a c,JO C R rest Q S (.row C.w0.heap.size E rep.sz (.slice a (n+m) c) (n+m) (xs++cs.toList)::Mr) ((d,.slice a (n+m) c)::e)) :
  JEff C R ⟨some d,.call { callee:=.builtin .append,args:=#[x,y],argTypes:=#[T,T] },ty,pos,aft,g⟩ rest Q S M e:=
 JEff.ofRun rfl rfl hdN fun a w hw=>by
  have hwd:=hw.wd.perm hM
  have hrow:w.ownsRow C.w0.heap.size E rep.sz v n xs:=hwd.ok (.row C.w0.heap.size E rep.sz v n xs) (by simp)
  have hblk:w.heap[b]?=some (.cells cs E fr):=hwd.ok (.blk b (.cells cs E fr)) (by simp)
  obtain ⟨i,hi,hsi⟩:=ht.i
  obtain ⟨i',hi',hz'⟩:=Option.map_eq_some_iff.1 hz.h
  have e1:i=i':=by rw [hi] at hi';exact Option.some.inj hi'
  subst e1
  have hbt:i.bytes=bt:=by have hby:=hby.h;rw [hi] at hby;simpa using hby
  obtain ⟨v',w',hrun,hown,hg,_,ho,hdr⟩:=run_append_d (P:=C.P) w C.w0.heap.size T ty E i z rep.sz bt hu.h hi hz' hsi hbt hzs (Nat.le_of_ble_eq_true hsz) v n xs hrow ⟨b,0,none⟩ m m cs.toList (by simpa using hcs)
   (fun j u hj=>by rw [add_plain];simp only [World.cell?,hblk];simpa using hj) h1 (by unfold big at hbig1;simp only [maxLen];omega) hbig hwd.size
  obtain ⟨a',c',rfl⟩:=ownsRow_form hown
  refine ⟨_,w',?_,subX_grown hg hT,hg.size,S,_,(hwd.rowTurn hg hdr hown ho).sub (List.Sublist.cons_cons _ (List.sublist_cons_self _ _)),SHeap.le.refl _,k a' c'⟩
  simp only [execOp,resolve,invoke,builtin,Sem.run_bind,Sem.run_pure,Result.andThen_ok,List.map_toArray,List.map_cons,List.map_nil,hw.env.eval hx,hw.env.eval hy,hrun]
theorem slice_flat {α:Type} {rep:Rp α} {S:SHeap} (ad:Addr):∀ (ys:List α) (k:Nat),(∀ i x,ys[i]?=some x→PtrTo S (ad.add ((k+i)*rep.sz)) rep x) →
  ∃ vs,allV rep S vs ys∧∀ j u,(flatCells vs)[j]?=some u→S.cell? (ad.add (k*rep.sz+j))=some u
 | [],_,_=>⟨[],trivial,fun j u h=>by simp [flatCells] at h⟩
 | y::ys,k,h=>by
  obtain ⟨vs,h1,h2⟩:=slice_flat ad ys (k+1) (fun i x hx=>by
   have:=h (i+1) x (by simpa using hx)
   rwa [show k+(i+1)=k+1+i by omega] at this)
  obtain ⟨cs,hr,hc⟩:=h 0 y rfl
  have hlen:=rep.len hr
  have hV:=Rp.val_V hr
  have hcl:(rep.val cs).cells.toList=cs∧(rep.agg=false→∀ us,rep.val cs≠.agg us):=by
   unfold Rp.val
   cases ha:rep.agg with
   | true=>simp [Value.cells]
   | false=>
    rw [rep.one ha] at hlen
    match cs,hlen with
    | [c],_=>
     have hf:=rep.flat hr c (by simp)
     cases c<;>simp_all [Value.cells,Value.oneCell']
  refine ⟨rep.val cs::vs,⟨⟨hV,hcl.2⟩,h1⟩,fun j u hj=>?_⟩
  simp only [flatCells,hcl.1] at hj
  rcases Nat.lt_or_ge j cs.length with hlt|hge
  ·rw [List.getElem?_append_left hlt] at hj
   have:=hc j u hj
   rwa [add_add,Nat.add_zero] at this
  ·rw [List.getElem?_append_right hge] at hj
   have:=h2 _ u hj
   rwa [Nat.add_mul,Nat.one_mul,show k*rep.sz+rep.sz+(j - cs.length)=k*rep.sz+j by omega] at this
theorem run_append_none {P:Program} {w:World} {base:Nat} {t ty E:TypeId} {i:TypeInfo} {sz n c:Nat} {v:Value} {xs:List Value} (ht:P.underlying t=some (.slice E)) (hi:P.info? E=some i) (hown:w.ownsRow base E sz v n xs) :
  (Builtin.append_ #[t,t] ty #[v,.slice none 0 c]).run P w=.ok v w:=by
 rcases hown.2 with ⟨rfl,rfl⟩|⟨g,cap,cur,rfl,_,_,hc,_⟩
 ·simp [Builtin.append_,run_underlying ht,sizeOf,typeInfo,hi,Builtin.lenOf,Builtin.firstCells]
 ·simp [Builtin.append_,run_underlying ht,sizeOf,typeInfo,hi,Builtin.lenOf,Builtin.firstCells,hc,storeCells]
theorem JEff.appendS {α:Type} {T E:TypeId} {x y:Operand} {n bt bt':Nat} {v u:Value} {xs:List Value} {ys:List α} {rep:Rp α} {z:Value} {Mr:List MEnt} (hx:ev e x=some v) (hy:ev e y=some u) (hu':(rSlice bt' rep).V S u ys)
  [hu:Und C.P T (.slice E)] [ht:TyR C.P E rep] [hz:Zero C.P E z] (hzs:z.cells.size=rep.sz) [hby:Byt C.P E bt] (hsz:Nat.ble 1 rep.sz=true)
  (hM:(MEnt.row C.w0.heap.size E rep.sz v n xs::Mr).Perm M) (hbig:(n+ys.length)*bt≤big) (hbig1:n+ys.length≤big)
  (hT:∀ l,R.T=some l→∀ b,v.ownBlock=some b→b∈l) (hdN:Nat.blt d C.N=true)
  (k:∀ a c vs,allV rep S vs ys→JO C R rest Q S (.row C.w0.heap.size E rep.sz (.slice a (n+ys.length) c) (n+ys.length) (xs++flatCells vs)::Mr) ((d,.slice a (n+ys.length) c)::e)) :
  JEff C R ⟨some d,.call { callee:=.builtin .append,args:=#[x,y],argTypes:=#[T,T] },ty,pos,aft,g⟩ rest Q S M e:=
 JEff.ofRun rfl rfl hdN fun a w hw=>by
  have hwd:=hw.wd.perm hM
  have hrow:w.ownsRow C.w0.heap.size E rep.sz v n xs:=hwd.ok (.row C.w0.heap.size E rep.sz v n xs) (by simp)
  obtain ⟨i,hi,hsi⟩:=ht.i
  obtain ⟨i',hi',hz'⟩:=Option.map_eq_some_iff.1 hz.h
  have e1:i=i':=by rw [hi] at hi';exact Option.some.inj hi'
  subst e1
  have hbt:i.bytes=bt:=by have hby:=hby.h;rw [hi] at hby;simpa using hby
  obtain ⟨ad,c1,rfl,hc1,hb1,hb2,hp⟩:=V_slice.1 hu'
  cases ad with
  | none=>
   have:ys=[]:=by
    cases ys with
    | nil=>rfl
    | cons y ys=>obtain ⟨ad,h,_⟩:=hp 0 y rfl;cases h
   subst this
   obtain ⟨a',c',rfl⟩:=ownsRow_form hrow
   have hk:=k a' c' [] trivial
   simp only [List.length_nil,Nat.add_zero,flatCells,List.append_nil] at hk
   refine ⟨_,w,?_,SubX.refl _ _,Nat.le_refl _,S,_,hwd,SHeap.le.refl _,hk⟩
   have hrun:=run_append_none (P:=C.P) (ty:=ty) (c:=c1) hu.h hi hrow
   simp only [execOp,resolve,invoke,builtin,Sem.run_bind,Sem.run_pure,Result.andThen_ok,List.map_toArray,List.map_cons,List.map_nil,hw.env.eval hx,hw.env.eval hy,List.length_nil,hrun]
  | some ad=>
   obtain ⟨vs,hvs,hcells⟩:=slice_flat (rep:=rep) (S:=S) ad ys 0 (fun i x hx=>by
    obtain ⟨ad',h,hpp⟩:=hp i x hx
    cases h
    simpa using hpp)
   have hfl:=flat_len (n:=rep.sz) (vs:=vs) (fun v hv'=>(hvs.size v hv').1)
   obtain ⟨v',w',hrun,hown,hg,_,ho,hdr⟩:=run_append_d (P:=C.P) w C.w0.heap.size T ty E i z rep.sz bt hu.h hi hz' hsi hbt hzs (Nat.le_of_ble_eq_true hsz) v n xs hrow ad ys.length c1 (flatCells vs) (by rw [hfl,hvs.length])
    (fun j u hj=>by have:=hcells j u hj;rw [Nat.zero_mul,Nat.zero_add] at this;exact hwd.agree.cell this) (flat_one fun v hv=>(hvs.size v hv).2) (by unfold big at hbig1;simp only [maxLen];omega) hbig hwd.size
   obtain ⟨a',c',rfl⟩:=ownsRow_form hown
   refine ⟨_,w',?_,subX_grown hg hT,hg.size,S,_,hwd.rowTurn hg hdr hown ho,SHeap.le.refl _,k a' c' vs hvs⟩
   simp only [execOp,resolve,invoke,builtin,Sem.run_bind,Sem.run_pure,Result.andThen_ok,List.map_toArray,List.map_cons,List.map_nil,hw.env.eval hx,hw.env.eval hy,hrun]
end
end Go.Dr
namespace Go.Dr
open Go.RowKit
def ints (xs:List Int):Array Value:=(xs.map (fun x=>Value.int .i64 x)).toArray
theorem ints_size (xs:List Int):(ints xs).size=xs.length:=by simp [ints]
theorem addr_add (b off k:Nat):(⟨b,off,none⟩:Addr).add k=⟨b,off+k,none⟩:=by unfold Addr.add;split<;>simp_all
theorem Rp.V.asize {α:Type} {rep:Rp α} {S:SHeap} {v:Value} {x:α} (h:rep.V S v x) (ha:rep.agg=true):v.cells.size=rep.sz:=by
 have:=rep.len (h.cells (fun h=>by rw [ha] at h;cases h))
 simpa using this
theorem allV_ints {S:SHeap}:∀ {xs:List Int},(∀ x∈xs,Rng x)→allV rI64 S (xs.map (fun x=>Value.int .i64 x)) xs
 | [],_=>trivial
 | x::xs,h=>⟨⟨V_i64.2 ⟨rfl,h x (by simp)⟩,fun _ _ h=>by cases h⟩,allV_ints (fun y hy=>h y (by simp [hy]))⟩
theorem flat_ints:∀ (xs:List Int),flatCells (xs.map (fun x=>Value.int .i64 x))=xs.map (fun x=>Value.int .i64 x)
 | []=>rfl
 | x::xs=>by simp [flatCells,flat_ints xs,Value.cells]
section
variable {C:Cx} {R:Rg} {Q:Post} {S S' S1:SHeap} {M M':List MEnt} {e e':Env} {rest:List Nat}
variable {d:Nat} {ty:TypeId} {pos:String} {aft:Array Edge} {g:Option (Nat × Bool)} {an:Bool}
/-! ### Cutting -/
theorem JPure.sliceA {T E:TypeId} {n:Nat} {x:Operand} {p:Addr} {xs:List Int} (hx:ev e x=some (.pointer (some p))) (hp:PtrTo S p (rArr n) xs) [hu:Und C.P T (.array n E)] [ht:TyR C.P E rI64] (hn:Nat.ble (n*8) 100000=true) (hdN:Nat.blt d C.N=true)
  (k:∀ a c,(rSlice 8 rI64).V S (.slice a xs.length c) xs→xs.length=n→JO C R rest Q S M ((d,.slice a xs.length c)::e)):JPure C R an ⟨some d,.slice T x none none none,ty,pos,aft,g⟩ rest Q S M e:=by
 obtain ⟨cs,⟨hl,rfl,hr⟩,hc⟩:=hp
 have hn':=Nat.le_of_ble_eq_true hn
 have hs:(rI64:Rp Int).sz=1:=rfl
 have hV:(rSlice 8 rI64).V S (.slice (some (if n=0 then p else p.add (0*1))) xs.length n) xs:=by
  refine V_slice.2 ⟨_,n,rfl,by omega,by unfold big;omega,by unfold big;omega,fun i z hz=>⟨_,rfl,?_⟩⟩
  have hlt:i < xs.length:=(List.getElem?_eq_some_iff.1 hz).1
  rw [if_neg (by omega),Nat.zero_mul,add_zero,hs,Nat.mul_one]
  refine ⟨_,⟨rfl,hr z (List.mem_of_getElem? hz)⟩,fun j v hj=>?_⟩
  cases j with
  | zero=>cases hj;rw [add_zero];exact hc _ _ (by simp [hz])
  | succ j=>cases hj
 refine JPure.of rfl hdN (fun a w' h=>?_) (k _ _ hV hl)
 simp [execOp,h.eval hx,Instr.sliceAt,Instr.sureAddr,run_underlying hu.h,Instr.sliceBounds,run_sizeOf ht,hs,hl]
def bnd (e:Env) (o:Option Operand) (dflt:Int):Option Int:=
 match o with
 | none=>some dflt
 | some x=>match ev e x with
  | some (.int _ i)=>some i
  | _=>none
theorem bnd_some {N:Nat} {e:Env} {a:Act} {x:Operand} {dflt i:Int} (h:Holds N e a) (hb:bnd e (some x) dflt=some i):∃ k,a.eval x=.int k i:=by
 replace hb:(match ev e x with|some (.int _ i)=>some i|_=>none)=some i:=hb
 cases hx:ev e x with
 | none=>rw [hx] at hb;cases hb
 | some v=>
  rw [hx] at hb
  cases v<;>first|(cases hb;done)|skip
  cases hb
  exact ⟨_,h.eval hx⟩
theorem JPure.sliceS {α:Type} {bt:Nat} {T E:TypeId} {x:Operand} {lo hi:Option Operand} {v:Value} {xs:List α} {rep:Rp α} {l h:Int} (hx:ev e x=some v) (hv:(rSlice bt rep).V S v xs) (hlo:bnd e lo 0=some l) (hhi:bnd e hi xs.length=some h)
  [hu:Und C.P T (.slice E)] [ht:TyR C.P E rep] (hdN:Nat.blt d C.N=true) (h0:0≤l) (h1:l≤h) (h2:h≤xs.length)
  (k:∀ a c ys,ys=(xs.drop l.toNat).take (h - l).toNat→(rSlice bt rep).V S (.slice a ys.length c) ys→ys.length=(h - l).toNat→ys.length≤140737488355328→JO C R rest Q S M ((d,.slice a ys.length c)::e)):JPure C R an ⟨some d,.slice T x lo hi none,ty,pos,aft,g⟩ rest Q S M e:=by
 obtain ⟨a,c,rfl,hc,hb,hb1,hp⟩:=V_slice.1 hv
 have hlen:((xs.drop l.toNat).take (h - l).toNat).length=(h - l).toNat:=by
  rw [List.length_take,List.length_drop];omega
 have hV:(rSlice bt rep).V S (.slice (if c=l.toNat then a else a.map (·.add (l.toNat*rep.sz))) ((xs.drop l.toNat).take (h - l).toNat).length (c - l.toNat)) ((xs.drop l.toNat).take (h - l).toNat):=by
  refine V_slice.2 ⟨_,_,rfl,by omega,Nat.le_trans (Nat.mul_le_mul_right _ (by omega)) hb,by omega,fun i z hz=>?_⟩
  have hi':i < (h - l).toNat:=by
   have:=(List.getElem?_eq_some_iff.1 hz).1
   omega
  rw [List.getElem?_take,if_pos hi',List.getElem?_drop] at hz
  obtain ⟨ad,rfl,hq⟩:=hp _ _ hz
  refine ⟨ad.add (l.toNat*rep.sz),by rw [if_neg (by omega)];rfl,?_⟩
  rw [add_add,← Nat.add_mul];exact hq
 refine JPure.of (v:=.slice (if c=l.toNat then a else a.map (·.add (l.toNat*rep.sz))) ((xs.drop l.toNat).take (h - l).toNat).length (c - l.toNat)) rfl hdN (fun act w' hh=>?_) (k _ _ _ rfl hV hlen (by unfold big at hb1;omega))
 have e2:(h - l).toNat=h.toNat - l.toNat:=by omega
 have bl:∀ (kk:IntKind) (y:Nat) (code:BoundsCode),l≤(y:Int)→(Instr.sliceBound (.int kk l) y code).run C.P w'=.ok l.toNat w':=fun kk y code hle=>run_sliceBound (P:=C.P) w' kk l y code h0 hle
 have bh:∀ (kk:IntKind) (code:BoundsCode),(Instr.sliceBound (.int kk h) c code).run C.P w'=.ok h.toNat w':=fun kk code=>run_sliceBound (P:=C.P) w' kk h c code (by omega) (by omega)
 have hmain:∀ (vlo vhi:Option Value),(vlo=none∧l=0∨∃ kk,vlo=some (.int kk l))→(vhi=none∧h=xs.length∨∃ kk,vhi=some (.int kk h)) →
   (Instr.slice T (.slice a xs.length c) vlo vhi none).run C.P w'=.ok (.slice (if c=l.toNat then a else a.map (·.add (l.toNat*rep.sz))) ((xs.drop l.toNat).take (h - l).toNat).length (c - l.toNat)) w':=by
  intro vlo vhi h3 h4
  rw [hlen,e2]
  rcases h3 with ⟨rfl,rfl⟩|⟨kk,rfl⟩<;>rcases h4 with ⟨rfl,rfl⟩|⟨kk',rfl⟩
  ·simp [Instr.slice,run_underlying hu.h,Instr.sliceBounds,run_sizeOf ht]
  ·simp [Instr.slice,run_underlying hu.h,Instr.sliceBounds,run_sizeOf ht,bh]
  ·simp [Instr.slice,run_underlying hu.h,Instr.sliceBounds,run_sizeOf ht,bl _ xs.length _ h1]
  ·simp [Instr.slice,run_underlying hu.h,Instr.sliceBounds,run_sizeOf ht,bh,bl _ _ _ (show l≤((h.toNat:Nat):Int) by omega)]
 have hs:∀ vlo vhi,(Instr.sliceAt T (.slice a xs.length c) vlo vhi none).run C.P w'=(Instr.slice T (.slice a xs.length c) vlo vhi none).run C.P w':=by
  intro vlo vhi
  simp [Instr.sliceAt,run_underlying hu.h]
 have hl1:lo=none∧l=0∨∃ kk y,lo=some y∧act.eval y=.int kk l:=by
  cases lo with
  | none=>left;exact ⟨rfl,by simpa [bnd] using hlo.symm⟩
  | some y=>right;obtain ⟨kk,hk⟩:=bnd_some hh hlo;exact ⟨kk,y,rfl,hk⟩
 have hh1:hi=none∧h=xs.length∨∃ kk y,hi=some y∧act.eval y=.int kk h:=by
  cases hi with
  | none=>left;exact ⟨rfl,by simpa [bnd] using hhi.symm⟩
  | some y=>right;obtain ⟨kk,hk⟩:=bnd_some hh hhi;exact ⟨kk,y,rfl,hk⟩
 have hfin:=hmain (lo.map act.eval) (hi.map act.eval) (by
  rcases hl1 with ⟨rfl,h⟩|⟨kk,y,rfl,h⟩
  ·exact .inl ⟨rfl,h⟩
  ·exact .inr ⟨kk,by simp [h]⟩) (by
  rcases hh1 with ⟨rfl,h⟩|⟨kk,y,rfl,h⟩
  ·exact .inl ⟨rfl,h⟩
  ·exact .inr ⟨kk,by simp [h]⟩)
 simp only [execOp,hh.eval hx,Option.map_none,Sem.run_bind,hs,hfin,Result.andThen_ok,Sem.run_pure]
/-! ### Known blocks of whole numbers -/
theorem set_cells (xs:List Int) (i:Nat) (n:Int) (hi:i < xs.length):((ints xs).toList.take i++(Value.int .i64 n).cells.toList++(ints xs).toList.drop (i+1)).toArray=ints (xs.set i n):=by
 unfold ints
 congr 1
 rw [List.toList_toArray,List.set_eq_take_append_cons_drop,if_pos hi]
 simp [Value.cells]
theorem JEff.storeI {T t:TypeId} {x y:Operand} {b i:Nat} {xs:List Int} {n:Int} {Mr:List MEnt} (hx:ev e x=some (.pointer (some ⟨b,i,none⟩))) (hy:ev e y=some (.int .i64 n)) (hr:Rng n) [ht:TyR C.P T rI64]
  (hM:(MEnt.blk b (.cells (ints xs) t (0,0))::Mr).Perm M) (hi:i < xs.length) (hT:∀ l,R.T=some l→b∈l)
  (k:JO C R rest Q S (.blk b (.cells (ints (xs.set i n)) t (0,0))::Mr) e):JEff C R ⟨none,.store T x y,ty,pos,aft,g⟩ rest Q S M e:=by
 have hs:(rI64:Rp Int).sz=1:=rfl
 refine JEff.store hx hy (V_i64.2 ⟨rfl,hr⟩) (fun _ _ h=>by cases h) hM (by rw [hs,ints_size];omega) hT ?_
 rw [hs,set_cells xs i n hi];exact k
theorem JPure.loadMI {i:Nat} {T t:TypeId} {x:Operand} {b off:Nat} {xs:List Int} {fr:Nat × Nat} {z:Int} (hx:ev e x=some (.pointer (some ⟨b,off,none⟩))) (hM:MEnt.blk b (.cells (ints xs) t fr)∈M) (hz:xs[off]?=some z) (hr:Rng z)
  [ht:TyR C.P T rI64] (hst:R.isAnch i=true∨∃ l,R.T=some l∧b∉l) (hdN:Nat.blt d C.N=true) (k:JO C R rest Q S M ((d,.int .i64 z)::e)):JPure C R (R.isAnch i) ⟨some d,.load T x,ty,pos,aft,g⟩ rest Q S M e:=by
 refine JPure.loadM (mid:=[.int .i64 z]) (rep:=rI64) (x0:=z) hx hM ?_ ⟨rfl,hr⟩ hst hdN k
 have hlt:=(List.getElem?_eq_some_iff.1 hz).1
 have hv:=(List.getElem?_eq_some_iff.1 hz).2
 show ((ints xs).toList.drop off).take 1=_
 unfold ints
 rw [List.toList_toArray,List.drop_eq_getElem_cons (by simpa using hlt)]
 simp [hv]
theorem JPure.loadMA {i n:Nat} {T t:TypeId} {x:Operand} {b:Nat} {xs:List Int} {fr:Nat × Nat} (hx:ev e x=some (.pointer (some ⟨b,0,none⟩))) (hM:MEnt.blk b (.cells (ints xs) t fr)∈M) (hl:xs.length=n) (hr:∀ z∈xs,Rng z)
  [ht:TyR C.P T (rArr n)] (hst:R.isAnch i=true∨∃ l,R.T=some l∧b∉l) (hdN:Nat.blt d C.N=true) (k:JO C R rest Q S M ((d,.agg (ints xs))::e)):JPure C R (R.isAnch i) ⟨some d,.load T x,ty,pos,aft,g⟩ rest Q S M e:=by
 refine JPure.loadM (mid:=xs.map (fun x=>Value.int .i64 x)) (rep:=rArr n) (x0:=xs) hx hM ?_ ⟨hl,rfl,hr⟩ hst hdN k
 show ((ints xs).toList.drop 0).take n=_
 unfold ints
 rw [List.toList_toArray,List.drop_zero,List.take_of_length_le (by simp [hl])]
theorem JEff.storeA {T t:TypeId} {x y:Operand} {b n:Nat} {xs ys:List Int} {Mr:List MEnt} (hx:ev e x=some (.pointer (some ⟨b,0,none⟩))) (hy:ev e y=some (.agg (ints ys))) (hl:ys.length=n) (hr:∀ z∈ys,Rng z) [ht:TyR C.P T (rArr n)]
  (hM:(MEnt.blk b (.cells (ints xs) t (0,0))::Mr).Perm M) (hlx:xs.length=n) (hT:∀ l,R.T=some l→b∈l)
  (k:JO C R rest Q S (.blk b (.cells (ints ys) t (0,0))::Mr) e):JEff C R ⟨none,.store T x y,ty,pos,aft,g⟩ rest Q S M e:=by
 refine JEff.storeW (rep:=rArr n) (x0:=ys) hx hy ⟨_,⟨hl,rfl,hr⟩,?_⟩ (fun h=>by cases h) hM (by rw [ints_size,hlx];rfl) hT k
 show (if true=true then _ else _)
 rw [if_pos rfl];rfl
theorem V_arr {S:SHeap} {n:Nat} {v:Value} {xs:List Int}:(rArr n).V S v xs↔v=.agg (ints xs)∧xs.length=n∧∀ x∈xs,Rng x:=by
 constructor
 ·rintro ⟨cs,⟨h1,rfl,h3⟩,h⟩
  have h:v=.agg (ints xs):=by simpa [rArr,ints] using h
  exact ⟨h,h1,h3⟩
 ·rintro ⟨rfl,h1,h2⟩
  exact ⟨_,⟨h1,rfl,h2⟩,by simp [rArr,ints]⟩
theorem JPure.indexB {T E:TypeId} {n b off:Nat} {x y:Operand} {k':IntKind} {i:Int} {α:Type} (rep:Rp α) (hx:ev e x=some (.pointer (some ⟨b,off,none⟩))) (hy:ev e y=some (.int k' i))
  [hu:Und C.P T (.array n E)] [ht:TyR C.P E rep] (hdN:Nat.blt d C.N=true) (h0:0≤i) (hlt:i < n)
  (k:JO C R rest Q S M ((d,.pointer (some ⟨b,off+i.toNat*rep.sz,none⟩))::e)):JPure C R an ⟨some d,.indexAddr T x y,ty,pos,aft,g⟩ rest Q S M e:=by
 refine JPure.of rfl hdN (fun a w' h=>?_) k
 rw [← addr_add]
 simp [execOp,h.eval hx,h.eval hy,Instr.indexAt,asIntOf,run_underlying hu.h,run_sizeOf ht,h0,hlt,Instr.sureAddr]
theorem JPure.indexR {T E:TypeId} {n c b:Nat} {x y:Operand} {k':IntKind} {i:Int} {α:Type} (rep:Rp α) (hx:ev e x=some (.slice (some ⟨b,0,none⟩) n c)) (hy:ev e y=some (.int k' i))
  [hu:Und C.P T (.slice E)] [ht:TyR C.P E rep] (hdN:Nat.blt d C.N=true) (h0:0≤i) (hlt:i < n)
  (k:JO C R rest Q S M ((d,.pointer (some ⟨b,i.toNat*rep.sz,none⟩))::e)):JPure C R an ⟨some d,.indexAddr T x y,ty,pos,aft,g⟩ rest Q S M e:=by
 refine JPure.of rfl hdN (fun a w' h=>?_) k
 rw [← add_plain]
 simp [execOp,h.eval hx,h.eval hy,Instr.indexAt,asIntOf,run_underlying hu.h,run_sizeOf ht,h0,hlt]
theorem ResV.cellM {α:Type} {p b:Nat} {T t:TypeId} {c:Array Value} {fr:Nat × Nat} {rep:Rp α} {mid:List Value} (h:Env.get? e p=some (.pointer (some ⟨b,0,none⟩))) (hM:MEnt.blk b (.cells c t fr)∈M) (hc:c.toList.take rep.sz=mid) (hl:mid.length=rep.sz) [ht:TyR C.P T rep] :
  ResV C S M e (.cell p T) (rep.val mid):=fun a w hw=>by
 have h1:=hw.env.at_ p _ h
 have hwb:w.heap[b]?=some (.cells c t fr):=hw.wd.ok _ hM
 have hrun:=load_cells ht (p:=⟨b,0,none⟩) (cs:=mid) hl (w:=w) (fun j v hv=>by
  rw [add_plain]
  simp only [World.cell?,hwb]
  rw [← hc,List.getElem?_take] at hv
  split at hv
  ·simpa using hv
  ·cases hv)
 simp [resOf,h1,asAddr,hrun]
theorem ResV.cellA {p b n:Nat} {T t:TypeId} {xs:List Int} {fr:Nat × Nat} (h:Env.get? e p=some (.pointer (some ⟨b,0,none⟩))) (hM:MEnt.blk b (.cells (ints xs) t fr)∈M) (hl:xs.length=n) [ht:TyR C.P T (rArr n)] :
  ResV C S M e (.cell p T) (.agg (ints xs)):=by
 have:=ResV.cellM (C:=C) (S:=S) (rep:=rArr n) (T:=T) (mid:=xs.map (fun x=>Value.int .i64 x)) h hM (by
  show (ints xs).toList.take n=_
  unfold ints
  rw [List.toList_toArray,List.take_of_length_le (by simp [hl])]) (by rw [List.length_map,hl];rfl)
 exact this
/-! ### Made slices -/
theorem Wd.toRow {w0 w:World} {B0:List Nat} {S0 S:SHeap} {M:List MEnt} {b n c sz:Nat} {cs:Array Value} {E:TypeId} (h:Wd w0 B0 S0 S (.blk b (.cells cs E (0,0))::M) w) (hb:w0.heap.size≤b) (hn:n≤c) (hc:c≤maxLen) (hs:cs.size=c*sz) :
  Wd w0 B0 S0 S (.row w0.heap.size E sz (.slice (some ⟨b,0,none⟩) n c) n (cs.toList.take (n*sz))::M) w:=
 { h with
  ok:=fun m hm=>by
   rcases List.mem_cons.1 hm with rfl|hm
   ·have h1:w.heap[b]?=some (.cells cs E (0,0)):=h.ok (.blk b (.cells cs E (0,0))) (by simp)
    refine ⟨?_,.inr ⟨b,c,cs,rfl,hb,h1,hn,hc,hs,rfl⟩⟩
    rw [List.length_take,Array.length_toList,hs,Nat.min_eq_left (Nat.mul_le_mul_right _ hn)]
   ·exact h.ok m (List.mem_cons_of_mem _ hm)
  sep:=List.pairwise_cons.2 ⟨fun m hm k hk=>(List.pairwise_cons.1 h.sep).1 m hm k hk,(List.pairwise_cons.1 h.sep).2⟩
  out:=fun m hm k hk=>by
   rcases List.mem_cons.1 hm with rfl|hm
   ·exact h.out (.blk b (.cells cs E (0,0))) (by simp) k hk
   ·exact h.out m (List.mem_cons_of_mem _ hm) k hk }
theorem JEff.makeRow {α:Type} {T E:TypeId} {x y:Operand} {kl kc:IntKind} {c bt:Nat} {rep:Rp α} {z:Value} (hx:ev e x=some (.int kl 0)) (hy:ev e y=some (.int kc c)) [hu:Und C.P T (.slice E)] [ht:TyR C.P E rep] [hz:Zero C.P E z]
  [hby:Byt C.P E bt] (hb:c*bt≤big) (hb1:c≤big) (hdN:Nat.blt d C.N=true)
  (k:∀ a,JO C R rest Q S (.row C.w0.heap.size E rep.sz (.slice a 0 c) 0 []::M) ((d,.slice a 0 c)::e)):JEff C R ⟨some d,.makeSlice T x y,ty,pos,aft,g⟩ rest Q S M e:=
 JEff.ofRun rfl rfl hdN fun a w hw=>by
  obtain ⟨i,hi,hsi⟩:=ht.i
  obtain ⟨i',hi',hz'⟩:=Option.map_eq_some_iff.1 hz.h
  have e1:i=i':=by rw [hi] at hi';exact Option.some.inj hi'
  subst e1
  have hbt:i.bytes=bt:=by have hby:=hby.h;rw [hi] at hby;simpa using hby
  have hr:=run_make (P:=C.P) w T E i z hu.h hi hz' kl kc 0 c (Int.le_refl _) (by omega) (by rw [hbt];have h2:((c*bt:Nat):Int)≤281474976710656:=(by unfold big at hb;omega);rwa [Nat.mul_comm,Int.natCast_mul] at h2) (by unfold big at hb1;omega)
  simp only [Int.toNat_zero,Int.toNat_natCast] at hr
  have hsz:(madeCells z.cells (c*i.size)).size=c*rep.sz:=by rw [size_madeCells,hsi]
  have hw2:=(hw.wd.alloc (.cells (madeCells z.cells (c*i.size)) E)).toRow (n:=0) (c:=c) hw.wd.size (Nat.zero_le _) (by unfold big at hb1;simp only [maxLen];omega) hsz
  rw [Nat.zero_mul,List.take_zero] at hw2
  exact ⟨_,_,by simp only [execOp,hw.env.eval hx,hw.env.eval hy,Sem.run_bind,hr,Result.andThen_ok,Sem.run_pure],subX_alloc _ _ _,by simp,S,_,hw2,SHeap.le.refl _,k _⟩
theorem JEff.makeInts {T E:TypeId} {x y:Operand} {kl kc:IntKind} {n:Nat} (hx:ev e x=some (.int kl n)) (hy:ev e y=some (.int kc n)) [hu:Und C.P T (.slice E)] [ht:TyR C.P E rI64] [hz:Zero C.P E (.int .i64 0)]
  [hby:Byt C.P E 8] (hb:n*8≤big) (hdN:Nat.blt d C.N=true)
  (k:∀ b,C.w0.heap.size≤b→JO C R rest Q S (.blk b (.cells (ints (List.replicate n 0)) E)::M) ((d,.slice (some ⟨b,0,none⟩) n n)::e)):JEff C R ⟨some d,.makeSlice T x y,ty,pos,aft,g⟩ rest Q S M e:=
 JEff.ofRun rfl rfl hdN fun a w hw=>by
  obtain ⟨i,hi,hsi⟩:=ht.i
  obtain ⟨i',hi',hz'⟩:=Option.map_eq_some_iff.1 hz.h
  have e1:i=i':=by rw [hi] at hi';exact Option.some.inj hi'
  subst e1
  have hbt:i.bytes=8:=by have hby:=hby.h;rw [hi] at hby;simpa using hby
  have hs1:i.size=1:=hsi
  have hr:=run_make (P:=C.P) w T E i _ hu.h hi hz' kl kc n n (by omega) (Int.le_refl _) (by rw [hbt];unfold big at hb;omega) (by unfold big at hb;omega)
  simp only [Int.toNat_natCast] at hr
  have hcells:madeCells (Value.int .i64 0).cells (n*i.size)=ints (List.replicate n 0):=by
   rw [hs1,Nat.mul_one]
   unfold madeCells ints
   apply Array.ext'
   simp only [Value.cells,Array.toList_map,Array.toList_range,List.map_replicate,List.toList_toArray]
   rw [List.eq_replicate_iff]
   refine ⟨by simp,fun v hv=>?_⟩
   obtain ⟨j,_,rfl⟩:=List.mem_map.1 hv
   simp [Nat.mod_one]
  rw [hcells] at hr
  exact ⟨_,_,by simp only [execOp,hw.env.eval hx,hw.env.eval hy,Sem.run_bind,hr,Result.andThen_ok,Sem.run_pure],subX_alloc _ _ _,by simp,S,_,hw.wd.alloc _,SHeap.le.refl _,k _ hw.wd.size⟩
theorem JX.freezeInts {x1:Exit} {b n c:Nat} {t:TypeId} {xs:List Int} (hn:n=xs.length) (hc:n≤c) (hb8:n*8≤big) (hr:∀ x∈xs,Rng x) (hb:C.w0.heap.size≤b)
  (k:∀ S',S.le S'→(rSlice 8 rI64).V S' (.slice (some ⟨b,0,none⟩) n c) xs→JX C x1 Q S' M e):JX C x1 Q S (.blk b (.cells (ints xs) t)::M) e:=
 JX.freeze hb fun S' hl hs=>k S' hl (slice_of_block hl hs (allV_ints hr) hn hc hb8 (by unfold big at *;omega) (by
  show (ints xs).toList.take (n*1)=_
  unfold ints
  rw [List.toList_toArray,flat_ints,List.take_of_length_le (by simp [hn])]))
theorem JC.freezeInts {x1:Code} {b n c:Nat} {t:TypeId} {xs:List Int} (hn:n=xs.length) (hc:n≤c) (hb8:n*8≤big) (hr:∀ x∈xs,Rng x) (hb:C.w0.heap.size≤b)
  (k:∀ S',S.le S'→(rSlice 8 rI64).V S' (.slice (some ⟨b,0,none⟩) n c) xs→JC C x1 Q S' M e):JC C x1 Q S (.blk b (.cells (ints xs) t)::M) e:=
 JC.freeze hb fun S' hl hs=>k S' hl (slice_of_block hl hs (allV_ints hr) hn hc hb8 (by unfold big at *;omega) (by
  show (ints xs).toList.take (n*1)=_
  unfold ints
  rw [List.toList_toArray,flat_ints,List.take_of_length_le (by simp [hn])]))
end
end Go.Dr
namespace Go.Dr
open Go.RowKit
def setAll:List Value→List (Nat × Value)→List Value
 | zs,[]=>zs
 | zs,(i,v)::ps=>setAll (zs.set i v) ps
def szOK:List Value→List (Nat × Value)→Prop
 | _,[]=>True
 | zs,(i,v)::ps=>(∃ z,zs[i]?=some z∧v.cells.size=z.cells.size)∧szOK zs ps
theorem flat_set:∀ (zs:List Value) (i:Nat) (z v:Value),zs[i]?=some z→v.cells.size=z.cells.size →
  (flatCells zs).take (flatCells (zs.take i)).length++v.cells.toList++(flatCells zs).drop ((flatCells (zs.take i)).length+v.cells.size)=flatCells (zs.set i v) ∧
   (flatCells (zs.take i)).length+v.cells.size≤(flatCells zs).length
 | [],i,z,v,h,_=>by simp at h
 | y::zs,0,z,v,h,hs=>by
  have h:y=z:=by simpa using h
  subst h
  simp only [List.take_zero,flatCells,List.length_nil,List.nil_append,Nat.zero_add,List.set_cons_zero]
  constructor
  ·rw [hs,show y.cells.size=y.cells.toList.length by simp,List.drop_left]
  ·simp [hs]
 | y::zs,i+1,z,v,h,hs=>by
  obtain ⟨h1,h2⟩:=flat_set zs i z v (by simpa using h) hs
  simp only [List.take_succ_cons,flatCells,List.length_append,List.set_cons_succ]
  constructor
  ·rw [← h1,List.take_append,List.take_of_length_le (by omega),show y.cells.toList.length+(flatCells (zs.take i)).length - y.cells.toList.length=(flatCells (zs.take i)).length by omega]
   rw [List.drop_append,List.drop_eq_nil_of_le (by omega),List.nil_append,show y.cells.toList.length+(flatCells (zs.take i)).length+v.cells.size - y.cells.toList.length=(flatCells (zs.take i)).length+v.cells.size by omega]
   simp
  ·omega
theorem sz_set:∀ {zs:List Value} {i:Nat} {z v:Value},zs[i]?=some z→v.cells.size=z.cells.size→(zs.set i v).map (fun x=>x.cells.size)=zs.map (fun x=>x.cells.size)
 | [],_,_,_,h,_=>by simp at h
 | y::zs,0,z,v,h,hs=>by
  have h:y=z:=by simpa using h
  subst h
  simp [hs]
 | y::zs,i+1,z,v,h,hs=>by simpa using sz_set (zs:=zs) (by simpa using h) hs
theorem flat_len_sz (zs:List Value):(flatCells zs).length=(zs.map (fun x=>x.cells.size)).sum:=by
 induction zs with
 | nil=>rfl
 | cons z zs ih=>simp [flatCells,ih]
theorem szOK_sz:∀ {ps:List (Nat × Value)} {zs ys:List Value},zs.map (fun x=>x.cells.size)=ys.map (fun x=>x.cells.size)→szOK zs ps→szOK ys ps
 | [],_,_,_,_=>trivial
 | (i,v)::ps,zs,ys,h,⟨⟨z,hz,hs⟩,k⟩=>by
  refine ⟨?_,szOK_sz h k⟩
  have h1:(zs.map (fun x=>x.cells.size))[i]?=some z.cells.size:=by simp [hz]
  rw [h,List.getElem?_map] at h1
  cases hy:ys[i]? with
  | none=>rw [hy] at h1;cases h1
  | some y=>rw [hy] at h1;exact ⟨y,rfl,by rw [hs];simpa using h1.symm⟩
theorem fill_all (place:Nat→Option (Nat × Nat)) (szs:List Nat) (hp:∀ i s,szs[i]?=some s→place i=some ((szs.take i).sum,s)):∀ (ps:List (Nat × Value)) (zs:List Value),zs.map (fun x=>x.cells.size)=szs→szOK zs ps →
  Instr.fill place (flatCells zs).toArray ps=some (flatCells (setAll zs ps)).toArray
 | [],zs,_,_=>rfl
 | (i,v)::ps,zs,hz,⟨⟨z,hzi,hs⟩,k⟩=>by
  have hpi:place i=some ((flatCells (zs.take i)).length,v.cells.size):=by
   rw [hp i z.cells.size (by rw [← hz];simp [hzi]),flat_len_sz,List.map_take,hz,hs]
  obtain ⟨h1,h2⟩:=flat_set zs i z v hzi hs
  have hf:=foldl_set v.cells.toList 0 (flatCells (zs.take i)).length (flatCells zs).toArray (by simpa using h2)
  have hzi2:v.cells.zipIdx.foldl (fun cs (x:Value × Nat)=>match x with|(c,j)=>cs.setIfInBounds ((flatCells (zs.take i)).length+j) c) (flatCells zs).toArray=(flatCells (zs.set i v)).toArray:=by
   apply Array.ext'
   rw [← h1,← Array.foldl_toList,Array.toList_zipIdx]
   simpa using hf
  simp only [Instr.fill,hpi]
  rw [if_neg (by simp;exact h2),hzi2]
  exact fill_all place szs hp ps (zs.set i v) (by rw [sz_set hzi hs,hz]) (szOK_sz (sz_set hzi hs).symm k)
def fldsB (P:Program):Nat→List Field→List Value→Bool
 | _,[],[]=>true
 | off,f::fs,z::zs=>Nat.beq f.offset off&&(match P.info? f.type with|some i=>Nat.beq i.size z.cells.size|none=>false)&&fldsB P (off+z.cells.size) fs zs
 | _,_,_=>false
def structB (P:Program) (T:TypeId) (zs:List Value):Bool:=
 match P.underlying T with
 | some (.struct fs)=>fldsB P 0 fs.toList zs
 | _=>false
class ZF (P:Program) (T:TypeId) (zs:outParam (List Value)):Prop where
 b:structB P T zs=true
 z:(P.info? T).map (·.zero)=some (some (.agg (flatCells zs).toArray))
theorem flds_places {P:Program} (w:World):∀ {fs:List Field} {off:Nat} {zs:List Value},fldsB P off fs zs=true →
  ∃ l,(fs.mapM fun f=>(do pure (f.offset,← sizeOf f.type):Sem (Nat × Nat))).run P w=.ok l w∧∀ i s,(zs.map (fun x=>x.cells.size))[i]?=some s→l[i]?=some (off+((zs.map (fun x=>x.cells.size)).take i).sum,s)
 | [],_,[],_=>⟨[],by simp,fun i s h=>by simp at h⟩
 | [],_,_::_,h=>by cases h
 | _::_,_,[],h=>by cases h
 | f::fs,off,z::zs,h=>by
  simp only [fldsB,Bool.and_eq_true] at h
  obtain ⟨⟨h1,h2⟩,h3⟩:=h
  have h1:=Nat.eq_of_beq_eq_true h1
  split at h2
  ·rename_i i hi
   have h2:=Nat.eq_of_beq_eq_true h2
   obtain ⟨l,hl,hp⟩:=flds_places w h3
   refine ⟨(f.offset,z.cells.size)::l,?_,fun j s hs=>?_⟩
   ·simp only [List.mapM_cons,Sem.run_bind,sizeOf,typeInfo,run_program,hi,Sem.run_pure,Result.andThen_ok,h2]
    simp only [sizeOf,typeInfo] at hl
    rw [hl]
    simp
   ·cases j with
    | zero=>simp at hs;simp [h1,hs]
    | succ j=>
     have:=hp j s (by simpa using hs)
     simp only [List.getElem?_cons_succ,this,List.map_cons,List.take_succ_cons,List.sum_cons]
     congr 2;omega
  ·cases h2
theorem run_buildF {P:Program} {T:TypeId} {zs:List Value} (h:ZF P T zs) (ps:Array (Nat × Value)) (hs:szOK zs ps.toList) (w:World):(Instr.build T ps).run P w=.ok (.agg (flatCells (setAll zs ps.toList)).toArray) w:=by
 have hb:=h.b
 unfold structB at hb
 split at hb
 ·rename_i fs hu
  obtain ⟨i,hi,hz⟩:=Option.map_eq_some_iff.1 h.z
  obtain ⟨l,hl,hp⟩:=flds_places w hb
  have hl2:(fs.mapM fun f=>(do pure (f.offset,← sizeOf f.type):Sem (Nat × Nat))).run P w=.ok l.toArray w:=by
   rw [Array.mapM_eq_mapM_toList,map_eq_pure_bind]
   simp only [Sem.run_bind,hl,Result.andThen_ok,Sem.run_pure]
  have hfill:=fill_all (fun i=>l.toArray[i]?) (zs.map (fun x=>x.cells.size)) (fun i s h=>by simpa using hp i s h) ps.toList zs rfl hs
  unfold Instr.build
  simp only [Sem.run_bind,zeroValue,typeInfo,run_program,hi,hz,Result.andThen_ok,Sem.run_pure,run_underlying hu,hl2,Value.cells,hfill]
 ·cases hb
theorem sum_rep (n s:Nat):(List.replicate n s).sum=n*s:=by
 induction n with
 | zero=>simp
 | succ n ih=>rw [List.replicate_succ,List.sum_cons,ih,Nat.add_mul];omega
class ZA (P:Program) (T:TypeId) (n:outParam Nat) (E:outParam TypeId) (s:outParam Nat) (z:outParam Value):Prop where
 u:P.underlying T=some (.array n E)
 i:(P.info? E).map (·.size)=some s
 s:z.cells.size=s
 z:(P.info? T).map (·.zero)=some (some (.agg (flatCells (List.replicate n z)).toArray))
theorem run_buildA {P:Program} {T:TypeId} {n:Nat} {E:TypeId} {s:Nat} {z:Value} (h:ZA P T n E s z) (ps:Array (Nat × Value)) (hs:szOK (List.replicate n z) ps.toList) (w:World):(Instr.build T ps).run P w=.ok (.agg (flatCells (setAll (List.replicate n z) ps.toList)).toArray) w:=by
 obtain ⟨i,hi,hz⟩:=Option.map_eq_some_iff.1 h.z
 obtain ⟨ie,hie,hse⟩:=Option.map_eq_some_iff.1 h.i
 have hfill:=fill_all (fun i=>some (i*s,s)) ((List.replicate n z).map (fun x=>x.cells.size)) (fun i t ht=>by
  rw [List.map_replicate,List.getElem?_replicate] at ht
  split at ht
  ·cases ht
   rw [List.map_replicate,List.take_replicate,sum_rep,h.s,Nat.min_eq_left (by omega)]
  ·cases ht) ps.toList _ rfl hs
 unfold Instr.build
 simp only [Sem.run_bind,zeroValue,typeInfo,run_program,hi,hz,Result.andThen_ok,Sem.run_pure,run_underlying h.u,sizeOf,hie,hse,Value.cells,hfill]
section
variable {C:Cx} {R:Rg} {Q:Post} {S S' S1:SHeap} {M M':List MEnt} {e e':Env} {rest:List Nat}
variable {d:Nat} {ty:TypeId} {pos:String} {aft:Array Edge} {g:Option (Nat × Bool)} {an:Bool}
def partsV (e:Env):List (Nat × Operand)→Option (List (Nat × Value))
 | []=>some []
 | (i,x)::ps=>match ev e x,partsV e ps with
  | some v,some vs=>some ((i,v)::vs)
  | _,_=>none
theorem partsV_eval {N:Nat} {e:Env} {a:Act} (h:Holds N e a):∀ {ps:List (Nat × Operand)} {vs:List (Nat × Value)},partsV e ps=some vs→ps.map (fun p=>(p.1,a.eval p.2))=vs
 | [],vs,hv=>by simpa [partsV] using hv
 | (i,x)::ps,vs,hv=>by
  simp only [partsV] at hv
  cases h1:ev e x with
  | none=>rw [h1] at hv;cases hv
  | some v=>
   cases h2:partsV e ps with
   | none=>rw [h1,h2] at hv;cases hv
   | some us=>
    rw [h1,h2] at hv
    cases hv
    simp [h.eval h1,partsV_eval h h2]
theorem JPure.build {T:TypeId} {parts:Array (Nat × Operand)} {ps:List (Nat × Value)} {zs vs:List Value} (h1:partsV e parts.toList=some ps) [hz:ZF C.P T zs] (h2:szOK zs ps) (h3:setAll zs ps=vs) (hdN:Nat.blt d C.N=true)
  (k:JO C R rest Q S M ((d,.agg (flatCells vs).toArray)::e)):JPure C R an ⟨some d,.build T parts,ty,pos,aft,g⟩ rest Q S M e:=
 JPure.of rfl hdN (fun a w' h=>by
  have e1:(parts.map fun (i,x)=>(i,a.eval x)).toList=ps:=by rw [Array.toList_map];exact partsV_eval h h1
  have hr:=run_buildF hz (parts.map fun (i,x)=>(i,a.eval x)) (by rw [e1];exact h2) w'
  rw [e1,h3] at hr
  simp only [execOp,Sem.run_bind,hr,Result.andThen_ok,Sem.run_pure]) k
theorem JPure.buildA {T E:TypeId} {n s:Nat} {z:Value} {parts:Array (Nat × Operand)} {ps:List (Nat × Value)} {vs:List Value} (h1:partsV e parts.toList=some ps) [hz:ZA C.P T n E s z] (h2:szOK (List.replicate n z) ps) (h3:setAll (List.replicate n z) ps=vs) (hdN:Nat.blt d C.N=true)
  (k:JO C R rest Q S M ((d,.agg (flatCells vs).toArray)::e)):JPure C R an ⟨some d,.build T parts,ty,pos,aft,g⟩ rest Q S M e:=
 JPure.of rfl hdN (fun a w' h=>by
  have e1:(parts.map fun (i,x)=>(i,a.eval x)).toList=ps:=by rw [Array.toList_map];exact partsV_eval h h1
  have hr:=run_buildA hz (parts.map fun (i,x)=>(i,a.eval x)) (by rw [e1];exact h2) w'
  rw [e1,h3] at hr
  simp only [execOp,Sem.run_bind,hr,Result.andThen_ok,Sem.run_pure]) k
theorem JPure.indexBI {T E:TypeId} {n b:Nat} {x y:Operand} {k':IntKind} {i:Int} (hx:ev e x=some (.pointer (some ⟨b,0,none⟩))) (hy:ev e y=some (.int k' i))
  [hu:Und C.P T (.array n E)] [ht:TyR C.P E rI64] (hdN:Nat.blt d C.N=true) (h0:0≤i) (hlt:i < n)
  (k:JO C R rest Q S M ((d,.pointer (some ⟨b,i.toNat,none⟩))::e)):JPure C R an ⟨some d,.indexAddr T x y,ty,pos,aft,g⟩ rest Q S M e:=by
 refine JPure.indexB rI64 hx hy hdN h0 hlt ?_
 rw [show 0+i.toNat*(rI64:Rp Int).sz=i.toNat by show 0+i.toNat*1=_;omega];exact k
theorem JPure.indexRI {T E:TypeId} {n c b:Nat} {x y:Operand} {k':IntKind} {i:Int} (hx:ev e x=some (.slice (some ⟨b,0,none⟩) n c)) (hy:ev e y=some (.int k' i))
  [hu:Und C.P T (.slice E)] [ht:TyR C.P E rI64] (hdN:Nat.blt d C.N=true) (h0:0≤i) (hlt:i < n)
  (k:JO C R rest Q S M ((d,.pointer (some ⟨b,i.toNat,none⟩))::e)):JPure C R an ⟨some d,.indexAddr T x y,ty,pos,aft,g⟩ rest Q S M e:=by
 refine JPure.indexR rI64 hx hy hdN h0 hlt ?_
 rw [show i.toNat*(rI64:Rp Int).sz=i.toNat by show i.toNat*1=_;omega];exact k
theorem JO.freezeRow {α:Type} {L:List Nat} {E:TypeId} {bt n:Nat} {v:Value} {vs:List Value} {rep:Rp α} {xs:List α} (hv:allV rep S vs xs) (hn:n=xs.length) (hb:n*bt≤big) (hb1:n≤big) (hT:∀ l,R.T=some l→∀ b,v.ownBlock=some b→b∉l)
  (k:∀ S',S.le S'→(rSlice bt rep).V S' v xs→JO C R L Q S' M e):JO C R L Q S (.row C.w0.heap.size E rep.sz v n (flatCells vs)::M) e:=⟨fun a w hw ht=>by
 obtain ⟨S',hl,hV,hwd,hnew⟩:=hw.wd.freezeRow hv hn hb hb1
 exact ((k S' hl hV).run a w ⟨hw.env,hw.defers,hwd⟩ trivial).shrink hl⟩
end
theorem allV_add {α:Type} {rep:Rp α} {S S':SHeap} {vs:List Value} {ys:List α} {v:Value} {x:α} (hl:S.le S') (h:allV rep S vs ys) (hv:rep.V S' v x) (hn:rep.agg=false→∀ cs,v≠.agg cs):allV rep S' (vs++[v]) (ys++[x]):=
 allV.append (us:=[v]) (ys:=[x]) ⟨⟨hv,hn⟩,trivial⟩ (h.mono hl)
/-! ### What was built,as data -/
end Go.Dr
namespace Go.Dr
def CutPost (C:Cx) {σ:Type} (S1:σ→SHeap) (M1:σ→List MEnt) (e1:σ→Env) (V:σ→Prop) (Q:Post):Post:=fun x a w=>
 match x with
 | .normal=>∃ s,V s∧C.W (S1 s) (M1 s) (e1 s) a w
 | x=>Q x a w
theorem JC.drawT {C:Cx} {Q:Post} {S:SHeap} {M:List MEnt} {e:Env} {id:Nat} {ops:Array Oper} (L anch:List Nat) (T:List Nat) (hm:C.P.follows .mixedOrders=true)
  (hchk:regionOK ops (Rg.isEff ⟨ops,anch,some [],.nil,[]⟩) (Rg.isAnch ⟨ops,anch,some [],.nil,[]⟩) L=true) (hT:∀ b∈T,∃ m∈M,m.own=some b)
  (h:JO C ⟨ops,anch,some T,.nil,[]⟩ L Q S M e):JC C (.region id ops true) Q S M e:=JC.draw L anch T hm hchk hT h
section
variable {C:Cx} {Q:Post} {S:SHeap} {M:List MEnt} {e:Env}
theorem JC.part {c:Code} {σ:Type} (S1:σ→SHeap) (M1:σ→List MEnt) (e1:σ→Env) (V:σ→Prop) (h:JC C c (CutPost C S1 M1 e1 V Q) S M e) (hn:∀ s,V s→JX C .normal Q (S1 s) (M1 s) (e1 s)):JC C c Q S M e:=⟨fun a w k=>by
 refine wpIn_mono (h.run a w k) ?_
 intro x a' w' hx
 cases x with
 | normal=>obtain ⟨s,hv,hs⟩:=hx;exact (hn s hv).run a' w' hs
 | _=>exact hx⟩
theorem JX.partN {σ:Type} {S1:σ→SHeap} {M1:σ→List MEnt} {e1:σ→Env} {V:σ→Prop} (s:σ) (hv:V s) (hS:S1 s=S) (hM:M1 s=M) (he:subE (e1 s) e):JX C .normal (CutPost C S1 M1 e1 V Q) S M e:=⟨fun a w k=>by
 subst hS;subst hM
 exact ⟨s,hv,k.env.sub he.get,k.defers,k.wd⟩⟩
theorem JX.partR {σ:Type} {S1:σ→SHeap} {M1:σ→List MEnt} {e1:σ→Env} {V:σ→Prop} (h:JX C .ret Q S M e):JX C .ret (CutPost C S1 M1 e1 V Q) S M e:=⟨h.run⟩
theorem JX.partE {σ:Type} {S1:σ→SHeap} {M1:σ→List MEnt} {e1:σ→Env} {V:σ→Prop} {id:Nat} (h:JX C (.exit id) Q S M e):JX C (.exit id) (CutPost C S1 M1 e1 V Q) S M e:=⟨h.run⟩
end
end Go.Dr
namespace Go.Dr
theorem subE_app:∀ {a b e:Env},subE a e→subE b e→subE (a++b) e
 | [],_,_,_,h=>h
 | _::_,_,_,h1,h2=>⟨h1.1,subE_app h1.2 h2⟩
def LoopPostF (C:Cx) {σ:Type} (S0:SHeap) (M1:σ→List MEnt) (chg:σ→Env) (fixed:Env) (V:SHeap→σ→Prop) (μ:σ→Nat) (S1:SHeap) (s:σ):Act→World→Prop:=
 LoopPost C (fun q:SHeap × σ=>q.1) (fun q=>M1 q.2) (fun q=>chg q.2++fixed) (fun q=>S0.le q.1∧V q.1 q.2) (fun q=>μ q.2) (S1,s)
def CutPostF (C:Cx) {σ:Type} (S0:SHeap) (M1:σ→List MEnt) (chg:σ→Env) (fixed:Env) (V:SHeap→σ→Prop) (Q:Post):Post:=
 CutPost C (fun q:SHeap × σ=>q.1) (fun q=>M1 q.2) (fun q=>chg q.2++fixed) (fun q=>S0.le q.1∧V q.1 q.2) Q
section
variable {C:Cx} {R:Rg} {Q:Post} {S S1:SHeap} {M:List MEnt} {e:Env} {rest:List Nat}
theorem JC.loopF {c:Code} {σ:Type} (fixed:Env) (chg:σ→Env) (M1:σ→List MEnt) (V:SHeap→σ→Prop) (μ:σ→Nat) (s0:σ)
  (hf:subE fixed e) (hc:subE (chg s0) e) (hM:M1 s0=M) (h0:V S s0)
  (h:∀ S1 s,S.le S1→V S1 s→JC C c (Exit.then (LoopPostF C S M1 chg fixed V μ S1 s) Q) S1 (M1 s) (chg s++fixed)):JC C (.loop c) Q S M e:=
 JC.loop (σ:=SHeap × σ) (fun q=>q.1) (fun q=>M1 q.2) (fun q=>chg q.2++fixed) (fun q=>S.le q.1∧V q.1 q.2) (fun q=>μ q.2) (S,s0) ⟨SHeap.le.refl _,h0⟩ hM rfl (subE_app hc hf) (fun q hq=>h q.1 q.2 hq.1 hq.2)
theorem JX.roundF {K:Post} {σ:Type} {S0:SHeap} {M1:σ→List MEnt} {chg:σ→Env} {fixed:Env} {V:SHeap→σ→Prop} {μ:σ→Nat} {s:σ} (s':σ) (hl:S0.le S) (hv:V S s') (hlt:μ s' < μ s) (hM:M1 s'=M) (hc:subE (chg s') e) (hf:subE fixed e) :
  JX C .normal (Exit.then (LoopPostF C S0 M1 chg fixed V μ S1 s) K) S M e:=
 JX.round (S,s') ⟨hl,hv⟩ hlt rfl hM (subE_app hc hf)
variable {d:Nat} {ty:TypeId} {pos:String} {aft:Array Edge} {g:Option (Nat × Bool)}
theorem JEff.callL {α:Type} {f:FuncId} [Ent C.P f] {args:Array Operand} {ts:Array TypeId} {vs:List Value} {bt:Nat} {rep:Rp α} {xs:List α} (hargs:evs e args.toList=some vs) (hf:FnR C.P f vs.toArray S (fun w S'=>(rSlice bt rep).V S' w xs)) (hdN:Nat.blt d C.N=true)
  (k:∀ a c S',S.le S'→(rSlice bt rep).V S' (.slice a xs.length c) xs→xs.length≤140737488355328→JO C R rest Q S' M ((d,.slice a xs.length c)::e)):JEff C R ⟨some d,.call { callee:=.value (.func f),args,argTypes:=ts },ty,pos,aft,g⟩ rest Q S M e:=
 JEff.callR hargs hf hdN fun v S' hl hp=>by
  obtain ⟨a,c,rfl,_,_,hb,_⟩:=V_slice.1 hp
  exact k a c S' hl hp hb
theorem JEff.callLE {α:Type} {f:FuncId} [Ent C.P f] {args:Array Operand} {ts:Array TypeId} {vs:List Value} {bt:Nat} {rep:Rp α} {xs:List α} {z:Value} (hargs:evs e args.toList=some vs) (hf:FnR C.P f vs.toArray S (fun w S'=>∃ u,w=.tuple #[u,z]∧(rSlice bt rep).V S' u xs)) (hdN:Nat.blt d C.N=true)
  (k:∀ a c S',S.le S'→(rSlice bt rep).V S' (.slice a xs.length c) xs→xs.length≤140737488355328→JO C R rest Q S' M ((d,.tuple #[.slice a xs.length c,z])::e)):JEff C R ⟨some d,.call { callee:=.value (.func f),args,argTypes:=ts },ty,pos,aft,g⟩ rest Q S M e:=
 JEff.callR hargs hf hdN fun v S' hl hp=>by
  obtain ⟨u,rfl,hp⟩:=hp
  obtain ⟨a,c,rfl,_,_,hb,_⟩:=V_slice.1 hp
  exact k a c S' hl hp hb
end
section
variable {C:Cx} {Q:Post} {S S1:SHeap} {M:List MEnt} {e:Env}
theorem JC.partF {c:Code} {σ:Type} (fixed:Env) (chg:σ→Env) (M1:σ→List MEnt) (V:SHeap→σ→Prop)
  (h:JC C c (CutPostF C S M1 chg fixed V Q) S M e)
  (hf:subE fixed e) (hn:∀ S1 s,S.le S1→V S1 s→JX C .normal Q S1 (M1 s) (chg s++fixed)):JC C c Q S M e:=
 JC.part (σ:=SHeap × σ) (fun q=>q.1) (fun q=>M1 q.2) (fun q=>chg q.2++fixed) (fun q=>S.le q.1∧V q.1 q.2) h (fun q hq=>hn q.1 q.2 hq.1 hq.2)
theorem JX.partF {σ:Type} {S0:SHeap} {M1:σ→List MEnt} {chg:σ→Env} {fixed:Env} {V:SHeap→σ→Prop} (s':σ) (hl:S0.le S) (hv:V S s') (hM:M1 s'=M) (hc:subE (chg s') e) (hf:subE fixed e) :
  JX C .normal (CutPostF C S0 M1 chg fixed V Q) S M e:=
 JX.partN (S,s') ⟨hl,hv⟩ rfl hM (subE_app hc hf)
theorem JX.partFR {σ:Type} {S0:SHeap} {M1:σ→List MEnt} {chg:σ→Env} {fixed:Env} {V:SHeap→σ→Prop} (h:JX C .ret Q S M e):JX C .ret (CutPostF C S0 M1 chg fixed V Q) S M e:=⟨h.run⟩
theorem JX.partFE {σ:Type} {S0:SHeap} {M1:σ→List MEnt} {chg:σ→Env} {fixed:Env} {V:SHeap→σ→Prop} {id:Nat} (h:JX C (.exit id) Q S M e):JX C (.exit id) (CutPostF C S0 M1 chg fixed V Q) S M e:=⟨h.run⟩
end
abbrev FnL {α:Type} (P:Program) (f:FuncId) (args:Array Value) (S:SHeap) (bt:Nat) (rep:Rp α) (xs:List α):Prop:=FnR P f args S fun w S'=>(rSlice bt rep).V S' w xs
abbrev FnLE {α:Type} (P:Program) (f:FuncId) (args:Array Value) (S:SHeap) (bt:Nat) (rep:Rp α) (xs:List α) (z:Value):Prop:=FnR P f args S fun w S'=>∃ u,w=.tuple #[u,z]∧(rSlice bt rep).V S' u xs
def rowT (v:Value):List Nat:=v.ownBlock.toList
section
variable {C:Cx} {Q:Post} {S:SHeap} {M:List MEnt} {e:Env}
end
theorem rowT_ok {v:Value}:∀ l,some (rowT v)=some l→∀ b,v.ownBlock=some b→b∈l:=by
 intro l hl b hb;cases hl;simp [rowT,hb]
section
variable {C:Cx} {Q:Post} {S:SHeap} {M:List MEnt} {e:Env}
end
theorem JO.newRow {C:Cx} {R:Rg} {L:List Nat} {Q:Post} {S:SHeap} {M:List MEnt} {e:Env} (E:TypeId) (sz:Nat) (k:JO C R L Q S (.row C.w0.heap.size E sz (.slice none 0 0) 0 []::M) e):JO C R L Q S M e:=⟨fun a w hw=>k.run a w ⟨hw.env,hw.defers,hw.wd.newRow E sz⟩⟩
section
variable {C:Cx} {R:Rg} {Q:Post} {S S1:SHeap} {M:List MEnt} {e:Env}
theorem JC.loopF0 {c:Code} {σ:Type} (fixed:Env) (chg:σ→Env) (V:SHeap→σ→Prop) (μ:σ→Nat) (s0:σ)
  (hf:subE fixed e) (hc:subE (chg s0) e) (h0:V S s0)
  (h:∀ S1 s,S.le S1→V S1 s→JC C c (Exit.then (LoopPostF C S (fun _=>M) chg fixed V μ S1 s) Q) S1 M (chg s++fixed)):JC C (.loop c) Q S M e:=
 JC.loopF fixed chg (fun _=>M) V μ s0 hf hc rfl h0 h
theorem JC.partF0 {c:Code} {σ:Type} (fixed:Env) (chg:σ→Env) (V:SHeap→σ→Prop)
  (h:JC C c (CutPostF C S (fun _=>M) chg fixed V Q) S M e)
  (hf:subE fixed e) (hn:∀ S1 s,S.le S1→V S1 s→JX C .normal Q S1 M (chg s++fixed)):JC C c Q S M e:=
 JC.partF fixed chg (fun _=>M) V h hf hn
end
end Go.Dr
namespace Go.Dr
inductive Kd where
 | int|str|bool
def kdB (P:Program) (T:TypeId):Kd→Bool
 | .int=>match P.underlying T with|some (.int .i64)=>true|_=>false
 | .str=>match P.underlying T with|some .string=>true|_=>false
 | .bool=>match P.underlying T with|some .bool=>true|_=>false
def flatB (P:Program):Nat→List Field→List Kd→Bool
 | _,[],[]=>true
 | off, f :: fs, k :: ks => !(f.name == "_") && Nat.beq f.offset off && kdB P f.type k && flatB P (off + 1) fs ks
 | _,_,_=>false
def flatT (P:Program) (T:TypeId) (ks:List Kd):Bool:=match P.underlying T with|some (.struct fs)=>flatB P 0 fs.toList ks|_=>false
class FlatS (P:Program) (T:TypeId) (ks:outParam (List Kd)):Prop where
 b:flatT P T ks=true
 h:P.stoodInHeld T=false
 g:P.eqGuardType P.depth T=false
def fits:List Kd→List Value→Bool
 | [],[]=>true
 | .int::ks,.int .i64 _::vs=>fits ks vs
 | .str::ks,.string _::vs=>fits ks vs
 | .bool::ks,.bool _::vs=>fits ks vs
 | _,_=>false
def ceqs:List Value→List Value→Bool
 | .int _ a::xs,.int _ b::ys=>decide (a=b)&&ceqs xs ys
 | .string a::xs,.string b::ys=>decide (a=b)&&ceqs xs ys
 | .bool a::xs,.bool b::ys=>(a==b)&&ceqs xs ys
 | _,_=>true
theorem run_isAgg_not {P:Program} {T:TypeId} {d:TypeDesc} (h:P.underlying T=some d) (ha:isAggD d=false) (w:World):(isAgg T).run P w=.ok false w:=by
 unfold isAgg
 simp only [Sem.run_bind,run_underlying h,Result.andThen_ok]
 cases d<;>first|rfl|cases ha
theorem run_part1 {P:Program} {T:TypeId} {d:TypeDesc} (h:P.underlying T=some d) (ha:isAggD d=false) (pre:List Value) (v:Value) (vs:List Value) (w:World):(part T (pre++v::vs).toArray pre.length).run P w=.ok v w:=by
 unfold part
 simp only [Sem.run_bind,run_isAgg_not h ha,Result.andThen_ok,Bool.false_eq_true,if_false]
 simp
def kdD:Kd→TypeDesc
 | .int=>.int .i64
 | .str=>.string
 | .bool=>.bool
theorem kd_desc {P:Program} {T:TypeId} {k:Kd} (h:kdB P T k=true):P.underlying T=some (kdD k):=by
 cases k<;>simp only [kdB] at h<;>split at h<;>first|assumption|cases h
theorem run_fields {P:Program} (d:Nat) (w:World):∀ (fs:List Field) (ks:List Kd) (pre pre' xs ys:List Value),pre.length=pre'.length→flatB P pre.length fs ks=true→fits ks xs=true→fits ks ys=true →
  (Op.eqFields (d+1) (pre++xs).toArray (pre'++ys).toArray fs).run P w=.ok (ceqs xs ys) w
 | [],[],pre,pre',xs,ys,_,_,h1,h2=>by
  cases xs<;>cases ys<;>first|(cases h1;done)|(cases h2;done)|simp [Op.eqFields,ceqs]
 | [],_::_,_,_,_,_,_,h,_,_=>by cases h
 | _::_,[],_,_,_,_,_,h,_,_=>by cases h
 | f::fs,k::ks,pre,pre',xs,ys,hl,h,h1,h2=>by
  simp only [flatB,Bool.and_eq_true,Bool.not_eq_true'] at h
  obtain ⟨⟨⟨hn,ho⟩,hk⟩,hr⟩:=h
  have ho:=Nat.eq_of_beq_eq_true ho
  have hn' : f.name ≠ "_" := by simpa using hn
  have hd:=kd_desc hk
  have ha:isAggD (kdD k)=false:=by cases k<;>rfl
  have go:∀ (x y:Value) (xs' ys':List Value) (b:Bool),xs=x::xs'→ys=y::ys'→(Op.equalIn (d+1) f.type x y).run P w=.ok b w→fits ks xs'=true→fits ks ys'=true →
    ceqs xs ys=(b&&ceqs xs' ys')→(Op.eqFields (d+1) (pre++xs).toArray (pre'++ys).toArray (f::fs)).run P w=.ok (ceqs xs ys) w:=by
   intro x y xs' ys' b e1 e2 heq f1 f2 hc
   subst e1;subst e2
   have p1:=run_part1 hd ha pre x xs' w
   have p2:=run_part1 hd ha pre' y ys' w
   have ih:=run_fields d w fs ks (pre++[x]) (pre'++[y]) xs' ys' (by simp [hl]) (by simpa using hr) f1 f2
   simp only [List.append_assoc,List.cons_append,List.nil_append] at ih
   rw [hc]
   unfold Op.eqFields
   rw [if_pos hn',ho]
   simp only [Sem.run_bind,p1,Result.andThen_ok]
   rw [hl]
   simp only [Sem.run_bind,p2,Result.andThen_ok,heq]
   cases b with
   | false=>simp
   | true=>simpa using ih
  cases k with
  | int=>
   match xs,ys,h1,h2 with
   | .int .i64 a::xs',.int .i64 b::ys',h1,h2=>
    refine go _ _ _ _ (decide (a=b)) rfl rfl ?_ h1 h2 rfl
    rw [run_equalIn_int w d _ _ _ a b hd]
    congr 1
  | str=>
   match xs,ys,h1,h2 with
   | .string a::xs',.string b::ys',h1,h2=>
    refine go _ _ _ _ (decide (a=b)) rfl rfl ?_ h1 h2 rfl
    rw [run_equalIn_string w d _ a b hd,ByteArray.toList_eq,ByteArray.toList_eq,str_eq]
  | bool=>
   match xs,ys,h1,h2 with
   | .bool a::xs',.bool b::ys',h1,h2=>
    refine go _ _ _ _ (a==b) rfl rfl ?_ h1 h2 rfl
    exact run_equalIn_bool w d _ a b hd
theorem run_eq_flat {P:Program} {T:TypeId} {ks:List Kd} (h:FlatS P T ks) {xs ys:List Value} (h1:fits ks xs=true) (h2:fits ks ys=true) (w:World):(Op.equalIn 10000 T (.agg xs.toArray) (.agg ys.toArray)).run P w=.ok (ceqs xs ys) w:=by
 have hb:=h.b
 unfold flatT at hb
 split at hb
 ·rename_i fs hu
  have hf:P.fieldsOf T=fs:=by simp [Program.fieldsOf,hu]
  rw [run_equalIn_struct w 9999 T _ _ (by rw [hf];exact hu) h.h,hf]
  exact run_fields 9998 w fs.toList ks [] [] xs ys rfl hb h1 h2
 ·cases hb
class FlatR {α:Type} (rep:Rp α) (ks:outParam (List Kd)) [DecidableEq α]:Prop where
 a:rep.agg=true
 h:∀ {S:SHeap} {cs ds:List Value} {x y:α},rep.R S cs x→rep.R S ds y→fits ks cs=true∧fits ks ds=true∧ceqs cs ds=decide (x=y)
section
variable {C:Cx} {R:Rg} {Q:Post} {S:SHeap} {M:List MEnt} {e:Env} {rest:List Nat}
variable {d:Nat} {ty:TypeId} {pos:String} {aft:Array Edge} {g:Option (Nat × Bool)} {an:Bool}
theorem V_agg {α:Type} {rep:Rp α} {v:Value} {x:α} (ha:rep.agg=true) (h:rep.V S v x):∃ cs,v=.agg cs.toArray∧rep.R S cs x:=by
 obtain ⟨cs,h1,h2⟩:=h
 rw [if_pos ha] at h2
 exact ⟨cs,h2,h1⟩
theorem JPure.eqR {α:Type} [DecidableEq α] {rep:Rp α} {ks ks':List Kd} {T t':TypeId} {x y:Operand} {u v:Value} {x0 y0:α} (hx:ev e x=some u) (hu:rep.V S u x0) (hy:ev e y=some v) (hv:rep.V S v y0) [hs:FlatS C.P T ks] [hr:FlatR rep ks'] (hk:ks=ks') (hdN:Nat.blt d C.N=true)
  (k:JO C R rest Q S M ((d,.bool (decide (x0=y0)))::e)):JPure C R an ⟨some d,.binOp .eql T x y t',ty,pos,aft,g⟩ rest Q S M e:=by
 subst hk
 obtain ⟨cs,rfl,h1⟩:=V_agg hr.a hu
 obtain ⟨ds,rfl,h2⟩:=V_agg hr.a hv
 obtain ⟨f1,f2,f3⟩:=hr.h h1 h2
 exact JPure.of rfl hdN (fun a w' h=>by
  simp only [execOp,h.eval hx,h.eval hy,Sem.run_bind,run_eqGuard_agg w' .eql T x y _ _ hs.g,Result.andThen_ok,run_eql_struct w' T,run_eq_flat hs f1 f2,f3,Sem.run_pure]) k
theorem JPure.neR {α:Type} [DecidableEq α] {rep:Rp α} {ks ks':List Kd} {T t':TypeId} {x y:Operand} {u v:Value} {x0 y0:α} (hx:ev e x=some u) (hu:rep.V S u x0) (hy:ev e y=some v) (hv:rep.V S v y0) [hs:FlatS C.P T ks] [hr:FlatR rep ks'] (hk:ks=ks') (hdN:Nat.blt d C.N=true)
  (k:JO C R rest Q S M ((d,.bool (!decide (x0=y0)))::e)):JPure C R an ⟨some d,.binOp .neq T x y t',ty,pos,aft,g⟩ rest Q S M e:=by
 subst hk
 obtain ⟨cs,rfl,h1⟩:=V_agg hr.a hu
 obtain ⟨ds,rfl,h2⟩:=V_agg hr.a hv
 obtain ⟨f1,f2,f3⟩:=hr.h h1 h2
 exact JPure.of rfl hdN (fun a w' h=>by
  simp only [execOp,h.eval hx,h.eval hy,Sem.run_bind,run_eqGuard_agg w' .neq T x y _ _ hs.g,Result.andThen_ok,run_neq_struct w' T,run_eq_flat hs f1 f2,f3,Sem.run_pure]) k
end
theorem R_clause {S:SHeap} {cs:List Value} {x:Clause}:rClause.R S cs x↔cs=[.int .i64 x.kind,.int .i64 x.a,.int .i64 x.b,.int .i64 x.by_]∧Rng x.kind∧Rng x.a∧Rng x.b∧Rng x.by_:=by
 constructor
 ·rintro ⟨c1,c2,rfl,⟨rfl,h1⟩,c3,c4,rfl,⟨rfl,h2⟩,c5,c6,rfl,⟨rfl,h3⟩,⟨rfl,h4⟩⟩
  exact ⟨rfl,h1,h2,h3,h4⟩
 ·rintro ⟨rfl,h1,h2,h3,h4⟩
  exact ⟨[_],[_,_,_],rfl,⟨rfl,h1⟩,[_],[_,_],rfl,⟨rfl,h2⟩,[_],[_],rfl,⟨rfl,h3⟩,⟨rfl,h4⟩⟩
theorem R_move {S:SHeap} {cs:List Value} {x:Move}:rMove.R S cs x↔cs=[.int .i64 x.pod,.int .i64 x.to]∧Rng x.pod∧Rng x.to:=by
 constructor
 ·rintro ⟨c1,c2,rfl,⟨rfl,h1⟩,⟨rfl,h2⟩⟩;exact ⟨rfl,h1,h2⟩
 ·rintro ⟨rfl,h1,h2⟩;exact ⟨[_],[_],rfl,⟨rfl,h1⟩,⟨rfl,h2⟩⟩
theorem R_step {S:SHeap} {cs:List Value} {x:Step}:rStep.R S cs x↔cs=[.int .i64 x.kind,.int .i64 x.pod,.int .i64 x.node]∧Rng x.kind∧Rng x.pod∧Rng x.node:=by
 constructor
 ·rintro ⟨c1,c2,rfl,⟨rfl,h1⟩,c3,c4,rfl,⟨rfl,h2⟩,⟨rfl,h3⟩⟩;exact ⟨rfl,h1,h2,h3⟩
 ·rintro ⟨rfl,h1,h2,h3⟩;exact ⟨[_],[_,_],rfl,⟨rfl,h1⟩,[_],[_],rfl,⟨rfl,h2⟩,⟨rfl,h3⟩⟩
theorem R_wrong {S:SHeap} {cs:List Value} {x:Wrong}:rWrong.R S cs x↔cs=[.int .i64 x.why,.int .i64 x.pod,.int .i64 x.node]∧Rng x.why∧Rng x.pod∧Rng x.node:=by
 constructor
 ·rintro ⟨c1,c2,rfl,⟨rfl,h1⟩,c3,c4,rfl,⟨rfl,h2⟩,⟨rfl,h3⟩⟩;exact ⟨rfl,h1,h2,h3⟩
 ·rintro ⟨rfl,h1,h2,h3⟩;exact ⟨[_],[_,_],rfl,⟨rfl,h1⟩,[_],[_],rfl,⟨rfl,h2⟩,⟨rfl,h3⟩⟩
instance:FlatR rClause [.int,.int,.int,.int] where
 a:=rfl
 h:=fun {S cs ds x y} h1 h2=>by
  rw [R_clause] at h1 h2
  obtain ⟨rfl,_⟩:=h1;obtain ⟨rfl,_⟩:=h2
  refine ⟨rfl,rfl,?_⟩
  cases x;cases y
  rw [Bool.eq_iff_iff];simp [ceqs]
instance:FlatR rMove [.int,.int] where
 a:=rfl
 h:=fun {S cs ds x y} h1 h2=>by
  rw [R_move] at h1 h2
  obtain ⟨rfl,_⟩:=h1;obtain ⟨rfl,_⟩:=h2
  refine ⟨rfl,rfl,?_⟩
  cases x;cases y
  rw [Bool.eq_iff_iff];simp [ceqs]
instance:FlatR rStep [.int,.int,.int] where
 a:=rfl
 h:=fun {S cs ds x y} h1 h2=>by
  rw [R_step] at h1 h2
  obtain ⟨rfl,_⟩:=h1;obtain ⟨rfl,_⟩:=h2
  refine ⟨rfl,rfl,?_⟩
  cases x;cases y
  rw [Bool.eq_iff_iff];simp [ceqs]
instance:FlatR rWrong [.int,.int,.int] where
 a:=rfl
 h:=fun {S cs ds x y} h1 h2=>by
  rw [R_wrong] at h1 h2
  obtain ⟨rfl,_⟩:=h1;obtain ⟨rfl,_⟩:=h2
  refine ⟨rfl,rfl,?_⟩
  cases x;cases y
  rw [Bool.eq_iff_iff];simp [ceqs]
theorem V_clause {S:SHeap} {v:Value} {x:Clause}:rClause.V S v x↔v=.agg #[.int .i64 x.kind,.int .i64 x.a,.int .i64 x.b,.int .i64 x.by_]∧Rng x.kind∧Rng x.a∧Rng x.b∧Rng x.by_:=by
 constructor
 ·intro h
  obtain ⟨cs,rfl,h2⟩:=V_agg (rep:=rClause) rfl h
  obtain ⟨rfl,h3⟩:=R_clause.1 h2
  exact ⟨rfl,h3⟩
 ·rintro ⟨rfl,h⟩;exact ⟨_,R_clause.2 ⟨rfl,h⟩,by simp [rClause,rMap]⟩
theorem V_step {S:SHeap} {v:Value} {x:Step}:rStep.V S v x↔v=.agg #[.int .i64 x.kind,.int .i64 x.pod,.int .i64 x.node]∧Rng x.kind∧Rng x.pod∧Rng x.node:=by
 constructor
 ·intro h
  obtain ⟨cs,rfl,h2⟩:=V_agg (rep:=rStep) rfl h
  obtain ⟨rfl,h3⟩:=R_step.1 h2
  exact ⟨rfl,h3⟩
 ·rintro ⟨rfl,h⟩;exact ⟨_,R_step.2 ⟨rfl,h⟩,by simp [rStep,rMap]⟩
end Go.Dr
namespace Go.Dr
open Go.RowKit
def FnRow {α:Type} (P:Program) (f:FuncId) (args:Array Value) (S:SHeap) (E:TypeId) (rep:Rp α) (xs:List α):Prop:=
 ∀ w,Agree S w→Calls P f args w fun e w'=>∃ v S' vs,e=.returned v∧Wd w [] S S' [.row w.heap.size E rep.sz v xs.length (flatCells vs)] w'∧allV rep S' vs xs
def EndRow {α:Type} (w0:World) (S0:SHeap) (E:TypeId) (rep:Rp α) (xs:List α) (e:Ending) (w:World):Prop:=
 ∃ v S' vs,e=.returned v∧Wd w0 [] S0 S' [.row w0.heap.size E rep.sz v xs.length (flatCells vs)] w∧allV rep S' vs xs
theorem FnRow.enter {α:Type} {P:Program} {f:FuncId} {fn:Func} {c:Code} {args:List Value} {S:SHeap} {E:TypeId} {rep:Rp α} {xs:List α} {N:Nat}
  (hf:P.funcs[f]?=some fn) (hb:fn.body=some c) (hn:fn.ntmps=N) (hlen:Nat.ble args.length N=true)
  (h:∀ w0,JC ⟨P,none,N,[],w0,[],S⟩ c (bodyPost P fn (EndRow w0 S E rep xs)) S [] (envOf 0 args)):FnRow P f args.toArray S E rep xs:=by
 intro w hg
 refine calls_of_wp hf hb ?_
 refine (wpIn_wide (n:=0)).1 ?_
 refine (h w).run _ w ⟨⟨?_,fun t v ht=>?_⟩,rfl,Wd.start0 hg⟩
 ·have:args.length≤N:=by simpa [Nat.ble_eq] using hlen
  simp [hn];omega
 ·obtain ⟨_,h2⟩:=envOf_get args 0 t v ht
  have hlt:=(List.getElem?_eq_some_iff.1 h2).1
  simp at hlt
  have h3:args[t]=v:=(List.getElem?_eq_some_iff.1 h2).2
  simp [Array.getElem?_append,hlt,h3]
theorem JX.retRow {α:Type} {P:Program} {r:Option Nat} {N:Nat} {fn:Func} {w0:World} {S S0:SHeap} {M:List MEnt} {e:Env} {E:TypeId} {rep:Rp α} {xs:List α} {vs:List Value} {rv:ResultVar} {v:Value} {n:Nat} (hr:fn.results=#[rv]) (hv:ResV ⟨P,r,N,[],w0,[],S0⟩ S (.row w0.heap.size E rep.sz v n (flatCells vs)::M) e rv v) (hn:n=xs.length) (hp:allV rep S vs xs) :
  JX ⟨P,r,N,[],w0,[],S0⟩ .ret (bodyPost P fn (EndRow w0 S0 E rep xs)) S (.row w0.heap.size E rep.sz v n (flatCells vs)::M) e:=⟨fun a w hw=>
 ⟨hw.defers,v,run_results1 hr (hv a w hw),v,S,vs,rfl,by rw [← hn];exact hw.wd.sub (List.Sublist.cons_cons _ (List.nil_sublist _)),hp⟩⟩
theorem Wd.rebase {w0 w:World} {B0:List Nat} {S0 S:SHeap} {M:List MEnt} {b E sz n:Nat} {v:Value} {xs:List Value} (h:Wd w0 B0 S0 S (.row b E sz v n xs::M) w) (hb:w0.heap.size≤b):Wd w0 B0 S0 S (.row w0.heap.size E sz v n xs::M) w:=
 { h with
  ok:=fun m hm=>by
   rcases List.mem_cons.1 hm with rfl|hm
   ·have h1:w.ownsRow b E sz v n xs:=h.ok (.row b E sz v n xs) (by simp)
    refine ⟨h1.1,?_⟩
    rcases h1.2 with h2|⟨g,cap,cur,hv,hg,hr⟩
    ·exact .inl h2
    ·exact .inr ⟨g,cap,cur,hv,Nat.le_trans hb hg,hr⟩
   ·exact h.ok m (List.mem_cons_of_mem _ hm)
  sep:=List.pairwise_cons.2 ⟨fun m hm k hk=>(List.pairwise_cons.1 h.sep).1 m hm k hk,(List.pairwise_cons.1 h.sep).2⟩
  out:=fun m hm k hk=>by
   rcases List.mem_cons.1 hm with rfl|hm
   ·exact h.out (.row b E sz v n xs) (by simp) k hk
   ·exact h.out m (List.mem_cons_of_mem _ hm) k hk }
section
variable {C:Cx} {R:Rg} {Q:Post} {S:SHeap} {M:List MEnt} {e:Env} {rest:List Nat}
variable {d:Nat} {ty:TypeId} {pos:String} {aft:Array Edge} {g:Option (Nat × Bool)}
theorem JEff.rowOf {α:Type} {f:FuncId} {us:Array Value} {o:Oper} {E:TypeId} {rep:Rp α} {xs:List α}
  (hsem:∀ a w,Holds C.N e a→(execOp a.eval o).run C.P w=.ok (.enter f us) w) (htame:(tame o&&!mildOp o.op)=true) (hd:o.dst=some d) (hdN:Nat.blt d C.N=true) (hf:FnRow C.P f us S E rep xs)
  (k:∀ a c S' vs,S.le S'→allV rep S' vs xs→JO C R rest Q S' (.row C.w0.heap.size E rep.sz (.slice a xs.length c) xs.length (flatCells vs)::M) ((d,.slice a xs.length c)::e)):JEff C R o rest Q S M e:=
 JEff.ofCalls (fun a w hw=>hsem a w hw.env) htame fun a w hw ht=>by
  refine (hf w hw.wd.agree).mono ?_
  rintro e' w' ⟨v,S',vs,rfl,hw',hp⟩
  have hcall:=(hw.wd.call (Mc:=[]) (Mr:=M) hw').rebase hw.wd.size
  have hform:∃ a c,v=.slice a xs.length c:=by
   have h1:w'.ownsRow w.heap.size E rep.sz v xs.length (flatCells vs):=hw'.ok (.row w.heap.size E rep.sz v xs.length (flatCells vs)) (by simp)
   rcases h1.2 with ⟨rfl,h2⟩|⟨g,cap,cur,rfl,_⟩
   ·exact ⟨none,0,by rw [h2]⟩
   ·exact ⟨_,cap,rfl⟩
  obtain ⟨a',c',rfl⟩:=hform
  refine ⟨_,rfl,?_,S',hw'.le,hw'.agree,?_⟩
  ·intro b o' hb hbo
   have hlt:=(Array.getElem?_eq_some_iff.1 hbo).1
   rw [hw'.keep b hlt (by simp)]
   exact hbo
  ·rw [hd]
   exact (k a' c' S' vs hw'.le hp).run _ w' ⟨hw.env.put hdN _,hw.defers,hcall⟩ trivial
theorem JEff.callRow {α:Type} {f:FuncId} [Ent C.P f] {args:Array Operand} {ts:Array TypeId} {us:List Value} {E:TypeId} {rep:Rp α} {xs:List α} (hargs:evs e args.toList=some us) (hf:FnRow C.P f us.toArray S E rep xs) (hdN:Nat.blt d C.N=true)
  (k:∀ a c S' vs,S.le S'→allV rep S' vs xs→JO C R rest Q S' (.row C.w0.heap.size E rep.sz (.slice a xs.length c) xs.length (flatCells vs)::M) ((d,.slice a xs.length c)::e)):JEff C R ⟨some d,.call { callee:=.value (.func f),args,argTypes:=ts },ty,pos,aft,g⟩ rest Q S M e:=
 JEff.rowOf (sem_call hargs _ _ _ _ _) rfl rfl hdN hf k
end
end Go.Dr
namespace Go.Dr
open Go.RowKit
section
variable {r:Option Nat} {P:Program} {ops:Array Oper} {eff:Nat→Bool} {anch:Nat→Bool} {T:Nat→Prop} {Q:(Nat→Prop)→Act→World→Prop}
def St (r:Option Nat) (P:Program) (ops:Array Oper) (eff anch:Nat→Bool) (i:Nat) (K:(Nat→Prop)→Act→World→Prop) (T:Nat→Prop) (a:Act) (w:World):Prop:=DF r P ops eff anch K T [i] a w
theorem St.mono {i:Nat} {K K':(Nat→Prop)→Act→World→Prop} (h:∀ T a w,K T a w→K' T a w) {a:Act} {w:World} (hs:St r P ops eff anch i K T a w):St r P ops eff anch i K' T a w:=by
 unfold St at *
 simp only [DF] at hs ⊢
 obtain ⟨T1,hT1,o,ho,hd⟩:=hs
 refine ⟨T1,hT1,o,ho,?_⟩
 split at hd
 ·rename_i hw
  rw [if_pos hw]
  split at hd
  ·rename_i he
   rw [if_pos he]
   exact Oper.wpIn_mono (fun a w hh=>⟨hh.1,h _ _ _ hh.2⟩) hd
  ·rename_i he
   rw [if_neg he]
   obtain ⟨v,hv,hd⟩:=hd
   exact ⟨v,hv,h _ _ _ hd⟩
 ·rename_i hw
  rw [if_neg hw]
  exact h _ _ _ hd
theorem St.swap {x i:Nat} {ox oi:Oper} {K:(Nat→Prop)→Act→World→Prop} {a:Act} {w:World} (hx:ops[x]?=some ox) (hi:ops[i]?=some oi) (hex:eff x=false)
  (hap:ox.apart ops oi=true) (htx:tame ox=true) (hti:tame oi=true) (han:eff i=true→anch x=false∨mildOp oi.op=true)
  (h:St r P ops eff anch x (St r P ops eff anch i K) T a w):St r P ops eff anch i (St r P ops eff anch x K) T a w:=by
 have h2:DF r P ops eff anch K T (x::i::[]) a w:=by
  unfold St at h
  simp only [DF] at h ⊢
  exact h
 have h3:=DF.swap hx hi hex hap htx hti han h2
 unfold St
 simp only [DF] at h3 ⊢
 exact h3
def adv (ops:Array Oper) (eff anch:Nat→Bool) (ms:List Nat) (i:Nat):Pl→Option Pl
 | .nil=>none
 | .op j t=>if j=i then some t else if pairOK ops eff anch ms j i&&!(ms.getD i 0).testBit j then (adv ops eff anch ms i t).map (.op j) else none
 | .alt a b=>if eff i then (match adv ops eff anch ms i a with|some a'=>some a'|none=>adv ops eff anch ms i b) else none
theorem DT.front {ms:List Nat} {i:Nat} {oi:Oper} (hi:ops[i]?=some oi) (htame:∀ (j:Nat) (o:Oper),ops[j]?=some o→tame o=true) :
  ∀ (t t':Pl) (T:Nat→Prop) (a:Act) (w:World),adv ops eff anch ms i t=some t'→DT r P ops eff anch Q t T a w→St r P ops eff anch i (DT r P ops eff anch Q t') T a w
 | .nil,t',_,a,w,h,_=>by cases h
 | .op j t,t',T,a,w,h,hd=>by
  simp only [adv] at h
  split at h
  ·rename_i e;subst e
   cases h
   exact hd
  ·split at h
   ·rename_i hp
    cases ha:adv ops eff anch ms i t with
    | none=>rw [ha] at h;cases h
    | some t1=>
     rw [ha] at h
     cases h
     have h1:St r P ops eff anch j (St r P ops eff anch i (DT r P ops eff anch Q t1)) T a w:=St.mono (fun T a w hh=>DT.front hi htame t t1 T a w ha hh) hd
     simp only [Bool.and_eq_true,Bool.not_eq_true'] at hp
     obtain ⟨hp,hb⟩:=hp
     simp only [pairOK,hb,Bool.false_or,Bool.and_eq_true,Bool.not_eq_true'] at hp
     obtain ⟨⟨_,_⟩,he,hap⟩:=hp
     rw [hi] at hap
     cases hox:ops[j]? with
     | none=>rw [hox] at hap;simp at hap
     | some ox=>
      rw [hox] at hap
      simp only [Bool.and_eq_true] at hap
      exact St.swap hox hi he hap.1 (htame j ox hox) (htame i oi hi) (fun hei=>by simpa [hei] using hap.2) h1
   ·cases h
 | .alt x y,t',T,a,w,h,hd=>by
  obtain ⟨h1,h2⟩:=hd
  simp only [adv] at h
  split at h
  ·cases hx:adv ops eff anch ms i x with
   | some x'=>rw [hx] at h;cases h;exact DT.front hi htame x _ T a w hx h1
   | none=>rw [hx] at h;exact DT.front hi htame y _ T a w h h2
  ·cases h
end
/-! ### Which trees stand for all orders -/
def Pl.path:Pl→List Nat
 | .nil=>[]
 | .op i t=>i::t.path
 | .alt a _=>a.path
def Pl.firsts (eff:Nat→Bool):Pl→List Nat
 | .nil=>[]
 | .op j t=>if eff j then [j] else t.firsts eff
 | .alt a b=>a.firsts eff++b.firsts eff
def pairF (ops:Array Oper) (eff anch:Nat→Bool) (ms:List Nat) (i j:Nat):Bool:=
 !(i==j)&&!(ms.getD i 0).testBit j&&((eff i&&eff j)||pairOK ops eff anch ms i j)
def Pl.wf (ops:Array Oper) (eff anch:Nat→Bool) (ms:List Nat):Pl→Bool
 | .nil=>true
 | .op i t=>t.path.all (fun j=>pairF ops eff anch ms i j||(!(i==j)&&!(ms.getD i 0).testBit j&&eff i&&!eff j&&t.path.any (fun x=>(ms.getD j 0).testBit x)))&&t.wf ops eff anch ms
 | .alt a b=>a.wf ops eff anch ms&&b.wf ops eff anch ms&&a.path.all (fun x=>b.path.contains x)&&b.path.all (fun x=>a.path.contains x)&&a.path.all (fun i=>eff i||a.path.any (fun x=>(ms.getD i 0).testBit x))
def Pl.cmp (eff:Nat→Bool) (ms:List Nat) (t:Pl):Bool:=t.path.all fun i=>!eff i||t.path.any (fun x=>eff x&&(ms.getD i 0).testBit x)||(t.firsts eff).contains i
def Pl.good (eff:Nat→Bool) (ms:List Nat):Pl→Bool
 | .nil=>true
 | .op j t=>(!eff j||t.cmp eff ms)&&t.good eff ms
 | .alt a b=>a.good eff ms&&b.good eff ms
section
variable {ops:Array Oper} {eff anch:Nat→Bool} {ms:List Nat} {i:Nat}
theorem adv_some:∀ {t:Pl},t.wf ops eff anch ms=true→i∈t.path→(∀ x∈t.path,(ms.getD i 0).testBit x=false)→(eff i=false∨i∈t.firsts eff)→∃ t',adv ops eff anch ms i t=some t'
 | .nil,_,h,_,_=>by cases h
 | .op j t,hw,hm,hb,he=>by
  simp only [adv]
  by_cases hji:j=i
  ·exact ⟨t,by rw [if_pos hji]⟩
  ·rw [if_neg hji]
   have hmt:i∈t.path:=by
    rcases List.mem_cons.1 hm with h|h
    ·exact absurd h.symm hji
    ·exact h
   simp only [Pl.wf,Bool.and_eq_true,List.all_eq_true] at hw
   have hp:=hw.1 i hmt
   have hbj:=hb j (by simp [Pl.path])
   have hs:pairOK ops eff anch ms j i=true:=by
    rw [Bool.or_eq_true] at hp
    rcases hp with hp|hp
    ·simp only [pairF,Bool.and_eq_true,Bool.or_eq_true] at hp
     rcases hp.2 with h|h
     ·exfalso
      rcases he with he|he
      ·rw [h.2] at he;cases he
      ·simp only [Pl.firsts,h.1,if_true,List.mem_singleton] at he
       exact hji he.symm
     ·exact h
    ·exfalso
     simp only [Bool.and_eq_true,List.any_eq_true] at hp
     obtain ⟨x,hx,hbx⟩:=hp.2
     rw [hb x (by simp [Pl.path,hx])] at hbx;cases hbx
   have hej:eff j=false:=by
    simp only [pairOK,hbj,Bool.false_or,Bool.and_eq_true,Bool.not_eq_true'] at hs
    exact hs.2.1
   have he':eff i=false∨i∈t.firsts eff:=by
    rcases he with he|he
    ·exact .inl he
    ·right;simpa [Pl.firsts,hej] using he
   obtain ⟨t',ht⟩:=adv_some hw.2 hmt (fun x hx=>hb x (by simp [Pl.path,hx])) he'
   exact ⟨.op j t',by rw [hs,hbj,ht];rfl⟩
 | .alt a b,hw,hm,hb,he=>by
  simp only [Pl.wf,Bool.and_eq_true,List.all_eq_true] at hw
  obtain ⟨⟨⟨⟨hwa,hwb⟩,hab⟩,hba⟩,hho⟩:=hw
  have hmb:i∈b.path:=by simpa using hab i hm
  have hbb:∀ x∈b.path,(ms.getD i 0).testBit x=false:=fun x hx=>hb x (by simpa [Pl.path] using hba x hx)
  simp only [adv]
  cases hei:eff i with
  | false=>
   exfalso
   have:=hho i hm
   rw [hei,Bool.false_or,List.any_eq_true] at this
   obtain ⟨x,hx,hbx⟩:=this
   rw [hb x hx] at hbx;cases hbx
  | true=>
   have he:i∈a.firsts eff∨i∈b.firsts eff:=by
    rcases he with he|he
    ·rw [hei] at he;cases he
    ·exact List.mem_append.1 (by simpa [Pl.firsts] using he)
   simp only [if_true]
   rcases he with h|h
   ·obtain ⟨a',ha⟩:=adv_some hwa hm hb (.inr h)
    exact ⟨a',by rw [ha]⟩
   ·obtain ⟨b',hb'⟩:=adv_some hwb hmb hbb (.inr h)
    cases ha:adv ops eff anch ms i a with
    | none=>exact ⟨b',by simpa using hb'⟩
    | some a'=>exact ⟨a',rfl⟩
theorem adv_path:∀ {t t':Pl},t.wf ops eff anch ms=true→adv ops eff anch ms i t=some t'→i∈t.path∧(∀ x,x∈t'.path↔x∈t.path∧x≠i)∧t'.wf ops eff anch ms=true
 | .nil,t',_,h=>by cases h
 | .op j t,t',hw,h=>by
  simp only [Pl.wf,Bool.and_eq_true,List.all_eq_true] at hw
  simp only [adv] at h
  split at h
  ·rename_i e;subst e
   cases h
   refine ⟨by simp [Pl.path],fun x=>?_,hw.2⟩
   have hne:∀ x∈t.path,x≠j:=by
    intro x hx hxj
    subst hxj
    have:=hw.1 x hx
    simp [pairF] at this
   simp only [Pl.path,List.mem_cons]
   constructor
   ·intro hx;exact ⟨.inr hx,hne x hx⟩
   ·rintro ⟨hx|hx,hn⟩
    ·exact absurd hx hn
    ·exact hx
  ·rename_i hji
   split at h
   ·rename_i hpk
    cases ha:adv ops eff anch ms i t with
    | none=>rw [ha] at h;cases h
    | some t1=>
     rw [ha] at h
     cases h
     obtain ⟨h1,h2,h3⟩:=adv_path hw.2 ha
     refine ⟨by simp [Pl.path,h1],fun x=>?_,?_⟩
     ·simp only [Pl.path,List.mem_cons,h2]
      constructor
      ·rintro (hx|hx)
       ·exact ⟨.inl hx,by rw [hx];exact hji⟩
       ·exact ⟨.inr hx.1,hx.2⟩
      ·rintro ⟨hx|hx,hn⟩
       ·exact .inl hx
       ·exact .inr ⟨hx,hn⟩
     ·simp only [Pl.wf,Bool.and_eq_true,List.all_eq_true]
      refine ⟨fun x hx=>?_,h3⟩
      have hej:eff j=false:=by
       simp only [Bool.and_eq_true,Bool.not_eq_true'] at hpk
       obtain ⟨hpk,hb⟩:=hpk
       simp only [pairOK,hb,Bool.false_or,Bool.and_eq_true,Bool.not_eq_true'] at hpk
       exact hpk.2.1
      have h4:=hw.1 x ((h2 x).1 hx).1
      rw [Bool.or_eq_true] at h4 ⊢
      rcases h4 with h4|h4
      ·exact .inl h4
      ·rw [hej] at h4;simp at h4
   ·cases h
 | .alt a b,t',hw,h=>by
  simp only [Pl.wf,Bool.and_eq_true,List.all_eq_true] at hw
  obtain ⟨⟨⟨⟨hwa,hwb⟩,hab⟩,hba⟩,_⟩:=hw
  have hab':∀ x∈a.path,x∈b.path:=fun x hx=>by simpa using hab x hx
  have hba':∀ x∈b.path,x∈a.path:=fun x hx=>by simpa using hba x hx
  have fromA:∀ {a'},adv ops eff anch ms i a=some a'→i∈(Pl.alt a b).path∧(∀ x,x∈a'.path↔x∈(Pl.alt a b).path∧x≠i)∧a'.wf ops eff anch ms=true:=fun {a'} ha=>by
   obtain ⟨h1,h2,h3⟩:=adv_path (t:=a) (t':=a') hwa ha
   exact ⟨h1,h2,h3⟩
  have fromB:∀ {b'},adv ops eff anch ms i b=some b'→i∈(Pl.alt a b).path∧(∀ x,x∈b'.path↔x∈(Pl.alt a b).path∧x≠i)∧b'.wf ops eff anch ms=true:=fun hb=>by
   obtain ⟨h1,h2,h3⟩:=adv_path hwb hb
   refine ⟨hba' i h1,fun x=>?_,h3⟩
   rw [h2]
   constructor
   ·rintro ⟨hx,hn⟩;exact ⟨hba' x hx,hn⟩
   ·rintro ⟨hx,hn⟩;exact ⟨hab' x hx,hn⟩
  simp only [adv] at h
  split at h
  ·cases ha:adv ops eff anch ms i a with
   | none=>rw [ha] at h;exact fromB h
   | some a'=>rw [ha] at h;cases h;exact fromA ha
  ·cases h
theorem cmp_iff {t:Pl}:t.cmp eff ms=true↔∀ k∈t.path,eff k=true→(∃ x∈t.path,eff x=true∧(ms.getD k 0).testBit x=true)∨k∈t.firsts eff:=by
 simp only [Pl.cmp,List.all_eq_true,Bool.or_eq_true,Bool.not_eq_true',List.any_eq_true,Bool.and_eq_true,List.contains_iff_mem]
 constructor
 ·intro h k hk he
  rcases h k hk with (h|h)|h
  ·rw [he] at h;cases h
  ·exact .inl h
  ·exact .inr h
 ·intro h k hk
  cases he:eff k with
  | false=>exact .inl (.inl rfl)
  | true=>
   rcases h k hk he with h|h
   ·exact .inl (.inr h)
   ·exact .inr h
theorem adv_firsts (hi:eff i=false):∀ {t t':Pl},adv ops eff anch ms i t=some t'→t'.firsts eff=t.firsts eff
 | .nil,t',h=>by cases h
 | .op j t,t',h=>by
  simp only [adv] at h
  split at h
  ·rename_i e;subst e
   cases h
   simp [Pl.firsts,hi]
  ·split at h
   ·cases ha:adv ops eff anch ms i t with
    | none=>rw [ha] at h;cases h
    | some t1=>
     rw [ha] at h
     cases h
     simp only [Pl.firsts,adv_firsts hi ha]
   ·cases h
 | .alt a b,t',h=>by
  simp only [adv,hi,Bool.false_eq_true,if_false] at h
  cases h
theorem adv_cmp (hi:eff i=false) {t t':Pl} (hw:t.wf ops eff anch ms=true) (h:adv ops eff anch ms i t=some t') (hc:t.cmp eff ms=true):t'.cmp eff ms=true:=by
 obtain ⟨_,hp,_⟩:=adv_path hw h
 rw [cmp_iff] at hc ⊢
 intro k hk he
 have hk':=(hp k).1 hk
 rcases hc k hk'.1 he with ⟨x,hx,hex,hb⟩|h2
 ·exact .inl ⟨x,(hp x).2 ⟨hx,by rintro rfl;rw [hi] at hex;cases hex⟩,hex,hb⟩
 ·exact .inr (by rw [adv_firsts hi h];exact h2)
theorem adv_good (hi:eff i=false):∀ {t t':Pl},t.wf ops eff anch ms=true→adv ops eff anch ms i t=some t'→t.good eff ms=true→t'.good eff ms=true
 | .nil,t',_,h,_=>by cases h
 | .op j t,t',hw,h,hg=>by
  simp only [Pl.wf,Bool.and_eq_true] at hw
  simp only [Pl.good,Bool.and_eq_true,Bool.or_eq_true,Bool.not_eq_true'] at hg
  simp only [adv] at h
  split at h
  ·cases h;exact hg.2
  ·split at h
   ·cases ha:adv ops eff anch ms i t with
    | none=>rw [ha] at h;cases h
    | some t1=>
     rw [ha] at h
     cases h
     simp only [Pl.good,Bool.and_eq_true,Bool.or_eq_true,Bool.not_eq_true']
     refine ⟨?_,adv_good hi hw.2 ha hg.2⟩
     rcases hg.1 with h1|h1
     ·exact .inl h1
     ·exact .inr (adv_cmp hi hw.2 ha h1)
   ·cases h
 | .alt a b,t',hw,h,hg=>by
  simp only [adv,hi,Bool.false_eq_true,if_false] at h
  cases h
theorem adv_eff (hi:eff i=true):∀ {t t':Pl},t.wf ops eff anch ms=true→adv ops eff anch ms i t=some t'→t.good eff ms=true→t'.cmp eff ms=true∧t'.good eff ms=true
 | .nil,t',_,h,_=>by cases h
 | .op j t,t',hw,h,hg=>by
  simp only [Pl.wf,Bool.and_eq_true] at hw
  simp only [Pl.good,Bool.and_eq_true,Bool.or_eq_true,Bool.not_eq_true'] at hg
  simp only [adv] at h
  split at h
  ·rename_i e;subst e
   cases h
   rcases hg.1 with h1|h1
   ·rw [hi] at h1;cases h1
   ·exact ⟨h1,hg.2⟩
  ·split at h
   ·rename_i hp
    cases ha:adv ops eff anch ms i t with
    | none=>rw [ha] at h;cases h
    | some t1=>
     rw [ha] at h
     cases h
     simp only [Bool.and_eq_true,Bool.not_eq_true'] at hp
     obtain ⟨hp,hb⟩:=hp
     simp only [pairOK,hb,Bool.false_or,Bool.and_eq_true,Bool.not_eq_true'] at hp
     have hej:eff j=false:=hp.2.1
     obtain ⟨h1,h2⟩:=adv_eff hi hw.2 ha hg.2
     refine ⟨?_,by simp only [Pl.good,hej,h2];rfl⟩
     rw [cmp_iff] at h1 ⊢
     intro k hk he
     simp only [Pl.path,List.mem_cons] at hk
     rcases hk with rfl|hk
     ·rw [hej] at he;cases he
     ·rcases h1 k hk he with ⟨x,hx,hex,hbx⟩|h3
      ·exact .inl ⟨x,by simp [Pl.path,hx],hex,hbx⟩
      ·exact .inr (by simpa [Pl.firsts,hej] using h3)
   ·cases h
 | .alt a b,t',hw,h,hg=>by
  simp only [Pl.wf,Bool.and_eq_true] at hw
  simp only [Pl.good,Bool.and_eq_true] at hg
  simp only [adv,hi,if_true] at h
  cases ha:adv ops eff anch ms i a with
  | none=>rw [ha] at h;exact adv_eff hi hw.1.1.1.2 h hg.2
  | some a'=>rw [ha] at h;cases h;exact adv_eff hi hw.1.1.1.1 ha hg.1
end
theorem DT.done {r:Option Nat} {P:Program} {ops:Array Oper} {eff anch:Nat→Bool} {T:Nat→Prop} {Q:(Nat→Prop)→Act→World→Prop}:∀ {t:Pl} {a:Act} {w:World},t.path=[]→DT r P ops eff anch Q t T a w→Q T a w
 | .nil,_,_,_,h=>h
 | .op i t,_,_,h,_=>by simp [Pl.path] at h
 | .alt x y,_,_,h,hd=>DT.done (t:=x) h hd.1
section
variable {r:Option Nat} {P:Program} {ops:Array Oper} {eff:Nat→Bool} {anch:Nat→Bool} {Q:(Nat→Prop)→Act→World→Prop}
theorem DT.any {ms:List Nat} (htame:∀ (j:Nat) (o:Oper),ops[j]?=some o→tame o=true) (hms:∀ (j:Nat) (o:Oper),ops[j]?=some o→ms.getD j 0=maskOf ms o)
  (hedge:∀ (j:Nat) (o:Oper),ops[j]?=some o→∀ e∈o.after,Region.binds .any e=true→e.on < ops.size) (Q':Exit→Act→World→Prop)
  (hQ:∀ T a w,Q T a w→Q' .normal a w) (hQp:∀ x a w,NoExit x a w→Q' x a w) :
  ∀ (fuel:Nat) (t:Pl) (L:List Nat) (listed:Array Bool) (T:Nat→Prop) (a:Act) (w:World),listed.size=ops.size→L.length=fuel→L.Nodup→(∀ i∈L,i < ops.size)→(∀ i,i∈t.path↔i∈L) →
   (∀ i,i < ops.size→(listed.getD i false=false↔i∈L))→(∀ i,listed.getD i false=true→∀ j,(ms.getD i 0).testBit j=true→listed.getD j false=true) →
   L.Pairwise (fun i j=>(ms.getD i 0).testBit j=false)→(∀ i∈L,(ms.getD i 0).testBit i=false) →
   t.wf ops eff anch ms=true→t.cmp eff ms=true→t.good eff ms=true →
   DT r P ops eff anch Q t T a w→wpAnyIn (FR r) 0 P .any ops Q' fuel listed a w:=by
 intro fuel
 have lem:∀ (listed:Array Bool),listed.size=ops.size→∀ i,i < ops.size→listed.getD i true=listed.getD i false:=by
  intro listed hs i hi
  have hj':i < listed.size:=by omega
  simp [hj']
 induction fuel with
 | zero=>
  intro t L listed T a w hsz hlen hnd hlt hpL hli hcl hpw hself hwf hcmp hgood hd
  obtain rfl:L=[]:=List.eq_nil_of_length_eq_zero hlen
  have hpath:t.path=[]:=List.eq_nil_iff_forall_not_mem.2 fun i hi=>by simpa using (hpL i).1 hi
  refine ⟨?_,hQ _ _ _ (hd.done hpath)⟩
  refine List.eq_nil_iff_forall_not_mem.2 fun i hi=>?_
  obtain ⟨h0,o,ho,_⟩:=mem_ready.1 hi
  have hi':=(Array.getElem?_eq_some_iff.1 ho).1
  rw [lem listed hsz i hi'] at h0
  have:=(hli i hi').1 h0
  simp at this
 | succ fuel ih=>
  intro t L listed T a w hsz hlen hnd hlt hpL hli hcl hpw hself hwf hcmp hgood hd
  have lst:∀ j,j < ops.size→j∉L→listed.getD j false=true:=by
   intro j hj hjl
   have h:=mt (hli j hj).1 hjl
   simpa using h
  refine ⟨fun hr=>?_,fun i hi=>?_⟩
  ·exfalso
   cases L with
   | nil=>simp at hlen
   | cons i L=>
    have hi:=hlt i (by simp)
    have hmem:i∈Region.ready .any ops listed:=by
     refine mem_ready.2 ⟨by rw [lem listed hsz i hi];exact (hli i hi).2 (by simp),ops[i],Array.getElem?_eq_getElem hi,fun e he hb=>?_⟩
     have hbit:(ms.getD i 0).testBit e.on=true:=by
      rw [hms i ops[i] (Array.getElem?_eq_getElem hi)]
      exact bit_of_edge he hb
     refine lst e.on (hedge i _ (Array.getElem?_eq_getElem hi) e he hb) fun hm=>?_
     rcases List.mem_cons.1 hm with h|h
     ·have:=hself i (by simp)
      rw [h,this] at hbit;cases hbit
     ·have:=(List.pairwise_cons.1 hpw).1 _ h
      rw [this] at hbit;cases hbit
    rw [hr] at hmem
    simp at hmem
  ·obtain ⟨h0,o,ho,hall⟩:=mem_ready.1 hi
   have hi':=(Array.getElem?_eq_some_iff.1 ho).1
   rw [lem listed hsz i hi'] at h0
   have hiL:=(hli i hi').1 h0
   have hanc:∀ x,(ms.getD i 0).testBit x=true→listed.getD x false=true:=by
    intro x hx
    rw [hms i o ho] at hx
    obtain ⟨e,he,hb,h⟩:=maskOf_bit hx
    have hon:=hall e he hb
    rcases h with rfl|h
    ·exact hon
    ·exact hcl _ hon _ h
   have hnb:∀ x∈t.path,(ms.getD i 0).testBit x=false:=by
    intro x hx
    cases hb:(ms.getD i 0).testBit x with
    | false=>rfl
    | true=>
     have h1:=hanc x hb
     have hxL:=(hpL x).1 hx
     have h2:=(hli x (hlt x hxL)).2 hxL
     rw [h1] at h2;cases h2
   have hfirst:eff i=false∨i∈t.firsts eff:=by
    cases he:eff i with
    | false=>exact .inl rfl
    | true=>
     rcases cmp_iff.1 hcmp i ((hpL i).2 hiL) he with ⟨x,hx,_,hb⟩|h
     ·rw [hnb x hx] at hb;cases hb
     ·exact .inr h
   obtain ⟨t',hadv⟩:=adv_some hwf ((hpL i).2 hiL) hnb hfirst
   obtain ⟨_,hp',hwf'⟩:=adv_path hwf hadv
   have hcg:t'.cmp eff ms=true∧t'.good eff ms=true:=by
    cases he:eff i with
    | false=>exact ⟨adv_cmp he hwf hadv hcmp,adv_good he hwf hadv hgood⟩
    | true=>exact adv_eff he hwf hadv hgood
   have hd':=DT.front ho htame t t' T a w hadv hd
   have rest:∀ T a' w',DT r P ops eff anch Q t' T a' w'→wpAnyIn (FR r) 0 P .any ops Q' fuel (listed.setIfInBounds i true) a' w':=by
    intro T a' w' hdd
    refine ih t' (L.erase i) _ T a' w' (by simpa using hsz) (by rw [List.length_erase_of_mem hiL];omega) (hnd.erase i) (fun x hx=>hlt x (List.mem_of_mem_erase hx)) (fun x=>?_) ?_ ?_ (hpw.sublist (List.erase_sublist)) (fun x hx=>hself x (List.mem_of_mem_erase hx)) hwf' hcg.1 hcg.2 hdd
    ·rw [hp',hpL,hnd.mem_erase_iff];exact And.comm
    ·intro j hj
     by_cases hji:i=j
     ·subst hji
      have hil:i < listed.size:=by omega
      simp [hil,hnd.mem_erase_iff]
     ·rw [getD_set_ne false hji,hli j hj,hnd.mem_erase_iff]
      constructor
      ·intro h;exact ⟨fun e=>hji e.symm,h⟩
      ·intro h;exact h.2
    ·intro k hk j hj
     by_cases hki:i=k
     ·subst hki
      exact getD_set_true (hanc j hj)
     ·rw [getD_set_ne false hki] at hk
      exact getD_set_true (hcl k hk j hj)
   unfold wpOpIn
   rw [ho]
   unfold St at hd'
   simp only [DF] at hd'
   obtain ⟨T1,hT1,o',ho',hd'⟩:=hd'
   obtain rfl:o=o':=by rw [ho] at ho';exact Option.some.inj ho'
   by_cases hw:Region.wanted o (yielded ops a.tmps)=true
   ·rw [if_pos hw] at hd'
    simp only [hw,if_true]
    by_cases he:eff i=true
    ·rw [if_pos he] at hd'
     have h1:=Oper.wpIn_mono (K':=wpAnyIn (FR r) 0 P .any ops Q' fuel (listed.setIfInBounds i true)) (fun a w hh=>rest T1 a w hh.2) hd'
     unfold Oper.wpIn at h1 ⊢
     refine ⟨h1.1,?_⟩
     have h1:=h1.2
     generalize (o.semAt (FR r).round a.eval).run P w=q at h1 ⊢
     cases q with
     | ok x w'=>
      cases x<;>simp only [Oper.uponIn] at h1 ⊢ <;>
       first
        | exact h1
        | exact ⟨h1.1,CallsIn.mono h1.2 (fun e w'' he=>by cases e<;>first|exact he|exact hQp _ _ _ he|(obtain ⟨a0,w0,h0⟩:=he;exact h0.elim))⟩
        | exact ⟨h1.1,RoundIn.mono h1.2 (fun e w'' he=>by cases e<;>first|exact he|exact hQp _ _ _ he|(obtain ⟨a0,w0,h0⟩:=he;exact h0.elim))⟩
     | halt x w'=>cases x<;>simp only [Oper.uponIn] at h1 ⊢<;>first|exact h1|exact hQp _ _ _ h1
    ·rw [if_neg he] at hd'
     obtain ⟨v,hv,hd'⟩:=hd'
     have hrun:=hv w (SubX.refl _ _)
     unfold Oper.wpIn
     refine ⟨fun _ _=>trivial,?_⟩
     rw [Oper.semAt_eq _ _ _ (tame_defer (htame i o ho)),hrun]
     exact rest _ _ _ hd'
   ·rw [if_neg hw] at hd'
    simp only [hw,Bool.false_eq_true,if_false]
    exact ⟨fun _ _=>trivial,rest _ _ _ hd'⟩
end
def topoOK (ms:List Nat):List Nat→Bool
 | []=>true
 | i::l=>l.all (fun j=>!(ms.getD i 0).testBit j&&!(i==j))&&topoOK ms l
theorem topoOK_iff {ms:List Nat}:∀ {l:List Nat},topoOK ms l=true→l.Pairwise (fun i j=>(ms.getD i 0).testBit j=false)∧l.Nodup
 | [],_=>⟨.nil,.nil⟩
 | i::l,h=>by
  simp only [topoOK,Bool.and_eq_true,List.all_eq_true,Bool.not_eq_true'] at h
  obtain ⟨h1,h2⟩:=topoOK_iff h.2
  refine ⟨.cons (fun j hj=>(h.1 j hj).1) h1,.cons (fun j hj hij=>?_) h2⟩
  have:=(h.1 j hj).2
  simp [hij] at this
def treeOK (ops:Array Oper) (eff anch:Nat→Bool) (t:Pl):Bool:=
 let ms:=masks ops.toList
 let L:=t.path
 L.length==ops.size&&(List.range ops.size).all (fun i=>L.contains i) &&
 ((List.range ops.size).all fun i=>match ops[i]? with|some o=>tame o&&(ms.getD i 0==maskOf ms o)&&o.after.toList.all (fun e=>!Region.binds .any e||Nat.blt e.on ops.size)|none=>false) &&
 (L.all fun i=>Nat.blt i ops.size&&!(ms.getD i 0).testBit i) &&
 topoOK ms L&&t.wf ops eff anch ms&&t.cmp eff ms&&t.good eff ms
section
variable {r:Option Nat} {P:Program} {ops:Array Oper}
theorem wp_region_dt {id:Nat} {Q':Exit→Act→World→Prop} {a:Act} {w:World} (hm:P.follows .mixedOrders=true) (t:Pl) (eff anch:Nat→Bool) (T:Nat→Prop)
  (hchk:treeOK ops eff anch t=true) (hQ:∀ x a w,NoExit x a w→Q' x a w)
  (h:DT r P ops eff anch (fun _ a w=>Q' .normal a w) t T a { w with drawn:=w.drawn+1 }):(Code.region id ops true).wpIn (FR r) 0 P Q' a w:=by
 simp only [treeOK,Bool.and_eq_true,List.all_eq_true,beq_iff_eq,List.mem_range] at hchk
 obtain ⟨⟨⟨⟨⟨⟨⟨hlen,hmem⟩,hop⟩,hl⟩,hp⟩,hwf⟩,hcmp⟩,hgood⟩:=hchk
 have hopj:∀ (j:Nat) (o:Oper),ops[j]?=some o→tame o=true∧(masks ops.toList).getD j 0=maskOf (masks ops.toList) o∧(∀ e∈o.after,Region.binds .any e=true→e.on < ops.size):=by
  intro j o ho
  have hj:=(Array.getElem?_eq_some_iff.1 ho).1
  have h:=hop j hj
  rw [ho] at h
  simp only [Bool.and_eq_true,beq_iff_eq,List.all_eq_true] at h
  refine ⟨h.1.1,h.1.2,fun e he hb=>?_⟩
  have:=h.2 e (by simpa using he)
  simp [hb] at this
  exact this
 have hlt:∀ i∈t.path,i < ops.size:=fun i hi=>by
  have:=hl i hi
  simp at this
  exact this.1
 have hmemL:∀ i,i < ops.size→i∈t.path:=fun i hi=>by simpa using hmem i hi
 obtain ⟨hpw,hnd⟩:=topoOK_iff hp
 refine wpIn_region_any hm ?_
 refine DT.any (ms:=masks ops.toList) (fun j o ho=>(hopj j o ho).1) (fun j o ho=>(hopj j o ho).2.1) (fun j o ho=>(hopj j o ho).2.2) Q' (fun _ _ _ h=>h) hQ
  ops.size t t.path _ T a _ (by simp) hlen hnd hlt (fun _=>Iff.rfl) ?_ ?_ hpw (fun i hi=>by
   have:=hl i hi
   simp at this
   simpa using this.2) hwf hcmp hgood h
 ·intro i hi
  simp [hi,hmemL i hi]
 ·intro i hi
  exfalso
  by_cases h:i < ops.size<;>simp [h] at hi
end
section
variable {C:Cx} {Q:Post} {S:SHeap} {M:List MEnt} {e:Env}
theorem JC.drawTreeF {id:Nat} {ops:Array Oper} (n:Nat) (_hid:Nat.beq id n=true) (anch fe L:List Nat) (t:Pl) (hm:C.P.follows .mixedOrders=true)
  (hchk:treeOK ops (Rg.isEff ⟨ops,anch,none,t,fe⟩) (Rg.isAnch ⟨ops,anch,none,t,fe⟩) (ofL L t)=true)
  (h:JO C ⟨ops,anch,none,t,fe⟩ L Q S M e):JC C (.region id ops true) Q S M e:=⟨fun a w hw=>
 wp_region_dt hm (ofL L t) _ _ (Rg.TS ⟨ops,anch,none,t,fe⟩ S) hchk (fun _ _ _ h=>h.elim) (DT_ofL (h.run a _ ⟨hw.env,hw.defers,hw.wd.drew⟩ trivial))⟩
theorem JC.drawN {id:Nat} {ops:Array Oper} (n:Nat) (_hid:Nat.beq id n=true) (L anch:List Nat) (hm:C.P.follows .mixedOrders=true)
  (hchk:regionOK ops (Rg.isEff ⟨ops,anch,none,.nil,[]⟩) (Rg.isAnch ⟨ops,anch,none,.nil,[]⟩) L=true)
  (h:JO C ⟨ops,anch,none,.nil,[]⟩ L Q S M e):JC C (.region id ops true) Q S M e:=⟨fun a w hw=>
 wp_region_df hm L _ _ (Rg.TS ⟨ops,anch,none,.nil,[]⟩ S) hchk (fun _ _ _ h=>h.elim) (h.run a _ ⟨hw.env,hw.defers,hw.wd.drew⟩ trivial)⟩
end
end Go.Dr
namespace Go.Dr
open Go.RowKit
section
variable {C:Cx} {R:Rg} {Q:Post} {S S' S1:SHeap} {M M':List MEnt} {e e':Env} {rest:List Nat}
variable {d:Nat} {ty:TypeId} {pos:String} {aft:Array Edge} {g:Option (Nat × Bool)} {an:Bool}
theorem JEff.build0 {α:Type} {T E:TypeId} (rep:Rp α) [hu:Und C.P T (.slice E)] [ht:TyR C.P E rep] (hdN:Nat.blt d C.N=true)
  (k:∀ b,JO C R rest Q S (.row C.w0.heap.size E rep.sz (.slice (some ⟨b,0,none⟩) 0 0) 0 []::M) ((d,.slice (some ⟨b,0,none⟩) 0 0)::e)):JEff C R ⟨some d,.buildSlice T 0 #[],ty,pos,aft,g⟩ rest Q S M e:=
 JEff.ofRun rfl rfl hdN fun a w hw=>by
  have hrun:(Instr.buildSlice T 0 #[]).run C.P w=.ok (.slice (some ⟨w.heap.size,0,none⟩) 0 0) (w.alloc (.cells #[] E)):=by
   simp [Instr.buildSlice,run_underlying hu.h,run_sizeOf ht,Instr.fill,newRow]
   rw [show Array.range 0=#[] from rfl,Array.map_empty]
  have hw2:=(hw.wd.alloc (.cells #[] E)).toRow (n:=0) (c:=0) (sz:=rep.sz) hw.wd.size (Nat.le_refl _) (by simp [maxLen]) (by simp)
  rw [Nat.zero_mul,List.take_zero] at hw2
  exact ⟨_,_,by simp only [execOp,List.map_toArray,List.map_nil,Sem.run_bind,hrun,Result.andThen_ok,Sem.run_pure],subX_alloc _ _ _,by simp,S,_,hw2,SHeap.le.refl _,k _⟩
end
section
variable {C:Cx} {R:Rg} {Q:Post} {S:SHeap} {M:List MEnt} {e:Env} {rest:List Nat}
variable {d:Nat} {ty:TypeId} {pos:String} {aft:Array Edge} {g:Option (Nat × Bool)}
end
def clV (c:Clause):Value:=.agg #[.int .i64 c.kind,.int .i64 c.a,.int .i64 c.b,.int .i64 c.by_]
theorem ResV.clause {C:Cx} {S:SHeap} {M:List MEnt} {e:Env} {p b:Nat} {T t:TypeId} {fr:Nat × Nat} {v:Value} {c:Clause} {S1:SHeap} (h:Env.get? e p=some (.pointer (some ⟨b,0,none⟩))) (hM:MEnt.blk b (.cells v.cells t fr)∈M) (hv:rClause.V S1 v c) [ht:TyR C.P T rClause]:ResV C S M e (.cell p T) (clV c):=by
 obtain ⟨rfl,_⟩:=V_clause.1 hv
 exact ResV.cellM (rep:=rClause) (mid:=[.int .i64 c.kind,.int .i64 c.a,.int .i64 c.b,.int .i64 c.by_]) h hM (by rfl) (by rfl)
theorem V_clV {S:SHeap} {c:Clause} (h:Rng c.kind∧Rng c.a∧Rng c.b∧Rng c.by_):rClause.V S (clV c) c:=V_clause.2 ⟨rfl,h⟩
section
variable {C:Cx} {R:Rg} {Q:Post} {S:SHeap} {M:List MEnt} {e:Env} {rest:List Nat}
variable {d:Nat} {ty:TypeId} {pos:String} {aft:Array Edge} {g:Option (Nat × Bool)}
end
end Go.Dr
namespace Go.Dr
open Go.RowKit
def cellsR (vs tl:List Value):Array Value:=(flatCells vs++tl).toArray
theorem allV.set {α:Type} {rep:Rp α} {S:SHeap} {v:Value} {x:α} (hv:rep.V S v x) (hn:rep.agg=false→∀ cs,v≠.agg cs):∀ {vs:List Value} {xs:List α} (i:Nat),allV rep S vs xs→allV rep S (vs.set i v) (xs.set i x)
 | [],[],_,_=>trivial
 | _::_,_::_,0,h=>⟨⟨hv,hn⟩,h.2⟩
 | _::_,_::_,i+1,h=>⟨h.1,allV.set hv hn i h.2⟩
theorem flat_take {n:Nat}:∀ {vs:List Value} (_:∀ v∈vs,v.cells.size=n) (i:Nat),i≤vs.length→(flatCells (vs.take i)).length=i*n
 | _,h,i,hi=>by
  rw [flat_len (n:=n) (fun v hv=>h v (List.mem_of_mem_take hv)),List.length_take,Nat.min_eq_left hi]
section
variable {C:Cx} {R:Rg} {Q:Post} {S S' S1:SHeap} {M M':List MEnt} {e e':Env} {rest:List Nat}
variable {d:Nat} {ty:TypeId} {pos:String} {aft:Array Edge} {g:Option (Nat × Bool)} {an:Bool}
theorem Wd.rowBlkR {w0 w:World} {B0:List Nat} {S0 S:SHeap} {M:List MEnt} {E sz n c:Nat} {a:Option Addr} {vs:List Value} (h:Wd w0 B0 S0 S (.row w0.heap.size E sz (.slice a n c) n (flatCells vs)::M) w) (hn:0 < n) :
  ∃ g tl,a=some ⟨g,0,none⟩∧w0.heap.size≤g∧n≤c∧Wd w0 B0 S0 S (.blk g (.cells (cellsR vs tl) E (0,0))::M) w:=by
 have h1:w.ownsRow w0.heap.size E sz (.slice a n c) n (flatCells vs):=h.ok (.row w0.heap.size E sz (.slice a n c) n (flatCells vs)) (by simp)
 rcases h1.2 with ⟨_,h2⟩|⟨g,cap,cur,hv,hg,hh,hc,hm,hs,ht⟩
 ·omega
 ·cases hv
  have hcur:cur=cellsR vs (cur.toList.drop (n*sz)):=by
   unfold cellsR
   rw [← ht,List.take_append_drop]
  refine ⟨g,cur.toList.drop (n*sz),rfl,hg,hc,?_⟩
  rw [← hcur]
  have hout:=h.out (.row w0.heap.size E sz (.slice (some ⟨g,0,none⟩) n c) n (flatCells vs)) (by simp) g rfl
  exact { h with
   ok:=fun m hm=>by
    rcases List.mem_cons.1 hm with rfl|hm
    ·exact hh
    ·exact h.ok m (List.mem_cons_of_mem _ hm)
   sep:=List.pairwise_cons.2 ⟨fun m hm k hk=>(List.pairwise_cons.1 h.sep).1 m hm k hk,(List.pairwise_cons.1 h.sep).2⟩
   out:=fun m hm k hk=>by
    rcases List.mem_cons.1 hm with rfl|hm
    ·simp only [MEnt.own,Option.some.injEq] at hk
     subst hk
     exact hout
    ·exact h.out m (List.mem_cons_of_mem _ hm) k hk }
theorem JO.rowBlkR {L:List Nat} {E sz n c:Nat} {a:Option Addr} {vs:List Value} (hn:0 < n) (k:∀ b tl,a=some ⟨b,0,none⟩→C.w0.heap.size≤b→n≤c→JO C R L Q S (.blk b (.cells (cellsR vs tl) E (0,0))::M) e) :
  JO C R L Q S (.row C.w0.heap.size E sz (.slice a n c) n (flatCells vs)::M) e:=⟨fun act w hw ht=>by
 obtain ⟨b,tl,h1,h2,h3,h4⟩:=hw.wd.rowBlkR hn
 exact (k b tl h1 h2 h3).run act w ⟨hw.env,hw.defers,h4⟩ trivial⟩
theorem JC.rowBlkR {x:Code} {E sz n c:Nat} {a:Option Addr} {vs:List Value} (hn:0 < n) (k:∀ b tl,a=some ⟨b,0,none⟩→C.w0.heap.size≤b→n≤c→JC C x Q S (.blk b (.cells (cellsR vs tl) E (0,0))::M) e) :
  JC C x Q S (.row C.w0.heap.size E sz (.slice a n c) n (flatCells vs)::M) e:=⟨fun act w hw=>by
 obtain ⟨b,tl,h1,h2,h3,h4⟩:=hw.wd.rowBlkR hn
 exact (k b tl h1 h2 h3).run act w ⟨hw.env,hw.defers,h4⟩⟩
theorem JPure.indexRR {α:Type} {T E:TypeId} {n c b off:Nat} {x y:Operand} {k':IntKind} {i:Int} (rep:Rp α) (hx:ev e x=some (.slice (some ⟨b,off,none⟩) n c)) (hy:ev e y=some (.int k' i))
  [hu:Und C.P T (.slice E)] [ht:TyR C.P E rep] (hdN:Nat.blt d C.N=true) (h0:0≤i) (hlt:i < n)
  (k:JO C R rest Q S M ((d,.pointer (some ⟨b,off+i.toNat*rep.sz,none⟩))::e)):JPure C R an ⟨some d,.indexAddr T x y,ty,pos,aft,g⟩ rest Q S M e:=by
 refine JPure.of rfl hdN (fun a w' h=>?_) k
 rw [← addr_add]
 simp [execOp,h.eval hx,h.eval hy,Instr.indexAt,asIntOf,run_underlying hu.h,run_sizeOf ht,h0,hlt]
theorem JEff.storeR {α:Type} {T t:TypeId} {x y:Operand} {b i:Nat} {vs tl:List Value} {xs:List α} {v:Value} {rep:Rp α} {x0:α} {Mr:List MEnt} (hx:ev e x=some (.pointer (some ⟨b,i*rep.sz,none⟩))) (hy:ev e y=some v) (hvs:allV rep S vs xs) (hv:rep.V S v x0) (hn:rep.agg=false→∀ cs,v≠.agg cs) [ht:TyR C.P T rep]
  (hM:(MEnt.blk b (.cells (cellsR vs tl) t (0,0))::Mr).Perm M) (hi:i < xs.length) (hT:∀ l,R.T=some l→b∈l)
  (k:allV rep S (vs.set i v) (xs.set i x0)→JO C R rest Q S (.blk b (.cells (cellsR (vs.set i v) tl) t (0,0))::Mr) e):JEff C R ⟨none,.store T x y,ty,pos,aft,g⟩ rest Q S M e:=by
 have hsz:∀ u∈vs,u.cells.size=rep.sz:=fun u hu=>(hvs.size u hu).1
 have hlen:=hvs.length
 have hvc:v.cells.size=rep.sz:=by have:=rep.len (hv.cells hn);simpa using this
 have hil:i < vs.length:=by omega
 obtain ⟨z,hz⟩:∃ z,vs[i]?=some z:=⟨_,List.getElem?_eq_getElem hil⟩
 obtain ⟨h1,h2⟩:=flat_set vs i z v hz (by rw [hvc,hsz z (List.mem_of_getElem? hz)])
 have hoff:(flatCells (vs.take i)).length=i*rep.sz:=flat_take hsz i (by omega)
 rw [hoff] at h1 h2
 refine JEff.store hx hy hv hn hM (by unfold cellsR;simp;omega) hT ?_
 have hfin:((cellsR vs tl).toList.take (i*rep.sz)++v.cells.toList++(cellsR vs tl).toList.drop (i*rep.sz+rep.sz)).toArray=cellsR (vs.set i v) tl:=by
  unfold cellsR
  congr 1
  rw [List.toList_toArray,List.take_append_of_le_length (by omega),List.drop_append_of_le_length (by omega),← h1,hvc]
  simp
 rw [hfin]
 exact k (hvs.set hv hn i)
theorem JPure.loadR {α:Type} {i j:Nat} {T t:TypeId} {x:Operand} {b:Nat} {vs tl:List Value} {xs:List α} {fr:Nat × Nat} {rep:Rp α} {x0:α} (hx:ev e x=some (.pointer (some ⟨b,j*rep.sz,none⟩))) (hM:MEnt.blk b (.cells (cellsR vs tl) t fr)∈M) (hvs:allV rep S vs xs) (hz:xs[j]?=some x0)
  [ht:TyR C.P T rep] (hst:R.isAnch i=true∨∃ l,R.T=some l∧b∉l) (hdN:Nat.blt d C.N=true)
  (k:∀ v,rep.V S v x0→JO C R rest Q S M ((d,v)::e)):JPure C R (R.isAnch i) ⟨some d,.load T x,ty,pos,aft,g⟩ rest Q S M e:=by
 obtain ⟨pre,mid,post,e1,hl,hr⟩:=hvs.at_ j x0 hz
 have hml:=rep.len hr
 refine JPure.loadM (mid:=mid) (rep:=rep) (x0:=x0) hx hM ?_ hr hst hdN (k _ (Rp.val_V hr))
 unfold cellsR
 rw [e1,← hl]
 simp [← hml]
theorem blk_sliceR {α:Type} {rep:Rp α} {S0 S S':SHeap} {b n c bt:Nat} {E:TypeId} {vs tl:List Value} {xs:List α} (hvs:allV rep S0 vs xs) (hl:S0.le S') (hs:S' b=some (.cells (cellsR vs tl) E (0,0))) (hn:n=xs.length) (hc:n≤c) (hb:n*bt≤big) (hb1:n≤big) :
  (rSlice bt rep).V S' (.slice (some ⟨b,0,none⟩) n c) xs:=
 slice_of_block hl hs hvs hn hc hb hb1 (by
  have hlen:=hvs.length
  have hfl:=flat_len (n:=rep.sz) (vs:=vs) (fun v hv=>(hvs.size v hv).1)
  have hnn:n*rep.sz=vs.length*rep.sz:=by rw [hn,hlen]
  unfold cellsR
  rw [List.toList_toArray,List.take_append_of_le_length (by rw [hfl];omega),List.take_of_length_le (by rw [hfl];omega)])
theorem JX.freezeR {α:Type} {x1:Exit} {rep:Rp α} {b n c bt:Nat} {t:TypeId} {vs tl:List Value} {xs:List α} (hvs:allV rep S vs xs) (hn:n=xs.length) (hc:n≤c) (hbt:n*bt≤big) (hb1:n≤big) (hb:C.w0.heap.size≤b)
  (k:∀ S',S.le S'→(rSlice bt rep).V S' (.slice (some ⟨b,0,none⟩) n c) xs→JX C x1 Q S' M e):JX C x1 Q S (.blk b (.cells (cellsR vs tl) t)::M) e:=
 JX.freeze hb fun S' hl hs=>k S' hl (blk_sliceR (S:=S) hvs hl hs hn hc hbt hb1)
end
section
variable {C:Cx} {R:Rg} {Q:Post} {S S' S1:SHeap} {M M':List MEnt} {e e':Env} {rest:List Nat}
variable {d:Nat} {ty:TypeId} {pos:String} {aft:Array Edge} {g:Option (Nat × Bool)} {an:Bool}
theorem JPure.eqNil {T t' E:TypeId} {x y:Operand} {a:Option Addr} {n c n' c':Nat} (hx:ev e x=some (.slice a n c)) (hy:ev e y=some (.slice none n' c')) [hu:Und C.P T (.slice E)] (hdN:Nat.blt d C.N=true)
  (k:JO C R rest Q S M ((d,.bool a.isNone)::e)):JPure C R an ⟨some d,.binOp .eql T x y t',ty,pos,aft,g⟩ rest Q S M e:=
 JPure.of rfl hdN (fun act w' h=>by
  simp only [execOp,h.eval hx,h.eval hy,eqGuard_at_slice,pure_bind,Sem.run_bind,Lib.run_eql_slice_nil w' T E a n c n' c' hu.h,Result.andThen_ok,Sem.run_pure]) k
theorem nil_slice {α:Type} {bt:Nat} {rep:Rp α} {n c:Nat} {xs:List α} (h:(rSlice bt rep).V S (.slice none n c) xs):xs=[]:=by
 obtain ⟨a,c1,h1,_,_,_,hp⟩:=V_slice.1 h
 cases h1
 cases xs with
 | nil=>rfl
 | cons x xs=>obtain ⟨ad,h,_⟩:=hp 0 x rfl;cases h
theorem Wd.rowBlkB {w0 w:World} {B0:List Nat} {S0 S:SHeap} {M:List MEnt} {base E sz n c:Nat} {a:Option Addr} {vs:List Value} (h:Wd w0 B0 S0 S (.row base E sz (.slice a n c) n (flatCells vs)::M) w) (hn:0 < n) :
  ∃ g tl,a=some ⟨g,0,none⟩∧n≤c∧(cellsR vs tl).size=c*sz∧Wd w0 B0 S0 S (.blk g (.cells (cellsR vs tl) E (0,0))::M) w:=by
 have h1:w.ownsRow base E sz (.slice a n c) n (flatCells vs):=h.ok (.row base E sz (.slice a n c) n (flatCells vs)) (by simp)
 rcases h1.2 with ⟨_,h2⟩|⟨g,cap,cur,hv,hg,hh,hc,hm,hs,ht⟩
 ·omega
 ·cases hv
  have hcur:cur=cellsR vs (cur.toList.drop (n*sz)):=by
   unfold cellsR
   rw [← ht,List.take_append_drop]
  refine ⟨g,cur.toList.drop (n*sz),rfl,hc,by rw [← hcur];exact hs,?_⟩
  rw [← hcur]
  have hout:=h.out (.row base E sz (.slice (some ⟨g,0,none⟩) n c) n (flatCells vs)) (by simp) g rfl
  exact { h with
   ok:=fun m hm=>by
    rcases List.mem_cons.1 hm with rfl|hm
    ·exact hh
    ·exact h.ok m (List.mem_cons_of_mem _ hm)
   sep:=List.pairwise_cons.2 ⟨fun m hm k hk=>(List.pairwise_cons.1 h.sep).1 m hm k hk,(List.pairwise_cons.1 h.sep).2⟩
   out:=fun m hm k hk=>by
    rcases List.mem_cons.1 hm with rfl|hm
    ·simp only [MEnt.own,Option.some.injEq] at hk
     subst hk
     exact hout
    ·exact h.out m (List.mem_cons_of_mem _ hm) k hk }
theorem JC.rowBlkB {x:Code} {base E sz n c:Nat} {a:Option Addr} {vs:List Value} (hn:0 < n) (k:∀ b tl,a=some ⟨b,0,none⟩→n≤c→(cellsR vs tl).size=c*sz→JC C x Q S (.blk b (.cells (cellsR vs tl) E (0,0))::M) e) :
  JC C x Q S (.row base E sz (.slice a n c) n (flatCells vs)::M) e:=⟨fun act w hw=>by
 obtain ⟨b,tl,h1,h3,h5,h4⟩:=hw.wd.rowBlkB hn
 exact (k b tl h1 h3 h5).run act w ⟨hw.env,hw.defers,h4⟩⟩
theorem JO.rowBlkB {L:List Nat} {base E sz n c:Nat} {a:Option Addr} {vs:List Value} (hn:0 < n) (k:∀ b tl,a=some ⟨b,0,none⟩→n≤c→(cellsR vs tl).size=c*sz→JO C R L Q S (.blk b (.cells (cellsR vs tl) E (0,0))::M) e) :
  JO C R L Q S (.row base E sz (.slice a n c) n (flatCells vs)::M) e:=⟨fun act w hw ht=>by
 obtain ⟨b,tl,h1,h3,h5,h4⟩:=hw.wd.rowBlkB hn
 exact (k b tl h1 h3 h5).run act w ⟨hw.env,hw.defers,h4⟩ trivial⟩
end
section
variable {C:Cx} {R:Rg} {Q:Post} {S S' S1:SHeap} {M M':List MEnt} {e e':Env} {rest:List Nat}
variable {d:Nat} {ty:TypeId} {pos:String} {aft:Array Edge} {g:Option (Nat × Bool)} {an:Bool}
theorem JEff.ofRunN {o:Oper} (htame:tame o=true) (hd:o.dst=none)
  (h:∀ a w,C.W S M e a w→∃ v w',(execOp a.eval o).run C.P w=.ok (.value v) w'∧SubX (TE R.TP o) w w' ∧
   ∃ S' M',Wd C.w0 C.B0 C.S0 S' M' w'∧S.le S'∧JO C R rest Q S' M' e):JEff C R o rest Q S M e:=⟨fun a w hw ht=>by
 obtain ⟨v,w',hrun,hs,S',M',hwd,hnew,k⟩:=h a w hw
 unfold Oper.wpIn
 refine ⟨fun _ _=>trivial,?_⟩
 rw [Oper.semAt_eq _ _ _ (tame_defer htame),hrun,Oper.uponIn_value]
 refine ⟨effS hs hw.wd.agree (hwd.agree.mono hnew),?_⟩
 rw [hd]
 exact (k.run _ w' ⟨hw.env,hw.defers,hwd⟩ trivial).shrink hnew⟩
theorem JEff.clear {T E:TypeId} {x:Operand} {b o n c:Nat} {cur:Array Value} {z:Value} {Mr:List MEnt} (hx:ev e x=some (.slice (some ⟨b,o,none⟩) n c)) [hu:Und C.P T (.slice E)] [hz:Zero C.P E z] (hz1:z.cells=#[z]) (ho:z.oneCell'=true) (hn:0 < n)
  (hM:(MEnt.blk b (.cells cur E (0,0))::Mr).Perm M) (hl:o+n≤cur.size) (hT:∀ l,R.T=some l→b∈l)
  (k:∀ cur',JO C R rest Q S (.blk b (.cells cur' E (0,0))::Mr) e):JEff C R ⟨none,.call { callee:=.builtin .clear,args:=#[x],argTypes:=#[T] },ty,pos,aft,g⟩ rest Q S M e:=
 JEff.ofRunN rfl rfl fun a w hw=>by
  have hwd:=hw.wd.perm hM
  have hb:w.heap[b]?=some (.cells cur E (0,0)):=hwd.ok (.blk b (.cells cur E (0,0))) (by simp)
  have hzc:∀ v∈(Builtin.zeroCells z.cells n).toList,v.oneCell'=true:=by
   rw [hz1]
   intro v hv
   simp only [Builtin.zeroCells,Array.toList_map,List.mem_map] at hv
   obtain ⟨j,_,rfl⟩:=hv
   simpa [Nat.mod_one] using ho
  have hzl:(Builtin.zeroCells z.cells n).toList.length=n:=by
   rw [hz1];simp [Builtin.zeroCells]
  have hrun:=run_storeCells_at (P:=C.P) b o E (Builtin.zeroCells z.cells n).toList 0 cur w hb (by rw [hzl];omega) hzc
  obtain ⟨m,rfl⟩:∃ m,n=m+1:=⟨n - 1,by omega⟩
  have hall:∃ cur2,(Builtin.clear_ #[T] ty #[.slice (some ⟨b,o,none⟩) (m+1) c]).run C.P w=.ok (.tuple #[]) (w.setRow b cur2):=⟨_,by
   simp only [Builtin.clear_,List.getElem?_toArray,List.getElem?_cons_zero,Sem.run_bind,run_underlying hu.h,Result.andThen_ok,run_zero hz,hrun,Sem.run_pure];rfl⟩
  obtain ⟨cur2,hall⟩:=hall
  refine ⟨.tuple #[],w.setRow b cur2,?_,?_,S,_,hwd.turn rfl rfl rfl (by simp [World.setRow]) (fun k hk=>setRow_other w b k _ hk) (setRow_at w b _ _ _ _ hb),SHeap.le.refl _,k _⟩
  ·simp only [execOp,resolve,invoke,builtin,Sem.run_bind,Sem.run_pure,Result.andThen_ok,List.map_toArray,List.map_cons,List.map_nil,hw.env.eval hx,hall]
  ·exact subX_put (R:=R) hT (fun k hk=>setRow_other w b k _ hk)
theorem JPure.sliceRaw {α:Type} {T E:TypeId} {x:Operand} {lo hi:Option Operand} {a:Option Addr} {n c:Nat} (rep:Rp α) {l h:Int} (hx:ev e x=some (.slice a n c)) (hlo:bnd e lo 0=some l) (hhi:bnd e hi n=some h)
  [hu:Und C.P T (.slice E)] [ht:TyR C.P E rep] (hdN:Nat.blt d C.N=true) (h0:0≤l) (h1:l≤h) (h2:h≤n) (hnc:n≤c)
  (k:JO C R rest Q S M ((d,.slice (if c=l.toNat then a else a.map (·.add (l.toNat*rep.sz))) (h.toNat - l.toNat) (c - l.toNat))::e)):JPure C R an ⟨some d,.slice T x lo hi none,ty,pos,aft,g⟩ rest Q S M e:=by
 refine JPure.of (v:=.slice (if c=l.toNat then a else a.map (·.add (l.toNat*rep.sz))) (h.toNat - l.toNat) (c - l.toNat)) rfl hdN (fun act w' hh=>?_) k
 have bl:∀ (kk:IntKind) (y:Nat) (code:BoundsCode),l≤(y:Int)→(Instr.sliceBound (.int kk l) y code).run C.P w'=.ok l.toNat w':=fun kk y code hle=>run_sliceBound (P:=C.P) w' kk l y code h0 hle
 have bh:∀ (kk:IntKind) (code:BoundsCode),(Instr.sliceBound (.int kk h) c code).run C.P w'=.ok h.toNat w':=fun kk code=>run_sliceBound (P:=C.P) w' kk h c code (by omega) (by omega)
 have hmain:∀ (vlo vhi:Option Value),(vlo=none∧l=0∨∃ kk,vlo=some (.int kk l))→(vhi=none∧h=n∨∃ kk,vhi=some (.int kk h)) →
   (Instr.slice T (.slice a n c) vlo vhi none).run C.P w'=.ok (.slice (if c=l.toNat then a else a.map (·.add (l.toNat*rep.sz))) (h.toNat - l.toNat) (c - l.toNat)) w':=by
  intro vlo vhi h3 h4
  rcases h3 with ⟨rfl,rfl⟩|⟨kk,rfl⟩<;>rcases h4 with ⟨rfl,rfl⟩|⟨kk',rfl⟩
  ·simp [Instr.slice,run_underlying hu.h,Instr.sliceBounds,run_sizeOf ht]
  ·simp [Instr.slice,run_underlying hu.h,Instr.sliceBounds,run_sizeOf ht,bh]
  ·simp [Instr.slice,run_underlying hu.h,Instr.sliceBounds,run_sizeOf ht,bl _ n _ h1]
  ·simp [Instr.slice,run_underlying hu.h,Instr.sliceBounds,run_sizeOf ht,bh,bl _ _ _ (show l≤((h.toNat:Nat):Int) by omega)]
 have hs:∀ vlo vhi,(Instr.sliceAt T (.slice a n c) vlo vhi none).run C.P w'=(Instr.slice T (.slice a n c) vlo vhi none).run C.P w':=by
  intro vlo vhi
  simp [Instr.sliceAt,run_underlying hu.h]
 have hl1:lo=none∧l=0∨∃ kk y,lo=some y∧act.eval y=.int kk l:=by
  cases lo with
  | none=>left;exact ⟨rfl,by simpa [bnd] using hlo.symm⟩
  | some y=>right;obtain ⟨kk,hk⟩:=bnd_some hh hlo;exact ⟨kk,y,rfl,hk⟩
 have hh1:hi=none∧h=n∨∃ kk y,hi=some y∧act.eval y=.int kk h:=by
  cases hi with
  | none=>left;exact ⟨rfl,by simpa [bnd] using hhi.symm⟩
  | some y=>right;obtain ⟨kk,hk⟩:=bnd_some hh hhi;exact ⟨kk,y,rfl,hk⟩
 have hfin:=hmain (lo.map act.eval) (hi.map act.eval) (by
  rcases hl1 with ⟨rfl,h⟩|⟨kk,y,rfl,h⟩
  ·exact .inl ⟨rfl,h⟩
  ·exact .inr ⟨kk,by simp [h]⟩) (by
  rcases hh1 with ⟨rfl,h⟩|⟨kk,y,rfl,h⟩
  ·exact .inl ⟨rfl,h⟩
  ·exact .inr ⟨kk,by simp [h]⟩)
 simp only [execOp,hh.eval hx,Option.map_none,Sem.run_bind,hs,hfin,Result.andThen_ok,Sem.run_pure]
end
section
variable {C:Cx} {R:Rg} {Q:Post} {S S' S1:SHeap} {M M':List MEnt} {e e':Env} {rest:List Nat}
variable {d:Nat} {ty:TypeId} {pos:String} {aft:Array Edge} {g:Option (Nat × Bool)} {an:Bool}
theorem JPure.sliceBlk {α:Type} {T E:TypeId} {x:Operand} {lo hi:Option Operand} {b o n c:Nat} (rep:Rp α) {l h:Int} (hx:ev e x=some (.slice (some ⟨b,o,none⟩) n c)) (hlo:bnd e lo 0=some l) (hhi:bnd e hi n=some h)
  [hu:Und C.P T (.slice E)] [ht:TyR C.P E rep] (hdN:Nat.blt d C.N=true) (h0:0≤l) (h1:l≤h) (h2:h≤n) (hnc:n≤c) (hlc:l < c)
  (k:JO C R rest Q S M ((d,.slice (some ⟨b,o+l.toNat*rep.sz,none⟩) (h.toNat - l.toNat) (c - l.toNat))::e)):JPure C R an ⟨some d,.slice T x lo hi none,ty,pos,aft,g⟩ rest Q S M e:=by
 refine JPure.sliceRaw rep hx hlo hhi hdN h0 h1 h2 hnc ?_
 have e1:(if c=l.toNat then some (⟨b,o,none⟩:Addr) else (some (⟨b,o,none⟩:Addr)).map (·.add (l.toNat*rep.sz)))=some ⟨b,o+l.toNat*rep.sz,none⟩:=by
  rw [if_neg (by omega),Option.map_some,addr_add]
 rw [e1];exact k
theorem JEff.storeRO {α:Type} {T t:TypeId} {x y:Operand} {b i off:Nat} {vs tl:List Value} {xs:List α} {v:Value} {rep:Rp α} {x0:α} {Mr:List MEnt} (hx:ev e x=some (.pointer (some ⟨b,off,none⟩))) (hoff:off=i*rep.sz) (hy:ev e y=some v) (hvs:allV rep S vs xs) (hv:rep.V S v x0) (hn:rep.agg=false→∀ cs,v≠.agg cs) [ht:TyR C.P T rep]
  (hM:(MEnt.blk b (.cells (cellsR vs tl) t (0,0))::Mr).Perm M) (hi:i < xs.length) (hT:∀ l,R.T=some l→b∈l)
  (k:allV rep S (vs.set i v) (xs.set i x0)→JO C R rest Q S (.blk b (.cells (cellsR (vs.set i v) tl) t (0,0))::Mr) e):JEff C R ⟨none,.store T x y,ty,pos,aft,g⟩ rest Q S M e:=by
 subst hoff;exact JEff.storeR hx hy hvs hv hn hM hi hT k
theorem JPure.loadRO {α:Type} {i j off:Nat} {T t:TypeId} {x:Operand} {b:Nat} {vs tl:List Value} {xs:List α} {fr:Nat × Nat} {rep:Rp α} {x0:α} (hx:ev e x=some (.pointer (some ⟨b,off,none⟩))) (hoff:off=j*rep.sz) (hM:MEnt.blk b (.cells (cellsR vs tl) t fr)∈M) (hvs:allV rep S vs xs) (hz:xs[j]?=some x0)
  [ht:TyR C.P T rep] (hst:R.isAnch i=true∨∃ l,R.T=some l∧b∉l) (hdN:Nat.blt d C.N=true)
  (k:∀ v,rep.V S v x0→JO C R rest Q S M ((d,v)::e)):JPure C R (R.isAnch i) ⟨some d,.load T x,ty,pos,aft,g⟩ rest Q S M e:=by
 subst hoff;exact JPure.loadR hx hM hvs hz hst hdN k
theorem JPure.loadRT {i j off:Nat} {T t:TypeId} {x:Operand} {b:Nat} {vs tl:List Value} {xs:List ByteArray} {fr:Nat × Nat} {x0:ByteArray} (hx:ev e x=some (.pointer (some ⟨b,off,none⟩))) (hoff:off=j) (hM:MEnt.blk b (.cells (cellsR vs tl) t fr)∈M) (hvs:allV rStr S vs xs) (hz:xs[j]?=some x0)
  [ht:TyR C.P T rStr] (hst:R.isAnch i=true∨∃ l,R.T=some l∧b∉l) (hdN:Nat.blt d C.N=true)
  (k:x0.size≤big→JO C R rest Q S M ((d,.string x0)::e)):JPure C R (R.isAnch i) ⟨some d,.load T x,ty,pos,aft,g⟩ rest Q S M e:=
 JPure.loadRO (rep:=rStr) (j:=j) hx (by rw [hoff];show j=j*1;omega) hM hvs hz hst hdN (fun v hv=>by obtain ⟨rfl,h⟩:=V_str.1 hv;exact k h)
end
theorem JX.newRow {C:Cx} {x:Exit} {Q:Post} {S:SHeap} {M:List MEnt} {e:Env} (E:TypeId) (sz:Nat) (k:JX C x Q S (.row C.w0.heap.size E sz (.slice none 0 0) 0 []::M) e):JX C x Q S M e:=⟨fun a w hw=>k.run a w ⟨hw.env,hw.defers,hw.wd.newRow E sz⟩⟩
theorem JO.rowCap {C:Cx} {R:Rg} {L:List Nat} {Q:Post} {S:SHeap} {M:List MEnt} {e:Env} {base E sz n c:Nat} {a:Option Addr} {xs:List Value} (k:n≤c→JO C R L Q S (.row base E sz (.slice a n c) n xs::M) e):JO C R L Q S (.row base E sz (.slice a n c) n xs::M) e:=⟨fun act w hw ht=>by
 have h1:w.ownsRow base E sz (.slice a n c) n xs:=hw.wd.ok (.row base E sz (.slice a n c) n xs) (by simp)
 refine (k ?_).run act w hw ht
 rcases h1.2 with ⟨h,h2⟩|⟨g,cap,cur,h,_,_,hc,_⟩
 ·cases h;exact Nat.le_refl _
 ·cases h;exact hc⟩
end Go.Dr
