/- Part 3 of the rules and of the walks that the proofs of this seat rest on; no condition. -/
import Derived.Test.YtdidkjghemcipaaGreatA01
import Derived.RangeFuncFrom
import Derived.RangeFuncLeaves
import Derived.Maps.RangeRun
import Derived.MapKept
import Derived.Laws.Build
import Derived.WideLaws
import Derived.Test.YtdidkjghemcipaaGreatProg
import Derived.KernelRfl
set_option linter.unusedVariables false
set_option linter.unusedSimpArgs false
namespace Go.Dr
set_option linter.unusedSimpArgs false
set_option linter.unusedVariables false
def YFn (P : Program) (L : Nat) (args : Array Value) (S : SHeap) (M : List MEnt) (Post : SHeap → List MEnt → Prop) : Prop :=
  ∀ w, Agree S w → (∀ m ∈ M, m.ok w) → M.Pairwise MSep → (∀ m ∈ M, ∀ b, m.own = some b → S b = none) →
    YieldAt (FR none) 0 P L args w fun e w' => e = .returned (.bool true) ∧ ∃ S' M', Wd w (M.filterMap MEnt.own) S S' M' w' ∧ Post S' M'
def Iter {α : Type} (P : Program) (gf : FuncId) (lb : Array Value) (rep : Rp α) (S : SHeap) (xs : List α) : Prop :=
  ∀ (L : Nat) (J : Nat → SHeap → List MEnt → Prop) (S1 : SHeap) (M1 : List MEnt), S.le S1 → J 0 S1 M1 →
    (∀ k x v S' M', S1.le S' → xs[k]? = some x → rep.V S' v x → J k S' M' → YFn P L #[v] S' M' (J (k + 1))) →
    Fn P gf (#[.func (.yield L) #[] #[]] ++ lb) S1 M1 (fun _ S' M' => J xs.length S' M')
def IterS {α : Type} (P : Program) (gf : FuncId) (lb : Array Value) (rep : Rp α) (S : SHeap) (Sx : List α → Prop) : Prop :=
  ∀ (L : Nat) (J : List α → SHeap → List MEnt → Prop) (S1 : SHeap) (M1 : List MEnt), S.le S1 → J [] S1 M1 →
    (∀ pre x v S' M', S1.le S' → (∃ xs, Sx xs ∧ pre ++ [x] <+: xs) → rep.V S' v x → J pre S' M' → YFn P L #[v] S' M' (J (pre ++ [x]))) →
    Fn P gf (#[.func (.yield L) #[] #[]] ++ lb) S1 M1 (fun _ S' M' => ∃ xs, Sx xs ∧ J xs S' M')
theorem IterS.mono {α : Type} {P : Program} {gf : FuncId} {lb : Array Value} {rep : Rp α} {S S' : SHeap} {Sx : List α → Prop} (h : IterS P gf lb rep S Sx) (hl : S.le S') : IterS P gf lb rep S' Sx :=
  fun L J S1 M1 h1 h0 hy => h L J S1 M1 (hl.trans h1) h0 hy
theorem Iter.mono {α : Type} {P : Program} {gf : FuncId} {lb : Array Value} {rep : Rp α} {S S' : SHeap} {xs : List α} (h : Iter P gf lb rep S xs) (hl : S.le S') : Iter P gf lb rep S' xs :=
  fun L J S1 M1 h1 h0 hy => h L J S1 M1 (hl.trans h1) h0 hy
section
variable {C : Cx} {R : Rg} {Q : Post} {S S' : SHeap} {M M' : List MEnt} {e : Env} {rest : List Nat}
variable {d : Nat} {ty : TypeId} {pos : String} {aft : Array Edge} {g : Option (Nat × Bool)}
theorem JEff.ofRound {L : Nat} {vs : Array Value} {o : Oper} (hr : C.r = none) (hsem : ∀ a w, C.W S M e a w → (execOp a.eval o).run C.P w = (Instr.yield L vs).run C.P w) (htame : (tame o && !mildOp o.op) = true)
    (hc : ∀ a w, C.W S M e a w → YieldAt (FR none) 0 C.P L vs w fun e' w' => ∃ v, e' = .returned v ∧ SubX R.TP w w' ∧ ∃ S', S.le S' ∧ Agree S' w' ∧ C.DF R Q S' rest (a.put o.dst v) w') : JEff C R o rest Q S M e := ⟨fun a w hw ht => by
  simp only [Bool.and_eq_true, Bool.not_eq_true'] at htame
  obtain ⟨fn, tmps, assign, body, hy, hR⟩ := hc a w hw
  unfold Oper.wpIn
  refine ⟨fun _ _ => trivial, ?_⟩
  rw [Oper.semAt_eq _ _ _ (tame_defer htame.1), hsem a w hw, hy, Oper.uponIn_round]
  refine ⟨fun h => by simp [FR] at h, ?_⟩
  rw [hr]
  refine RoundIn.mono hR fun e' w' ⟨v, he, hs, S', hl, hg, hd⟩ => ?_
  subst he
  have hte : TE R.TP o = R.TP := by unfold TE; rw [htame.2]; rfl
  exact ⟨effS (by rw [hte]; exact hs) hw.wd.agree (hg.mono hl), hd.shrink hl⟩⟩
theorem sem_yield {P : Program} {N : Nat} {e : Env} {x : Operand} {L : Nat} {args : Array Operand} {ts : Array TypeId} {vs : List Value} (hx : ev e x = some (.func (.yield L) #[] #[])) (hargs : evs e args.toList = some vs) (dst : Option Nat) (ty : TypeId) (pos : String) (aft : Array Edge) (g : Option (Nat × Bool)) :
    ∀ a w, Holds N e a → (execOp a.eval ⟨dst, .call { callee := .value x, args, argTypes := ts }, ty, pos, aft, g⟩).run P w = (Instr.yield L vs.toArray).run P w := by
  intro a w h
  have h1 : args.map a.eval = vs.toArray := by
    have := h.evals hargs
    rw [← this, ← Array.toList_map, Array.toArray_toList]
  simp [execOp, resolve, h.eval hx, Deferred.ofValue, invoke, h1]
theorem JEff.yield {L : Nat} {x : Operand} {args : Array Operand} {ts : Array TypeId} {vs : List Value} {Mc Mr : List MEnt} {PP : SHeap → List MEnt → Prop} (hr : C.r = none) (hx : ev e x = some (.func (.yield L) #[] #[])) (hargs : evs e args.toList = some vs)
    (hM : (Mc ++ Mr).Perm M) (hmw : MayWrite R Mc) (hf : YFn C.P L vs.toArray S Mc PP) (hdN : Nat.blt d C.N = true) (k : ∀ S' M', S.le S' → PP S' M' → JO C R rest Q S' (M' ++ Mr) ((d, .bool true) :: e)) :
    JEff C R ⟨some d, .call { callee := .value x, args, argTypes := ts }, ty, pos, aft, g⟩ rest Q S M e :=
  JEff.ofRound hr (fun a w hw => sem_yield hx hargs _ _ _ _ _ a w hw.env) rfl fun a w hw => by
    have hwd := hw.wd.perm hM
    have hsep := (List.pairwise_append.1 hwd.sep).1
    obtain ⟨fn, tmps, assign, body, hy, hR⟩ := hf w hwd.agree (fun m hm => hwd.ok m (by simp [hm])) hsep (fun m hm b hb => (hwd.out m (by simp [hm]) b hb).1)
    refine ⟨fn, tmps, assign, body, hy, RoundIn.mono hR ?_⟩
    rintro e' w' ⟨rfl, S', M', hw', hp⟩
    refine ⟨_, rfl, ?_, S', hw'.le, hw'.agree, ?_⟩
    · intro b o' hb hbo
      have hlt := (Array.getElem?_eq_some_iff.1 hbo).1
      rw [hw'.keep b hlt fun hmem => ?_]
      · exact hbo
      · apply hb
        unfold Rg.TP
        cases hl : R.T with
        | none => trivial
        | some l =>
          obtain ⟨m, hm, hmb⟩ := List.mem_filterMap.1 hmem
          exact hmw l hl m hm b hmb
    · exact (k S' M' hw'.le hp).run _ w' ⟨hw.env.put hdN _, hw.defers, hwd.call hw'⟩ trivial
theorem JPure.indexV {an : Bool} {T E : TypeId} {n : Nat} {x y : Operand} {xs : List Int} {k' : IntKind} {i : Int} {z : Int} (hx : ev e x = some (.agg (ints xs))) (hy : ev e y = some (.int k' i))
    [hu : Und C.P T (.array n E)] [ht : TyR C.P E rI64] (hdN : Nat.blt d C.N = true) (h0 : 0 ≤ i) (hn : xs.length = n) (hz : xs[i.toNat]? = some z)
    (k : JO C R rest Q S M ((d, .int .i64 z) :: e)) : JPure C R an ⟨some d, .index T x y, ty, pos, aft, g⟩ rest Q S M e := by
  have hlt : i.toNat < xs.length := (List.getElem?_eq_some_iff.1 hz).1
  have hv := (List.getElem?_eq_some_iff.1 hz).2
  refine JPure.of rfl hdN (fun a w' h => ?_) k
  have h1 : (ints xs)[i.toNat]? = some (.int .i64 z) := by simp [ints, hz]
  have h2 : i < (n : Int) := by omega
  have hs : (rI64 : Rp Int).sz = 1 := rfl
  have hagg : (isAgg E).run C.P w' = .ok false w' := run_isAgg ht w'
  simp [execOp, h.eval hx, h.eval hy, Instr.index, asIntOf, run_underlying hu.h, h0, h1, h2, run_sizeOf ht, hs, part, hagg]
theorem JC.perm {c : Code} (hM : M'.Perm M) (k : JC C c Q S M' e) : JC C c Q S M e := ⟨fun a w hw => k.run a w ⟨hw.env, hw.defers, hw.wd.perm hM⟩⟩
theorem JX.perm {x : Exit} (hM : M'.Perm M) (k : JX C x Q S M' e) : JX C x Q S M e := ⟨fun a w hw => k.run a w ⟨hw.env, hw.defers, hw.wd.perm hM⟩⟩
/-! ### The caller -/
def BeginPost (P : Program) (L : Nat) (body : Code) (Q : Post) : Post :=
  Exit.then (fun a₁ w₁ => ∃ w₂, (Instr.beginRound L).run P w₁ = .ok () w₂ ∧ body.wpIn (FR (some L)) 0 P Q a₁ w₂) (fun _ _ _ => False)
def RoundEnd (w1 : World) (B1 : List Nat) (S1 : SHeap) (L K : Nat) (Rc : Loop) (I : SHeap → List MEnt → Prop) (e : Ending) (w : World) : Prop :=
  e = .returned (.bool true) ∧ ∃ S' M', Wd w1 B1 S1 S' (.blk L (.loop Rc) :: .blk K (.deferred (some [])) :: M') w ∧ I S' M'
theorem Cx.W.turn {b : Nat} {o o' : Obj} {a : Act} {w : World} (h : C.W S (.blk b o :: M) e a w) : C.W S (.blk b o' :: M) e a (w.putObj b o') := by
  have hb := h.wd.ok (.blk b o) (by simp)
  have hlt := (Array.getElem?_eq_some_iff.1 (show w.heap[b]? = some o from hb)).1
  exact ⟨h.env, h.defers, h.wd.turn rfl rfl rfl (by simp) (fun k hk => World.putObj_heap_other hk) (World.putObj_heap_same hlt)⟩
theorem JX.begin {L : Nat} {Rc : Loop} {body : Code} (hr : C.r = some L) (hR : Rc.state = .ready) (k : JC C body Q S (.blk L (.loop { Rc with state := .busy }) :: M) e) :
    JX C .normal (BeginPost C.P L body Q) S (.blk L (.loop Rc) :: M) e := ⟨fun a w hw => by
  have hL : w.heap[L]? = some (.loop Rc) := hw.wd.ok _ List.mem_cons_self
  refine ⟨_, run_beginRound hL hR, ?_⟩
  have := k.run a _ hw.turn
  rw [hr] at this
  exact this⟩
theorem JX.endRound {w1 : World} {B1 : List Nat} {S1 : SHeap} {P : Program} {r : Option Nat} {N : Nat} {D : List Deferred} {L K : Nat} {Rc : Loop} {I : SHeap → List MEnt → Prop} (hR : Rc.state = .ready) (hp : Rc.pending = none) (hM : (.blk L (.loop { Rc with state := .busy }) :: .blk K (.deferred (some [])) :: M').Perm M) (hI : I S M') :
    JX ⟨P, r, N, D, w1, B1, S1⟩ .normal (roundPost P L (RoundEnd w1 B1 S1 L K Rc I)) S M e := ⟨fun a w hw => by
  have hw' : Cx.W ⟨P, r, N, D, w1, B1, S1⟩ S (.blk L (.loop { Rc with state := .busy }) :: .blk K (.deferred (some [])) :: M') e a w := ⟨hw.env, hw.defers, hw.wd.perm hM⟩
  have hL : w.heap[L]? = some (.loop { Rc with state := .busy }) := hw'.wd.ok _ List.mem_cons_self
  refine ⟨_, _, run_endRound none hL, rfl, S, M', ?_, hI⟩
  have h2 := hw'.turn (o' := .loop Rc)
  have he : ({ ({ Rc with state := .busy } : Loop) with state := if (none : Option Code).isNone then .ready else .done, pending := none } : Loop) = Rc := by
    cases Rc; simp_all
  rw [he]
  exact h2.wd⟩
theorem JC.rangeFunc {α : Type} {rep : Rp α} {xs : List α} {x : Operand} {p : Nat} {assign body : Code} {gf : FuncId} {lb : Array Value} (I : Nat → SHeap → List MEnt → Prop)
    (hr : C.r = none) (hg : ev e x = some (.func (.func gf) #[] lb)) (hE : Ent C.P gf) (hpN : Nat.blt p C.N = true) (hit : Iter C.P gf lb rep S xs) (h0 : I 0 S M)
    (hbody : ∀ w1 B1 K L Rc k y v S' M', Rc.state = .ready → Rc.pending = none → S.le S' → xs[k]? = some y → rep.V S' v y → I k S' M' →
      JC ⟨C.P, some L, C.N, [], w1, B1, S'⟩ assign (BeginPost C.P L body (roundPost C.P L (RoundEnd w1 B1 S' L K Rc (I (k + 1))))) S' (.blk L (.loop Rc) :: .blk K (.deferred (some [])) :: M') ((p, v) :: e))
    (hdone : ∀ K S' M', S.le S' → I xs.length S' M' → JX { C with D := { target := .collected K, args := #[] } :: C.D } .normal Q S' (.blk K (.deferred (some [])) :: M') e) :
    JC C (.rangeFunc x #[p] assign body) Q S M e := ⟨fun a w hw => by
  refine wpIn_rangeFunc ?_
  intro fn hfn
  have hev : a.eval x = .func (.func gf) #[] lb := hw.env.eval hg
  obtain ⟨R0, hR0⟩ : ∃ R0 : Loop, R0 = { state := .ready, pending := none, fn, tmps := a.tmps, params := #[p], assign, body, defers := w.heap.size } := ⟨_, rfl⟩
  obtain ⟨W1, hW1⟩ : ∃ W1, (w.alloc (.deferred (some []))).alloc (.loop R0) = W1 := ⟨_, rfl⟩
  have hwd1 : Wd C.w0 C.B0 C.S0 S (.blk (w.heap.size + 1) (.loop R0) :: .blk w.heap.size (.deferred (some [])) :: M) W1 := by
    have h := (hw.wd.alloc (.deferred (some []))).alloc (.loop R0)
    rw [hW1, World.size_alloc] at h
    exact h
  refine ⟨w.heap.size + 1, [{ target := .collected w.heap.size, args := #[] }], W1, { target := .fn (.func gf) lb, args := #[.func (.yield (w.heap.size + 1)) #[] #[]] }, W1, gf,
    #[.func (.yield (w.heap.size + 1)) #[] #[]] ++ lb, W1, ?_, ?_, fun _ _ => trivial, ?_, fun h => by simp [FR] at h, ?_⟩
  · rw [← hW1, hR0]
    have hro : (FR C.r).round = none := hr
    rw [hro]
    exact run_enterLoop_outer _ _ _ _ _
  · simp only [resolve, hev]
    simp [go_sem]
  · have := run_enter hE (#[.func (.yield (w.heap.size + 1)) #[] #[]] ++ lb) W1
    simp [invoke, go_sem]
    simpa using this
  · have hF := hit (w.heap.size + 1) (fun k S' M' => ∃ M'', M' = .blk (w.heap.size + 1) (.loop R0) :: .blk w.heap.size (.deferred (some [])) :: M'' ∧ I k S' M'') S _ (SHeap.le.refl _) ⟨M, rfl, h0⟩ (by
      rintro k y v S' M' hl hy hv ⟨M'', rfl, hI⟩ w' hg' hok' hsep' hout'
      have hL : w'.heap[w.heap.size + 1]? = some (.loop R0) := hok' _ List.mem_cons_self
      have hyr := run_yield (P := C.P) (args := #[v]) hL (by rw [hR0]; rfl)
      refine ⟨fn, _, assign, body, by rw [hyr, hR0], ?_⟩
      refine RoundIn.mono (roundIn_of_wpIn (R := RoundEnd w' _ S' (w.heap.size + 1) w.heap.size R0 (I (k + 1))) trivial ((hbody w' _ w.heap.size (w.heap.size + 1) R0 k y v S' M'' (by rw [hR0]) (by rw [hR0]) hl hy hv hI).run _ w' ⟨?_, rfl, Wd.start hg' hok' hsep' hout'⟩)) ?_
      · have := hw.env.put hpN v
        rw [hR0]
        exact ⟨by simpa [Act.put] using this.1, by simpa [Act.put] using this.2⟩
      · rintro e2 w2 ⟨rfl, S2, M2, hwd2, hI2⟩
        exact ⟨rfl, S2, _, hwd2, M2, rfl, hI2⟩)
    have hc := hF W1 hwd1.agree hwd1.ok hwd1.sep (fun m hm b hb => (hwd1.out m hm b hb).1)
    have h3 : CallsIn (FR C.r) 0 C.P gf (#[.func (.yield (w.heap.size + 1)) #[] #[]] ++ lb) W1 _ := (callsIn_wide (n := 0)).2 hc
    refine CallsIn.mono h3 ?_
    rintro e3 w3 ⟨v3, S3, M3, rfl, hwd3, M4, rfl, hI4⟩
    have hwc := Wd.call (Mr := []) (by simpa using hwd1) hwd3
    have hL3 : w3.heap[w.heap.size + 1]? = some (.loop R0) := hwd3.ok _ List.mem_cons_self
    refine ⟨none, w3.putObj (w.heap.size + 1) (.loop { R0 with state := .exhausted }), ?_, ?_⟩
    · have := run_endLoop (P := C.P) hL3 (by rw [hR0]; simp)
      have hp0 : R0.pending = none := by rw [hR0]
      rw [this, hp0]
    · have hW3 : Cx.W { C with D := { target := .collected w.heap.size, args := #[] } :: C.D } S3 (.blk (w.heap.size + 1) (.loop R0) :: .blk w.heap.size (.deferred (some [])) :: M4) e { a with defers := [{ target := .collected w.heap.size, args := #[] }] ++ a.defers } w3 :=
        ⟨⟨hw.env.1, hw.env.2⟩, by rw [hw.defers]; rfl, by simpa using hwc⟩
      have h5 := hW3.turn (o' := .loop { R0 with state := .exhausted })
      exact (hdone w.heap.size S3 M4 hwd3.le hI4).run _ _ ⟨h5.env, h5.defers, h5.wd.sub (List.sublist_cons_self _ _)⟩⟩
theorem JC.rangeFuncS {α : Type} {rep : Rp α} {Sx : List α → Prop} {x : Operand} {p : Nat} {assign body : Code} {gf : FuncId} {lb : Array Value} (I : List α → SHeap → List MEnt → Prop)
    (hr : C.r = none) (hg : ev e x = some (.func (.func gf) #[] lb)) (hE : Ent C.P gf) (hpN : Nat.blt p C.N = true) (hit : IterS C.P gf lb rep S Sx) (h0 : I [] S M)
    (hbody : ∀ w1 B1 K L Rc k y v S' M', Rc.state = .ready → Rc.pending = none → S.le S' → (∃ xs, Sx xs ∧ k ++ [y] <+: xs) → rep.V S' v y → I k S' M' →
      JC ⟨C.P, some L, C.N, [], w1, B1, S'⟩ assign (BeginPost C.P L body (roundPost C.P L (RoundEnd w1 B1 S' L K Rc (I (k ++ [y]))))) S' (.blk L (.loop Rc) :: .blk K (.deferred (some [])) :: M') ((p, v) :: e))
    (hdone : ∀ K xs S' M', S.le S' → Sx xs → I xs S' M' → JX { C with D := { target := .collected K, args := #[] } :: C.D } .normal Q S' (.blk K (.deferred (some [])) :: M') e) :
    JC C (.rangeFunc x #[p] assign body) Q S M e := ⟨fun a w hw => by
  refine wpIn_rangeFunc ?_
  intro fn hfn
  have hev : a.eval x = .func (.func gf) #[] lb := hw.env.eval hg
  obtain ⟨R0, hR0⟩ : ∃ R0 : Loop, R0 = { state := .ready, pending := none, fn, tmps := a.tmps, params := #[p], assign, body, defers := w.heap.size } := ⟨_, rfl⟩
  obtain ⟨W1, hW1⟩ : ∃ W1, (w.alloc (.deferred (some []))).alloc (.loop R0) = W1 := ⟨_, rfl⟩
  have hwd1 : Wd C.w0 C.B0 C.S0 S (.blk (w.heap.size + 1) (.loop R0) :: .blk w.heap.size (.deferred (some [])) :: M) W1 := by
    have h := (hw.wd.alloc (.deferred (some []))).alloc (.loop R0)
    rw [hW1, World.size_alloc] at h
    exact h
  refine ⟨w.heap.size + 1, [{ target := .collected w.heap.size, args := #[] }], W1, { target := .fn (.func gf) lb, args := #[.func (.yield (w.heap.size + 1)) #[] #[]] }, W1, gf,
    #[.func (.yield (w.heap.size + 1)) #[] #[]] ++ lb, W1, ?_, ?_, fun _ _ => trivial, ?_, fun h => by simp [FR] at h, ?_⟩
  · rw [← hW1, hR0]
    have hro : (FR C.r).round = none := hr
    rw [hro]
    exact run_enterLoop_outer _ _ _ _ _
  · simp only [resolve, hev]
    simp [go_sem]
  · have := run_enter hE (#[.func (.yield (w.heap.size + 1)) #[] #[]] ++ lb) W1
    simp [invoke, go_sem]
    simpa using this
  · have hF := hit (w.heap.size + 1) (fun k S' M' => ∃ M'', M' = .blk (w.heap.size + 1) (.loop R0) :: .blk w.heap.size (.deferred (some [])) :: M'' ∧ I k S' M'') S _ (SHeap.le.refl _) ⟨M, rfl, h0⟩ (by
      rintro k y v S' M' hl hy hv ⟨M'', rfl, hI⟩ w' hg' hok' hsep' hout'
      have hL : w'.heap[w.heap.size + 1]? = some (.loop R0) := hok' _ List.mem_cons_self
      have hyr := run_yield (P := C.P) (args := #[v]) hL (by rw [hR0]; rfl)
      refine ⟨fn, _, assign, body, by rw [hyr, hR0], ?_⟩
      refine RoundIn.mono (roundIn_of_wpIn (R := RoundEnd w' _ S' (w.heap.size + 1) w.heap.size R0 (I (k ++ [y]))) trivial ((hbody w' _ w.heap.size (w.heap.size + 1) R0 k y v S' M'' (by rw [hR0]) (by rw [hR0]) hl hy hv hI).run _ w' ⟨?_, rfl, Wd.start hg' hok' hsep' hout'⟩)) ?_
      · have := hw.env.put hpN v
        rw [hR0]
        exact ⟨by simpa [Act.put] using this.1, by simpa [Act.put] using this.2⟩
      · rintro e2 w2 ⟨rfl, S2, M2, hwd2, hI2⟩
        exact ⟨rfl, S2, _, hwd2, M2, rfl, hI2⟩)
    have hc := hF W1 hwd1.agree hwd1.ok hwd1.sep (fun m hm b hb => (hwd1.out m hm b hb).1)
    have h3 : CallsIn (FR C.r) 0 C.P gf (#[.func (.yield (w.heap.size + 1)) #[] #[]] ++ lb) W1 _ := (callsIn_wide (n := 0)).2 hc
    refine CallsIn.mono h3 ?_
    rintro e3 w3 ⟨v3, S3, M3, rfl, hwd3, xs3, hxs3, M4, rfl, hI4⟩
    have hwc := Wd.call (Mr := []) (by simpa using hwd1) hwd3
    have hL3 : w3.heap[w.heap.size + 1]? = some (.loop R0) := hwd3.ok _ List.mem_cons_self
    refine ⟨none, w3.putObj (w.heap.size + 1) (.loop { R0 with state := .exhausted }), ?_, ?_⟩
    · have := run_endLoop (P := C.P) hL3 (by rw [hR0]; simp)
      have hp0 : R0.pending = none := by rw [hR0]
      rw [this, hp0]
    · have hW3 : Cx.W { C with D := { target := .collected w.heap.size, args := #[] } :: C.D } S3 (.blk (w.heap.size + 1) (.loop R0) :: .blk w.heap.size (.deferred (some [])) :: M4) e { a with defers := [{ target := .collected w.heap.size, args := #[] }] ++ a.defers } w3 :=
        ⟨⟨hw.env.1, hw.env.2⟩, by rw [hw.defers]; rfl, by simpa using hwc⟩
      have h5 := hW3.turn (o' := .loop { R0 with state := .exhausted })
      exact (hdone w.heap.size xs3 S3 M4 hwd3.le hxs3 hI4).run _ _ ⟨h5.env, h5.defers, h5.wd.sub (List.sublist_cons_self _ _)⟩⟩
/-! ### The end of a function that ranges over functions -/
theorem Fn.enterM {P : Program} {f : FuncId} {fn : Func} {c : Code} {args : List Value} {S : SHeap} {M : List MEnt} {PP : Value → SHeap → List MEnt → Prop} {N : Nat}
    (hf : P.funcs[f]? = some fn) (hb : fn.body = some c) (hn : fn.ntmps = N) (hlen : Nat.ble args.length N = true)
    (h : ∀ w0, JC ⟨P, none, N, [], w0, M.filterMap MEnt.own, S⟩ c (bodyPostM (FR none) 0 P fn (EndPost w0 (M.filterMap MEnt.own) S PP)) S M (envOf 0 args)) : Fn P f args.toArray S M PP := by
  intro w hg hok hsep hout
  have key : CallsIn (FR none) 0 P f args.toArray w (EndPost w (M.filterMap MEnt.own) S PP) := by
    refine callsIn_of_wp_marks hf hb trivial ?_ rfl
    refine (h w).run _ w ⟨⟨?_, fun t v ht => ?_⟩, rfl, Wd.start hg hok hsep hout⟩
    · have : args.length ≤ N := by simpa [Nat.ble_eq] using hlen
      simp [hn]; omega
    · obtain ⟨_, h2⟩ := envOf_get args 0 t v ht
      have hlt := (List.getElem?_eq_some_iff.1 h2).1
      simp at hlt
      have h3 : args[t] = v := (List.getElem?_eq_some_iff.1 h2).2
      simp [Array.getElem?_append, hlt, h3]
  exact (callsIn_wide (n := 0)).1 key
variable {fn : Func} {w0 : World} {B0 : List Nat} {S0 : SHeap} {PP : Value → SHeap → List MEnt → Prop}
theorem JX.retM0 {P : Program} {N : Nat} {rv : ResultVar} {v : Value} (hr : fn.results = #[rv]) (hv : ResV ⟨P, none, N, [], w0, B0, S0⟩ S M e rv v) (hM : M'.Sublist M) (hp : PP v S M') :
    JX ⟨P, none, N, [], w0, B0, S0⟩ .ret (bodyPostM (FR none) 0 P fn (EndPost w0 B0 S0 PP)) S M e := ⟨fun a w hw => by
  have hd : a.defers = [] := hw.defers
  show LeavesInM _ _ _ _ _ _ a.defers _ _
  rw [hd]
  exact ⟨v, run_results1 hr (hv a w hw), v, S, M', rfl, hw.wd.sub hM, hp⟩⟩
theorem JX.retM1 {P : Program} {N K : Nat} {rv : ResultVar} {v : Value} {Mr : List MEnt} (hr : fn.results = #[rv]) (hK : (.blk K (.deferred (some [])) :: Mr).Perm M) (hv : ResV ⟨P, none, N, [], w0, B0, S0⟩ S Mr e rv v) (hM : M'.Sublist Mr) (hp : PP v S M') :
    JX ⟨P, none, N, [{ target := .collected K, args := #[] }], w0, B0, S0⟩ .ret (bodyPostM (FR none) 0 P fn (EndPost w0 B0 S0 PP)) S M e := ⟨fun a w hw => by
  have hd : a.defers = [{ target := .collected K, args := #[] }] := hw.defers
  have hw1 : Cx.W ⟨P, none, N, [], w0, B0, S0⟩ S (.blk K (.deferred (some [])) :: Mr) e { a with defers := [] } w := ⟨⟨hw.env.1, hw.env.2⟩, rfl, hw.wd.perm hK⟩
  have hKb : w.heap[K]? = some (.deferred (some [])) := hw1.wd.ok _ List.mem_cons_self
  have h2 := hw1.turn (o' := .deferred none)
  have h3 : Cx.W ⟨P, none, N, [], w0, B0, S0⟩ S Mr e { a with defers := [] } (w.putObj K (.deferred none)) := ⟨h2.env, h2.defers, h2.wd.sub (List.sublist_cons_self _ _)⟩
  show LeavesInM _ _ _ _ _ _ a.defers _ _
  rw [hd]
  refine ⟨by simp, .inl ⟨K, _, rfl, run_takeDeferred hKb, ?_⟩⟩
  exact ⟨v, run_results1 hr (hv { a with defers := [] } _ h3), v, S, M', rfl, h3.wd.sub hM, hp⟩⟩
end
end Go.Dr
namespace Go.Dr
set_option linter.unusedSimpArgs false
set_option linter.unusedVariables false
open Go.ChangeMaps (setBlock)
def esAt (n : Nat) : List (ByteArray × Value) → List MapEntry
  | [] => []
  | (k, v) :: l => ⟨.string k, v, n⟩ :: esAt (n + 1) l
def mapObj (l : List (ByteArray × Value)) : Obj := .map (esAt 0 l).toArray l.length
theorem esAt_get : ∀ (l : List (ByteArray × Value)) (n j : Nat), (esAt n l)[j]? = (l[j]?).map (fun p => (⟨.string p.1, p.2, n + j⟩ : MapEntry))
  | [], _, _ => by simp [esAt]
  | (k, v) :: l, n, 0 => by simp [esAt]
  | (k, v) :: l, n, j + 1 => by
    simp only [esAt, List.getElem?_cons_succ]
    rw [esAt_get l (n + 1) j]
    congr 1
    funext p
    congr 1
    omega
theorem esAt_mem {l : List (ByteArray × Value)} {n : Nat} {x : MapEntry} (h : x ∈ esAt n l) : ∃ j p, l[j]? = some p ∧ x = ⟨.string p.1, p.2, n + j⟩ := by
  obtain ⟨j, hj⟩ := List.mem_iff_getElem?.1 h
  rw [esAt_get] at hj
  cases hl : l[j]? with
  | none => rw [hl] at hj; cases hj
  | some p => rw [hl] at hj; cases hj; exact ⟨j, p, hl, rfl⟩
theorem esAt_append : ∀ (l : List (ByteArray × Value)) (n : Nat) (k : ByteArray) (v : Value), esAt n (l ++ [(k, v)]) = esAt n l ++ [⟨.string k, v, n + l.length⟩]
  | [], n, k, v => rfl
  | (a, b) :: l, n, k, v => by
    simp only [List.cons_append, esAt, esAt_append l]
    congr 3
    simp only [List.length_cons]; congr 1; omega
theorem esAt_born : ∀ (l : List (ByteArray × Value)) (n : Nat), (esAt n l).map (·.born) = (List.range l.length).map (n + ·)
  | [], _ => rfl
  | (a, b) :: l, n => by
    simp only [esAt, List.map_cons, esAt_born l, List.length_cons, List.range_succ_eq_map, List.map_map]
    congr 1
    apply List.map_congr_left
    intro x _
    simp only [Function.comp]; omega
theorem esAt_nodup (l : List (ByteArray × Value)) : (((esAt 0 l).toArray.toList).map (·.born)).Nodup := by
  rw [show (esAt 0 l).toArray.toList = esAt 0 l from rfl, esAt_born]
  simp only [Nat.zero_add, List.map_id']
  exact List.nodup_range
section
variable {C : Cx} {R : Rg} {Q : Post} {S S' S1 : SHeap} {M M' : List MEnt} {e e' : Env} {rest : List Nat}
variable {d : Nat} {ty : TypeId} {pos : String} {aft : Array Edge} {g : Option (Nat × Bool)} {an : Bool}
theorem JEff.makeMap {T : TypeId} (hdN : Nat.blt d C.N = true) (k : ∀ b, C.w0.heap.size ≤ b → JO C R rest Q S (.blk b (mapObj []) :: M) ((d, .map (some b)) :: e)) : JEff C R ⟨some d, .makeMap T none, ty, pos, aft, g⟩ rest Q S M e :=
  JEff.ofRun rfl rfl hdN fun a w hw => ⟨.map (some w.heap.size), w.alloc (.map #[] 0), by simp [execOp, Instr.makeMap, run_newObj], subX_alloc _ _ _, by simp,
    S, _, hw.wd.alloc _, SHeap.le.refl _, k _ hw.wd.size⟩
theorem JEff.mapPut {T K E : TypeId} {x y z : Operand} {b : Nat} {l : List (ByteArray × Value)} {s : ByteArray} {v : Value} {Mr : List MEnt} (hx : ev e x = some (.map (some b))) (hy : ev e y = some (.string s)) (hz : ev e z = some v)
    [hu : Und C.P T (.map K E)] [hk : Und C.P K .string] (hM : (MEnt.blk b (mapObj l) :: Mr).Perm M) (hT : ∀ l, R.T = some l → b ∈ l)
    (k1 : (∀ p ∈ l, p.1 ≠ s) → JO C R rest Q S (.blk b (mapObj (l ++ [(s, v)])) :: Mr) e)
    (k2 : ∀ j p, l[j]? = some p → p.1 = s → JO C R rest Q S (.blk b (mapObj (l.set j (s, v))) :: Mr) e) : JEff C R ⟨none, .mapUpdate T x y z, ty, pos, aft, g⟩ rest Q S M e :=
  JEff.ofSkip rfl rfl fun a w hw => by
    have hwd := hw.wd.perm hM
    have hb : w.heap[b]? = some (.map (esAt 0 l).toArray l.length) := hwd.ok (.blk b (mapObj l)) (by simp)
    have hkey : MapKept.IsKey .string (.string s) := by simp [MapKept.IsKey]
    have hc : (Instr.checkKey false 10000 K (.string s)).run C.P w = .ok () w := MapKept.run_checkKey (k := .string s) hk.h hkey false 9999
    rcases MapKept.findNow_spec hkey (esAt 0 l) 0 (fun x hx => by obtain ⟨_, _, _, rfl⟩ := esAt_mem hx; simp [MapKept.IsKey]) with ⟨h1, h2⟩ | ⟨j, e1, h1, h2, h3⟩
    · have hes : (esAt 0 l).toArray.push { key := .string s, val := v, born := l.length } = (esAt 0 (l ++ [(s, v)])).toArray := by rw [esAt_append]; simp
      refine ⟨putObj w b (mapObj (l ++ [(s, v)])), ?_, subX_put hT (fun k hk => putObj_other w b k _ hk), by simp [putObj], S, _, hwd.turn rfl rfl rfl (by simp [putObj]) (fun k hk => putObj_other w b k _ hk) (putObj_at w b _ _ hb), SHeap.le.refl _, k1 ?_⟩
      · simp [execOp, hw.env.eval hx, hw.env.eval hy, hw.env.eval hz, Instr.mapUpdate, run_underlying hu.h, MapKept.run_getObj_map hb, hc, MapKept.run_findKey hk.h h1, MapKept.run_setObj_map _ hb, Result.andThen, putObj, mapObj, hes]
      · intro p hp heq
        obtain ⟨j, hj⟩ := List.mem_iff_getElem?.1 hp
        refine h2 ⟨.string p.1, p.2, 0 + j⟩ (List.mem_iff_getElem?.2 ⟨j, by rw [esAt_get, hj]; rfl⟩) ?_
        simp [heq]
    · rw [esAt_get] at h2
      cases hl : l[j]? with
      | none => rw [hl] at h2; cases h2
      | some p =>
        rw [hl] at h2
        simp only [Option.map_some, Option.some.injEq] at h2
        subst h2
        have hps : p.1 = s := by simpa using h3
        have hlt := (List.getElem?_eq_some_iff.1 hl).1
        have hes : (esAt 0 l).toArray.modify j (fun e => { e with key := .string s, val := v }) = (esAt 0 (l.set j (s, v))).toArray := by
          apply Array.ext'
          rw [Array.toList_modify]
          apply List.ext_getElem?
          intro i
          rw [List.getElem?_modify]
          show _ = (esAt 0 (l.set j (s, v)))[i]?
          rw [esAt_get, esAt_get, List.getElem?_set]
          by_cases hij : j = i
          · subst hij
            simp [hl, hlt]
          · simp [hij]
        have hks := MapKept.run_keyThatStays (P := C.P) (w := w) hkey
        refine ⟨putObj w b (mapObj (l.set j (s, v))), ?_, subX_put hT (fun k hk => putObj_other w b k _ hk), by simp [putObj], S, _, hwd.turn rfl rfl rfl (by simp [putObj]) (fun k hk => putObj_other w b k _ hk) (putObj_at w b _ _ hb), SHeap.le.refl _, k2 j p hl hps⟩
        have hkj : (((esAt 0 l).toArray[j]?).map (·.key)).getD (.string s) = .string s := by
          rw [List.getElem?_toArray, esAt_get, hl]; simp [hps]
        simp only [Nat.zero_add] at h1
        simp only [execOp, hw.env.eval hx, hw.env.eval hy, hw.env.eval hz, Instr.mapUpdate, Sem.run_bind, run_underlying hu.h, MapKept.run_getObj_map hb, hc, MapKept.run_findKey hk.h h1, Result.andThen, hkj, hks, MapKept.run_setObj_map _ hb, hes]
        simp [putObj, mapObj]
theorem JEff.rangeM {T K E : TypeId} {x : Operand} {b : Nat} {l : List (ByteArray × Value)} (hx : ev e x = some (.map (some b))) [hu : Und C.P T (.map K E)] (hS : S b = some (mapObj l)) (hdN : Nat.blt d C.N = true)
    (k : ∀ r, C.w0.heap.size ≤ r → JO C R rest Q S (.blk r (.mapIter (some b) l.length #[] l.length) :: M) ((d, .pointer (some ⟨r, 0, none⟩)) :: e)) : JEff C R ⟨some d, .range T x, ty, pos, aft, g⟩ rest Q S M e :=
  JEff.ofRun rfl rfl hdN fun a w hw => ⟨.pointer (some ⟨w.heap.size, 0, none⟩), w.alloc (.mapIter (some b) l.length #[] l.length), by
      have hb : w.heap[b]? = some (.map (esAt 0 l).toArray l.length) := hw.wd.agree b _ hS
      simp [execOp, hw.env.eval hx, run_range_map w T K E b _ _ hu.h hb], subX_alloc _ _ _, by simp,
    S, _, hw.wd.alloc _, SHeap.le.refl _, k _ hw.wd.size⟩
theorem JEff.nextM {x : Operand} {b r : Nat} {l : List (ByteArray × Value)} {seen : Array Nat} {Mr : List MEnt} (hx : ev e x = some (.pointer (some ⟨r, 0, none⟩))) (hS : S b = some (mapObj l)) (hM : (MEnt.blk r (.mapIter (some b) l.length seen l.length) :: Mr).Perm M) (hT : ∀ l, R.T = some l → r ∈ l) (hdN : Nat.blt d C.N = true)
    (k1 : ∀ i p, l[i]? = some p → i ∉ seen → JO C R rest Q S (.blk r (.mapIter (some b) l.length (seen.push i) l.length) :: Mr) ((d, .tuple #[.bool true, .string p.1, p.2]) :: e))
    (k2 : (∀ i, i < l.length → i ∈ seen) → JO C R rest Q S M ((d, .tuple #[.bool false]) :: e)) : JEff C R ⟨some d, .next x false, ty, pos, aft, g⟩ rest Q S M e :=
  JEff.ofRun rfl rfl hdN fun a w hw => by
    have hwd := hw.wd.perm hM
    have hr : w.heap[r]? = some (.mapIter (some b) l.length seen l.length) := hwd.ok (.blk r _) (by simp)
    have hb : w.heap[b]? = some (.map (esAt 0 l).toArray l.length) := hw.wd.agree b _ hS
    have hold : ∀ x ∈ (esAt 0 l).toArray.toList, x.born < l.length := by
      intro x hx
      obtain ⟨j, p, hj, rfl⟩ := esAt_mem (show x ∈ esAt 0 l from hx)
      have := (List.getElem?_eq_some_iff.1 hj).1
      simpa using this
    rcases run_next_at (P := C.P) w ty r b l.length l.length seen _ _ hr hb hold (Nat.le_refl _) with ⟨h1, h2⟩ | ⟨e1, he, w1, hw1, h2⟩
    · refine ⟨_, w, by simp [execOp, hw.env.eval hx, h2], SubX.refl _ _, Nat.le_refl _, S, M, hw.wd, SHeap.le.refl _, k2 ?_⟩
      intro i hi
      unfold leftOf at h1
      have hnil := Array.eq_empty_of_size_eq_zero h1
      rw [Array.filter_eq_empty_iff] at hnil
      have hm : (⟨.string (l[i]).1, (l[i]).2, i⟩ : MapEntry) ∈ (esAt 0 l).toArray := by
        rw [List.mem_toArray]
        refine List.mem_iff_getElem?.2 ⟨i, ?_⟩
        rw [esAt_get, List.getElem?_eq_getElem hi]
        simp
      have := hnil _ hm
      simpa using this
    · have hmem : e1 ∈ (esAt 0 l) ∧ e1.born ∉ seen := by
        unfold leftOf at he
        simpa using he
      obtain ⟨i, p, hi, rfl⟩ := esAt_mem hmem.1
      have hns : i ∉ seen := by simpa using hmem.2
      have hwd1 : Wd C.w0 C.B0 C.S0 S (.blk r (.mapIter (some b) l.length seen l.length) :: Mr) w1 := by
        rcases hw1 with rfl | rfl
        · exact hwd
        · exact hwd.drew
      have hh : w1.heap = w.heap := by rcases hw1 with rfl | rfl <;> rfl
      have hr1 : w1.heap[r]? = some (.mapIter (some b) l.length seen l.length) := by rw [hh]; exact hr
      refine ⟨_, putObj w1 r (.mapIter (some b) l.length (seen.push i) l.length), ?_, ?_, by simp [putObj, hh], S, _, hwd1.turn rfl rfl rfl (by simp [putObj]) (fun k hk => putObj_other w1 r k _ hk) (putObj_at w1 r _ _ hr1), SHeap.le.refl _, k1 i p hi hns⟩
      · simp only [Nat.zero_add] at h2
        simp [execOp, hw.env.eval hx, h2, setBlock, putObj]
      · exact subX_put hT (fun k hk => by rw [putObj_other w1 r k _ hk, hh])
theorem JEff.entryM {x : Operand} {b r i : Nat} {l : List (ByteArray × Value)} {p : ByteArray × Value} {seen : Array Nat} (hx : ev e x = some (.pointer (some ⟨r, 0, none⟩))) (hS : S b = some (mapObj l)) (hM : MEnt.blk r (.mapIter (some b) l.length (seen.push i) l.length) ∈ M) (hi : l[i]? = some p) (hdN : Nat.blt d C.N = true)
    (k : JO C R rest Q S M ((d, .tuple #[.string p.1, p.2]) :: e)) : JEff C R ⟨some d, .entry x, ty, pos, aft, g⟩ rest Q S M e :=
  JEff.ofRun rfl rfl hdN fun a w hw => by
    have hr : w.heap[r]? = some (.mapIter (some b) l.length (seen.push i) l.length) := hw.wd.ok _ hM
    have hb : w.heap[b]? = some (.map (esAt 0 l).toArray l.length) := hw.wd.agree b _ hS
    have he : (⟨.string p.1, p.2, i⟩ : MapEntry) ∈ (esAt 0 l).toArray.toList := by
      show _ ∈ esAt 0 l
      refine List.mem_iff_getElem?.2 ⟨i, ?_⟩
      rw [esAt_get, hi]; simp
    have h2 := run_entry_at (P := C.P) w r b l.length seen _ _ _ hr hb he (esAt_nodup l)
    exact ⟨_, w, by simp [execOp, hw.env.eval hx, h2], SubX.refl _ _, Nat.le_refl _, S, M, hw.wd, SHeap.le.refl _, k⟩
end
end Go.Dr
namespace Go.Dr
set_option linter.unusedSimpArgs false
set_option linter.unusedVariables false
open Go.ChangeMaps (setBlock)
def esK {κ : Type} (kv : κ → Value) (n : Nat) : List (κ × Value) → List MapEntry
  | [] => []
  | (k, v) :: l => ⟨kv k, v, n⟩ :: esK kv (n + 1) l
def mapK {κ : Type} (kv : κ → Value) (l : List (κ × Value)) : Obj := .map (esK kv 0 l).toArray l.length
section
variable {κ : Type} {kv : κ → Value}
theorem esK_get : ∀ (l : List (κ × Value)) (n j : Nat), (esK kv n l)[j]? = (l[j]?).map (fun p => (⟨kv p.1, p.2, n + j⟩ : MapEntry))
  | [], _, _ => by simp [esK]
  | (k, v) :: l, n, 0 => by simp [esK]
  | (k, v) :: l, n, j + 1 => by
    simp only [esK, List.getElem?_cons_succ]
    rw [esK_get l (n + 1) j]
    congr 1
    funext p
    congr 1
    omega
theorem esK_mem {l : List (κ × Value)} {n : Nat} {x : MapEntry} (h : x ∈ esK kv n l) : ∃ j p, l[j]? = some p ∧ x = ⟨kv p.1, p.2, n + j⟩ := by
  obtain ⟨j, hj⟩ := List.mem_iff_getElem?.1 h
  rw [esK_get] at hj
  cases hl : l[j]? with
  | none => rw [hl] at hj; cases hj
  | some p => rw [hl] at hj; cases hj; exact ⟨j, p, hl, rfl⟩
theorem esK_append : ∀ (l : List (κ × Value)) (n : Nat) (k : κ) (v : Value), esK kv n (l ++ [(k, v)]) = esK kv n l ++ [⟨kv k, v, n + l.length⟩]
  | [], n, k, v => rfl
  | (a, b) :: l, n, k, v => by
    simp only [List.cons_append, esK, esK_append l]
    congr 3
    simp only [List.length_cons]; congr 1; omega
end
class Key (P : Program) (K : TypeId) {κ : Type} (kv : outParam (κ → Value)) : Prop where
  check : ∀ (e : Bool) (k : κ) (w : World), (Instr.checkKey e 10000 K (kv k)).run P w = .ok () w
  find : ∀ (k : κ) (l : List (κ × Value)) (w : World), ((Instr.findKey K (kv k) (esK kv 0 l)).run P w = .ok none w ∧ ∀ p ∈ l, p.1 ≠ k) ∨
    ∃ j p, (Instr.findKey K (kv k) (esK kv 0 l)).run P w = .ok (some (j, p.2)) w ∧ l[j]? = some p ∧ p.1 = k
  stays : ∀ (k : κ) (w : World), (Instr.keyThatStays (kv k) (kv k)).run P w = .ok (kv k) w
theorem key_of {κ : Type} {kv : κ → Value} {P : Program} {K : TypeId} {d : TypeDesc} (hd : P.underlying K = some d) (hk : ∀ k, MapKept.IsKey d (kv k)) (hi : ∀ a b, kv a = kv b → a = b) : Key P K kv where
  check e k w := MapKept.run_checkKey hd (hk k) e 9999
  find k l w := by
    rcases MapKept.findNow_spec (hk k) (esK kv 0 l) 0 (fun x hx => by obtain ⟨_, _, _, rfl⟩ := esK_mem hx; exact hk _) with ⟨h1, h2⟩ | ⟨j, e1, h1, h2, h3⟩
    · refine .inl ⟨MapKept.run_findKey hd h1, fun p hp heq => ?_⟩
      obtain ⟨j, hj⟩ := List.mem_iff_getElem?.1 hp
      refine h2 ⟨kv p.1, p.2, 0 + j⟩ (List.mem_iff_getElem?.2 ⟨j, by rw [esK_get, hj]; rfl⟩) ?_
      simp [heq]
    · rw [esK_get] at h2
      cases hl : l[j]? with
      | none => rw [hl] at h2; cases h2
      | some p =>
        rw [hl] at h2
        simp only [Option.map_some, Option.some.injEq] at h2
        subst h2
        refine .inr ⟨j, p, ?_, hl, hi _ _ h3⟩
        have := MapKept.run_findKey (P := P) (w := w) (kt := K) hd h1
        simpa using this
  stays k w := MapKept.run_keyThatStays (hk k)
instance {P : Program} {K : TypeId} [h : Und P K .string] : Key P K Value.string := key_of h.h (fun _ => by simp [MapKept.IsKey]) (fun a b h => by cases h; rfl)
instance {P : Program} {K : TypeId} [h : Und P K (.int .i64)] : Key P K (Value.int .i64) := key_of h.h (fun _ => by simp [MapKept.IsKey]) (fun a b h => by cases h; rfl)
section
variable {C : Cx} {R : Rg} {Q : Post} {S S' S1 : SHeap} {M M' : List MEnt} {e e' : Env} {rest : List Nat}
variable {d : Nat} {ty : TypeId} {pos : String} {aft : Array Edge} {g : Option (Nat × Bool)} {an : Bool}
variable {κ : Type} {kv : κ → Value}
theorem JEff.makeMapK {T : TypeId} (kv : κ → Value) (hdN : Nat.blt d C.N = true) (k : ∀ b, C.w0.heap.size ≤ b → JO C R rest Q S (.blk b (mapK kv []) :: M) ((d, .map (some b)) :: e)) : JEff C R ⟨some d, .makeMap T none, ty, pos, aft, g⟩ rest Q S M e :=
  JEff.ofRun rfl rfl hdN fun a w hw => ⟨.map (some w.heap.size), w.alloc (.map #[] 0), by simp [execOp, Instr.makeMap, run_newObj], subX_alloc _ _ _, by simp,
    S, _, hw.wd.alloc _, SHeap.le.refl _, k _ hw.wd.size⟩
theorem JEff.putK {T K E : TypeId} {x y z : Operand} {b : Nat} {l : List (κ × Value)} {s : κ} {v : Value} {Mr : List MEnt} (hx : ev e x = some (.map (some b))) (hy : ev e y = some (kv s)) (hz : ev e z = some v)
    [hu : Und C.P T (.map K E)] [hk : Key C.P K kv] (hM : (MEnt.blk b (mapK kv l) :: Mr).Perm M) (hT : ∀ l, R.T = some l → b ∈ l)
    (k1 : (∀ p ∈ l, p.1 ≠ s) → JO C R rest Q S (.blk b (mapK kv (l ++ [(s, v)])) :: Mr) e)
    (k2 : ∀ (j : Nat) (p : κ × Value), l[j]? = some p → p.1 = s → JO C R rest Q S (.blk b (mapK kv (l.set j (s, v))) :: Mr) e) : JEff C R ⟨none, .mapUpdate T x y z, ty, pos, aft, g⟩ rest Q S M e :=
  JEff.ofSkip rfl rfl fun a w hw => by
    have hwd := hw.wd.perm hM
    have hb : w.heap[b]? = some (.map (esK kv 0 l).toArray l.length) := hwd.ok (.blk b (mapK kv l)) (by simp)
    have hc := hk.check false s w
    rcases hk.find s l w with ⟨h1, h2⟩ | ⟨j, p, h1, hl, hps⟩
    · have hes : (esK kv 0 l).toArray.push { key := kv s, val := v, born := l.length } = (esK kv 0 (l ++ [(s, v)])).toArray := by rw [esK_append]; simp
      refine ⟨putObj w b (mapK kv (l ++ [(s, v)])), ?_, subX_put hT (fun k hk => putObj_other w b k _ hk), by simp [putObj], S, _, hwd.turn rfl rfl rfl (by simp [putObj]) (fun k hk => putObj_other w b k _ hk) (putObj_at w b _ _ hb), SHeap.le.refl _, k1 h2⟩
      simp [execOp, hw.env.eval hx, hw.env.eval hy, hw.env.eval hz, Instr.mapUpdate, run_underlying hu.h, MapKept.run_getObj_map hb, hc, h1, MapKept.run_setObj_map _ hb, Result.andThen, putObj, mapK, hes]
    · have hlt := (List.getElem?_eq_some_iff.1 hl).1
      have hes : (esK kv 0 l).toArray.modify j (fun e => { e with key := kv s, val := v }) = (esK kv 0 (l.set j (s, v))).toArray := by
        apply Array.ext'
        rw [Array.toList_modify]
        apply List.ext_getElem?
        intro i
        rw [List.getElem?_modify]
        show _ = (esK kv 0 (l.set j (s, v)))[i]?
        rw [esK_get, esK_get, List.getElem?_set]
        by_cases hij : j = i
        · subst hij
          simp [hl, hlt]
        · simp [hij]
      have hks := hk.stays s w
      refine ⟨putObj w b (mapK kv (l.set j (s, v))), ?_, subX_put hT (fun k hk => putObj_other w b k _ hk), by simp [putObj], S, _, hwd.turn rfl rfl rfl (by simp [putObj]) (fun k hk => putObj_other w b k _ hk) (putObj_at w b _ _ hb), SHeap.le.refl _, k2 j p hl hps⟩
      have hkj : (((esK kv 0 l).toArray[j]?).map (·.key)).getD (kv s) = kv s := by
        rw [List.getElem?_toArray, esK_get, hl]; simp [hps]
      simp only [execOp, hw.env.eval hx, hw.env.eval hy, hw.env.eval hz, Instr.mapUpdate, Sem.run_bind, run_underlying hu.h, MapKept.run_getObj_map hb, hc, h1, Result.andThen, hkj, hks, MapKept.run_setObj_map _ hb, hes]
      simp [putObj, mapK]
theorem JEff.insK {T K E : TypeId} {x y z : Operand} {b : Nat} {l : List (κ × Value)} {s : κ} {v : Value} {Mr : List MEnt} (hx : ev e x = some (.map (some b))) (hy : ev e y = some (kv s)) (hz : ev e z = some v)
    [hu : Und C.P T (.map K E)] [hk : Key C.P K kv] (hM : (MEnt.blk b (mapK kv l) :: Mr).Perm M) (hT : ∀ l, R.T = some l → b ∈ l)
    (k1 : (∀ p ∈ l, p.1 ≠ s) → JO C R rest Q S (.blk b (mapK kv (l ++ [(s, v)])) :: Mr) e)
    (k2 : ∀ (j : Nat) (p : κ × Value), l[j]? = some p → p.1 = s → JO C R rest Q S (.blk b (mapK kv (l.set j (s, v))) :: Mr) e) : JEff C R ⟨none, .insert T x y z, ty, pos, aft, g⟩ rest Q S M e :=
  JEff.ofSkip rfl rfl fun a w hw => by
    have hwd := hw.wd.perm hM
    have hb : w.heap[b]? = some (.map (esK kv 0 l).toArray l.length) := hwd.ok (.blk b (mapK kv l)) (by simp)
    have hc := hk.check false s w
    rcases hk.find s l w with ⟨h1, h2⟩ | ⟨j, p, h1, hl, hps⟩
    · have hes : (esK kv 0 l).toArray.push { key := kv s, val := v, born := l.length } = (esK kv 0 (l ++ [(s, v)])).toArray := by rw [esK_append]; simp
      refine ⟨putObj w b (mapK kv (l ++ [(s, v)])), ?_, subX_put hT (fun k hk => putObj_other w b k _ hk), by simp [putObj], S, _, hwd.turn rfl rfl rfl (by simp [putObj]) (fun k hk => putObj_other w b k _ hk) (putObj_at w b _ _ hb), SHeap.le.refl _, k1 h2⟩
      simp [execOp, hw.env.eval hx, hw.env.eval hy, hw.env.eval hz, Instr.mapUpdate, run_underlying hu.h, MapKept.run_getObj_map hb, hc, h1, MapKept.run_setObj_map _ hb, Result.andThen, putObj, mapK, hes]
    · have hlt := (List.getElem?_eq_some_iff.1 hl).1
      have hes : (esK kv 0 l).toArray.modify j (fun e => { e with key := kv s, val := v }) = (esK kv 0 (l.set j (s, v))).toArray := by
        apply Array.ext'
        rw [Array.toList_modify]
        apply List.ext_getElem?
        intro i
        rw [List.getElem?_modify]
        show _ = (esK kv 0 (l.set j (s, v)))[i]?
        rw [esK_get, esK_get, List.getElem?_set]
        by_cases hij : j = i
        · subst hij
          simp [hl, hlt]
        · simp [hij]
      have hks := hk.stays s w
      refine ⟨putObj w b (mapK kv (l.set j (s, v))), ?_, subX_put hT (fun k hk => putObj_other w b k _ hk), by simp [putObj], S, _, hwd.turn rfl rfl rfl (by simp [putObj]) (fun k hk => putObj_other w b k _ hk) (putObj_at w b _ _ hb), SHeap.le.refl _, k2 j p hl hps⟩
      have hkj : (((esK kv 0 l).toArray[j]?).map (·.key)).getD (kv s) = kv s := by
        rw [List.getElem?_toArray, esK_get, hl]; simp [hps]
      simp only [execOp, hw.env.eval hx, hw.env.eval hy, hw.env.eval hz, Instr.mapUpdate, Sem.run_bind, run_underlying hu.h, MapKept.run_getObj_map hb, hc, h1, Result.andThen, hkj, hks, MapKept.run_setObj_map _ hb, hes]
      simp [putObj, mapK]
theorem JEff.insNew [DecidableEq κ] {T K E : TypeId} {x y z : Operand} {b : Nat} {l : List (κ × Value)} {s : κ} {v : Value} {Mr : List MEnt} (hx : ev e x = some (.map (some b))) (hy : ev e y = some (kv s)) (hz : ev e z = some v)
    [hu : Und C.P T (.map K E)] [hk : Key C.P K kv] (hM : (MEnt.blk b (mapK kv l) :: Mr).Perm M) (hT : ∀ l, R.T = some l → b ∈ l) (hnew : l.all (fun p => !decide (p.1 = s)) = true)
    (k : JO C R rest Q S (.blk b (mapK kv (l ++ [(s, v)])) :: Mr) e) : JEff C R ⟨none, .insert T x y z, ty, pos, aft, g⟩ rest Q S M e :=
  JEff.insK hx hy hz hM hT (fun _ => k) (fun j p hj hp => by
    have := List.all_eq_true.1 hnew p (List.mem_of_getElem? hj)
    simp [hp] at this)
def fld1B (P : Program) (T : TypeId) (k off : Nat) : Bool :=
  match P.underlying T with
  | some (.struct fs) => match fs[k]? with
    | some f => Nat.beq f.offset off && (match P.underlying f.type with | some d => !isAggD d | none => false)
    | none => false
  | _ => false
class Fld1 (P : Program) (T : TypeId) (k : Nat) (off : outParam Nat) : Prop where
  b : fld1B P T k off = true
theorem Fld1.h {P : Program} {T : TypeId} {k off : Nat} (h : Fld1 P T k off) : ∃ fs f d, P.underlying T = some (.struct fs) ∧ fs[k]? = some f ∧ f.offset = off ∧ P.underlying f.type = some d ∧ isAggD d = false := by
  have hb := h.b
  unfold fld1B at hb
  split at hb
  · rename_i fs hu
    split at hb
    · rename_i f hf
      simp only [Bool.and_eq_true] at hb
      have h1 := Nat.eq_of_beq_eq_true hb.1
      have h2 := hb.2
      split at h2
      · rename_i dd hd
        exact ⟨fs, f, dd, hu, hf, h1, hd, by simpa using h2⟩
      · cases h2
    · cases hb
  · cases hb
theorem JPure.fieldV {T : TypeId} {x : Operand} {n off : Nat} {cs : List Value} {v : Value} (hx : ev e x = some (.agg cs.toArray)) [hf : Fld1 C.P T n off] (hv : nth cs off = some v) (hdN : Nat.blt d C.N = true)
    (k : JO C R rest Q S M ((d, v) :: e)) : JPure C R an ⟨some d, .field T x n, ty, pos, aft, g⟩ rest Q S M e := by
  obtain ⟨fs, f, dd, hu, hfs, ho, hd, ha⟩ := hf.h
  rw [nth_eq] at hv
  refine JPure.of rfl hdN (fun a w' h => ?_) k
  simp [execOp, h.eval hx, Instr.field, run_underlying hu, hfs, asAgg, part, run_isAgg_not hd ha, ho, hv]
def lookR (ok b : Bool) (v : Value) : Value := if ok then .tuple #[v, .bool b] else v
theorem run_lookK {P : Program} {T K E : TypeId} {b : Nat} {l : List (κ × Value)} {s : κ} {z : Value} (hu : P.underlying T = some (.map K E)) (hk : Key P K kv) (hz : Zero P E z) {w : World} (hb : w.heap[b]? = some (mapK kv l)) (ok : Bool) :
    ((∀ p ∈ l, p.1 ≠ s) → (Instr.lookup T (.map (some b)) (kv s) ok).run P w = .ok (lookR ok false z) w) ∧
    (∀ (j : Nat) (p : κ × Value), l[j]? = some p → p.1 = s → (∀ (i : Nat) (q : κ × Value), l[i]? = some q → q.1 = s → i = j) → (Instr.lookup T (.map (some b)) (kv s) ok).run P w = .ok (lookR ok true p.2) w) := by
  have hb : w.heap[b]? = some (.map (esK kv 0 l).toArray l.length) := hb
  have hc := hk.check (esK kv 0 l).toArray.isEmpty s w
  rcases hk.find s l w with ⟨h1, h2⟩ | ⟨j, p, h1, hl, hps⟩
  · refine ⟨fun _ => ?_, fun j p hj hp _ => absurd hp (h2 p (List.mem_of_getElem? hj))⟩
    simp only [Instr.lookup, Sem.run_bind, run_underlying hu, Result.andThen_ok, MapKept.run_getObj_map hb, Sem.run_pure, hc, h1, run_zero hz]
    rfl
  · refine ⟨fun h => absurd hps (h p (List.mem_of_getElem? hl)), fun i q hi hq huq => ?_⟩
    have := huq j p hl hps
    subst this
    rw [hl] at hi; cases hi
    simp only [Instr.lookup, Sem.run_bind, run_underlying hu, Result.andThen_ok, MapKept.run_getObj_map hb, Sem.run_pure, hc, h1]
    rfl
def DistinctK (l : List (κ × Value)) : Prop := ∀ (i j : Nat) (p q : κ × Value), l[i]? = some p → l[j]? = some q → p.1 = q.1 → i = j
theorem DistinctK.nil : DistinctK ([] : List (κ × Value)) := by intro i j p q h; simp at h
theorem DistinctK.snoc {l : List (κ × Value)} (h : DistinctK l) {k : κ} {v : Value} (hn : ∀ p ∈ l, p.1 ≠ k) : DistinctK (l ++ [(k, v)]) := by
  intro i j p q hi hj hpq
  rw [List.getElem?_append] at hi hj
  split at hi <;> split at hj
  · exact h i j p q hi hj hpq
  · rename_i h1 h2
    rw [List.getElem?_cons] at hj
    split at hj
    · cases hj; exact absurd hpq (hn p (List.mem_of_getElem? hi))
    · simp at hj
  · rename_i h1 h2
    rw [List.getElem?_cons] at hi
    split at hi
    · cases hi; exact absurd hpq.symm (hn q (List.mem_of_getElem? hj))
    · simp at hi
  · rw [List.getElem?_cons] at hi hj
    split at hi <;> split at hj
    · omega
    · simp at hj
    · simp at hi
    · simp at hi
theorem JPure.lookM {i : Nat} {T K E : TypeId} {x y : Operand} {b : Nat} {l : List (κ × Value)} {s : κ} {z : Value} {ok : Bool} (hx : ev e x = some (.map (some b))) (hy : ev e y = some (kv s))
    [hu : Und C.P T (.map K E)] [hk : Key C.P K kv] [hz : Zero C.P E z] (hM : MEnt.blk b (mapK kv l) ∈ M) (hd : DistinctK l) (hst : R.isAnch i = true ∨ ∃ l, R.T = some l ∧ b ∉ l) (hdN : Nat.blt d C.N = true)
    (k1 : (∀ p ∈ l, p.1 ≠ s) → JO C R rest Q S M ((d, lookR ok false z) :: e))
    (k2 : ∀ (j : Nat) (p : κ × Value), l[j]? = some p → p.1 = s → JO C R rest Q S M ((d, lookR ok true p.2) :: e)) : JPure C R (R.isAnch i) ⟨some d, .lookup T x y ok, ty, pos, aft, g⟩ rest Q S M e := ⟨fun a w hw htk => by
  have hwb : w.heap[b]? = some (mapK kv l) := hw.wd.ok _ hM
  have keep : ∀ w', SubX (if R.isAnch i = true then fun _ => False else R.TS S) w w' → w'.heap[b]? = some (mapK kv l) := by
    intro w' hs
    refine hs b _ ?_ hwb
    split
    · exact fun h => h
    · rename_i ha
      rcases hst with h | ⟨l, hl, h⟩
      · exact absurd h ha
      · intro hT
        have h1 := hT.1
        unfold Rg.TP at h1
        rw [hl] at h1
        exact h h1
  by_cases hh : ∀ p ∈ l, p.1 ≠ s
  · refine ⟨lookR ok false z, fun w' hs => ?_, (k1 hh).run _ w ⟨hw.env.put hdN _, hw.defers, hw.wd⟩ htk⟩
    have := (run_lookK (s := s) hu.h hk hz (keep w' hs) ok).1 hh
    simp [execOp, hw.env.eval hx, hw.env.eval hy, this]
  · obtain ⟨p, hp⟩ := Classical.not_forall.1 hh
    obtain ⟨hp, hps⟩ := Classical.not_imp.1 hp
    have hps : p.1 = s := Classical.not_not.1 hps
    obtain ⟨j, hj⟩ := List.mem_iff_getElem?.1 hp
    refine ⟨lookR ok true p.2, fun w' hs => ?_, (k2 j p hj hps).run _ w ⟨hw.env.put hdN _, hw.defers, hw.wd⟩ htk⟩
    have := (run_lookK (s := s) hu.h hk hz (keep w' hs) ok).2 j p hj hps (fun i q hi hq => hd i j q p hi hj (hq.trans hps.symm))
    simp [execOp, hw.env.eval hx, hw.env.eval hy, this]⟩
theorem JPure.lookS {i : Nat} {T K E : TypeId} {x y : Operand} {b : Nat} {l : List (κ × Value)} {s : κ} {z : Value} {ok : Bool} (hx : ev e x = some (.map (some b))) (hy : ev e y = some (kv s))
    [hu : Und C.P T (.map K E)] [hk : Key C.P K kv] [hz : Zero C.P E z] (hS : S b = some (mapK kv l)) (hd : DistinctK l) (hdN : Nat.blt d C.N = true)
    (k1 : (∀ p ∈ l, p.1 ≠ s) → JO C R rest Q S M ((d, lookR ok false z) :: e))
    (k2 : ∀ (j : Nat) (p : κ × Value), l[j]? = some p → p.1 = s → JO C R rest Q S M ((d, lookR ok true p.2) :: e)) : JPure C R (R.isAnch i) ⟨some d, .lookup T x y ok, ty, pos, aft, g⟩ rest Q S M e := by
  by_cases hh : ∀ p ∈ l, p.1 ≠ s
  · refine JPure.ofS rfl hdN (fun a w' h hg => ?_) (k1 hh)
    have := (run_lookK (s := s) hu.h hk hz (hg b _ hS) ok).1 hh
    simp [execOp, h.eval hx, h.eval hy, this]
  · obtain ⟨p, hp⟩ := Classical.not_forall.1 hh
    obtain ⟨hp, hps⟩ := Classical.not_imp.1 hp
    have hps : p.1 = s := Classical.not_not.1 hps
    obtain ⟨j, hj⟩ := List.mem_iff_getElem?.1 hp
    refine JPure.ofS rfl hdN (fun a w' h hg => ?_) (k2 j p hj hps)
    have := (run_lookK (s := s) hu.h hk hz (hg b _ hS) ok).2 j p hj hps (fun i q hi hq => hd i j q p hi hj (hq.trans hps.symm))
    simp [execOp, h.eval hx, h.eval hy, this]
/-! ### Interfaces -/
class Conc (P : Program) (T : TypeId) : Prop where
  h : P.concrete T = true
theorem JPure.mkIface {T : TypeId} {x : Operand} {v : Value} (hx : ev e x = some v) [h : Conc C.P T] (hdN : Nat.blt d C.N = true) (k : JO C R rest Q S M ((d, .iface T v) :: e)) : JPure C R an ⟨some d, .makeInterface T x, ty, pos, aft, g⟩ rest Q S M e :=
  JPure.of rfl hdN (fun a w' hh => by simp [execOp, hh.eval hx, run_makeInterface w' T v h.h]) k
theorem run_assertT {P : Program} {T T' : TypeId} (h : Conc P T) (v : Value) (ok : Bool) (w : World) : (Instr.typeAssert (.iface T v) T' T ok).run P w = .ok (lookR ok true v) w := by
  have hc := h.h
  unfold Program.concrete at hc
  cases hd : P.underlying T with
  | none => simp [hd] at hc
  | some dd => cases dd <;> first | (simp [hd] at hc; done) | (simp [Instr.typeAssert, run_underlying hd, lookR])
theorem run_assertF {P : Program} {T T' A : TypeId} (h : Conc P A) {z : Value} (hz : Zero P A z) (hn : Nat.beq T A = false) (v : Value) (w : World) : (Instr.typeAssert (.iface T v) T' A true).run P w = .ok (lookR true false z) w := by
  have hc := h.h
  have hne : ¬ T = A := fun e => by rw [e, Nat.beq_refl] at hn; cases hn
  unfold Program.concrete at hc
  cases hd : P.underlying A with
  | none => simp [hd] at hc
  | some dd => cases dd <;> first | (simp [hd] at hc; done) | (simp [Instr.typeAssert, run_underlying hd, lookR, hne, run_zero hz])
theorem JPure.assertT {T T' : TypeId} {x : Operand} {v : Value} {ok : Bool} (hx : ev e x = some (.iface T v)) [h : Conc C.P T] (hdN : Nat.blt d C.N = true) (k : JO C R rest Q S M ((d, lookR ok true v) :: e)) : JPure C R an ⟨some d, .typeAssert x T' T ok, ty, pos, aft, g⟩ rest Q S M e :=
  JPure.of rfl hdN (fun a w' hh => by simp [execOp, hh.eval hx, run_assertT h v ok w']) k
theorem JPure.assertF {T T' A : TypeId} {x : Operand} {v z : Value} (hx : ev e x = some (.iface T v)) (hn : Nat.beq T A = false) [h : Conc C.P A] [hz : Zero C.P A z] (hdN : Nat.blt d C.N = true) (k : JO C R rest Q S M ((d, lookR true false z) :: e)) : JPure C R an ⟨some d, .typeAssert x T' A true, ty, pos, aft, g⟩ rest Q S M e :=
  JPure.of rfl hdN (fun a w' hh => by simp [execOp, hh.eval hx, run_assertF h hz hn v w']) k
theorem sem_method {P : Program} {N : Nat} {e : Env} {x : Operand} {T : TypeId} {v : Value} {name : String} {f : FuncId} {us : Array Value} {args : Array Operand} {ts : Array TypeId} {vs : List Value} (hx : ev e x = some (.iface T v)) (hargs : evs e args.toList = some vs)
    (hm : ∀ w, (callMethod (.iface T v) name vs.toArray).run P w = .ok (.enter f us) w) (dst : Option Nat) (ty : TypeId) (pos : String) (aft : Array Edge) (g : Option (Nat × Bool)) :
    ∀ a w, Holds N e a → (execOp a.eval ⟨dst, .call { callee := .invoke x name, args, argTypes := ts }, ty, pos, aft, g⟩).run P w = .ok (.enter f us) w := by
  intro a w h
  have h1 : args.map a.eval = vs.toArray := by
    have := h.evals hargs
    rw [← this, ← Array.toList_map, Array.toArray_toList]
  have h2 : (#[Value.iface T v] ++ vs.toArray).extract 1 (#[Value.iface T v] ++ vs.toArray).size = vs.toArray := by
    apply Array.ext'
    simp
  have h3 : (#[Value.iface T v] ++ vs.toArray)[0]? = some (Value.iface T v) := by simp
  have h4 := hm w
  simp only [execOp, resolve, h.eval hx, h1, Sem.run_bind, Sem.run_pure, Result.andThen_ok, invoke]
  simp only [h3, h2]
  exact h4
theorem JEff.method {x : Operand} {T : TypeId} {v : Value} {name : String} {f : FuncId} {us : Array Value} {args : Array Operand} {ts : Array TypeId} {vs : List Value} {r : Value} (hx : ev e x = some (.iface T v)) (hargs : evs e args.toList = some vs)
    (hm : ∀ w, (callMethod (.iface T v) name vs.toArray).run C.P w = .ok (.enter f us) w) (hf : FnV C.P f us S r) (hdN : Nat.blt d C.N = true)
    (k : ∀ S', S.le S' → JO C R rest Q S' M ((d, r) :: e)) : JEff C R ⟨some d, .call { callee := .invoke x name, args, argTypes := ts }, ty, pos, aft, g⟩ rest Q S M e :=
  JEff.fn (Mc := []) (Mr := M) (sem_method hx hargs hm _ _ _ _ _) rfl rfl hdN (List.Perm.refl _) (by intro l hl m hm; cases hm) hf fun v S' M' hl hp => by
    obtain ⟨rfl, rfl⟩ := hp; exact k S' hl
/-! ### Calls that write what the caller knows -/
theorem Fn.frame {P : Program} {f : FuncId} {args : Array Value} {S : SHeap} {Mc Mr : List MEnt} {PP : Value → SHeap → List MEnt → Prop} (h : Fn P f args S Mc PP) : Fn P f args S (Mc ++ Mr) (fun v S' M' => ∃ Mn, M' = Mn ++ Mr ∧ PP v S' Mn) := fun w hg hok hs ho => by
  have hsep := List.pairwise_append.1 hs
  have hst := Wd.start (w := w) hg hok hs ho
  refine (h w hg (fun m hm => hok m (by simp [hm])) hsep.1 (fun m hm => ho m (by simp [hm]))).mono ?_
  rintro e w' ⟨v, S', M', rfl, hw, hp⟩
  exact ⟨v, S', M' ++ Mr, rfl, hst.call hw, M', rfl, hp⟩
def FnC {κ : Type} (P : Program) (f : FuncId) (args : Array Value) (S : SHeap) (kv : κ → Value) (mb : Nat) (CO : SHeap → List (κ × Value) → Prop) (l : List (κ × Value)) (PP : Value → SHeap → Prop) : Prop :=
  Fn P f args S [.blk mb (mapK kv l)] (fun v S' M' => PP v S' ∧ ∃ l', M' = [.blk mb (mapK kv l')] ∧ CO S' l')
theorem FnC.mono {κ : Type} {P : Program} {f : FuncId} {args : Array Value} {S : SHeap} {kv : κ → Value} {mb : Nat} {CO : SHeap → List (κ × Value) → Prop} {l : List (κ × Value)} {PP PP' : Value → SHeap → Prop} (h : FnC P f args S kv mb CO l PP) (hp : ∀ v S', S.le S' → PP v S' → PP' v S') : FnC P f args S kv mb CO l PP' :=
  Fn.mono h fun v S' _ hl ⟨h1, h2⟩ => ⟨hp v S' hl h1, h2⟩
theorem FnR.toC {κ : Type} {P : Program} {f : FuncId} {args : Array Value} {S : SHeap} {kv : κ → Value} {mb : Nat} {CO : SHeap → List (κ × Value) → Prop} {l : List (κ × Value)} {PP : Value → SHeap → Prop} (h : FnR P f args S PP) (hco : ∀ S', S.le S' → CO S' l) : FnC P f args S kv mb CO l PP :=
  Fn.mono (Fn.frame (Mr := [.blk mb (mapK kv l)]) h) fun v S' M' hl ⟨Mn, e, e1, hp⟩ => by subst e1; exact ⟨hp, l, e, hco S' hl⟩
theorem JEff.callM {f : FuncId} [Ent C.P f] {args : Array Operand} {ts : Array TypeId} {vs : List Value} {Mc Mr : List MEnt} {PP : Value → SHeap → List MEnt → Prop} (hargs : evs e args.toList = some vs) (hM : (Mc ++ Mr).Perm M) (hmw : MayWrite R Mc) (hf : Fn C.P f vs.toArray S Mc PP) (hdN : Nat.blt d C.N = true)
    (k : ∀ v S' M', S.le S' → PP v S' M' → JO C R rest Q S' (M' ++ Mr) ((d, v) :: e)) : JEff C R ⟨some d, .call { callee := .value (.func f), args, argTypes := ts }, ty, pos, aft, g⟩ rest Q S M e :=
  JEff.fn (sem_call hargs _ _ _ _ _) rfl rfl hdN hM hmw hf k
theorem JEff.callC {f : FuncId} [Ent C.P f] {args : Array Operand} {ts : Array TypeId} {vs : List Value} {mb : Nat} {CO : SHeap → List (κ × Value) → Prop} {l : List (κ × Value)} {Mr : List MEnt} {PP : Value → SHeap → Prop} (hargs : evs e args.toList = some vs) (hM : (MEnt.blk mb (mapK kv l) :: Mr).Perm M) (hT : ∀ t, R.T = some t → mb ∈ t)
    (hf : FnC C.P f vs.toArray S kv mb CO l PP) (hdN : Nat.blt d C.N = true) (k : ∀ v S' l', S.le S' → PP v S' → CO S' l' → JO C R rest Q S' (.blk mb (mapK kv l') :: Mr) ((d, v) :: e)) :
    JEff C R ⟨some d, .call { callee := .value (.func f), args, argTypes := ts }, ty, pos, aft, g⟩ rest Q S M e :=
  JEff.fn (Mc := [.blk mb (mapK kv l)]) (sem_call hargs _ _ _ _ _) rfl rfl hdN hM (by intro t ht m hm b hb; rw [List.mem_singleton] at hm; subst hm; simp only [MEnt.own, Option.some.injEq] at hb; subst hb; exact hT t ht) hf fun v S' M' hl hp => by
    obtain ⟨hp, l', rfl, hco⟩ := hp; exact k v S' l' hl hp hco
theorem JEff.dynC {f : FuncId} {x : Operand} {fs cs : Array Value} {args : Array Operand} {ts : Array TypeId} {vs : List Value} {mb : Nat} {CO : SHeap → List (κ × Value) → Prop} {l : List (κ × Value)} {Mr : List MEnt} {PP : Value → SHeap → Prop} (hx : ev e x = some (.func (.func f) fs cs)) (hE : Ent C.P f) (hargs : evs e args.toList = some vs) (hM : (MEnt.blk mb (mapK kv l) :: Mr).Perm M) (hT : ∀ t, R.T = some t → mb ∈ t)
    (hf : FnC C.P f (fs.toList ++ vs ++ cs.toList).toArray S kv mb CO l PP) (hdN : Nat.blt d C.N = true) (k : ∀ v S' l', S.le S' → PP v S' → CO S' l' → JO C R rest Q S' (.blk mb (mapK kv l') :: Mr) ((d, v) :: e)) :
    JEff C R ⟨some d, .call { callee := .value x, args, argTypes := ts }, ty, pos, aft, g⟩ rest Q S M e :=
  JEff.fn (Mc := [.blk mb (mapK kv l)]) (sem_dynL hE hx hargs _ _ _ _ _) rfl rfl hdN hM (by intro t ht m hm b hb; rw [List.mem_singleton] at hm; subst hm; simp only [MEnt.own, Option.some.injEq] at hb; subst hb; exact hT t ht) hf fun v S' M' hl hp => by
    obtain ⟨hp, l', rfl, hco⟩ := hp; exact k v S' l' hl hp hco
theorem JEff.loadE {α : Type} {T t : TypeId} {x : Operand} {b off : Nat} {c : Array Value} {fr : Nat × Nat} (rep : Rp α) {x0 : α} {mid : List Value} (hx : ev e x = some (.pointer (some ⟨b, off, none⟩))) (hM : MEnt.blk b (.cells c t fr) ∈ M)
    (hc : (c.toList.drop off).take rep.sz = mid) (hr : rep.R S mid x0) (ht : TyR C.P T rep) (hdN : Nat.blt d C.N = true)
    (k : JO C R rest Q S M ((d, rep.val mid) :: e)) : JEff C R ⟨some d, .load T x, ty, pos, aft, g⟩ rest Q S M e :=
  JEff.ofRun rfl rfl hdN fun a w hw => by
    have hwb : w.heap[b]? = some (.cells c t fr) := hw.wd.ok _ hM
    have hrun := load_cells ht (p := ⟨b, off, none⟩) (cs := mid) (rep.len hr) (w := w) (fun j v hv => by
      have hadd : (⟨b, off, none⟩ : Addr).add j = ⟨b, off + j, none⟩ := by unfold Addr.add; split <;> simp_all
      rw [hadd]
      simp only [World.cell?, hwb]
      rw [← hc, List.getElem?_take] at hv
      split at hv
      · rw [List.getElem?_drop] at hv; simpa using hv
      · cases hv)
    exact ⟨rep.val mid, w, by simp [execOp, hw.env.eval hx, Instr.loadAt, Instr.sureAddr, hrun], SubX.refl _ _, Nat.le_refl _, S, M, hw.wd, SHeap.le.refl _, k⟩
theorem mayAll {Mc : List MEnt} {R : Rg} (h : R.T = none) : MayWrite R Mc := fun l hl => by rw [h] at hl; cases hl
end
end Go.Dr
namespace Go.Dr
open Go.Proofs
instance : TyR Tryz.prog 1 rVal := ⟨by kernel_rfl⟩
instance : Und Tryz.prog 2 (.int .i64) := ⟨Tryz.underlying2⟩
instance : Zero Tryz.prog 2 (.int .i64 0) := ⟨by kernel_rfl⟩
instance : Byt Tryz.prog 2 8 := ⟨by kernel_rfl⟩
instance : TyR Tryz.prog 2 rI64 := ⟨by kernel_rfl⟩
instance : Und Tryz.prog 3 (.int .i64) := ⟨Tryz.underlying3⟩
instance : Zero Tryz.prog 3 (.int .i64 0) := ⟨by kernel_rfl⟩
instance : Byt Tryz.prog 3 8 := ⟨by kernel_rfl⟩
instance : TyR Tryz.prog 3 rI64 := ⟨by kernel_rfl⟩
instance : Und Tryz.prog 4 (.bool) := ⟨Tryz.underlying4⟩
instance : Zero Tryz.prog 4 (.bool false) := ⟨by kernel_rfl⟩
instance : Byt Tryz.prog 4 1 := ⟨by kernel_rfl⟩
instance : TyR Tryz.prog 4 rBool := ⟨by kernel_rfl⟩
instance : Und Tryz.prog 5 (.int .u8) := ⟨Tryz.underlying5⟩
instance : Zero Tryz.prog 5 (.int .u8 0) := ⟨by kernel_rfl⟩
instance : Byt Tryz.prog 5 1 := ⟨by kernel_rfl⟩
instance : TyR Tryz.prog 5 (rInt .u8) := ⟨by kernel_rfl⟩
instance : Und Tryz.prog 6 (.int .u8) := ⟨Tryz.underlying6⟩
instance : Zero Tryz.prog 6 (.int .u8 0) := ⟨by kernel_rfl⟩
instance : Byt Tryz.prog 6 1 := ⟨by kernel_rfl⟩
instance : TyR Tryz.prog 6 (rInt .u8) := ⟨by kernel_rfl⟩
instance : Zero Tryz.prog 7 (.agg #[.int .i64 0, .int .i64 0, .bool false, .int .u8 0]) := ⟨by kernel_rfl⟩
instance : Zero Tryz.prog 8 (.agg #[.int .i64 0, .int .i64 0, .bool false, .int .u8 0]) := ⟨by kernel_rfl⟩
instance : Und Tryz.prog 9 (.string) := ⟨Tryz.underlying9⟩
instance : Zero Tryz.prog 9 (.string ⟨#[]⟩) := ⟨by kernel_rfl⟩
instance : Byt Tryz.prog 9 16 := ⟨by kernel_rfl⟩
instance : TyR Tryz.prog 9 rStr := ⟨by kernel_rfl⟩
instance : Und Tryz.prog 10 (.string) := ⟨Tryz.underlying10⟩
instance : Zero Tryz.prog 10 (.string ⟨#[]⟩) := ⟨by kernel_rfl⟩
instance : Byt Tryz.prog 10 16 := ⟨by kernel_rfl⟩
instance : TyR Tryz.prog 10 rStr := ⟨by kernel_rfl⟩
instance : Und Tryz.prog 11 (.string) := ⟨Tryz.underlying11⟩
instance : Zero Tryz.prog 11 (.string ⟨#[]⟩) := ⟨by kernel_rfl⟩
instance : Byt Tryz.prog 11 16 := ⟨by kernel_rfl⟩
instance : TyR Tryz.prog 11 rStr := ⟨by kernel_rfl⟩
instance : Und Tryz.prog 12 (.int .u64) := ⟨Tryz.underlying12⟩
instance : Zero Tryz.prog 12 (.int .u64 0) := ⟨by kernel_rfl⟩
instance : Byt Tryz.prog 12 8 := ⟨by kernel_rfl⟩
instance : TyR Tryz.prog 12 (rInt .u64) := ⟨by kernel_rfl⟩
instance : Zero Tryz.prog 13 (.agg #[.string ⟨#[]⟩, .int .u64 0]) := ⟨by kernel_rfl⟩
instance : Zero Tryz.prog 14 (.agg #[.string ⟨#[]⟩, .int .u64 0]) := ⟨by kernel_rfl⟩
instance : Und Tryz.prog 15 (.pointer 257) := ⟨Tryz.underlying15⟩
instance : Zero Tryz.prog 15 (.pointer none) := ⟨by kernel_rfl⟩
instance : Byt Tryz.prog 15 8 := ⟨by kernel_rfl⟩
instance : TyR Tryz.prog 15 rVal := ⟨by kernel_rfl⟩
instance : Und Tryz.prog 16 (.pointer 260) := ⟨Tryz.underlying16⟩
instance : Zero Tryz.prog 16 (.pointer none) := ⟨by kernel_rfl⟩
instance : Byt Tryz.prog 16 8 := ⟨by kernel_rfl⟩
instance : TyR Tryz.prog 16 rVal := ⟨by kernel_rfl⟩
instance : Und Tryz.prog 17 (.pointer 268) := ⟨Tryz.underlying17⟩
instance : Zero Tryz.prog 17 (.pointer none) := ⟨by kernel_rfl⟩
instance : Byt Tryz.prog 17 8 := ⟨by kernel_rfl⟩
instance : TyR Tryz.prog 17 rVal := ⟨by kernel_rfl⟩
instance : Zero Tryz.prog 18 (.agg #[.pointer none]) := ⟨by kernel_rfl⟩
instance : Zero Tryz.prog 19 (.agg #[.pointer none]) := ⟨by kernel_rfl⟩
instance : TyR Tryz.prog 20 rVal := ⟨by kernel_rfl⟩
instance : Und Tryz.prog 21 (.int .i32) := ⟨Tryz.underlying21⟩
instance : Zero Tryz.prog 21 (.int .i32 0) := ⟨by kernel_rfl⟩
instance : Byt Tryz.prog 21 4 := ⟨by kernel_rfl⟩
instance : TyR Tryz.prog 21 (rInt .i32) := ⟨by kernel_rfl⟩
instance : Und Tryz.prog 22 (.slice 57) := ⟨Tryz.underlying22⟩
instance : Zero Tryz.prog 22 (.slice none 0 0) := ⟨by kernel_rfl⟩
instance : Byt Tryz.prog 22 24 := ⟨by kernel_rfl⟩
instance : TyR Tryz.prog 22 (rSlice 112 rNode) := ⟨by kernel_rfl⟩
instance : Und Tryz.prog 23 (.slice 64) := ⟨Tryz.underlying23⟩
instance : Zero Tryz.prog 23 (.slice none 0 0) := ⟨by kernel_rfl⟩
instance : Byt Tryz.prog 23 24 := ⟨by kernel_rfl⟩
instance : TyR Tryz.prog 23 (rSlice 240 rPod) := ⟨by kernel_rfl⟩
instance : Und Tryz.prog 24 (.slice 48) := ⟨Tryz.underlying24⟩
instance : Zero Tryz.prog 24 (.slice none 0 0) := ⟨by kernel_rfl⟩
instance : Byt Tryz.prog 24 24 := ⟨by kernel_rfl⟩
instance : TyR Tryz.prog 24 (rSlice 56 rOwner) := ⟨by kernel_rfl⟩
instance : FOff Tryz.prog 25 0 0 := ⟨by kernel_rfl⟩
instance : FOff Tryz.prog 25 1 1 := ⟨by kernel_rfl⟩
instance : FOff Tryz.prog 25 2 2 := ⟨by kernel_rfl⟩
instance : Zero Tryz.prog 25 (.agg #[.slice none 0 0, .slice none 0 0, .slice none 0 0]) := ⟨by kernel_rfl⟩
instance : ZF Tryz.prog 25 [.slice none 0 0, .slice none 0 0, .slice none 0 0] := ⟨by kernel_rfl, by kernel_rfl⟩
instance : Byt Tryz.prog 25 72 := ⟨by kernel_rfl⟩
instance : FOff Tryz.prog 26 0 0 := ⟨by kernel_rfl⟩
instance : FOff Tryz.prog 26 1 1 := ⟨by kernel_rfl⟩
instance : FOff Tryz.prog 26 2 2 := ⟨by kernel_rfl⟩
instance : Zero Tryz.prog 26 (.agg #[.slice none 0 0, .slice none 0 0, .slice none 0 0]) := ⟨by kernel_rfl⟩
instance : ZF Tryz.prog 26 [.slice none 0 0, .slice none 0 0, .slice none 0 0] := ⟨by kernel_rfl, by kernel_rfl⟩
instance : Conc Tryz.prog 26 := ⟨by kernel_rfl⟩
instance : Byt Tryz.prog 26 72 := ⟨by kernel_rfl⟩
instance : TyR Tryz.prog 26 rSnap := ⟨by kernel_rfl⟩
instance : Und Tryz.prog 27 (.slice 3) := ⟨Tryz.underlying27⟩
instance : Zero Tryz.prog 27 (.slice none 0 0) := ⟨by kernel_rfl⟩
instance : Byt Tryz.prog 27 24 := ⟨by kernel_rfl⟩
instance : TyR Tryz.prog 27 (rSlice 8 rI64) := ⟨by kernel_rfl⟩
instance : TyR Tryz.prog 28 rVal := ⟨by kernel_rfl⟩
instance : TyR Tryz.prog 29 rVal := ⟨by kernel_rfl⟩
instance : Und Tryz.prog 30 (.slice 40) := ⟨Tryz.underlying30⟩
instance : Zero Tryz.prog 30 (.slice none 0 0) := ⟨by kernel_rfl⟩
instance : Byt Tryz.prog 30 24 := ⟨by kernel_rfl⟩
instance : TyR Tryz.prog 30 (rSlice 32 rClause) := ⟨by kernel_rfl⟩
instance : Und Tryz.prog 31 (.int .i64) := ⟨Tryz.underlying31⟩
instance : Zero Tryz.prog 31 (.int .i64 0) := ⟨by kernel_rfl⟩
instance : Conc Tryz.prog 31 := ⟨by kernel_rfl⟩
instance : Byt Tryz.prog 31 8 := ⟨by kernel_rfl⟩
instance : TyR Tryz.prog 31 rI64 := ⟨by kernel_rfl⟩
instance : TyR Tryz.prog 33 rVal := ⟨by kernel_rfl⟩
instance : TyR Tryz.prog 34 rVal := ⟨by kernel_rfl⟩
instance : TyR Tryz.prog 35 rVal := ⟨by kernel_rfl⟩
instance : TyR Tryz.prog 36 rVal := ⟨by kernel_rfl⟩
instance : TyR Tryz.prog 37 rVal := ⟨by kernel_rfl⟩
instance : TyR Tryz.prog 38 rVal := ⟨by kernel_rfl⟩
instance : FOff Tryz.prog 39 0 0 := ⟨by kernel_rfl⟩
instance : FOff Tryz.prog 39 1 1 := ⟨by kernel_rfl⟩
instance : FOff Tryz.prog 39 2 2 := ⟨by kernel_rfl⟩
instance : FOff Tryz.prog 39 3 3 := ⟨by kernel_rfl⟩
instance : Zero Tryz.prog 39 (.agg #[.int .i64 0, .int .i64 0, .int .i64 0, .int .i64 0]) := ⟨by kernel_rfl⟩
instance : ZF Tryz.prog 39 [.int .i64 0, .int .i64 0, .int .i64 0, .int .i64 0] := ⟨by kernel_rfl, by kernel_rfl⟩
instance : FlatS Tryz.prog 39 [.int, .int, .int, .int] := ⟨by kernel_rfl, by kernel_rfl, by kernel_rfl⟩
instance : Byt Tryz.prog 39 32 := ⟨by kernel_rfl⟩
instance : FOff Tryz.prog 40 0 0 := ⟨by kernel_rfl⟩
instance : FOff Tryz.prog 40 1 1 := ⟨by kernel_rfl⟩
instance : FOff Tryz.prog 40 2 2 := ⟨by kernel_rfl⟩
instance : FOff Tryz.prog 40 3 3 := ⟨by kernel_rfl⟩
instance : Zero Tryz.prog 40 (.agg #[.int .i64 0, .int .i64 0, .int .i64 0, .int .i64 0]) := ⟨by kernel_rfl⟩
instance : ZF Tryz.prog 40 [.int .i64 0, .int .i64 0, .int .i64 0, .int .i64 0] := ⟨by kernel_rfl, by kernel_rfl⟩
instance : FlatS Tryz.prog 40 [.int, .int, .int, .int] := ⟨by kernel_rfl, by kernel_rfl, by kernel_rfl⟩
instance : Conc Tryz.prog 40 := ⟨by kernel_rfl⟩
instance : Byt Tryz.prog 40 32 := ⟨by kernel_rfl⟩
instance : TyR Tryz.prog 40 rClause := ⟨by kernel_rfl⟩
instance : TyR Tryz.prog 42 rVal := ⟨by kernel_rfl⟩
instance : TyR Tryz.prog 43 rVal := ⟨by kernel_rfl⟩
instance : TyR Tryz.prog 44 rVal := ⟨by kernel_rfl⟩
instance : TyR Tryz.prog 45 rVal := ⟨by kernel_rfl⟩
instance : TyR Tryz.prog 46 rVal := ⟨by kernel_rfl⟩
instance : FOff Tryz.prog 47 0 0 := ⟨by kernel_rfl⟩
instance : FOff Tryz.prog 47 1 1 := ⟨by kernel_rfl⟩
instance : FOff Tryz.prog 47 2 2 := ⟨by kernel_rfl⟩
instance : FOff Tryz.prog 47 3 3 := ⟨by kernel_rfl⟩
instance : FOff Tryz.prog 47 4 4 := ⟨by kernel_rfl⟩
instance : Zero Tryz.prog 47 (.agg #[.string ⟨#[]⟩, .int .i64 0, .string ⟨#[]⟩, .int .i64 0, .bool false]) := ⟨by kernel_rfl⟩
instance : ZF Tryz.prog 47 [.string ⟨#[]⟩, .int .i64 0, .string ⟨#[]⟩, .int .i64 0, .bool false] := ⟨by kernel_rfl, by kernel_rfl⟩
instance : FlatS Tryz.prog 47 [.str, .int, .str, .int, .bool] := ⟨by kernel_rfl, by kernel_rfl, by kernel_rfl⟩
instance : Byt Tryz.prog 47 56 := ⟨by kernel_rfl⟩
instance : FOff Tryz.prog 48 0 0 := ⟨by kernel_rfl⟩
instance : FOff Tryz.prog 48 1 1 := ⟨by kernel_rfl⟩
instance : FOff Tryz.prog 48 2 2 := ⟨by kernel_rfl⟩
instance : FOff Tryz.prog 48 3 3 := ⟨by kernel_rfl⟩
instance : FOff Tryz.prog 48 4 4 := ⟨by kernel_rfl⟩
instance : Zero Tryz.prog 48 (.agg #[.string ⟨#[]⟩, .int .i64 0, .string ⟨#[]⟩, .int .i64 0, .bool false]) := ⟨by kernel_rfl⟩
instance : ZF Tryz.prog 48 [.string ⟨#[]⟩, .int .i64 0, .string ⟨#[]⟩, .int .i64 0, .bool false] := ⟨by kernel_rfl, by kernel_rfl⟩
instance : FlatS Tryz.prog 48 [.str, .int, .str, .int, .bool] := ⟨by kernel_rfl, by kernel_rfl, by kernel_rfl⟩
instance : Conc Tryz.prog 48 := ⟨by kernel_rfl⟩
instance : Byt Tryz.prog 48 56 := ⟨by kernel_rfl⟩
instance : TyR Tryz.prog 48 rOwner := ⟨by kernel_rfl⟩
instance : TyR Tryz.prog 49 rVal := ⟨by kernel_rfl⟩
instance : TyR Tryz.prog 50 rVal := ⟨by kernel_rfl⟩
instance : FOff Tryz.prog 51 0 0 := ⟨by kernel_rfl⟩
instance : FOff Tryz.prog 51 1 1 := ⟨by kernel_rfl⟩
instance : Zero Tryz.prog 51 (.agg #[.string ⟨#[]⟩, .string ⟨#[]⟩]) := ⟨by kernel_rfl⟩
instance : ZF Tryz.prog 51 [.string ⟨#[]⟩, .string ⟨#[]⟩] := ⟨by kernel_rfl, by kernel_rfl⟩
instance : FlatS Tryz.prog 51 [.str, .str] := ⟨by kernel_rfl, by kernel_rfl, by kernel_rfl⟩
instance : Byt Tryz.prog 51 32 := ⟨by kernel_rfl⟩
instance : FOff Tryz.prog 52 0 0 := ⟨by kernel_rfl⟩
instance : FOff Tryz.prog 52 1 1 := ⟨by kernel_rfl⟩
instance : Zero Tryz.prog 52 (.agg #[.string ⟨#[]⟩, .string ⟨#[]⟩]) := ⟨by kernel_rfl⟩
instance : ZF Tryz.prog 52 [.string ⟨#[]⟩, .string ⟨#[]⟩] := ⟨by kernel_rfl, by kernel_rfl⟩
instance : FlatS Tryz.prog 52 [.str, .str] := ⟨by kernel_rfl, by kernel_rfl, by kernel_rfl⟩
instance : Conc Tryz.prog 52 := ⟨by kernel_rfl⟩
instance : Byt Tryz.prog 52 32 := ⟨by kernel_rfl⟩
instance : TyR Tryz.prog 52 rLabel := ⟨by kernel_rfl⟩
instance : Und Tryz.prog 53 (.slice 52) := ⟨Tryz.underlying53⟩
instance : Zero Tryz.prog 53 (.slice none 0 0) := ⟨by kernel_rfl⟩
instance : Byt Tryz.prog 53 24 := ⟨by kernel_rfl⟩
instance : TyR Tryz.prog 53 (rSlice 32 rLabel) := ⟨by kernel_rfl⟩
instance : Und Tryz.prog 54 (.array 5 3) := ⟨Tryz.underlying54⟩
instance : Zero Tryz.prog 54 (.agg #[.int .i64 0, .int .i64 0, .int .i64 0, .int .i64 0, .int .i64 0]) := ⟨by kernel_rfl⟩
instance : ZA Tryz.prog 54 5 3 1 (.int .i64 0) := ⟨Tryz.underlying54, by kernel_rfl, rfl, by kernel_rfl⟩
instance : Byt Tryz.prog 54 40 := ⟨by kernel_rfl⟩
instance : Und Tryz.prog 55 (.array 5 3) := ⟨Tryz.underlying55⟩
instance : Zero Tryz.prog 55 (.agg #[.int .i64 0, .int .i64 0, .int .i64 0, .int .i64 0, .int .i64 0]) := ⟨by kernel_rfl⟩
instance : ZA Tryz.prog 55 5 3 1 (.int .i64 0) := ⟨Tryz.underlying55, by kernel_rfl, rfl, by kernel_rfl⟩
instance : Conc Tryz.prog 55 := ⟨by kernel_rfl⟩
instance : Byt Tryz.prog 55 40 := ⟨by kernel_rfl⟩
instance : TyR Tryz.prog 55 (rArr 5) := ⟨by kernel_rfl⟩
instance : FOff Tryz.prog 56 0 0 := ⟨by kernel_rfl⟩
instance : FOff Tryz.prog 56 1 1 := ⟨by kernel_rfl⟩
instance : FOff Tryz.prog 56 2 6 := ⟨by kernel_rfl⟩
instance : FOff Tryz.prog 56 3 7 := ⟨by kernel_rfl⟩
instance : FOff Tryz.prog 56 4 8 := ⟨by kernel_rfl⟩
instance : FOff Tryz.prog 56 5 9 := ⟨by kernel_rfl⟩
instance : Zero Tryz.prog 56 (.agg #[.string ⟨#[]⟩, .int .i64 0, .int .i64 0, .int .i64 0, .int .i64 0, .int .i64 0, .slice none 0 0, .slice none 0 0, .bool false, .bool false]) := ⟨by kernel_rfl⟩
instance : ZF Tryz.prog 56 [.string ⟨#[]⟩, .agg #[.int .i64 0, .int .i64 0, .int .i64 0, .int .i64 0, .int .i64 0], .slice none 0 0, .slice none 0 0, .bool false, .bool false] := ⟨by kernel_rfl, by kernel_rfl⟩
instance : Byt Tryz.prog 56 112 := ⟨by kernel_rfl⟩
instance : FOff Tryz.prog 57 0 0 := ⟨by kernel_rfl⟩
instance : FOff Tryz.prog 57 1 1 := ⟨by kernel_rfl⟩
instance : FOff Tryz.prog 57 2 6 := ⟨by kernel_rfl⟩
instance : FOff Tryz.prog 57 3 7 := ⟨by kernel_rfl⟩
instance : FOff Tryz.prog 57 4 8 := ⟨by kernel_rfl⟩
instance : FOff Tryz.prog 57 5 9 := ⟨by kernel_rfl⟩
instance : Zero Tryz.prog 57 (.agg #[.string ⟨#[]⟩, .int .i64 0, .int .i64 0, .int .i64 0, .int .i64 0, .int .i64 0, .slice none 0 0, .slice none 0 0, .bool false, .bool false]) := ⟨by kernel_rfl⟩
instance : ZF Tryz.prog 57 [.string ⟨#[]⟩, .agg #[.int .i64 0, .int .i64 0, .int .i64 0, .int .i64 0, .int .i64 0], .slice none 0 0, .slice none 0 0, .bool false, .bool false] := ⟨by kernel_rfl, by kernel_rfl⟩
instance : Conc Tryz.prog 57 := ⟨by kernel_rfl⟩
instance : Byt Tryz.prog 57 112 := ⟨by kernel_rfl⟩
instance : TyR Tryz.prog 57 rNode := ⟨by kernel_rfl⟩
instance : FOff Tryz.prog 58 0 0 := ⟨by kernel_rfl⟩
instance : FOff Tryz.prog 58 1 1 := ⟨by kernel_rfl⟩
instance : FOff Tryz.prog 58 2 2 := ⟨by kernel_rfl⟩
instance : Zero Tryz.prog 58 (.agg #[.int .i64 0, .string ⟨#[]⟩, .string ⟨#[]⟩]) := ⟨by kernel_rfl⟩
instance : ZF Tryz.prog 58 [.int .i64 0, .string ⟨#[]⟩, .string ⟨#[]⟩] := ⟨by kernel_rfl, by kernel_rfl⟩
instance : FlatS Tryz.prog 58 [.int, .str, .str] := ⟨by kernel_rfl, by kernel_rfl, by kernel_rfl⟩
instance : Byt Tryz.prog 58 40 := ⟨by kernel_rfl⟩
instance : FOff Tryz.prog 59 0 0 := ⟨by kernel_rfl⟩
instance : FOff Tryz.prog 59 1 1 := ⟨by kernel_rfl⟩
instance : FOff Tryz.prog 59 2 2 := ⟨by kernel_rfl⟩
instance : Zero Tryz.prog 59 (.agg #[.int .i64 0, .string ⟨#[]⟩, .string ⟨#[]⟩]) := ⟨by kernel_rfl⟩
instance : ZF Tryz.prog 59 [.int .i64 0, .string ⟨#[]⟩, .string ⟨#[]⟩] := ⟨by kernel_rfl, by kernel_rfl⟩
instance : FlatS Tryz.prog 59 [.int, .str, .str] := ⟨by kernel_rfl, by kernel_rfl, by kernel_rfl⟩
instance : Conc Tryz.prog 59 := ⟨by kernel_rfl⟩
instance : Byt Tryz.prog 59 40 := ⟨by kernel_rfl⟩
instance : TyR Tryz.prog 59 rTerm := ⟨by kernel_rfl⟩
instance : Und Tryz.prog 60 (.slice 59) := ⟨Tryz.underlying60⟩
instance : Zero Tryz.prog 60 (.slice none 0 0) := ⟨by kernel_rfl⟩
instance : Byt Tryz.prog 60 24 := ⟨by kernel_rfl⟩
instance : TyR Tryz.prog 60 (rSlice 40 rTerm) := ⟨by kernel_rfl⟩
instance : FOff Tryz.prog 61 0 0 := ⟨by kernel_rfl⟩
instance : FOff Tryz.prog 61 1 1 := ⟨by kernel_rfl⟩
instance : Zero Tryz.prog 61 (.agg #[.string ⟨#[]⟩, .slice none 0 0]) := ⟨by kernel_rfl⟩
instance : ZF Tryz.prog 61 [.string ⟨#[]⟩, .slice none 0 0] := ⟨by kernel_rfl, by kernel_rfl⟩
instance : Byt Tryz.prog 61 40 := ⟨by kernel_rfl⟩
instance : FOff Tryz.prog 62 0 0 := ⟨by kernel_rfl⟩
instance : FOff Tryz.prog 62 1 1 := ⟨by kernel_rfl⟩
instance : Zero Tryz.prog 62 (.agg #[.string ⟨#[]⟩, .slice none 0 0]) := ⟨by kernel_rfl⟩
instance : ZF Tryz.prog 62 [.string ⟨#[]⟩, .slice none 0 0] := ⟨by kernel_rfl, by kernel_rfl⟩
instance : Conc Tryz.prog 62 := ⟨by kernel_rfl⟩
instance : Byt Tryz.prog 62 40 := ⟨by kernel_rfl⟩
instance : TyR Tryz.prog 62 rNear := ⟨by kernel_rfl⟩
instance : FOff Tryz.prog 63 0 0 := ⟨by kernel_rfl⟩
instance : FOff Tryz.prog 63 1 1 := ⟨by kernel_rfl⟩
instance : FOff Tryz.prog 63 2 2 := ⟨by kernel_rfl⟩
instance : FOff Tryz.prog 63 3 7 := ⟨by kernel_rfl⟩
instance : FOff Tryz.prog 63 4 8 := ⟨by kernel_rfl⟩
instance : FOff Tryz.prog 63 5 9 := ⟨by kernel_rfl⟩
instance : FOff Tryz.prog 63 6 10 := ⟨by kernel_rfl⟩
instance : FOff Tryz.prog 63 7 12 := ⟨by kernel_rfl⟩
instance : FOff Tryz.prog 63 8 14 := ⟨by kernel_rfl⟩
instance : Zero Tryz.prog 63 (.agg #[.string ⟨#[]⟩, .string ⟨#[]⟩, .int .i64 0, .int .i64 0, .int .i64 0, .int .i64 0, .int .i64 0, .slice none 0 0, .slice none 0 0, .slice none 0 0, .string ⟨#[]⟩, .slice none 0 0, .string ⟨#[]⟩, .slice none 0 0, .string ⟨#[]⟩]) := ⟨by kernel_rfl⟩
instance : ZF Tryz.prog 63 [.string ⟨#[]⟩, .string ⟨#[]⟩, .agg #[.int .i64 0, .int .i64 0, .int .i64 0, .int .i64 0, .int .i64 0], .slice none 0 0, .slice none 0 0, .slice none 0 0, .agg #[.string ⟨#[]⟩, .slice none 0 0], .agg #[.string ⟨#[]⟩, .slice none 0 0], .string ⟨#[]⟩] := ⟨by kernel_rfl, by kernel_rfl⟩
instance : Byt Tryz.prog 63 240 := ⟨by kernel_rfl⟩
instance : FOff Tryz.prog 64 0 0 := ⟨by kernel_rfl⟩
instance : FOff Tryz.prog 64 1 1 := ⟨by kernel_rfl⟩
instance : FOff Tryz.prog 64 2 2 := ⟨by kernel_rfl⟩
instance : FOff Tryz.prog 64 3 7 := ⟨by kernel_rfl⟩
instance : FOff Tryz.prog 64 4 8 := ⟨by kernel_rfl⟩
instance : FOff Tryz.prog 64 5 9 := ⟨by kernel_rfl⟩
instance : FOff Tryz.prog 64 6 10 := ⟨by kernel_rfl⟩
instance : FOff Tryz.prog 64 7 12 := ⟨by kernel_rfl⟩
instance : FOff Tryz.prog 64 8 14 := ⟨by kernel_rfl⟩
instance : Zero Tryz.prog 64 (.agg #[.string ⟨#[]⟩, .string ⟨#[]⟩, .int .i64 0, .int .i64 0, .int .i64 0, .int .i64 0, .int .i64 0, .slice none 0 0, .slice none 0 0, .slice none 0 0, .string ⟨#[]⟩, .slice none 0 0, .string ⟨#[]⟩, .slice none 0 0, .string ⟨#[]⟩]) := ⟨by kernel_rfl⟩
instance : ZF Tryz.prog 64 [.string ⟨#[]⟩, .string ⟨#[]⟩, .agg #[.int .i64 0, .int .i64 0, .int .i64 0, .int .i64 0, .int .i64 0], .slice none 0 0, .slice none 0 0, .slice none 0 0, .agg #[.string ⟨#[]⟩, .slice none 0 0], .agg #[.string ⟨#[]⟩, .slice none 0 0], .string ⟨#[]⟩] := ⟨by kernel_rfl, by kernel_rfl⟩
instance : Conc Tryz.prog 64 := ⟨by kernel_rfl⟩
instance : Byt Tryz.prog 64 240 := ⟨by kernel_rfl⟩
instance : TyR Tryz.prog 64 rPod := ⟨by kernel_rfl⟩
instance : TyR Tryz.prog 66 rVal := ⟨by kernel_rfl⟩
instance : TyR Tryz.prog 67 rVal := ⟨by kernel_rfl⟩
instance : TyR Tryz.prog 69 rVal := ⟨by kernel_rfl⟩
instance : TyR Tryz.prog 70 rVal := ⟨by kernel_rfl⟩
instance : TyR Tryz.prog 72 rVal := ⟨by kernel_rfl⟩
instance : FOff Tryz.prog 73 0 0 := ⟨by kernel_rfl⟩
instance : FOff Tryz.prog 73 1 1 := ⟨by kernel_rfl⟩
instance : FOff Tryz.prog 73 2 2 := ⟨by kernel_rfl⟩
instance : Zero Tryz.prog 73 (.agg #[.int .i64 0, .int .i64 0, .int .i64 0]) := ⟨by kernel_rfl⟩
instance : ZF Tryz.prog 73 [.int .i64 0, .int .i64 0, .int .i64 0] := ⟨by kernel_rfl, by kernel_rfl⟩
instance : FlatS Tryz.prog 73 [.int, .int, .int] := ⟨by kernel_rfl, by kernel_rfl, by kernel_rfl⟩
instance : Byt Tryz.prog 73 24 := ⟨by kernel_rfl⟩
instance : FOff Tryz.prog 74 0 0 := ⟨by kernel_rfl⟩
instance : FOff Tryz.prog 74 1 1 := ⟨by kernel_rfl⟩
instance : FOff Tryz.prog 74 2 2 := ⟨by kernel_rfl⟩
instance : Zero Tryz.prog 74 (.agg #[.int .i64 0, .int .i64 0, .int .i64 0]) := ⟨by kernel_rfl⟩
instance : ZF Tryz.prog 74 [.int .i64 0, .int .i64 0, .int .i64 0] := ⟨by kernel_rfl, by kernel_rfl⟩
instance : FlatS Tryz.prog 74 [.int, .int, .int] := ⟨by kernel_rfl, by kernel_rfl, by kernel_rfl⟩
instance : Conc Tryz.prog 74 := ⟨by kernel_rfl⟩
instance : Byt Tryz.prog 74 24 := ⟨by kernel_rfl⟩
instance : TyR Tryz.prog 74 rStep := ⟨by kernel_rfl⟩
instance : TyR Tryz.prog 75 rVal := ⟨by kernel_rfl⟩
instance : TyR Tryz.prog 77 rVal := ⟨by kernel_rfl⟩
instance : TyR Tryz.prog 78 rVal := ⟨by kernel_rfl⟩
instance : Und Tryz.prog 79 (.slice 74) := ⟨Tryz.underlying79⟩
instance : Zero Tryz.prog 79 (.slice none 0 0) := ⟨by kernel_rfl⟩
instance : Byt Tryz.prog 79 24 := ⟨by kernel_rfl⟩
instance : TyR Tryz.prog 79 (rSlice 24 rStep) := ⟨by kernel_rfl⟩
instance : TyR Tryz.prog 81 rVal := ⟨by kernel_rfl⟩
instance : TyR Tryz.prog 82 rVal := ⟨by kernel_rfl⟩
instance : TyR Tryz.prog 83 rVal := ⟨by kernel_rfl⟩
instance : TyR Tryz.prog 84 rVal := ⟨by kernel_rfl⟩
instance : TyR Tryz.prog 85 rVal := ⟨by kernel_rfl⟩
instance : Und Tryz.prog 86 (.pointer 116) := ⟨Tryz.underlying86⟩
instance : Zero Tryz.prog 86 (.pointer none) := ⟨by kernel_rfl⟩
instance : Byt Tryz.prog 86 8 := ⟨by kernel_rfl⟩
instance : TyR Tryz.prog 86 rVal := ⟨by kernel_rfl⟩
instance : TyR Tryz.prog 88 rVal := ⟨by kernel_rfl⟩
instance : TyR Tryz.prog 89 rVal := ⟨by kernel_rfl⟩
instance : TyR Tryz.prog 90 rVal := ⟨by kernel_rfl⟩
instance : TyR Tryz.prog 91 rVal := ⟨by kernel_rfl⟩
instance : TyR Tryz.prog 92 rVal := ⟨by kernel_rfl⟩
instance : TyR Tryz.prog 93 rVal := ⟨by kernel_rfl⟩
instance : TyR Tryz.prog 94 rVal := ⟨by kernel_rfl⟩
instance : TyR Tryz.prog 95 rVal := ⟨by kernel_rfl⟩
instance : TyR Tryz.prog 96 rVal := ⟨by kernel_rfl⟩
instance : TyR Tryz.prog 97 rVal := ⟨by kernel_rfl⟩
instance : TyR Tryz.prog 98 rVal := ⟨by kernel_rfl⟩
instance : Und Tryz.prog 99 (.map 104 3) := ⟨Tryz.underlying99⟩
instance : Zero Tryz.prog 99 (.map none) := ⟨by kernel_rfl⟩
instance : Byt Tryz.prog 99 8 := ⟨by kernel_rfl⟩
instance : TyR Tryz.prog 99 rVal := ⟨by kernel_rfl⟩
instance : Und Tryz.prog 100 (.map 104 3) := ⟨Tryz.underlying100⟩
instance : Zero Tryz.prog 100 (.map none) := ⟨by kernel_rfl⟩
instance : Conc Tryz.prog 100 := ⟨by kernel_rfl⟩
instance : Byt Tryz.prog 100 8 := ⟨by kernel_rfl⟩
instance : TyR Tryz.prog 100 rVal := ⟨by kernel_rfl⟩
instance : TyR Tryz.prog 102 rVal := ⟨by kernel_rfl⟩
instance : FOff Tryz.prog 103 0 0 := ⟨by kernel_rfl⟩
instance : FOff Tryz.prog 103 1 1 := ⟨by kernel_rfl⟩
instance : FOff Tryz.prog 103 2 2 := ⟨by kernel_rfl⟩
instance : Zero Tryz.prog 103 (.agg #[.int .i64 0, .int .i64 0, .int .i64 0]) := ⟨by kernel_rfl⟩
instance : ZF Tryz.prog 103 [.int .i64 0, .int .i64 0, .int .i64 0] := ⟨by kernel_rfl, by kernel_rfl⟩
instance : FlatS Tryz.prog 103 [.int, .int, .int] := ⟨by kernel_rfl, by kernel_rfl, by kernel_rfl⟩
instance : Byt Tryz.prog 103 24 := ⟨by kernel_rfl⟩
instance : FOff Tryz.prog 104 0 0 := ⟨by kernel_rfl⟩
instance : FOff Tryz.prog 104 1 1 := ⟨by kernel_rfl⟩
instance : FOff Tryz.prog 104 2 2 := ⟨by kernel_rfl⟩
instance : Zero Tryz.prog 104 (.agg #[.int .i64 0, .int .i64 0, .int .i64 0]) := ⟨by kernel_rfl⟩
instance : ZF Tryz.prog 104 [.int .i64 0, .int .i64 0, .int .i64 0] := ⟨by kernel_rfl, by kernel_rfl⟩
instance : FlatS Tryz.prog 104 [.int, .int, .int] := ⟨by kernel_rfl, by kernel_rfl, by kernel_rfl⟩
instance : Conc Tryz.prog 104 := ⟨by kernel_rfl⟩
instance : Byt Tryz.prog 104 24 := ⟨by kernel_rfl⟩
instance : TyR Tryz.prog 105 rVal := ⟨by kernel_rfl⟩
instance : TyR Tryz.prog 106 rVal := ⟨by kernel_rfl⟩
instance : Byt Tryz.prog 107 16 := ⟨by kernel_rfl⟩
instance : TyR Tryz.prog 107 rVal := ⟨by kernel_rfl⟩
instance : TyR Tryz.prog 109 rVal := ⟨by kernel_rfl⟩
instance : TyR Tryz.prog 111 rVal := ⟨by kernel_rfl⟩
instance : TyR Tryz.prog 112 rVal := ⟨by kernel_rfl⟩
instance : Und Tryz.prog 113 (.map 9 219) := ⟨Tryz.underlying113⟩
instance : Zero Tryz.prog 113 (.map none) := ⟨by kernel_rfl⟩
instance : Byt Tryz.prog 113 8 := ⟨by kernel_rfl⟩
instance : TyR Tryz.prog 113 rVal := ⟨by kernel_rfl⟩
instance : Und Tryz.prog 114 (.slice 55) := ⟨Tryz.underlying114⟩
instance : Zero Tryz.prog 114 (.slice none 0 0) := ⟨by kernel_rfl⟩
instance : Byt Tryz.prog 114 24 := ⟨by kernel_rfl⟩
instance : TyR Tryz.prog 114 (rSlice 40 (rArr 5)) := ⟨by kernel_rfl⟩
instance : FOff Tryz.prog 115 0 0 := ⟨by kernel_rfl⟩
instance : FOff Tryz.prog 115 1 3 := ⟨by kernel_rfl⟩
instance : FOff Tryz.prog 115 2 4 := ⟨by kernel_rfl⟩
instance : FOff Tryz.prog 115 3 5 := ⟨by kernel_rfl⟩
instance : Zero Tryz.prog 115 (.agg #[.slice none 0 0, .slice none 0 0, .slice none 0 0, .slice none 0 0, .slice none 0 0, .map none]) := ⟨by kernel_rfl⟩
instance : ZF Tryz.prog 115 [.agg #[.slice none 0 0, .slice none 0 0, .slice none 0 0], .slice none 0 0, .slice none 0 0, .map none] := ⟨by kernel_rfl, by kernel_rfl⟩
instance : Byt Tryz.prog 115 128 := ⟨by kernel_rfl⟩
instance : FOff Tryz.prog 116 0 0 := ⟨by kernel_rfl⟩
instance : FOff Tryz.prog 116 1 3 := ⟨by kernel_rfl⟩
instance : FOff Tryz.prog 116 2 4 := ⟨by kernel_rfl⟩
instance : FOff Tryz.prog 116 3 5 := ⟨by kernel_rfl⟩
instance : Zero Tryz.prog 116 (.agg #[.slice none 0 0, .slice none 0 0, .slice none 0 0, .slice none 0 0, .slice none 0 0, .map none]) := ⟨by kernel_rfl⟩
instance : ZF Tryz.prog 116 [.agg #[.slice none 0 0, .slice none 0 0, .slice none 0 0], .slice none 0 0, .slice none 0 0, .map none] := ⟨by kernel_rfl, by kernel_rfl⟩
instance : Conc Tryz.prog 116 := ⟨by kernel_rfl⟩
instance : Byt Tryz.prog 116 128 := ⟨by kernel_rfl⟩
instance : TyR Tryz.prog 117 rVal := ⟨by kernel_rfl⟩
instance : TyR Tryz.prog 118 rVal := ⟨by kernel_rfl⟩
instance : Und Tryz.prog 119 (.int .i64) := ⟨Tryz.underlying119⟩
instance : Zero Tryz.prog 119 (.int .i64 0) := ⟨by kernel_rfl⟩
instance : Conc Tryz.prog 119 := ⟨by kernel_rfl⟩
instance : Byt Tryz.prog 119 8 := ⟨by kernel_rfl⟩
instance : TyR Tryz.prog 119 rI64 := ⟨by kernel_rfl⟩
instance : Und Tryz.prog 120 (.int .i64) := ⟨Tryz.underlying120⟩
instance : Zero Tryz.prog 120 (.int .i64 0) := ⟨by kernel_rfl⟩
instance : Conc Tryz.prog 120 := ⟨by kernel_rfl⟩
instance : Byt Tryz.prog 120 8 := ⟨by kernel_rfl⟩
instance : TyR Tryz.prog 120 rI64 := ⟨by kernel_rfl⟩
instance : Und Tryz.prog 121 (.int .i64) := ⟨Tryz.underlying121⟩
instance : Zero Tryz.prog 121 (.int .i64 0) := ⟨by kernel_rfl⟩
instance : Conc Tryz.prog 121 := ⟨by kernel_rfl⟩
instance : Byt Tryz.prog 121 8 := ⟨by kernel_rfl⟩
instance : TyR Tryz.prog 121 rI64 := ⟨by kernel_rfl⟩
instance : TyR Tryz.prog 122 rVal := ⟨by kernel_rfl⟩
instance : TyR Tryz.prog 123 rVal := ⟨by kernel_rfl⟩
instance : TyR Tryz.prog 124 rVal := ⟨by kernel_rfl⟩
instance : TyR Tryz.prog 125 rVal := ⟨by kernel_rfl⟩
instance : TyR Tryz.prog 126 rVal := ⟨by kernel_rfl⟩
instance : Und Tryz.prog 127 (.slice 9) := ⟨Tryz.underlying127⟩
instance : Zero Tryz.prog 127 (.slice none 0 0) := ⟨by kernel_rfl⟩
instance : Byt Tryz.prog 127 24 := ⟨by kernel_rfl⟩
instance : TyR Tryz.prog 127 (rSlice 16 rStr) := ⟨by kernel_rfl⟩
instance : TyR Tryz.prog 128 rVal := ⟨by kernel_rfl⟩
instance : TyR Tryz.prog 129 rVal := ⟨by kernel_rfl⟩
instance : TyR Tryz.prog 130 rVal := ⟨by kernel_rfl⟩
instance : TyR Tryz.prog 131 rVal := ⟨by kernel_rfl⟩
instance : TyR Tryz.prog 132 rVal := ⟨by kernel_rfl⟩
instance : TyR Tryz.prog 133 rVal := ⟨by kernel_rfl⟩
instance : TyR Tryz.prog 134 rVal := ⟨by kernel_rfl⟩
instance : TyR Tryz.prog 135 rVal := ⟨by kernel_rfl⟩
instance : TyR Tryz.prog 137 rVal := ⟨by kernel_rfl⟩
instance : TyR Tryz.prog 138 rVal := ⟨by kernel_rfl⟩
instance : TyR Tryz.prog 139 rVal := ⟨by kernel_rfl⟩
instance : TyR Tryz.prog 140 rVal := ⟨by kernel_rfl⟩
instance : TyR Tryz.prog 141 rVal := ⟨by kernel_rfl⟩
instance : TyR Tryz.prog 142 rVal := ⟨by kernel_rfl⟩
instance : TyR Tryz.prog 143 rVal := ⟨by kernel_rfl⟩
instance : TyR Tryz.prog 144 rVal := ⟨by kernel_rfl⟩
instance : Byt Tryz.prog 145 8 := ⟨by kernel_rfl⟩
instance : TyR Tryz.prog 145 rVal := ⟨by kernel_rfl⟩
instance : TyR Tryz.prog 146 rVal := ⟨by kernel_rfl⟩
instance : TyR Tryz.prog 147 rVal := ⟨by kernel_rfl⟩
instance : Byt Tryz.prog 148 16 := ⟨by kernel_rfl⟩
instance : TyR Tryz.prog 148 rVal := ⟨by kernel_rfl⟩
instance : TyR Tryz.prog 149 rVal := ⟨by kernel_rfl⟩
instance : TyR Tryz.prog 150 rVal := ⟨by kernel_rfl⟩
instance : FOff Tryz.prog 151 0 0 := ⟨by kernel_rfl⟩
instance : Zero Tryz.prog 151 (.agg #[.nilFunc]) := ⟨by kernel_rfl⟩
instance : ZF Tryz.prog 151 [.nilFunc] := ⟨by kernel_rfl, by kernel_rfl⟩
instance : Byt Tryz.prog 151 8 := ⟨by kernel_rfl⟩
instance : FOff Tryz.prog 152 0 0 := ⟨by kernel_rfl⟩
instance : Zero Tryz.prog 152 (.agg #[.nilFunc]) := ⟨by kernel_rfl⟩
instance : ZF Tryz.prog 152 [.nilFunc] := ⟨by kernel_rfl, by kernel_rfl⟩
instance : Conc Tryz.prog 152 := ⟨by kernel_rfl⟩
instance : Byt Tryz.prog 152 8 := ⟨by kernel_rfl⟩
instance : Und Tryz.prog 153 (.map 3 152) := ⟨Tryz.underlying153⟩
instance : Zero Tryz.prog 153 (.map none) := ⟨by kernel_rfl⟩
instance : Byt Tryz.prog 153 8 := ⟨by kernel_rfl⟩
instance : TyR Tryz.prog 153 rVal := ⟨by kernel_rfl⟩
instance : TyR Tryz.prog 154 rVal := ⟨by kernel_rfl⟩
instance : TyR Tryz.prog 155 rVal := ⟨by kernel_rfl⟩
instance : TyR Tryz.prog 156 rVal := ⟨by kernel_rfl⟩
instance : TyR Tryz.prog 157 rVal := ⟨by kernel_rfl⟩
instance : TyR Tryz.prog 158 rVal := ⟨by kernel_rfl⟩
instance : TyR Tryz.prog 159 rVal := ⟨by kernel_rfl⟩
instance : TyR Tryz.prog 161 rVal := ⟨by kernel_rfl⟩
instance : TyR Tryz.prog 162 rVal := ⟨by kernel_rfl⟩
instance : TyR Tryz.prog 163 rVal := ⟨by kernel_rfl⟩
instance : TyR Tryz.prog 164 rVal := ⟨by kernel_rfl⟩
instance : TyR Tryz.prog 165 rVal := ⟨by kernel_rfl⟩
instance : TyR Tryz.prog 166 rVal := ⟨by kernel_rfl⟩
instance : TyR Tryz.prog 167 rVal := ⟨by kernel_rfl⟩
instance : TyR Tryz.prog 168 rVal := ⟨by kernel_rfl⟩
instance : TyR Tryz.prog 169 rVal := ⟨by kernel_rfl⟩
instance : TyR Tryz.prog 170 rVal := ⟨by kernel_rfl⟩
instance : TyR Tryz.prog 171 rVal := ⟨by kernel_rfl⟩
instance : TyR Tryz.prog 172 rVal := ⟨by kernel_rfl⟩
instance : TyR Tryz.prog 173 rVal := ⟨by kernel_rfl⟩
instance : TyR Tryz.prog 174 rVal := ⟨by kernel_rfl⟩
instance : TyR Tryz.prog 175 rVal := ⟨by kernel_rfl⟩
instance : TyR Tryz.prog 176 rVal := ⟨by kernel_rfl⟩
instance : TyR Tryz.prog 177 rVal := ⟨by kernel_rfl⟩
instance : TyR Tryz.prog 178 rVal := ⟨by kernel_rfl⟩
instance : TyR Tryz.prog 179 rVal := ⟨by kernel_rfl⟩
instance : TyR Tryz.prog 180 rVal := ⟨by kernel_rfl⟩
instance : TyR Tryz.prog 181 rVal := ⟨by kernel_rfl⟩
instance : Und Tryz.prog 182 (.slice 31) := ⟨Tryz.underlying182⟩
instance : Zero Tryz.prog 182 (.slice none 0 0) := ⟨by kernel_rfl⟩
instance : Byt Tryz.prog 182 24 := ⟨by kernel_rfl⟩
instance : TyR Tryz.prog 182 (rSlice 8 rI64) := ⟨by kernel_rfl⟩
instance : TyR Tryz.prog 183 rVal := ⟨by kernel_rfl⟩
instance : TyR Tryz.prog 184 rVal := ⟨by kernel_rfl⟩
instance : TyR Tryz.prog 185 rVal := ⟨by kernel_rfl⟩
instance : TyR Tryz.prog 186 rVal := ⟨by kernel_rfl⟩
instance : TyR Tryz.prog 187 rVal := ⟨by kernel_rfl⟩
instance : TyR Tryz.prog 188 rVal := ⟨by kernel_rfl⟩
instance : TyR Tryz.prog 189 rVal := ⟨by kernel_rfl⟩
instance : TyR Tryz.prog 190 rVal := ⟨by kernel_rfl⟩
instance : TyR Tryz.prog 191 rVal := ⟨by kernel_rfl⟩
instance : TyR Tryz.prog 192 rVal := ⟨by kernel_rfl⟩
instance : Byt Tryz.prog 193 8 := ⟨by kernel_rfl⟩
instance : TyR Tryz.prog 193 rVal := ⟨by kernel_rfl⟩
instance : TyR Tryz.prog 194 rVal := ⟨by kernel_rfl⟩
instance : TyR Tryz.prog 195 rVal := ⟨by kernel_rfl⟩
instance : TyR Tryz.prog 197 rVal := ⟨by kernel_rfl⟩
instance : TyR Tryz.prog 198 rVal := ⟨by kernel_rfl⟩
instance : TyR Tryz.prog 199 rVal := ⟨by kernel_rfl⟩
instance : TyR Tryz.prog 200 rVal := ⟨by kernel_rfl⟩
instance : TyR Tryz.prog 201 rVal := ⟨by kernel_rfl⟩
instance : TyR Tryz.prog 202 rVal := ⟨by kernel_rfl⟩
instance : TyR Tryz.prog 203 rVal := ⟨by kernel_rfl⟩
instance : TyR Tryz.prog 204 rVal := ⟨by kernel_rfl⟩
instance : TyR Tryz.prog 205 rVal := ⟨by kernel_rfl⟩
instance : TyR Tryz.prog 206 rVal := ⟨by kernel_rfl⟩
instance : TyR Tryz.prog 207 rVal := ⟨by kernel_rfl⟩
instance : TyR Tryz.prog 208 rVal := ⟨by kernel_rfl⟩
instance : TyR Tryz.prog 209 rVal := ⟨by kernel_rfl⟩
instance : TyR Tryz.prog 210 rVal := ⟨by kernel_rfl⟩
instance : Und Tryz.prog 211 (.map 9 3) := ⟨Tryz.underlying211⟩
instance : Zero Tryz.prog 211 (.map none) := ⟨by kernel_rfl⟩
instance : Byt Tryz.prog 211 8 := ⟨by kernel_rfl⟩
instance : TyR Tryz.prog 211 rVal := ⟨by kernel_rfl⟩
instance : TyR Tryz.prog 212 rVal := ⟨by kernel_rfl⟩
instance : TyR Tryz.prog 213 rVal := ⟨by kernel_rfl⟩
instance : Byt Tryz.prog 214 8 := ⟨by kernel_rfl⟩
instance : TyR Tryz.prog 214 rVal := ⟨by kernel_rfl⟩
instance : TyR Tryz.prog 215 rVal := ⟨by kernel_rfl⟩
instance : TyR Tryz.prog 216 rVal := ⟨by kernel_rfl⟩
instance : TyR Tryz.prog 217 rVal := ⟨by kernel_rfl⟩
instance : TyR Tryz.prog 218 rVal := ⟨by kernel_rfl⟩
instance : Und Tryz.prog 219 (.slice 223) := ⟨Tryz.underlying219⟩
instance : Zero Tryz.prog 219 (.slice none 0 0) := ⟨by kernel_rfl⟩
instance : Byt Tryz.prog 219 24 := ⟨by kernel_rfl⟩
instance : TyR Tryz.prog 221 rVal := ⟨by kernel_rfl⟩
instance : FOff Tryz.prog 222 0 0 := ⟨by kernel_rfl⟩
instance : FOff Tryz.prog 222 1 1 := ⟨by kernel_rfl⟩
instance : Zero Tryz.prog 222 (.agg #[.string ⟨#[]⟩, .bool false]) := ⟨by kernel_rfl⟩
instance : ZF Tryz.prog 222 [.string ⟨#[]⟩, .bool false] := ⟨by kernel_rfl, by kernel_rfl⟩
instance : FlatS Tryz.prog 222 [.str, .bool] := ⟨by kernel_rfl, by kernel_rfl, by kernel_rfl⟩
instance : Byt Tryz.prog 222 24 := ⟨by kernel_rfl⟩
instance : FOff Tryz.prog 223 0 0 := ⟨by kernel_rfl⟩
instance : FOff Tryz.prog 223 1 1 := ⟨by kernel_rfl⟩
instance : Zero Tryz.prog 223 (.agg #[.string ⟨#[]⟩, .bool false]) := ⟨by kernel_rfl⟩
instance : ZF Tryz.prog 223 [.string ⟨#[]⟩, .bool false] := ⟨by kernel_rfl, by kernel_rfl⟩
instance : FlatS Tryz.prog 223 [.str, .bool] := ⟨by kernel_rfl, by kernel_rfl, by kernel_rfl⟩
instance : Conc Tryz.prog 223 := ⟨by kernel_rfl⟩
instance : Byt Tryz.prog 223 24 := ⟨by kernel_rfl⟩
instance : TyR Tryz.prog 224 rVal := ⟨by kernel_rfl⟩
instance : TyR Tryz.prog 225 rVal := ⟨by kernel_rfl⟩
instance : TyR Tryz.prog 226 rVal := ⟨by kernel_rfl⟩
instance : TyR Tryz.prog 227 rVal := ⟨by kernel_rfl⟩
instance : TyR Tryz.prog 228 rVal := ⟨by kernel_rfl⟩
instance : TyR Tryz.prog 229 rVal := ⟨by kernel_rfl⟩
instance : TyR Tryz.prog 230 rVal := ⟨by kernel_rfl⟩
instance : TyR Tryz.prog 231 rVal := ⟨by kernel_rfl⟩
instance : TyR Tryz.prog 232 rVal := ⟨by kernel_rfl⟩
instance : Und Tryz.prog 233 (.int .u64) := ⟨Tryz.underlying233⟩
instance : Zero Tryz.prog 233 (.int .u64 0) := ⟨by kernel_rfl⟩
instance : Byt Tryz.prog 233 8 := ⟨by kernel_rfl⟩
instance : TyR Tryz.prog 233 (rInt .u64) := ⟨by kernel_rfl⟩
instance : TyR Tryz.prog 234 rVal := ⟨by kernel_rfl⟩
instance : TyR Tryz.prog 235 rVal := ⟨by kernel_rfl⟩
instance : Und Tryz.prog 236 (.int .i64) := ⟨Tryz.underlying236⟩
instance : Zero Tryz.prog 236 (.int .i64 0) := ⟨by kernel_rfl⟩
instance : Byt Tryz.prog 236 8 := ⟨by kernel_rfl⟩
instance : TyR Tryz.prog 236 rI64 := ⟨by kernel_rfl⟩
instance : TyR Tryz.prog 238 rVal := ⟨by kernel_rfl⟩
instance : TyR Tryz.prog 239 rVal := ⟨by kernel_rfl⟩
instance : TyR Tryz.prog 240 rVal := ⟨by kernel_rfl⟩
instance : TyR Tryz.prog 241 rVal := ⟨by kernel_rfl⟩
instance : TyR Tryz.prog 242 rVal := ⟨by kernel_rfl⟩
instance : Und Tryz.prog 243 (.int .u32) := ⟨Tryz.underlying243⟩
instance : Zero Tryz.prog 243 (.int .u32 0) := ⟨by kernel_rfl⟩
instance : Byt Tryz.prog 243 4 := ⟨by kernel_rfl⟩
instance : TyR Tryz.prog 243 (rInt .u32) := ⟨by kernel_rfl⟩
instance : TyR Tryz.prog 244 rVal := ⟨by kernel_rfl⟩
instance : Und Tryz.prog 245 (.int .u64) := ⟨Tryz.underlying245⟩
instance : Zero Tryz.prog 245 (.int .u64 0) := ⟨by kernel_rfl⟩
instance : Byt Tryz.prog 245 8 := ⟨by kernel_rfl⟩
instance : TyR Tryz.prog 245 (rInt .u64) := ⟨by kernel_rfl⟩
instance : Und Tryz.prog 246 (.int .u64) := ⟨Tryz.underlying246⟩
instance : Zero Tryz.prog 246 (.int .u64 0) := ⟨by kernel_rfl⟩
instance : Byt Tryz.prog 246 8 := ⟨by kernel_rfl⟩
instance : TyR Tryz.prog 246 (rInt .u64) := ⟨by kernel_rfl⟩
instance : TyR Tryz.prog 247 rVal := ⟨by kernel_rfl⟩
instance : TyR Tryz.prog 248 rVal := ⟨by kernel_rfl⟩
instance : TyR Tryz.prog 249 rVal := ⟨by kernel_rfl⟩
instance : Und Tryz.prog 250 (.pointer 3) := ⟨Tryz.underlying250⟩
instance : Zero Tryz.prog 250 (.pointer none) := ⟨by kernel_rfl⟩
instance : Byt Tryz.prog 250 8 := ⟨by kernel_rfl⟩
instance : TyR Tryz.prog 250 rVal := ⟨by kernel_rfl⟩
instance : TyR Tryz.prog 251 rVal := ⟨by kernel_rfl⟩
instance : Und Tryz.prog 252 (.pointer 246) := ⟨Tryz.underlying252⟩
instance : Zero Tryz.prog 252 (.pointer none) := ⟨by kernel_rfl⟩
instance : Byt Tryz.prog 252 8 := ⟨by kernel_rfl⟩
instance : TyR Tryz.prog 252 rVal := ⟨by kernel_rfl⟩
instance : TyR Tryz.prog 254 rVal := ⟨by kernel_rfl⟩
instance : TyR Tryz.prog 255 rVal := ⟨by kernel_rfl⟩
instance : Zero Tryz.prog 256 (.agg #[.pointer none, .pointer none, .pointer none, .string ⟨#[]⟩]) := ⟨by kernel_rfl⟩
instance : Zero Tryz.prog 257 (.agg #[.pointer none, .pointer none, .pointer none, .string ⟨#[]⟩]) := ⟨by kernel_rfl⟩
instance : Und Tryz.prog 258 (.array 0 16) := ⟨Tryz.underlying258⟩
instance : Zero Tryz.prog 258 (.agg #[]) := ⟨by kernel_rfl⟩
instance : Byt Tryz.prog 258 0 := ⟨by kernel_rfl⟩
instance : Zero Tryz.prog 259 (.agg #[]) := ⟨by kernel_rfl⟩
instance : Zero Tryz.prog 260 (.agg #[]) := ⟨by kernel_rfl⟩
instance : Und Tryz.prog 261 (.int .u8) := ⟨Tryz.underlying261⟩
instance : Zero Tryz.prog 261 (.int .u8 0) := ⟨by kernel_rfl⟩
instance : Byt Tryz.prog 261 1 := ⟨by kernel_rfl⟩
instance : TyR Tryz.prog 261 (rInt .u8) := ⟨by kernel_rfl⟩
instance : Und Tryz.prog 262 (.int .u8) := ⟨Tryz.underlying262⟩
instance : Zero Tryz.prog 262 (.int .u8 0) := ⟨by kernel_rfl⟩
instance : Byt Tryz.prog 262 1 := ⟨by kernel_rfl⟩
instance : TyR Tryz.prog 262 (rInt .u8) := ⟨by kernel_rfl⟩
instance : TyR Tryz.prog 263 rVal := ⟨by kernel_rfl⟩
instance : Und Tryz.prog 264 (.pointer 5) := ⟨Tryz.underlying264⟩
instance : Zero Tryz.prog 264 (.pointer none) := ⟨by kernel_rfl⟩
instance : Byt Tryz.prog 264 8 := ⟨by kernel_rfl⟩
instance : TyR Tryz.prog 264 rVal := ⟨by kernel_rfl⟩
instance : Und Tryz.prog 265 (.int .i32) := ⟨Tryz.underlying265⟩
instance : Zero Tryz.prog 265 (.int .i32 0) := ⟨by kernel_rfl⟩
instance : Byt Tryz.prog 265 4 := ⟨by kernel_rfl⟩
instance : TyR Tryz.prog 265 (rInt .i32) := ⟨by kernel_rfl⟩
instance : Und Tryz.prog 266 (.int .i32) := ⟨Tryz.underlying266⟩
instance : Zero Tryz.prog 266 (.int .i32 0) := ⟨by kernel_rfl⟩
instance : Byt Tryz.prog 266 4 := ⟨by kernel_rfl⟩
instance : TyR Tryz.prog 266 (rInt .i32) := ⟨by kernel_rfl⟩
instance : Zero Tryz.prog 267 (.agg #[.int .u64 0, .int .u64 0, .int .u32 0, .int .u8 0, .int .u8 0, .int .u8 0, .int .u8 0, .nilFunc, .pointer none, .int .i32 0, .int .i32 0]) := ⟨by kernel_rfl⟩
instance : Zero Tryz.prog 268 (.agg #[.int .u64 0, .int .u64 0, .int .u32 0, .int .u8 0, .int .u8 0, .int .u8 0, .int .u8 0, .nilFunc, .pointer none, .int .i32 0, .int .i32 0]) := ⟨by kernel_rfl⟩
instance : Ent Tryz.prog 3 := ⟨by kernel_rfl⟩
instance : Ent Tryz.prog 4 := ⟨by kernel_rfl⟩
instance : Ent Tryz.prog 5 := ⟨by kernel_rfl⟩
instance : Ent Tryz.prog 6 := ⟨by kernel_rfl⟩
instance : Ent Tryz.prog 7 := ⟨by kernel_rfl⟩
instance : Ent Tryz.prog 8 := ⟨by kernel_rfl⟩
instance : Ent Tryz.prog 9 := ⟨by kernel_rfl⟩
instance : Ent Tryz.prog 10 := ⟨by kernel_rfl⟩
instance : Ent Tryz.prog 11 := ⟨by kernel_rfl⟩
instance : Ent Tryz.prog 12 := ⟨by kernel_rfl⟩
instance : Ent Tryz.prog 13 := ⟨by kernel_rfl⟩
instance : Ent Tryz.prog 14 := ⟨by kernel_rfl⟩
instance : Ent Tryz.prog 15 := ⟨by kernel_rfl⟩
instance : Ent Tryz.prog 16 := ⟨by kernel_rfl⟩
instance : Ent Tryz.prog 17 := ⟨by kernel_rfl⟩
instance : Ent Tryz.prog 18 := ⟨by kernel_rfl⟩
instance : Ent Tryz.prog 19 := ⟨by kernel_rfl⟩
instance : Ent Tryz.prog 20 := ⟨by kernel_rfl⟩
instance : Ent Tryz.prog 21 := ⟨by kernel_rfl⟩
instance : Ent Tryz.prog 22 := ⟨by kernel_rfl⟩
instance : Ent Tryz.prog 23 := ⟨by kernel_rfl⟩
instance : Ent Tryz.prog 24 := ⟨by kernel_rfl⟩
instance : Ent Tryz.prog 25 := ⟨by kernel_rfl⟩
instance : Ent Tryz.prog 26 := ⟨by kernel_rfl⟩
instance : Ent Tryz.prog 27 := ⟨by kernel_rfl⟩
instance : Ent Tryz.prog 28 := ⟨by kernel_rfl⟩
instance : Ent Tryz.prog 29 := ⟨by kernel_rfl⟩
instance : Ent Tryz.prog 30 := ⟨by kernel_rfl⟩
instance : Ent Tryz.prog 31 := ⟨by kernel_rfl⟩
instance : Ent Tryz.prog 32 := ⟨by kernel_rfl⟩
instance : Ent Tryz.prog 33 := ⟨by kernel_rfl⟩
instance : Ent Tryz.prog 34 := ⟨by kernel_rfl⟩
instance : Ent Tryz.prog 35 := ⟨by kernel_rfl⟩
instance : Ent Tryz.prog 36 := ⟨by kernel_rfl⟩
instance : Ent Tryz.prog 37 := ⟨by kernel_rfl⟩
instance : Ent Tryz.prog 38 := ⟨by kernel_rfl⟩
instance : Ent Tryz.prog 39 := ⟨by kernel_rfl⟩
instance : Ent Tryz.prog 40 := ⟨by kernel_rfl⟩
instance : Ent Tryz.prog 41 := ⟨by kernel_rfl⟩
instance : Ent Tryz.prog 42 := ⟨by kernel_rfl⟩
instance : Ent Tryz.prog 43 := ⟨by kernel_rfl⟩
instance : Ent Tryz.prog 44 := ⟨by kernel_rfl⟩
instance : Ent Tryz.prog 45 := ⟨by kernel_rfl⟩
instance : Ent Tryz.prog 46 := ⟨by kernel_rfl⟩
instance : Ent Tryz.prog 47 := ⟨by kernel_rfl⟩
instance : Ent Tryz.prog 48 := ⟨by kernel_rfl⟩
instance : Ent Tryz.prog 49 := ⟨by kernel_rfl⟩
instance : Ent Tryz.prog 50 := ⟨by kernel_rfl⟩
instance : Ent Tryz.prog 51 := ⟨by kernel_rfl⟩
instance : Ent Tryz.prog 52 := ⟨by kernel_rfl⟩
instance : Ent Tryz.prog 53 := ⟨by kernel_rfl⟩
instance : Ent Tryz.prog 54 := ⟨by kernel_rfl⟩
instance : Ent Tryz.prog 55 := ⟨by kernel_rfl⟩
instance : Ent Tryz.prog 56 := ⟨by kernel_rfl⟩
instance : Ent Tryz.prog 57 := ⟨by kernel_rfl⟩
instance : Ent Tryz.prog 58 := ⟨by kernel_rfl⟩
instance : Ent Tryz.prog 59 := ⟨by kernel_rfl⟩
instance : Ent Tryz.prog 60 := ⟨by kernel_rfl⟩
instance : Ent Tryz.prog 61 := ⟨by kernel_rfl⟩
instance : Ent Tryz.prog 62 := ⟨by kernel_rfl⟩
instance : Ent Tryz.prog 63 := ⟨by kernel_rfl⟩
instance : Ent Tryz.prog 64 := ⟨by kernel_rfl⟩
instance : Ent Tryz.prog 65 := ⟨by kernel_rfl⟩
instance : Ent Tryz.prog 66 := ⟨by kernel_rfl⟩
instance : Ent Tryz.prog 67 := ⟨by kernel_rfl⟩
instance : Ent Tryz.prog 68 := ⟨by kernel_rfl⟩
instance : Ent Tryz.prog 69 := ⟨by kernel_rfl⟩
instance : Ent Tryz.prog 70 := ⟨by kernel_rfl⟩
instance : Ent Tryz.prog 71 := ⟨by kernel_rfl⟩
instance : Ent Tryz.prog 72 := ⟨by kernel_rfl⟩
instance : Ent Tryz.prog 73 := ⟨by kernel_rfl⟩
instance : Ent Tryz.prog 74 := ⟨by kernel_rfl⟩
instance : Ent Tryz.prog 75 := ⟨by kernel_rfl⟩
instance : Ent Tryz.prog 76 := ⟨by kernel_rfl⟩
instance : Ent Tryz.prog 77 := ⟨by kernel_rfl⟩
instance : Ent Tryz.prog 78 := ⟨by kernel_rfl⟩
instance : Ent Tryz.prog 79 := ⟨by kernel_rfl⟩
instance : Ent Tryz.prog 80 := ⟨by kernel_rfl⟩
instance : Ent Tryz.prog 81 := ⟨by kernel_rfl⟩
instance : Ent Tryz.prog 82 := ⟨by kernel_rfl⟩
instance : Ent Tryz.prog 83 := ⟨by kernel_rfl⟩
instance : Ent Tryz.prog 84 := ⟨by kernel_rfl⟩
instance : Ent Tryz.prog 85 := ⟨by kernel_rfl⟩
instance : Ent Tryz.prog 86 := ⟨by kernel_rfl⟩
instance : Ent Tryz.prog 87 := ⟨by kernel_rfl⟩
instance : Ent Tryz.prog 88 := ⟨by kernel_rfl⟩
instance : Ent Tryz.prog 89 := ⟨by kernel_rfl⟩
instance : Ent Tryz.prog 90 := ⟨by kernel_rfl⟩
instance : Ent Tryz.prog 91 := ⟨by kernel_rfl⟩
instance : Ent Tryz.prog 92 := ⟨by kernel_rfl⟩
instance : Ent Tryz.prog 93 := ⟨by kernel_rfl⟩
instance : Ent Tryz.prog 94 := ⟨by kernel_rfl⟩
instance : Ent Tryz.prog 95 := ⟨by kernel_rfl⟩
instance : Ent Tryz.prog 96 := ⟨by kernel_rfl⟩
instance : Ent Tryz.prog 97 := ⟨by kernel_rfl⟩
instance : Ent Tryz.prog 98 := ⟨by kernel_rfl⟩
instance : Ent Tryz.prog 99 := ⟨by kernel_rfl⟩
instance : Ent Tryz.prog 100 := ⟨by kernel_rfl⟩
instance : Ent Tryz.prog 101 := ⟨by kernel_rfl⟩
instance : Ent Tryz.prog 102 := ⟨by kernel_rfl⟩
instance : Ent Tryz.prog 103 := ⟨by kernel_rfl⟩
instance : Ent Tryz.prog 104 := ⟨by kernel_rfl⟩
instance : Ent Tryz.prog 105 := ⟨by kernel_rfl⟩
instance : Ent Tryz.prog 106 := ⟨by kernel_rfl⟩
instance : Ent Tryz.prog 107 := ⟨by kernel_rfl⟩
instance : Ent Tryz.prog 108 := ⟨by kernel_rfl⟩
instance : Ent Tryz.prog 109 := ⟨by kernel_rfl⟩
instance : Ent Tryz.prog 110 := ⟨by kernel_rfl⟩
instance : Ent Tryz.prog 111 := ⟨by kernel_rfl⟩
instance : Ent Tryz.prog 112 := ⟨by kernel_rfl⟩
instance : Ent Tryz.prog 113 := ⟨by kernel_rfl⟩
instance : Ent Tryz.prog 114 := ⟨by kernel_rfl⟩
instance : Ent Tryz.prog 115 := ⟨by kernel_rfl⟩
instance : Ent Tryz.prog 116 := ⟨by kernel_rfl⟩
instance : Ent Tryz.prog 117 := ⟨by kernel_rfl⟩
instance : Ent Tryz.prog 118 := ⟨by kernel_rfl⟩
instance : Ent Tryz.prog 119 := ⟨by kernel_rfl⟩
instance : Ent Tryz.prog 120 := ⟨by kernel_rfl⟩
instance : Ent Tryz.prog 121 := ⟨by kernel_rfl⟩
instance : Ent Tryz.prog 122 := ⟨by kernel_rfl⟩
instance : Ent Tryz.prog 123 := ⟨by kernel_rfl⟩
instance : Ent Tryz.prog 124 := ⟨by kernel_rfl⟩
instance : Ent Tryz.prog 125 := ⟨by kernel_rfl⟩
instance : Ent Tryz.prog 126 := ⟨by kernel_rfl⟩
instance : Ent Tryz.prog 127 := ⟨by kernel_rfl⟩
instance : Ent Tryz.prog 128 := ⟨by kernel_rfl⟩
instance : Ent Tryz.prog 129 := ⟨by kernel_rfl⟩
instance : Ent Tryz.prog 130 := ⟨by kernel_rfl⟩
instance : Ent Tryz.prog 131 := ⟨by kernel_rfl⟩
instance : Ent Tryz.prog 132 := ⟨by kernel_rfl⟩
instance : Ent Tryz.prog 133 := ⟨by kernel_rfl⟩
instance : Ent Tryz.prog 134 := ⟨by kernel_rfl⟩
instance : Ent Tryz.prog 135 := ⟨by kernel_rfl⟩
instance : Ent Tryz.prog 136 := ⟨by kernel_rfl⟩
instance : Ent Tryz.prog 137 := ⟨by kernel_rfl⟩
instance : Ent Tryz.prog 138 := ⟨by kernel_rfl⟩
instance : Ent Tryz.prog 139 := ⟨by kernel_rfl⟩
instance : Ent Tryz.prog 140 := ⟨by kernel_rfl⟩
instance : Ent Tryz.prog 141 := ⟨by kernel_rfl⟩
instance : Ent Tryz.prog 142 := ⟨by kernel_rfl⟩
instance : Ent Tryz.prog 143 := ⟨by kernel_rfl⟩
instance : Ent Tryz.prog 144 := ⟨by kernel_rfl⟩
instance : Ent Tryz.prog 145 := ⟨by kernel_rfl⟩
instance : Ent Tryz.prog 146 := ⟨by kernel_rfl⟩
instance : Ent Tryz.prog 147 := ⟨by kernel_rfl⟩
instance : Ent Tryz.prog 148 := ⟨by kernel_rfl⟩
instance : Ent Tryz.prog 149 := ⟨by kernel_rfl⟩
instance : Ent Tryz.prog 150 := ⟨by kernel_rfl⟩
instance : Ent Tryz.prog 151 := ⟨by kernel_rfl⟩
instance : Ent Tryz.prog 152 := ⟨by kernel_rfl⟩
instance : Ent Tryz.prog 153 := ⟨by kernel_rfl⟩
instance : Ent Tryz.prog 154 := ⟨by kernel_rfl⟩
instance : Ent Tryz.prog 155 := ⟨by kernel_rfl⟩
instance : Ent Tryz.prog 156 := ⟨by kernel_rfl⟩
instance : Ent Tryz.prog 157 := ⟨by kernel_rfl⟩
instance : Ent Tryz.prog 158 := ⟨by kernel_rfl⟩
instance : Ent Tryz.prog 159 := ⟨by kernel_rfl⟩
instance : Ent Tryz.prog 160 := ⟨by kernel_rfl⟩
instance : Ent Tryz.prog 161 := ⟨by kernel_rfl⟩
instance : Ent Tryz.prog 162 := ⟨by kernel_rfl⟩
instance : Ent Tryz.prog 163 := ⟨by kernel_rfl⟩
instance : Ent Tryz.prog 164 := ⟨by kernel_rfl⟩
instance : Ent Tryz.prog 165 := ⟨by kernel_rfl⟩
instance : Ent Tryz.prog 166 := ⟨by kernel_rfl⟩
instance : Ent Tryz.prog 167 := ⟨by kernel_rfl⟩
instance : Ent Tryz.prog 168 := ⟨by kernel_rfl⟩
instance : Ent Tryz.prog 169 := ⟨by kernel_rfl⟩
instance : Ent Tryz.prog 170 := ⟨by kernel_rfl⟩
instance : Ent Tryz.prog 171 := ⟨by kernel_rfl⟩
instance : Ent Tryz.prog 172 := ⟨by kernel_rfl⟩
instance : Ent Tryz.prog 173 := ⟨by kernel_rfl⟩
instance : Ent Tryz.prog 174 := ⟨by kernel_rfl⟩
instance : Ent Tryz.prog 175 := ⟨by kernel_rfl⟩
instance : Ent Tryz.prog 176 := ⟨by kernel_rfl⟩
instance : Ent Tryz.prog 177 := ⟨by kernel_rfl⟩
instance : Ent Tryz.prog 178 := ⟨by kernel_rfl⟩
instance : Ent Tryz.prog 179 := ⟨by kernel_rfl⟩
instance : Ent Tryz.prog 180 := ⟨by kernel_rfl⟩
instance : Ent Tryz.prog 181 := ⟨by kernel_rfl⟩
instance : Ent Tryz.prog 182 := ⟨by kernel_rfl⟩
instance : Ent Tryz.prog 183 := ⟨by kernel_rfl⟩
instance : Ent Tryz.prog 184 := ⟨by kernel_rfl⟩
instance : Ent Tryz.prog 185 := ⟨by kernel_rfl⟩
instance : Ent Tryz.prog 186 := ⟨by kernel_rfl⟩
instance : Ent Tryz.prog 187 := ⟨by kernel_rfl⟩
instance : Ent Tryz.prog 188 := ⟨by kernel_rfl⟩
instance : Ent Tryz.prog 189 := ⟨by kernel_rfl⟩
instance : Ent Tryz.prog 190 := ⟨by kernel_rfl⟩
instance : Ent Tryz.prog 191 := ⟨by kernel_rfl⟩
instance : Ent Tryz.prog 192 := ⟨by kernel_rfl⟩
instance : Ent Tryz.prog 193 := ⟨by kernel_rfl⟩
instance : Ent Tryz.prog 194 := ⟨by kernel_rfl⟩
instance : Ent Tryz.prog 195 := ⟨by kernel_rfl⟩
instance : Ent Tryz.prog 196 := ⟨by kernel_rfl⟩
instance : Ent Tryz.prog 197 := ⟨by kernel_rfl⟩
instance : Ent Tryz.prog 198 := ⟨by kernel_rfl⟩
instance : Ent Tryz.prog 199 := ⟨by kernel_rfl⟩
instance : Ent Tryz.prog 200 := ⟨by kernel_rfl⟩
instance : Ent Tryz.prog 201 := ⟨by kernel_rfl⟩
instance : Ent Tryz.prog 202 := ⟨by kernel_rfl⟩
instance : Ent Tryz.prog 203 := ⟨by kernel_rfl⟩
instance : Ent Tryz.prog 204 := ⟨by kernel_rfl⟩
instance : Ent Tryz.prog 205 := ⟨by kernel_rfl⟩
instance : Ent Tryz.prog 206 := ⟨by kernel_rfl⟩
instance : Ent Tryz.prog 207 := ⟨by kernel_rfl⟩
instance : Ent Tryz.prog 208 := ⟨by kernel_rfl⟩
instance : Ent Tryz.prog 209 := ⟨by kernel_rfl⟩
instance : Ent Tryz.prog 210 := ⟨by kernel_rfl⟩
instance : Ent Tryz.prog 211 := ⟨by kernel_rfl⟩
instance : Ent Tryz.prog 212 := ⟨by kernel_rfl⟩
instance : Ent Tryz.prog 213 := ⟨by kernel_rfl⟩
instance : Ent Tryz.prog 214 := ⟨by kernel_rfl⟩
instance : Ent Tryz.prog 215 := ⟨by kernel_rfl⟩
instance : Ent Tryz.prog 216 := ⟨by kernel_rfl⟩
instance : Ent Tryz.prog 217 := ⟨by kernel_rfl⟩
instance : Ent Tryz.prog 218 := ⟨by kernel_rfl⟩
instance : Ent Tryz.prog 219 := ⟨by kernel_rfl⟩
instance : Ent Tryz.prog 220 := ⟨by kernel_rfl⟩
instance : Ent Tryz.prog 221 := ⟨by kernel_rfl⟩
instance : Ent Tryz.prog 222 := ⟨by kernel_rfl⟩
instance : Ent Tryz.prog 223 := ⟨by kernel_rfl⟩
instance : Ent Tryz.prog 224 := ⟨by kernel_rfl⟩
instance : Ent Tryz.prog 225 := ⟨by kernel_rfl⟩
instance : Ent Tryz.prog 226 := ⟨by kernel_rfl⟩
instance : Ent Tryz.prog 227 := ⟨by kernel_rfl⟩
instance : Ent Tryz.prog 228 := ⟨by kernel_rfl⟩
instance : Ent Tryz.prog 229 := ⟨by kernel_rfl⟩
instance : Ent Tryz.prog 230 := ⟨by kernel_rfl⟩
instance : Ent Tryz.prog 231 := ⟨by kernel_rfl⟩
instance : Ent Tryz.prog 232 := ⟨by kernel_rfl⟩
instance : Ent Tryz.prog 233 := ⟨by kernel_rfl⟩
instance : Ent Tryz.prog 234 := ⟨by kernel_rfl⟩
instance : Ent Tryz.prog 235 := ⟨by kernel_rfl⟩
instance : Ent Tryz.prog 236 := ⟨by kernel_rfl⟩
instance : Ent Tryz.prog 237 := ⟨by kernel_rfl⟩
instance : Ent Tryz.prog 238 := ⟨by kernel_rfl⟩
instance : Ent Tryz.prog 239 := ⟨by kernel_rfl⟩
instance : Ent Tryz.prog 240 := ⟨by kernel_rfl⟩
instance : Ent Tryz.prog 241 := ⟨by kernel_rfl⟩
instance : Ent Tryz.prog 242 := ⟨by kernel_rfl⟩
instance : Ent Tryz.prog 243 := ⟨by kernel_rfl⟩
instance : Ent Tryz.prog 244 := ⟨by kernel_rfl⟩
instance : Ent Tryz.prog 245 := ⟨by kernel_rfl⟩
instance : Ent Tryz.prog 246 := ⟨by kernel_rfl⟩
instance : Ent Tryz.prog 247 := ⟨by kernel_rfl⟩
instance : Ent Tryz.prog 248 := ⟨by kernel_rfl⟩
instance : Ent Tryz.prog 249 := ⟨by kernel_rfl⟩
instance : Ent Tryz.prog 250 := ⟨by kernel_rfl⟩
instance : Ent Tryz.prog 252 := ⟨by kernel_rfl⟩
instance : Ent Tryz.prog 253 := ⟨by kernel_rfl⟩
instance : Ent Tryz.prog 254 := ⟨by kernel_rfl⟩
instance : Ent Tryz.prog 255 := ⟨by kernel_rfl⟩
instance : Ent Tryz.prog 256 := ⟨by kernel_rfl⟩
instance : Ent Tryz.prog 257 := ⟨by kernel_rfl⟩
instance : Ent Tryz.prog 273 := ⟨by kernel_rfl⟩
instance : Ent Tryz.prog 274 := ⟨by kernel_rfl⟩
instance : Ent Tryz.prog 275 := ⟨by kernel_rfl⟩
theorem Tryz_mixed : Tryz.prog.follows .mixedOrders = true := by kernel_rfl
end Go.Dr
namespace Go.Dr
open Go.Proofs
set_option maxRecDepth 20000
set_option linter.unusedSimpArgs false
set_option linter.unusedVariables false
def idxF {α : Type} (p : α → Bool) (xs : List α) : Int := match xs.findIdx? p with | some i => i | none => -1
theorem idxF_nn {α : Type} (p : α → Bool) (xs : List α) : decide (0 ≤ idxF p xs) = xs.any p := by
  unfold idxF
  cases h : xs.findIdx? p with
  | none =>
    have := List.findIdx?_eq_none_iff.1 h
    have h2 : xs.any p = false := by
      rw [List.any_eq_false]; intro x hx; simpa using this x hx
    rw [h2]; rfl
  | some i =>
    have : xs.any p = true := by
      rw [← List.findIdx?_isSome, h]; rfl
    rw [this]; simp
theorem idx_step {α : Type} {p : α → Bool} {xs : List α} {x : α} {k : Nat} (hd : xs.drop k = x :: xs.drop (k + 1)) (hp : p x = false)
    (hi : xs.findIdx? p = ((xs.drop k).findIdx? p).map (· + k)) : xs.findIdx? p = ((xs.drop (k + 1)).findIdx? p).map (· + (k + 1)) := by
  rw [hi, hd, List.findIdx?_cons, hp]
  cases (xs.drop (k + 1)).findIdx? p <;> simp <;> omega
theorem idx_hit {α : Type} {p : α → Bool} {xs : List α} {x : α} {k : Nat} (hd : xs.drop k = x :: xs.drop (k + 1)) (hp : p x = true)
    (hi : xs.findIdx? p = ((xs.drop k).findIdx? p).map (· + k)) : idxF p xs = (k : Int) := by
  unfold idxF
  rw [hi, hd, List.findIdx?_cons, hp]; simp
theorem idx_miss {α : Type} {p : α → Bool} {xs : List α} {k : Nat} (hd : xs.drop k = [])
    (hi : xs.findIdx? p = ((xs.drop k).findIdx? p).map (· + k)) : idxF p xs = -1 := by
  unfold idxF
  rw [hi, hd]; rfl
theorem p_IndexFunc_Label {S : SHeap} {v : Value} {xs : List Label} {f : FuncId} {fs cs : Array Value} (p : Label → Bool) (hv : (rSlice 32 rLabel).V S v xs) (hE : Ent Tryz.prog f)
    (hf : ∀ S', S.le S' → ∀ u x, rLabel.V S' u x → FnV Tryz.prog f (fs.toList ++ [u] ++ cs.toList).toArray S' (.bool (p x))) : FnV Tryz.prog 206 #[v, .func (.func f) fs cs] S (.int .i64 (idxF p xs)) := by
  obtain ⟨a, c, rfl, _, _, hb, _⟩ := V_slice.1 hv
  unfold big at hb
  (refine Fn.enter (args := [.slice a xs.length c, .func (.func f) fs cs]) Tryz.func206 rfl Tryz.ntmps206 rfl ?_; intro w0)
  repeat (first | (refine Walk ?_; intros) | refine JC.block ?_)
  refine JC.loop (σ := SHeap × Nat) (fun q => q.1) (fun _ => []) (fun q => [(0, .slice a xs.length c), (1, .func (.func f) fs cs), (7, .int .i64 xs.length), (8, .int .i64 q.2)]) (fun q => S.le q.1 ∧ q.2 ≤ xs.length ∧ xs.findIdx? p = ((xs.drop q.2).findIdx? p).map (· + q.2)) (fun q => xs.length - q.2) (S, 0) ⟨SHeap.le.refl _, Nat.zero_le _, by simp⟩ rfl rfl (by exact sba) ?_
  rintro ⟨S1, k⟩ ⟨hl1, hk, hi⟩
  dsimp only at hl1 hk hi ⊢
  repeat (first | (refine Walk ?_; intros) | refine JC.block ?_)
  refine JC.cond rfl (fun hc => ?_) (fun hc => ?_)
  · have hk' := dlt hc
    obtain ⟨x, hx, hd⟩ := drop_at hk'
    repeat (first | (refine Walk ?_; intros) | refine JC.block ?_)
    (refine JO.eff rfl rfl rfl (JEff.dynV rfl (by assumption) rfl ((hf _ (by exact lea) _ x (by assumption))) rfl ?_); intro _ _)
    repeat (first | (refine Walk ?_; intros) | refine JC.block ?_)
    refine JC.cond rfl (fun h1 => ?_) (fun h1 => ?_)
    · repeat (first | (refine Walk ?_; intros) | refine JC.block ?_)
      refine JX.ret1 Tryz.results206 (ResV.tmp rfl) (List.nil_sublist _) ?_
      exact ⟨rfl, by rw [idx_hit hd h1 hi]⟩
    · repeat (first | (refine Walk ?_; intros) | refine JC.block ?_)
      exact JX.round (_, k + 1) ⟨by exact lea, hk', idx_step hd h1 hi⟩ (by simp; omega) rfl rfl (by exact sba)
  · have hk' := dnlt hc
    repeat (first | (refine Walk ?_; intros) | refine JC.block ?_)
    refine JX.ret1 Tryz.results206 (ResV.tmp rfl) (List.nil_sublist _) ?_
    exact ⟨rfl, by rw [idx_miss (List.drop_eq_nil_of_le hk') hi]⟩
theorem p_ContainsFunc_Label {S : SHeap} {v : Value} {xs : List Label} {f : FuncId} {fs cs : Array Value} (p : Label → Bool) (hv : (rSlice 32 rLabel).V S v xs) (hE : Ent Tryz.prog f)
    (hf : ∀ S', S.le S' → ∀ u x, rLabel.V S' u x → FnV Tryz.prog f (fs.toList ++ [u] ++ cs.toList).toArray S' (.bool (p x))) : FnV Tryz.prog 198 #[v, .func (.func f) fs cs] S (.bool (xs.any p)) := by
  (refine Fn.enter (args := [v, .func (.func f) fs cs]) Tryz.func198 rfl Tryz.ntmps198 rfl ?_; intro w0)
  repeat (first | (refine Walk ?_; intros) | refine JC.block ?_)
  (refine JO.eff rfl rfl rfl (JEff.callV rfl (p_IndexFunc_Label p (by exact vta) hE (fun S' h => hf S' (by exact lea))) rfl ?_); intro _ _)
  repeat (first | (refine Walk ?_; intros) | refine JC.block ?_)
  refine JX.ret1 Tryz.results198 (ResV.tmp rfl) (List.nil_sublist _) ?_
  exact ⟨rfl, by rw [← idxF_nn]⟩
theorem p_IndexFunc_Node {S : SHeap} {v : Value} {xs : List Node} {f : FuncId} {fs cs : Array Value} (p : Node → Bool) (hv : (rSlice 112 rNode).V S v xs) (hE : Ent Tryz.prog f)
    (hf : ∀ S', S.le S' → ∀ u x, rNode.V S' u x → FnV Tryz.prog f (fs.toList ++ [u] ++ cs.toList).toArray S' (.bool (p x))) : FnV Tryz.prog 141 #[v, .func (.func f) fs cs] S (.int .i64 (idxF p xs)) := by
  obtain ⟨a, c, rfl, _, _, hb, _⟩ := V_slice.1 hv
  unfold big at hb
  (refine Fn.enter (args := [.slice a xs.length c, .func (.func f) fs cs]) Tryz.func141 rfl Tryz.ntmps141 rfl ?_; intro w0)
  repeat (first | (refine Walk ?_; intros) | refine JC.block ?_)
  refine JC.loop (σ := SHeap × Nat) (fun q => q.1) (fun _ => []) (fun q => [(0, .slice a xs.length c), (1, .func (.func f) fs cs), (7, .int .i64 xs.length), (8, .int .i64 q.2)]) (fun q => S.le q.1 ∧ q.2 ≤ xs.length ∧ xs.findIdx? p = ((xs.drop q.2).findIdx? p).map (· + q.2)) (fun q => xs.length - q.2) (S, 0) ⟨SHeap.le.refl _, Nat.zero_le _, by simp⟩ rfl rfl (by exact sba) ?_
  rintro ⟨S1, k⟩ ⟨hl1, hk, hi⟩
  dsimp only at hl1 hk hi ⊢
  repeat (first | (refine Walk ?_; intros) | refine JC.block ?_)
  refine JC.cond rfl (fun hc => ?_) (fun hc => ?_)
  · have hk' := dlt hc
    obtain ⟨x, hx, hd⟩ := drop_at hk'
    repeat (first | (refine Walk ?_; intros) | refine JC.block ?_)
    (refine JO.eff rfl rfl rfl (JEff.dynV rfl (by assumption) rfl ((hf _ (by exact lea) _ x (by assumption))) rfl ?_); intro _ _)
    repeat (first | (refine Walk ?_; intros) | refine JC.block ?_)
    refine JC.cond rfl (fun h1 => ?_) (fun h1 => ?_)
    · repeat (first | (refine Walk ?_; intros) | refine JC.block ?_)
      refine JX.ret1 Tryz.results141 (ResV.tmp rfl) (List.nil_sublist _) ?_
      exact ⟨rfl, by rw [idx_hit hd h1 hi]⟩
    · repeat (first | (refine Walk ?_; intros) | refine JC.block ?_)
      exact JX.round (_, k + 1) ⟨by exact lea, hk', idx_step hd h1 hi⟩ (by simp; omega) rfl rfl (by exact sba)
  · have hk' := dnlt hc
    repeat (first | (refine Walk ?_; intros) | refine JC.block ?_)
    refine JX.ret1 Tryz.results141 (ResV.tmp rfl) (List.nil_sublist _) ?_
    exact ⟨rfl, by rw [idx_miss (List.drop_eq_nil_of_le hk') hi]⟩
theorem p_ContainsFunc_Node {S : SHeap} {v : Value} {xs : List Node} {f : FuncId} {fs cs : Array Value} (p : Node → Bool) (hv : (rSlice 112 rNode).V S v xs) (hE : Ent Tryz.prog f)
    (hf : ∀ S', S.le S' → ∀ u x, rNode.V S' u x → FnV Tryz.prog f (fs.toList ++ [u] ++ cs.toList).toArray S' (.bool (p x))) : FnV Tryz.prog 100 #[v, .func (.func f) fs cs] S (.bool (xs.any p)) := by
  (refine Fn.enter (args := [v, .func (.func f) fs cs]) Tryz.func100 rfl Tryz.ntmps100 rfl ?_; intro w0)
  repeat (first | (refine Walk ?_; intros) | refine JC.block ?_)
  (refine JO.eff rfl rfl rfl (JEff.callV rfl (p_IndexFunc_Node p (by exact vta) hE (fun S' h => hf S' (by exact lea))) rfl ?_); intro _ _)
  repeat (first | (refine Walk ?_; intros) | refine JC.block ?_)
  refine JX.ret1 Tryz.results100 (ResV.tmp rfl) (List.nil_sublist _) ?_
  exact ⟨rfl, by rw [← idxF_nn]⟩
theorem p_IndexFunc_Pod {S : SHeap} {v : Value} {xs : List Pod} {f : FuncId} {fs cs : Array Value} (p : Pod → Bool) (hv : (rSlice 240 rPod).V S v xs) (hE : Ent Tryz.prog f)
    (hf : ∀ S', S.le S' → ∀ u x, rPod.V S' u x → FnV Tryz.prog f (fs.toList ++ [u] ++ cs.toList).toArray S' (.bool (p x))) : FnV Tryz.prog 145 #[v, .func (.func f) fs cs] S (.int .i64 (idxF p xs)) := by
  obtain ⟨a, c, rfl, _, _, hb, _⟩ := V_slice.1 hv
  unfold big at hb
  (refine Fn.enter (args := [.slice a xs.length c, .func (.func f) fs cs]) Tryz.func145 rfl Tryz.ntmps145 rfl ?_; intro w0)
  repeat (first | (refine Walk ?_; intros) | refine JC.block ?_)
  refine JC.loop (σ := SHeap × Nat) (fun q => q.1) (fun _ => []) (fun q => [(0, .slice a xs.length c), (1, .func (.func f) fs cs), (7, .int .i64 xs.length), (8, .int .i64 q.2)]) (fun q => S.le q.1 ∧ q.2 ≤ xs.length ∧ xs.findIdx? p = ((xs.drop q.2).findIdx? p).map (· + q.2)) (fun q => xs.length - q.2) (S, 0) ⟨SHeap.le.refl _, Nat.zero_le _, by simp⟩ rfl rfl (by exact sba) ?_
  rintro ⟨S1, k⟩ ⟨hl1, hk, hi⟩
  dsimp only at hl1 hk hi ⊢
  repeat (first | (refine Walk ?_; intros) | refine JC.block ?_)
  refine JC.cond rfl (fun hc => ?_) (fun hc => ?_)
  · have hk' := dlt hc
    obtain ⟨x, hx, hd⟩ := drop_at hk'
    repeat (first | (refine Walk ?_; intros) | refine JC.block ?_)
    (refine JO.eff rfl rfl rfl (JEff.dynV rfl (by assumption) rfl ((hf _ (by exact lea) _ x (by assumption))) rfl ?_); intro _ _)
    repeat (first | (refine Walk ?_; intros) | refine JC.block ?_)
    refine JC.cond rfl (fun h1 => ?_) (fun h1 => ?_)
    · repeat (first | (refine Walk ?_; intros) | refine JC.block ?_)
      refine JX.ret1 Tryz.results145 (ResV.tmp rfl) (List.nil_sublist _) ?_
      exact ⟨rfl, by rw [idx_hit hd h1 hi]⟩
    · repeat (first | (refine Walk ?_; intros) | refine JC.block ?_)
      exact JX.round (_, k + 1) ⟨by exact lea, hk', idx_step hd h1 hi⟩ (by simp; omega) rfl rfl (by exact sba)
  · have hk' := dnlt hc
    repeat (first | (refine Walk ?_; intros) | refine JC.block ?_)
    refine JX.ret1 Tryz.results145 (ResV.tmp rfl) (List.nil_sublist _) ?_
    exact ⟨rfl, by rw [idx_miss (List.drop_eq_nil_of_le hk') hi]⟩
theorem p_ContainsFunc_Pod {S : SHeap} {v : Value} {xs : List Pod} {f : FuncId} {fs cs : Array Value} (p : Pod → Bool) (hv : (rSlice 240 rPod).V S v xs) (hE : Ent Tryz.prog f)
    (hf : ∀ S', S.le S' → ∀ u x, rPod.V S' u x → FnV Tryz.prog f (fs.toList ++ [u] ++ cs.toList).toArray S' (.bool (p x))) : FnV Tryz.prog 106 #[v, .func (.func f) fs cs] S (.bool (xs.any p)) := by
  (refine Fn.enter (args := [v, .func (.func f) fs cs]) Tryz.func106 rfl Tryz.ntmps106 rfl ?_; intro w0)
  repeat (first | (refine Walk ?_; intros) | refine JC.block ?_)
  (refine JO.eff rfl rfl rfl (JEff.callV rfl (p_IndexFunc_Pod p (by exact vta) hE (fun S' h => hf S' (by exact lea))) rfl ?_); intro _ _)
  repeat (first | (refine Walk ?_; intros) | refine JC.block ?_)
  refine JX.ret1 Tryz.results106 (ResV.tmp rfl) (List.nil_sublist _) ?_
  exact ⟨rfl, by rw [← idxF_nn]⟩
theorem p_IndexFunc_Owner {S : SHeap} {v : Value} {xs : List Owner} {f : FuncId} {fs cs : Array Value} (p : Owner → Bool) (hv : (rSlice 56 rOwner).V S v xs) (hE : Ent Tryz.prog f)
    (hf : ∀ S', S.le S' → ∀ u x, rOwner.V S' u x → FnV Tryz.prog f (fs.toList ++ [u] ++ cs.toList).toArray S' (.bool (p x))) : FnV Tryz.prog 144 #[v, .func (.func f) fs cs] S (.int .i64 (idxF p xs)) := by
  obtain ⟨a, c, rfl, _, _, hb, _⟩ := V_slice.1 hv
  unfold big at hb
  (refine Fn.enter (args := [.slice a xs.length c, .func (.func f) fs cs]) Tryz.func144 rfl Tryz.ntmps144 rfl ?_; intro w0)
  repeat (first | (refine Walk ?_; intros) | refine JC.block ?_)
  refine JC.loop (σ := SHeap × Nat) (fun q => q.1) (fun _ => []) (fun q => [(0, .slice a xs.length c), (1, .func (.func f) fs cs), (7, .int .i64 xs.length), (8, .int .i64 q.2)]) (fun q => S.le q.1 ∧ q.2 ≤ xs.length ∧ xs.findIdx? p = ((xs.drop q.2).findIdx? p).map (· + q.2)) (fun q => xs.length - q.2) (S, 0) ⟨SHeap.le.refl _, Nat.zero_le _, by simp⟩ rfl rfl (by exact sba) ?_
  rintro ⟨S1, k⟩ ⟨hl1, hk, hi⟩
  dsimp only at hl1 hk hi ⊢
  repeat (first | (refine Walk ?_; intros) | refine JC.block ?_)
  refine JC.cond rfl (fun hc => ?_) (fun hc => ?_)
  · have hk' := dlt hc
    obtain ⟨x, hx, hd⟩ := drop_at hk'
    repeat (first | (refine Walk ?_; intros) | refine JC.block ?_)
    (refine JO.eff rfl rfl rfl (JEff.dynV rfl (by assumption) rfl ((hf _ (by exact lea) _ x (by assumption))) rfl ?_); intro _ _)
    repeat (first | (refine Walk ?_; intros) | refine JC.block ?_)
    refine JC.cond rfl (fun h1 => ?_) (fun h1 => ?_)
    · repeat (first | (refine Walk ?_; intros) | refine JC.block ?_)
      refine JX.ret1 Tryz.results144 (ResV.tmp rfl) (List.nil_sublist _) ?_
      exact ⟨rfl, by rw [idx_hit hd h1 hi]⟩
    · repeat (first | (refine Walk ?_; intros) | refine JC.block ?_)
      exact JX.round (_, k + 1) ⟨by exact lea, hk', idx_step hd h1 hi⟩ (by simp; omega) rfl rfl (by exact sba)
  · have hk' := dnlt hc
    repeat (first | (refine Walk ?_; intros) | refine JC.block ?_)
    refine JX.ret1 Tryz.results144 (ResV.tmp rfl) (List.nil_sublist _) ?_
    exact ⟨rfl, by rw [idx_miss (List.drop_eq_nil_of_le hk') hi]⟩
theorem p_ContainsFunc_Owner {S : SHeap} {v : Value} {xs : List Owner} {f : FuncId} {fs cs : Array Value} (p : Owner → Bool) (hv : (rSlice 56 rOwner).V S v xs) (hE : Ent Tryz.prog f)
    (hf : ∀ S', S.le S' → ∀ u x, rOwner.V S' u x → FnV Tryz.prog f (fs.toList ++ [u] ++ cs.toList).toArray S' (.bool (p x))) : FnV Tryz.prog 103 #[v, .func (.func f) fs cs] S (.bool (xs.any p)) := by
  (refine Fn.enter (args := [v, .func (.func f) fs cs]) Tryz.func103 rfl Tryz.ntmps103 rfl ?_; intro w0)
  repeat (first | (refine Walk ?_; intros) | refine JC.block ?_)
  (refine JO.eff rfl rfl rfl (JEff.callV rfl (p_IndexFunc_Owner p (by exact vta) hE (fun S' h => hf S' (by exact lea))) rfl ?_); intro _ _)
  repeat (first | (refine Walk ?_; intros) | refine JC.block ?_)
  refine JX.ret1 Tryz.results103 (ResV.tmp rfl) (List.nil_sublist _) ?_
  exact ⟨rfl, by rw [← idxF_nn]⟩
theorem p_IndexFunc_Clause {S : SHeap} {v : Value} {xs : List Clause} {f : FuncId} {fs cs : Array Value} (p : Clause → Bool) (hv : (rSlice 32 rClause).V S v xs) (hE : Ent Tryz.prog f)
    (hf : ∀ S', S.le S' → ∀ u x, rClause.V S' u x → FnV Tryz.prog f (fs.toList ++ [u] ++ cs.toList).toArray S' (.bool (p x))) : FnV Tryz.prog 66 #[v, .func (.func f) fs cs] S (.int .i64 (idxF p xs)) := by
  obtain ⟨a, c, rfl, _, _, hb, _⟩ := V_slice.1 hv
  unfold big at hb
  (refine Fn.enter (args := [.slice a xs.length c, .func (.func f) fs cs]) Tryz.func66 rfl Tryz.ntmps66 rfl ?_; intro w0)
  repeat (first | (refine Walk ?_; intros) | refine JC.block ?_)
  refine JC.loop (σ := SHeap × Nat) (fun q => q.1) (fun _ => []) (fun q => [(0, .slice a xs.length c), (1, .func (.func f) fs cs), (7, .int .i64 xs.length), (8, .int .i64 q.2)]) (fun q => S.le q.1 ∧ q.2 ≤ xs.length ∧ xs.findIdx? p = ((xs.drop q.2).findIdx? p).map (· + q.2)) (fun q => xs.length - q.2) (S, 0) ⟨SHeap.le.refl _, Nat.zero_le _, by simp⟩ rfl rfl (by exact sba) ?_
  rintro ⟨S1, k⟩ ⟨hl1, hk, hi⟩
  dsimp only at hl1 hk hi ⊢
  repeat (first | (refine Walk ?_; intros) | refine JC.block ?_)
  refine JC.cond rfl (fun hc => ?_) (fun hc => ?_)
  · have hk' := dlt hc
    obtain ⟨x, hx, hd⟩ := drop_at hk'
    repeat (first | (refine Walk ?_; intros) | refine JC.block ?_)
    (refine JO.eff rfl rfl rfl (JEff.dynV rfl (by assumption) rfl ((hf _ (by exact lea) _ x (by assumption))) rfl ?_); intro _ _)
    repeat (first | (refine Walk ?_; intros) | refine JC.block ?_)
    refine JC.cond rfl (fun h1 => ?_) (fun h1 => ?_)
    · repeat (first | (refine Walk ?_; intros) | refine JC.block ?_)
      refine JX.ret1 Tryz.results66 (ResV.tmp rfl) (List.nil_sublist _) ?_
      exact ⟨rfl, by rw [idx_hit hd h1 hi]⟩
    · repeat (first | (refine Walk ?_; intros) | refine JC.block ?_)
      exact JX.round (_, k + 1) ⟨by exact lea, hk', idx_step hd h1 hi⟩ (by simp; omega) rfl rfl (by exact sba)
  · have hk' := dnlt hc
    repeat (first | (refine Walk ?_; intros) | refine JC.block ?_)
    refine JX.ret1 Tryz.results66 (ResV.tmp rfl) (List.nil_sublist _) ?_
    exact ⟨rfl, by rw [idx_miss (List.drop_eq_nil_of_le hk') hi]⟩
theorem p_IndexFunc_int {S : SHeap} {v : Value} {xs : List Int} {f : FuncId} {fs cs : Array Value} (p : Int → Bool) (hv : (rSlice 8 rI64).V S v xs) (hE : Ent Tryz.prog f)
    (hf : ∀ S', S.le S' → ∀ u x, rI64.V S' u x → FnV Tryz.prog f (fs.toList ++ [u] ++ cs.toList).toArray S' (.bool (p x))) : FnV Tryz.prog 115 #[v, .func (.func f) fs cs] S (.int .i64 (idxF p xs)) := by
  obtain ⟨a, c, rfl, _, _, hb, _⟩ := V_slice.1 hv
  unfold big at hb
  (refine Fn.enter (args := [.slice a xs.length c, .func (.func f) fs cs]) Tryz.func115 rfl Tryz.ntmps115 rfl ?_; intro w0)
  repeat (first | (refine Walk ?_; intros) | refine JC.block ?_)
  refine JC.loop (σ := SHeap × Nat) (fun q => q.1) (fun _ => []) (fun q => [(0, .slice a xs.length c), (1, .func (.func f) fs cs), (7, .int .i64 xs.length), (8, .int .i64 q.2)]) (fun q => S.le q.1 ∧ q.2 ≤ xs.length ∧ xs.findIdx? p = ((xs.drop q.2).findIdx? p).map (· + q.2)) (fun q => xs.length - q.2) (S, 0) ⟨SHeap.le.refl _, Nat.zero_le _, by simp⟩ rfl rfl (by exact sba) ?_
  rintro ⟨S1, k⟩ ⟨hl1, hk, hi⟩
  dsimp only at hl1 hk hi ⊢
  repeat (first | (refine Walk ?_; intros) | refine JC.block ?_)
  refine JC.cond rfl (fun hc => ?_) (fun hc => ?_)
  · have hk' := dlt hc
    obtain ⟨x, hx, hd⟩ := drop_at hk'
    repeat (first | (refine Walk ?_; intros) | refine JC.block ?_)
    (refine JO.eff rfl rfl rfl (JEff.dynV rfl (by assumption) rfl ((hf _ (by exact lea) _ x (V_i64.2 ⟨rfl, by assumption⟩))) rfl ?_); intro _ _)
    repeat (first | (refine Walk ?_; intros) | refine JC.block ?_)
    refine JC.cond rfl (fun h1 => ?_) (fun h1 => ?_)
    · repeat (first | (refine Walk ?_; intros) | refine JC.block ?_)
      refine JX.ret1 Tryz.results115 (ResV.tmp rfl) (List.nil_sublist _) ?_
      exact ⟨rfl, by rw [idx_hit hd h1 hi]⟩
    · repeat (first | (refine Walk ?_; intros) | refine JC.block ?_)
      exact JX.round (_, k + 1) ⟨by exact lea, hk', idx_step hd h1 hi⟩ (by simp; omega) rfl rfl (by exact sba)
  · have hk' := dnlt hc
    repeat (first | (refine Walk ?_; intros) | refine JC.block ?_)
    refine JX.ret1 Tryz.results115 (ResV.tmp rfl) (List.nil_sublist _) ?_
    exact ⟨rfl, by rw [idx_miss (List.drop_eq_nil_of_le hk') hi]⟩
theorem p_ContainsFunc_int {S : SHeap} {v : Value} {xs : List Int} {f : FuncId} {fs cs : Array Value} (p : Int → Bool) (hv : (rSlice 8 rI64).V S v xs) (hE : Ent Tryz.prog f)
    (hf : ∀ S', S.le S' → ∀ u x, rI64.V S' u x → FnV Tryz.prog f (fs.toList ++ [u] ++ cs.toList).toArray S' (.bool (p x))) : FnV Tryz.prog 72 #[v, .func (.func f) fs cs] S (.bool (xs.any p)) := by
  (refine Fn.enter (args := [v, .func (.func f) fs cs]) Tryz.func72 rfl Tryz.ntmps72 rfl ?_; intro w0)
  repeat (first | (refine Walk ?_; intros) | refine JC.block ?_)
  (refine JO.eff rfl rfl rfl (JEff.callV rfl (p_IndexFunc_int p (by exact vta) hE (fun S' h => hf S' (by exact lea))) rfl ?_); intro _ _)
  repeat (first | (refine Walk ?_; intros) | refine JC.block ?_)
  refine JX.ret1 Tryz.results72 (ResV.tmp rfl) (List.nil_sublist _) ?_
  exact ⟨rfl, by rw [← idxF_nn]⟩
theorem p_IndexFunc_string {S : SHeap} {v : Value} {xs : List ByteArray} {f : FuncId} {fs cs : Array Value} (p : ByteArray → Bool) (hv : (rSlice 16 rStr).V S v xs) (hE : Ent Tryz.prog f)
    (hf : ∀ S', S.le S' → ∀ u x, rStr.V S' u x → FnV Tryz.prog f (fs.toList ++ [u] ++ cs.toList).toArray S' (.bool (p x))) : FnV Tryz.prog 184 #[v, .func (.func f) fs cs] S (.int .i64 (idxF p xs)) := by
  obtain ⟨a, c, rfl, _, _, hb, _⟩ := V_slice.1 hv
  unfold big at hb
  (refine Fn.enter (args := [.slice a xs.length c, .func (.func f) fs cs]) Tryz.func184 rfl Tryz.ntmps184 rfl ?_; intro w0)
  repeat (first | (refine Walk ?_; intros) | refine JC.block ?_)
  refine JC.loop (σ := SHeap × Nat) (fun q => q.1) (fun _ => []) (fun q => [(0, .slice a xs.length c), (1, .func (.func f) fs cs), (7, .int .i64 xs.length), (8, .int .i64 q.2)]) (fun q => S.le q.1 ∧ q.2 ≤ xs.length ∧ xs.findIdx? p = ((xs.drop q.2).findIdx? p).map (· + q.2)) (fun q => xs.length - q.2) (S, 0) ⟨SHeap.le.refl _, Nat.zero_le _, by simp⟩ rfl rfl (by exact sba) ?_
  rintro ⟨S1, k⟩ ⟨hl1, hk, hi⟩
  dsimp only at hl1 hk hi ⊢
  repeat (first | (refine Walk ?_; intros) | refine JC.block ?_)
  refine JC.cond rfl (fun hc => ?_) (fun hc => ?_)
  · have hk' := dlt hc
    obtain ⟨x, hx, hd⟩ := drop_at hk'
    repeat (first | (refine Walk ?_; intros) | refine JC.block ?_)
    (refine JO.eff rfl rfl rfl (JEff.dynV rfl (by assumption) rfl ((hf _ (by exact lea) _ x (V_str.2 ⟨rfl, by assumption⟩))) rfl ?_); intro _ _)
    repeat (first | (refine Walk ?_; intros) | refine JC.block ?_)
    refine JC.cond rfl (fun h1 => ?_) (fun h1 => ?_)
    · repeat (first | (refine Walk ?_; intros) | refine JC.block ?_)
      refine JX.ret1 Tryz.results184 (ResV.tmp rfl) (List.nil_sublist _) ?_
      exact ⟨rfl, by rw [idx_hit hd h1 hi]⟩
    · repeat (first | (refine Walk ?_; intros) | refine JC.block ?_)
      exact JX.round (_, k + 1) ⟨by exact lea, hk', idx_step hd h1 hi⟩ (by simp; omega) rfl rfl (by exact sba)
  · have hk' := dnlt hc
    repeat (first | (refine Walk ?_; intros) | refine JC.block ?_)
    refine JX.ret1 Tryz.results184 (ResV.tmp rfl) (List.nil_sublist _) ?_
    exact ⟨rfl, by rw [idx_miss (List.drop_eq_nil_of_le hk') hi]⟩
theorem p_ContainsFunc_string {S : SHeap} {v : Value} {xs : List ByteArray} {f : FuncId} {fs cs : Array Value} (p : ByteArray → Bool) (hv : (rSlice 16 rStr).V S v xs) (hE : Ent Tryz.prog f)
    (hf : ∀ S', S.le S' → ∀ u x, rStr.V S' u x → FnV Tryz.prog f (fs.toList ++ [u] ++ cs.toList).toArray S' (.bool (p x))) : FnV Tryz.prog 129 #[v, .func (.func f) fs cs] S (.bool (xs.any p)) := by
  (refine Fn.enter (args := [v, .func (.func f) fs cs]) Tryz.func129 rfl Tryz.ntmps129 rfl ?_; intro w0)
  repeat (first | (refine Walk ?_; intros) | refine JC.block ?_)
  (refine JO.eff rfl rfl rfl (JEff.callV rfl (p_IndexFunc_string p (by exact vta) hE (fun S' h => hf S' (by exact lea))) rfl ?_); intro _ _)
  repeat (first | (refine Walk ?_; intros) | refine JC.block ?_)
  refine JX.ret1 Tryz.results129 (ResV.tmp rfl) (List.nil_sublist _) ?_
  exact ⟨rfl, by rw [← idxF_nn]⟩
theorem p_IndexFunc_Errno {S : SHeap} {v : Value} {xs : List Int} {f : FuncId} {fs cs : Array Value} (p : Int → Bool) (hv : (rSlice 8 rI64).V S v xs) (hE : Ent Tryz.prog f)
    (hf : ∀ S', S.le S' → ∀ u x, rI64.V S' u x → FnV Tryz.prog f (fs.toList ++ [u] ++ cs.toList).toArray S' (.bool (p x))) : FnV Tryz.prog 196 #[v, .func (.func f) fs cs] S (.int .i64 (idxF p xs)) := by
  obtain ⟨a, c, rfl, _, _, hb, _⟩ := V_slice.1 hv
  unfold big at hb
  (refine Fn.enter (args := [.slice a xs.length c, .func (.func f) fs cs]) Tryz.func196 rfl Tryz.ntmps196 rfl ?_; intro w0)
  repeat (first | (refine Walk ?_; intros) | refine JC.block ?_)
  refine JC.loop (σ := SHeap × Nat) (fun q => q.1) (fun _ => []) (fun q => [(0, .slice a xs.length c), (1, .func (.func f) fs cs), (7, .int .i64 xs.length), (8, .int .i64 q.2)]) (fun q => S.le q.1 ∧ q.2 ≤ xs.length ∧ xs.findIdx? p = ((xs.drop q.2).findIdx? p).map (· + q.2)) (fun q => xs.length - q.2) (S, 0) ⟨SHeap.le.refl _, Nat.zero_le _, by simp⟩ rfl rfl (by exact sba) ?_
  rintro ⟨S1, k⟩ ⟨hl1, hk, hi⟩
  dsimp only at hl1 hk hi ⊢
  repeat (first | (refine Walk ?_; intros) | refine JC.block ?_)
  refine JC.cond rfl (fun hc => ?_) (fun hc => ?_)
  · have hk' := dlt hc
    obtain ⟨x, hx, hd⟩ := drop_at hk'
    repeat (first | (refine Walk ?_; intros) | refine JC.block ?_)
    (refine JO.eff rfl rfl rfl (JEff.dynV rfl (by assumption) rfl ((hf _ (by exact lea) _ x (V_i64.2 ⟨rfl, by assumption⟩))) rfl ?_); intro _ _)
    repeat (first | (refine Walk ?_; intros) | refine JC.block ?_)
    refine JC.cond rfl (fun h1 => ?_) (fun h1 => ?_)
    · repeat (first | (refine Walk ?_; intros) | refine JC.block ?_)
      refine JX.ret1 Tryz.results196 (ResV.tmp rfl) (List.nil_sublist _) ?_
      exact ⟨rfl, by rw [idx_hit hd h1 hi]⟩
    · repeat (first | (refine Walk ?_; intros) | refine JC.block ?_)
      exact JX.round (_, k + 1) ⟨by exact lea, hk', idx_step hd h1 hi⟩ (by simp; omega) rfl rfl (by exact sba)
  · have hk' := dnlt hc
    repeat (first | (refine Walk ?_; intros) | refine JC.block ?_)
    refine JX.ret1 Tryz.results196 (ResV.tmp rfl) (List.nil_sublist _) ?_
    exact ⟨rfl, by rw [idx_miss (List.drop_eq_nil_of_le hk') hi]⟩
theorem p_ContainsFunc_Errno {S : SHeap} {v : Value} {xs : List Int} {f : FuncId} {fs cs : Array Value} (p : Int → Bool) (hv : (rSlice 8 rI64).V S v xs) (hE : Ent Tryz.prog f)
    (hf : ∀ S', S.le S' → ∀ u x, rI64.V S' u x → FnV Tryz.prog f (fs.toList ++ [u] ++ cs.toList).toArray S' (.bool (p x))) : FnV Tryz.prog 154 #[v, .func (.func f) fs cs] S (.bool (xs.any p)) := by
  (refine Fn.enter (args := [v, .func (.func f) fs cs]) Tryz.func154 rfl Tryz.ntmps154 rfl ?_; intro w0)
  repeat (first | (refine Walk ?_; intros) | refine JC.block ?_)
  (refine JO.eff rfl rfl rfl (JEff.callV rfl (p_IndexFunc_Errno p (by exact vta) hE (fun S' h => hf S' (by exact lea))) rfl ?_); intro _ _)
  repeat (first | (refine Walk ?_; intros) | refine JC.block ?_)
  refine JX.ret1 Tryz.results154 (ResV.tmp rfl) (List.nil_sublist _) ?_
  exact ⟨rfl, by rw [← idxF_nn]⟩
end Go.Dr
namespace Go.Dr
def riseN : Option ByteArray → List ByteArray → Bool
  | _, [] => true
  | p, s :: r => nameB s && (match p with | some a => ltS a s | none => true) && riseN (some s) r
def z0 (x : Int) : Bool := decide (x = 0)
def nodeB (n : Node) : Bool := z0 (checkV n.cap) && z0 (checkL false n.labels) && z0 (checkL false n.taints)
def nearB (n : Near) : Bool := if n.topo = noS then decide (n.terms.length = 0) else nameB n.topo && z0 (checkT n.terms)
def idxS (l : List ByteArray) (name : ByteArray) : Int := idxF (fun x => decide (x = name)) l
def nNames (s : Snap) : List ByteArray := s.nodes.map Node.name
def pNames (s : Snap) : List ByteArray := s.pods.map Pod.name
def oNames (s : Snap) : List ByteArray := s.owners.map Owner.name
def lostAt (s : Snap) (i : Int) : Bool := match s.nodes[i.toNat]? with | some n => n.lost | none => false
def podB (s : Snap) (p : Pod) : Bool :=
  (decide (p.owner = noS) || decide (0 ≤ idxS (oNames s) p.owner)) && (decide (p.on = noS) || (decide (0 ≤ idxS (nNames s) p.on) && !lostAt s (idxS (nNames s) p.on))) &&
    (z0 (checkV p.req) && z0 (checkL false p.labels) && z0 (checkT p.wher) && z0 (checkL true p.bears)) && nearB p.with_ && nearB p.apart
def ownerB (o : Owner) : Bool :=
  (if o.topo = noS then decide (o.skew = 0) else nameB o.topo && decide (1 ≤ o.skew) && decide (o.skew ≤ 24)) && decide (0 ≤ o.min) && decide (o.min ≤ 24)
def manyB (s : Snap) : Bool := decide ((8 : Int) < (s.nodes.length : Int)) || decide ((24 : Int) < (s.pods.length : Int)) || decide ((8 : Int) < (s.owners.length : Int))
def shapedB (s : Snap) : Bool :=
  !manyB s && (riseN none (nNames s) && riseN none (pNames s) && riseN none (oNames s)) && (s.nodes.all nodeB && s.pods.all (podB s) && s.owners.all ownerB)
def caps (s : Snap) : List (List Int) := s.nodes.map Node.cap
def reqs (s : Snap) : List (List Int) := s.pods.map Pod.req
def checkS (s : Snap) : Int := if shapedB s then (if z0 (plusV (caps s)).2 && z0 (plusV (reqs s)).2 then 0 else 10) else 50
theorem idxS_map {α : Type} (f : α → ByteArray) (l : List α) (name : ByteArray) : idxS (l.map f) name = idxF (fun x => decide (f x = name)) l := by
  unfold idxS idxF
  rw [List.findIdx?_map]
  rfl
theorem idxF_lt {α : Type} (p : α → Bool) (l : List α) : idxF p l < l.length := by
  unfold idxF
  cases h : l.findIdx? p with
  | none => simp; omega
  | some i => have := (List.findIdx?_eq_some_iff_getElem.1 h).1; simp only []; omega
theorem idxF_ge {α : Type} (p : α → Bool) (l : List α) : -1 ≤ idxF p l := by
  unfold idxF
  cases h : l.findIdx? p <;> simp only [] <;> omega
end Go.Dr
namespace Go.Dr
def oddP (s : Snap) (n : Int) : Bool := decide (n < -1) || decide ((s.nodes.length : Int) ≤ n) || (decide (0 ≤ n) && lostAt s n)
def checkP (s : Snap) (p : List Int) : Int := if !z0 (checkS s) then checkS s else if !decide (p.length = s.pods.length) || p.any (oddP s) then 2 else 0
def valB (n : Node) (key : ByteArray) : ByteArray × Bool := if n.lost then (noS, false) else getL n.labels key
def onN (s : Snap) (p : List Int) (node : Int) : List Pod := ((p.zip s.pods).filter (fun x => decide (x.1 = node))).map (fun x => x.2)
def usedV (s : Snap) (p : List Int) (node : Int) : List Int := (List.range 5).map (fun j => ((onN s p node).map (fun x => at0 x.req j)).sum)
def ownName (s : Snap) (o : Nat) : ByteArray := match s.owners[o]? with | some x => x.name | none => noS
def ownedL (s : Snap) (p : List Int) (o : Nat) : List Int := ((p.zip s.pods).filter (fun x => decide (0 ≤ x.1) && decide (x.2.owner = ownName s o))).map (fun x => x.1)
def placedN (s : Snap) (p : List Int) (o : Nat) : Int := (ownedL s p o).length
def countsL (s : Snap) (p : List Int) (o : Nat) : List Int := (List.range s.nodes.length).map (fun (n : Nat) => (((ownedL s p o).filter (fun x => decide (x = (n : Int)))).length : Int))
theorem checkP_ok {s : Snap} {p : List Int} (h : checkP s p = 0) : checkS s = 0 ∧ p.length = s.pods.length ∧ ∀ n ∈ p, oddP s n = false := by
  unfold checkP at h
  cases h1 : z0 (checkS s) with
  | false =>
    rw [h1] at h
    simp [z0] at h1
    simp at h
    exact absurd h h1
  | true =>
    rw [h1] at h
    have h1 : checkS s = 0 := by simpa [z0] using h1
    refine ⟨h1, ?_⟩
    simp only [Bool.not_true, Bool.false_eq_true, if_false] at h
    split at h
    · cases h
    · rename_i h2
      simp only [Bool.or_eq_true, not_or, Bool.not_eq_true', decide_eq_false_iff_not, Classical.not_not, Bool.not_eq_true, List.any_eq_false] at h2
      exact ⟨h2.1, fun n hn => by simpa using h2.2 n hn⟩
end Go.Dr
namespace Go.Dr
def near8 (s : Snap) (a b : Nat) (key : ByteArray) : Bool :=
  match s.nodes[a]?, s.nodes[b]? with
  | some x, some y => (valB x key).2 && (valB y key).2 && decide ((valB x key).1 = (valB y key).1)
  | _, _ => false
def termsN (l : List Term) (labels : List Label) : Int := (l.filter (fun t => !holdsB [t] labels)).length
def taintsN (l bears : List Label) : Int := (l.filter (fun t => !bearsB bears [t])).length
def single8 (s : Snap) (name : ByteArray) : Bool := match s.owners.find? (fun o => decide (o.name = name)) with | some o => o.single | none => false
theorem filt_take {α : Type} {l : List α} {f : α → Bool} {k : Nat} {x : α} (h : l[k]? = some x) : (((l.take (k + 1)).filter f).length : Int) = ((l.take k).filter f).length + (if f x = true then 1 else 0) := by
  rw [List.take_add_one, h]
  cases hf : f x <;> simp [List.filter_append, List.filter_cons, hf]
theorem filt_le {α : Type} (l : List α) (f : α → Bool) (k : Nat) : ((l.take k).filter f).length ≤ k := Nat.le_trans (List.length_filter_le _ _) (by simp; omega)
theorem cut1 {α : Type} {l : List α} {k : Nat} {x : α} (h : l[k]? = some x) : (l.drop ((k : Int)).toNat).take ((k : Int) + 1 - (k : Int)).toNat = [x] := by
  obtain ⟨hl, hx⟩ := List.getElem?_eq_some_iff.1 h
  have e : ((k : Int) + 1 - (k : Int)).toNat = 1 := by omega
  have e2 : ((k : Int)).toNat = k := by omega
  rw [e, e2, List.drop_eq_getElem_cons hl, hx]; rfl
end Go.Dr
namespace Go.Dr
def cntI (n : Nat) (f : Nat → Bool) : Int := ((List.range n).filter f).length
theorem cntI_step (n : Nat) (f : Nat → Bool) : cntI (n + 1) f = cntI n f + (if f n = true then 1 else 0) := by
  unfold cntI
  rw [List.range_succ, List.filter_append]
  cases hf : f n <;> simp [hf]
theorem cntI_rng (n : Nat) (f : Nat → Bool) : 0 ≤ cntI n f ∧ cntI n f ≤ n := by
  unfold cntI
  have := List.length_filter_le f (List.range n)
  simp at this ⊢; omega
def aboutF (s : Snap) (p : List Int) (i : Nat) (x : Near) (others : Bool) (j : Nat) : Bool :=
  match p[j]?, s.pods[j]?, p[i]? with
  | some n, some q, some m => decide (0 ≤ n) && !(others && decide (j = i)) && near8 s n.toNat m.toNat x.topo && holdsB x.terms q.labels
  | _, _, _ => false
def about8 (s : Snap) (p : List Int) (i : Nat) (x : Near) (others : Bool) : Int := cntI p.length (aboutF s p i x others)
def doubleF (s : Snap) (p : List Int) (i : Nat) (j : Nat) : Bool :=
  match p[j]?, s.pods[j]?, p[i]?, s.pods[i]? with
  | some n, some q, some m, some r => !decide (j = i) && decide (n = m) && decide (q.owner = r.owner)
  | _, _, _, _ => false
def double8 (s : Snap) (p : List Int) (i : Nat) : Int := cntI p.length (doubleF s p i)
end Go.Dr
namespace Go.Dr
def domIns (v : ByteArray) (out : List ByteArray) : List ByteArray :=
  out.takeWhile (fun x => ltS x v) ++ (match out.dropWhile (fun x => ltS x v) with | [] => [v] | x :: r => if x = v then x :: r else v :: x :: r)
def domStep (key : ByteArray) (out : List ByteArray) (n : Node) : List ByteArray := if (valB n key).2 = true then domIns (valB n key).1 out else out
def domL (s : Snap) (key : ByteArray) : List ByteArray := s.nodes.foldl (domStep key) []
def inDom (s : Snap) (key v : ByteArray) (n : Nat) : Bool := match s.nodes[n]? with | some x => (valB x key).2 && decide ((valB x key).1 = v) | none => false
def topoOf (s : Snap) (o : Nat) : ByteArray := match s.owners[o]? with | some x => x.topo | none => noS
def domCount (s : Snap) (p : List Int) (o : Nat) (v : ByteArray) : Int := ((List.range s.nodes.length).map (fun n => if inDom s (topoOf s o) v n = true then at0 (countsL s p o) n else 0)).sum
def spreadL (s : Snap) (p : List Int) (o : Nat) : List Int := (domL s (topoOf s o)).map (domCount s p o)
end Go.Dr
