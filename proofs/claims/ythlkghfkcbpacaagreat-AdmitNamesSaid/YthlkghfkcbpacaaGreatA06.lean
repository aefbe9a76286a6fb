/- Part 7 of the rules and of the walks that the proofs of this seat rest on; no condition. -/
import Derived.Test.YthlkghfkcbpacaaGreatA05
set_option linter.unusedVariables false
set_option linter.unusedSimpArgs false
namespace Go.Dr
open Go.Proofs
set_option maxRecDepth 20000
set_option maxHeartbeats 2000000
set_option linter.unusedSimpArgs false
set_option linter.unusedVariables false
theorem p8_All {S : SHeap} {u v : Value} {s : Snap} {p : List Int} (hu : rSnap.V S u s) (hv : (rSlice 8 rI64).V S v p) : FnLE Tryz.prog 22 #[u, v] S 32 rClause (allL s p) (.int .i64 (checkP s p)) := by
  obtain ⟨a, c, rfl, _⟩ := V_slice.1 hv
  (refine Fn.enter (args := [u, .slice a p.length c]) Tryz.func22 rfl Tryz.ntmps22 rfl ?_; intro w0)
  repeat (first | (refine Walk ?_; intros) | refine JC.block ?_ | (refine WBox ?_; intros))
  refine JO.eff rfl rfl rfl (JEff.callM (Mc := []) rfl (List.Perm.refl _) (mayAll rfl) (p8_see (s := s) (p := p) (by exact vta) (by exact vta)) rfl ?_); intro w S2 M2 hl2 hw
  rcases hw with ⟨he, rfl, rfl⟩ | ⟨hok, kp, mb, rfl, hL, rfl⟩
  · have he2 : decide (checkP s p = 0) = false := by simpa using he
    repeat (first | (refine Walk ?_; intros) | refine JC.block ?_ | (refine WBox ?_; intros))
    refine JC.cond rfl (fun h1 => ?_) (fun h1 => ?_)
    · repeat (first | (refine Walk ?_; intros) | refine JC.block ?_ | (refine WBox ?_; intros))
      (refine JX.ret2 Tryz.results22 (ResV.tmp rfl) (ResV.tmp rfl) (List.nil_sublist _) ?_)
      exact ⟨rfl, _, rfl, by rw [allL, if_neg he]; exact V_nil⟩
    · (exfalso; first | (simp only [decide_eq_true_eq, decide_eq_false_iff_not, Bool.not_eq_true', Bool.not_eq_false', Bool.and_eq_true, Bool.or_eq_true, Bool.and_eq_false_iff, Bool.or_eq_false_iff] at *; omega) | (simp_all; done) | (simp_all; omega))
  · repeat (first | (refine Walk ?_; intros) | refine JC.block ?_ | (refine WBox ?_; intros))
    refine JO.eff rfl rfl rfl (JEff.callC (kv := Value.string) rfl (List.Perm.refl _) (by intro l hl; cases hl) (p8_all hok hL Cache.nil) rfl ?_); intro w S3 l3 hl3 hw hco3
    repeat (first | (refine Walk ?_; intros) | refine JC.block ?_ | (refine WBox ?_; intros))
    (refine JX.ret2 Tryz.results22 (ResV.tmp rfl) (ResV.tmp rfl) (List.nil_sublist _) ?_)
    exact ⟨rfl, _, by rw [hok], by rw [allL, if_pos hok]; exact hw⟩
end Go.Dr
namespace Go.Dr
def zoneS : ByteArray := ⟨#[122, 111, 110, 101]⟩
def nd8 (n : UInt8) (ls : List Label) : Node := ⟨⟨#[n]⟩, [15, 0, 0, 0, 0], ls, [], false, false⟩
def noNear : Near := ⟨⟨#[]⟩, []⟩
def pod8 (n : UInt8) : Pod := ⟨⟨#[n]⟩, ⟨#[111]⟩, [10, 0, 0, 0, 0], [], [], [], noNear, noNear, ⟨#[]⟩⟩
def nodes8 : List Node := [nd8 97 [⟨zoneS, ⟨#[120]⟩⟩], nd8 98 [⟨zoneS, ⟨#[121]⟩⟩], nd8 99 []]
def pods8 : List Pod := [pod8 112, pod8 113, pod8 114]
def chapM (m : Int) : Snap := ⟨nodes8, pods8, [⟨⟨#[111]⟩, m, zoneS, 1, false⟩]⟩
end Go.Dr
namespace Go.Dr
open Go.Proofs
set_option maxRecDepth 20000
set_option maxHeartbeats 2000000
set_option linter.unusedSimpArgs false
set_option linter.unusedVariables false
end Go.Dr
namespace Go.Dr
section
variable {C : Cx} {R : Rg} {Q : Post} {S S' : SHeap} {M M' : List MEnt} {e : Env} {rest : List Nat}
variable {d : Nat} {ty : TypeId} {pos : String} {aft : Array Edge} {g : Option (Nat × Bool)} {an : Bool}
theorem JPure.sliceT {T : TypeId} {x lo hi : Operand} {s : ByteArray} {kl kh : IntKind} {l h : Int} (hx : ev e x = some (.string s)) (hlo : ev e lo = some (.int kl l)) (hhi : ev e hi = some (.int kh h)) [hu : Und C.P T .string] (hdN : Nat.blt d C.N = true)
    (h0 : 0 ≤ l) (h1 : l ≤ h) (h2 : h ≤ s.size) (k : JO C R rest Q S M ((d, .string (s.extract l.toNat h.toNat)) :: e)) : JPure C R an ⟨some d, .slice T x (some lo) (some hi) none, ty, pos, aft, g⟩ rest Q S M e := by
  refine JPure.of rfl hdN (fun act w' hh => ?_) k
  have bl : (Instr.sliceBound (.int kl l) h.toNat .sliceB).run C.P w' = .ok l.toNat w' := run_sliceBound (P := C.P) w' kl l h.toNat _ h0 (by omega)
  have bh : (Instr.sliceBound (.int kh h) s.size .sliceAlen).run C.P w' = .ok h.toNat w' := run_sliceBound (P := C.P) w' kh h s.size _ (by omega) h2
  have hm : (Instr.slice T (.string s) (some (.int kl l)) (some (.int kh h)) none).run C.P w' = .ok (.string (s.extract l.toNat h.toNat)) w' := by
    simp [Instr.slice, run_underlying hu.h, Instr.sliceBounds, bl, bh]
  have hs : (Instr.sliceAt T (.string s) (some (.int kl l)) (some (.int kh h)) none).run C.P w' = (Instr.slice T (.string s) (some (.int kl l)) (some (.int kh h)) none).run C.P w' := by
    simp [Instr.sliceAt, run_underlying hu.h]
  simp only [execOp, hh.eval hx, Option.map_some, Option.map_none, hh.eval hlo, hh.eval hhi, Sem.run_bind, hs, hm, Result.andThen_ok, Sem.run_pure]
end
end Go.Dr
namespace Go.Dr
open Go.Proofs
set_option maxRecDepth 20000
set_option maxHeartbeats 2000000
set_option linter.unusedSimpArgs false
set_option linter.unusedVariables false
theorem R_vec {S : SHeap} {a b c d e : Int} (h : ∀ x ∈ [a, b, c, d, e], Rng x) : (rArr 5).R S [.int .i64 a, .int .i64 b, .int .i64 c, .int .i64 d, .int .i64 e] [a, b, c, d, e] := ⟨rfl, rfl, h⟩
theorem sz1 (n : UInt8) : (⟨#[n]⟩ : ByteArray).size ≤ big := by show 1 ≤ big; decide
theorem sz0 : (⟨#[]⟩ : ByteArray).size ≤ big := by decide
theorem szZ : zoneS.size ≤ big := by decide
theorem V_lab {S : SHeap} {a b : ByteArray} (h1 : a.size ≤ big) (h2 : b.size ≤ big) : rLabel.V S (.agg (flatCells [.string a, .string b]).toArray) ⟨a, b⟩ := ⟨_, map_R (seq1 (R_str h1) (R_str h2)), rfl⟩
theorem V_node8 {S : SHeap} {n : UInt8} {v : Value} {ls : List Label} (h : (rSlice 32 rLabel).V S v ls) : rNode.V S (.agg (flatCells [.string ⟨#[n]⟩, .agg (ints [15, 0, 0, 0, 0]), v, .slice none 0 0, .bool false, .bool false]).toArray) (nd8 n ls) := by
  obtain ⟨a, c, rfl, _⟩ := V_slice.1 h
  exact ⟨[_, _, _, _, _, _, _, _, _, _], map_R (seq1 (R_str (sz1 _)) (seq5 (R_vec (by simp [Rng])) (seq1 (h.one rfl) (seq1 (V_nil.one rfl) (seq1 R_bool R_bool))))), rfl⟩
theorem V_owner8 {S : SHeap} {m : Int} (hm : Rng m) : rOwner.V S (.agg (flatCells [.string ⟨#[111]⟩, .int .i64 m, .string zoneS, .int .i64 1, .bool false]).toArray) ⟨⟨#[111]⟩, m, zoneS, 1, false⟩ :=
  ⟨[_, _, _, _, _], map_R (seq1 (R_str (sz1 _)) (seq1 (R_i64 hm) (seq1 (R_str szZ) (seq1 (R_i64 (by simp [Rng])) R_bool)))), rfl⟩
theorem V_pod8 {S : SHeap} {n : ByteArray} {x : UInt8} (h : n = ⟨#[x]⟩) : rPod.V S (.agg (flatCells [.string n, .string ⟨#[111]⟩, .agg (flatCells [.int .i64 10, .int .i64 0, .int .i64 0, .int .i64 0, .int .i64 0]).toArray, .slice none 0 0, .slice none 0 0, .slice none 0 0, .agg #[.string ⟨#[]⟩, .slice none 0 0], .agg #[.string ⟨#[]⟩, .slice none 0 0], .string ⟨#[]⟩]).toArray) (pod8 x) := by
  subst h
  exact ⟨[_, _, _, _, _, _, _, _, _, _, _, _, _, _, _], map_R (seq1 (R_str (sz1 _)) (seq1 (R_str (sz1 _)) (seq5 (R_vec (by simp [Rng])) (seq1 (V_nil.one rfl) (seq1 (V_nil.one rfl) (seq1 (V_nil.one rfl)
    (seq2 (map_R (seq1 (R_str sz0) (V_nil.one rfl))) (seq2 (map_R (seq1 (R_str sz0) (V_nil.one rfl))) (R_str sz0))))))))), rfl⟩
theorem V_vec15 {S : SHeap} : (rArr 5).V S (.agg (flatCells [.int .i64 15, .int .i64 0, .int .i64 0, .int .i64 0, .int .i64 0]).toArray) [15, 0, 0, 0, 0] := V_arr.2 ⟨rfl, rfl, by simp [Rng]⟩
theorem pqr_at {k : Nat} {x : UInt8} (h : ([112, 113, 114] : List UInt8)[k]? = some x) : (⟨#[112, 113, 114]⟩ : ByteArray).extract ((k : Int)).toNat (((k : Int) + 1)).toNat = ⟨#[x]⟩ := by
  match k with
  | 0 => cases h; decide +kernel
  | 1 => cases h; decide +kernel
  | 2 => cases h; decide +kernel
  | k + 3 => simp at h
end Go.Dr
namespace Go.Dr
set_option linter.unusedSimpArgs false
set_option linter.unusedVariables false
def SHeap.del (S : SHeap) (b : Nat) : SHeap := fun k => if k = b then none else S k
theorem SHeap.del_self (S : SHeap) (b : Nat) : S.del b b = none := by simp [SHeap.del]
theorem SHeap.del_other {S : SHeap} {b k : Nat} (h : k ≠ b) : S.del b k = S k := by simp [SHeap.del, h]
theorem SHeap.le_del {S S' : SHeap} {b : Nat} (h : S.le S') (hb : S b = none) : S.le (S'.del b) := fun k o hk => by
  have hne : k ≠ b := fun e => by rw [e, hb] at hk; cases hk
  rw [SHeap.del_other hne]; exact h k o hk
theorem Wd.thaw {w0 w : World} {B0 : List Nat} {S0 S : SHeap} {M : List MEnt} {b : Nat} {o : Obj} (h : Wd w0 B0 S0 S M w) (h0 : S0 b = none) (hb : w0.heap.size ≤ b) (hS : S b = some o) : Wd w0 B0 S0 (S.del b) (.blk b o :: M) w where
  os := h.os
  tape := h.tape
  output := h.output
  size := h.size
  keep := h.keep
  le := SHeap.le_del h.le h0
  new := fun k hk => by
    by_cases e : k = b
    · subst e; exact .inr hb
    · exact h.new k (by rwa [SHeap.del_other e] at hk)
  agree := fun k o' hk => by
    have hne : k ≠ b := fun e => by rw [e, SHeap.del_self] at hk; cases hk
    rw [SHeap.del_other hne] at hk; exact h.agree k o' hk
  ok := fun m hm => by
    rcases List.mem_cons.1 hm with rfl | hm
    · exact h.agree b o hS
    · exact h.ok m hm
  sep := by
    refine List.pairwise_cons.2 ⟨?_, h.sep⟩
    intro m hm k hk hk'
    simp only [MEnt.own, Option.some.injEq] at hk
    subst hk
    have := (h.out m hm _ hk').1
    rw [hS] at this; cases this
  out := fun m hm k hk => by
    rcases List.mem_cons.1 hm with rfl | hm
    · simp only [MEnt.own, Option.some.injEq] at hk
      subst hk
      exact ⟨SHeap.del_self _ _, .inl hb⟩
    · obtain ⟨h1, h2⟩ := h.out m hm k hk
      refine ⟨?_, h2⟩
      unfold SHeap.del
      split
      · rfl
      · exact h1
theorem Fn.frozen {P : Program} {f : FuncId} {args : Array Value} {S : SHeap} {PP : Value → SHeap → List MEnt → Prop} {QQ : Value → SHeap → Prop} (h : Fn P f args S [] PP)
    (hq : ∀ v S' M', PP v S' M' → (M' = [] ∧ QQ v S') ∨ ∃ b o, M' = [.blk b o] ∧ ∀ S'', S'.le S'' → S'' b = some o → QQ v S'') : FnR P f args S QQ := fun w hg hok hs ho => by
  refine (h w hg hok hs ho).mono ?_
  rintro e w' ⟨v, S', M', rfl, hw, hp⟩
  rcases hq v S' M' hp with ⟨rfl, h1⟩ | ⟨b, o, rfl, h1⟩
  · exact ⟨v, S', [], rfl, hw, rfl, h1⟩
  · have h2 := hw.out (.blk b o) (by simp) b rfl
    have hb : w.heap.size ≤ b := h2.2.resolve_right (by simp)
    exact ⟨v, S'.put b o, [], rfl, hw.freeze hb, rfl, h1 _ (SHeap.le_put o h2.1) (SHeap.put_self _ _ _)⟩
section
variable {C : Cx} {R : Rg} {Q : Post} {S S' : SHeap} {M M' : List MEnt} {e : Env} {rest : List Nat} {L : List Nat}
variable {d : Nat} {ty : TypeId} {pos : String} {aft : Array Edge} {g : Option (Nat × Bool)}
theorem JO.out (k : (∀ m ∈ M, ∀ b, m.own = some b → S b = none) → JO C R L Q S M e) : JO C R L Q S M e := ⟨fun a w hw => (k fun m hm b hb => (hw.wd.out m hm b hb).1).run a w hw⟩
theorem JO.blkNew {b : Nat} {o : Obj} (h0 : C.B0 = []) (k : C.S0 b = none → C.w0.heap.size ≤ b → JO C R L Q S (.blk b o :: M) e) : JO C R L Q S (.blk b o :: M) e := ⟨fun a w hw => by
  have h1 := hw.wd.out (.blk b o) (by simp) b rfl
  have h2 := h1.2
  rw [h0] at h2
  refine (k ?_ (h2.resolve_right (by simp))).run a w hw
  cases h : C.S0 b with
  | none => rfl
  | some o' => have := hw.wd.le b o' h; rw [h1.1] at this; cases this⟩
theorem JC.blkNew {x : Code} {b : Nat} {o : Obj} (h0 : C.B0 = []) (k : C.S0 b = none → C.w0.heap.size ≤ b → JC C x Q S (.blk b o :: M) e) : JC C x Q S (.blk b o :: M) e := ⟨fun a w hw => by
  have h1 := hw.wd.out (.blk b o) (by simp) b rfl
  have h2 := h1.2
  rw [h0] at h2
  refine (k ?_ (h2.resolve_right (by simp))).run a w hw
  cases h : C.S0 b with
  | none => rfl
  | some o' => have := hw.wd.le b o' h; rw [h1.1] at this; cases this⟩
theorem JX.thaw {x : Exit} {b : Nat} {o : Obj} (h0 : C.S0 b = none) (hb : C.w0.heap.size ≤ b) (hS : S b = some o) (k : JX C x Q (S.del b) (.blk b o :: M) e) : JX C x Q S M e := ⟨fun a w hw => k.run a w ⟨hw.env, hw.defers, hw.wd.thaw h0 hb hS⟩⟩
class IfaceT (P : Program) (T : TypeId) : Prop where
  h : P.underlying T = some (.interface (P.methodsAt T))
theorem JPure.eqNilT {an : Bool} {T t' : TypeId} {x : Operand} (hx : ev e x = some .nilIface) [hi : IfaceT C.P T] (hdN : Nat.blt d C.N = true) (k : JO C R rest Q S M ((d, .bool true) :: e)) : JPure C R an ⟨some d, .binOp .eql T x (.const .nilIface) t', ty, pos, aft, g⟩ rest Q S M e :=
  JPure.of rfl hdN (fun a w' h => by
    simp only [execOp, h.eval hx, h.eval (show ev e (.const .nilIface) = some .nilIface from rfl), Sem.run_bind, eqGuard_nil_constR, Sem.run_pure, Result.andThen_ok, run_eql_nil_nil w' T hi.h]) k
theorem JPure.eqNilF {an : Bool} {T t' u : TypeId} {x : Operand} {v : Value} (hx : ev e x = some (.iface u v)) [hi : IfaceT C.P T] (hdN : Nat.blt d C.N = true) (k : JO C R rest Q S M ((d, .bool false) :: e)) : JPure C R an ⟨some d, .binOp .eql T x (.const .nilIface) t', ty, pos, aft, g⟩ rest Q S M e :=
  JPure.of rfl hdN (fun a w' h => by
    have hg : eqGuard .eql T x (.const .nilIface) (.iface u v) .nilIface = pure () := by rfl
    simp only [execOp, h.eval hx, h.eval (show ev e (.const .nilIface) = some .nilIface from rfl), Sem.run_bind, hg, Sem.run_pure, Result.andThen_ok, run_eql_held_nil w' T u v hi.h]) k
end
end Go.Dr
namespace Go.Dr
section
variable {C : Cx} {Q : Post} {S : SHeap} {M : List MEnt} {e : Env}
theorem JC.thaw {x : Code} {b : Nat} {o : Obj} (h0 : C.S0 b = none) (hb : C.w0.heap.size ≤ b) (hS : S b = some o) (k : JC C x Q (S.del b) (.blk b o :: M) e) : JC C x Q S M e := ⟨fun a w hw => k.run a w ⟨hw.env, hw.defers, hw.wd.thaw h0 hb hS⟩⟩
theorem JC.out {x : Code} (k : (∀ m ∈ M, ∀ b, m.own = some b → S b = none) → JC C x Q S M e) : JC C x Q S M e := ⟨fun a w hw => (k fun m hm b hb => (hw.wd.out m hm b hb).1).run a w hw⟩
end
section
variable {C : Cx} {R : Rg} {Q : Post} {S : SHeap} {M : List MEnt} {e : Env} {rest : List Nat}
variable {ty : TypeId} {pos : String} {aft : Array Edge} {g : Option (Nat × Bool)}
theorem JEff.storeTo (c' : Array Value) {α : Type} {T t : TypeId} {x y : Operand} {b off : Nat} {c : Array Value} {v : Value} {rep : Rp α} {x0 : α} {Mr : List MEnt} (hx : ev e x = some (.pointer (some ⟨b, off, none⟩))) (hy : ev e y = some v)
    (hv : rep.V S v x0) (hn : rep.agg = false → ∀ cs, v ≠ .agg cs) [ht : TyR C.P T rep] (hM : (MEnt.blk b (.cells c t (0, 0)) :: Mr).Perm M) (hl : off + rep.sz ≤ c.size) (hT : ∀ l, R.T = some l → b ∈ l)
    (hc : (c.toList.take off ++ v.cells.toList ++ c.toList.drop (off + rep.sz)).toArray = c')
    (k : JO C R rest Q S (.blk b (.cells c' t (0, 0)) :: Mr) e) : JEff C R ⟨none, .store T x y, ty, pos, aft, g⟩ rest Q S M e := by
  refine JEff.store hx hy hv hn hM hl hT ?_
  rw [hc]; exact k
end
theorem none_le {S S' : SHeap} {b : Nat} (h : S.le S') (hb : S' b = none) : S b = none := by
  cases hs : S b with
  | none => rfl
  | some o => have := h b o hs; rw [hb] at this; cases this
theorem ne_none {S : SHeap} {b c : Nat} {o : Obj} (hb : S b = none) (hc : S c = some o) : c ≠ b := fun e => by rw [e, hb] at hc; cases hc
def rRaw3 : Rp (Value × Value × Value) := rSeq rVal (rSeq rVal rVal)
instance : Fld rRaw3 0 rVal (fun x => x.1) := ⟨Part.first⟩
instance : Fld rRaw3 1 rVal (fun x => x.2.1) := ⟨Part.next Part.first rfl⟩
instance : Fld rRaw3 2 rVal (fun x => x.2.2) := ⟨Part.next (Part.last rfl) rfl⟩
theorem V_raw3 {S : SHeap} {a1 a2 a3 : Option Addr} {n1 n2 n3 c1 c2 c3 : Nat} : rRaw3.V S (.agg #[.slice a1 n1 c1, .slice a2 n2 c2, .slice a3 n3 c3]) (.slice a1 n1 c1, .slice a2 n2 c2, .slice a3 n3 c3) :=
  ⟨[_, _, _], ⟨[_], [_, _], rfl, ⟨rfl, rfl⟩, [_], [_], rfl, ⟨rfl, rfl⟩, rfl, rfl⟩, rfl⟩
end Go.Dr
namespace Go.Dr
open Go.Proofs
set_option maxRecDepth 20000
set_option maxHeartbeats 2000000
set_option linter.unusedSimpArgs false
set_option linter.unusedVariables false
def ndV (n : UInt8) (l t : Value) (c x : Bool) : Value := .agg (flatCells [.string ⟨#[n]⟩, .agg (ints [15, 0, 0, 0, 0]), l, t, .bool c, .bool x]).toArray
def podV0 (x : UInt8) : Value := .agg (flatCells [.string ⟨#[x]⟩, .string ⟨#[111]⟩, .agg (flatCells [.int .i64 10, .int .i64 0, .int .i64 0, .int .i64 0, .int .i64 0]).toArray, .slice none 0 0, .slice none 0 0, .slice none 0 0, .agg #[.string ⟨#[]⟩, .slice none 0 0], .agg #[.string ⟨#[]⟩, .slice none 0 0], .string ⟨#[]⟩]).toArray
def ownV0 (m : Int) (b : Bool) : Value := .agg (flatCells [.string ⟨#[111]⟩, .int .i64 m, .string zoneS, .int .i64 1, .bool b]).toArray
def podVs : List Value := [podV0 112, podV0 113, podV0 114]
def podV (x : UInt8) (lb wh br : Value) (wt : ByteArray) (wl : Value) (at_ : ByteArray) (al : Value) : Value := .agg (flatCells [.string ⟨#[x]⟩, .string ⟨#[111]⟩, .agg (flatCells [.int .i64 10, .int .i64 0, .int .i64 0, .int .i64 0, .int .i64 0]).toArray, lb, wh, br, .agg #[.string wt, wl], .agg #[.string at_, al], .string ⟨#[]⟩]).toArray
theorem V_ndG {S : SHeap} {n : UInt8} {a1 a2 : Option Addr} {n1 c1 n2 c2 : Nat} {ls ts : List Label} {c x : Bool} (h : (rSlice 32 rLabel).V S (.slice a1 n1 c1) ls) (h2 : (rSlice 32 rLabel).V S (.slice a2 n2 c2) ts) : rNode.V S (ndV n (.slice a1 n1 c1) (.slice a2 n2 c2) c x) ⟨⟨#[n]⟩, [15, 0, 0, 0, 0], ls, ts, c, x⟩ :=
  ⟨[_, _, _, _, _, _, _, _, _, _], map_R (seq1 (R_str (sz1 _)) (seq5 (R_vec (by simp [Rng])) (seq1 (h.one rfl) (seq1 (h2.one rfl) (seq1 R_bool R_bool))))), rfl⟩
theorem V_ownG {S : SHeap} {m : Int} {b : Bool} (hm : Rng m) : rOwner.V S (ownV0 m b) ⟨⟨#[111]⟩, m, zoneS, 1, b⟩ :=
  ⟨[_, _, _, _, _], map_R (seq1 (R_str (sz1 _)) (seq1 (R_i64 hm) (seq1 (R_str szZ) (seq1 (R_i64 (by simp [Rng])) R_bool)))), rfl⟩
theorem V_podG {S : SHeap} {x : UInt8} {a1 a2 a3 a4 a5 : Option Addr} {n1 c1 n2 c2 n3 c3 n4 c4 n5 c5 : Nat} {lb br : List Label} {wh wl al : List Term} {wt at_ : ByteArray} (h1 : (rSlice 32 rLabel).V S (.slice a1 n1 c1) lb) (h2 : (rSlice 40 rTerm).V S (.slice a2 n2 c2) wh) (h3 : (rSlice 32 rLabel).V S (.slice a3 n3 c3) br)
    (h4 : (rSlice 40 rTerm).V S (.slice a4 n4 c4) wl) (h5 : (rSlice 40 rTerm).V S (.slice a5 n5 c5) al) (hw : wt.size ≤ big) (ha : at_.size ≤ big) : rPod.V S (podV x (.slice a1 n1 c1) (.slice a2 n2 c2) (.slice a3 n3 c3) wt (.slice a4 n4 c4) at_ (.slice a5 n5 c5)) ⟨⟨#[x]⟩, ⟨#[111]⟩, [10, 0, 0, 0, 0], lb, wh, br, ⟨wt, wl⟩, ⟨at_, al⟩, ⟨#[]⟩⟩ :=
  ⟨[_, _, _, _, _, _, _, _, _, _, _, _, _, _, _], map_R (seq1 (R_str (sz1 _)) (seq1 (R_str (sz1 _)) (seq5 (R_vec (by simp [Rng])) (seq1 (h1.one rfl) (seq1 (h2.one rfl) (seq1 (h3.one rfl)
    (seq2 (map_R (seq1 (R_str hw) (h4.one rfl))) (seq2 (map_R (seq1 (R_str ha) (h5.one rfl))) (R_str sz0))))))))), rfl⟩
theorem take45 {a b c : Value} {tl : List Value} (h : (flatCells [a, b, c]).length = 45) : (cellsR [a, b, c] tl).toList.take 45 = flatCells [a, b, c] := by
  show (flatCells [a, b, c] ++ tl).take 45 = _
  rw [List.take_append_of_le_length (by omega), List.take_of_length_le (by omega)]
def ChapM (TN TP TO : TypeId) (m : Int) (w : Value) (S' : SHeap) (M' : List MEnt) : Prop :=
  ∃ nb pb ob cap tl a1 a2, w = .agg #[.slice (some ⟨nb, 0, none⟩) 3 3, .slice (some ⟨pb, 0, none⟩) 3 cap, .slice (some ⟨ob, 0, none⟩) 1 1] ∧
    M' = [.blk ob (.cells (flatCells [ownV0 m false]).toArray TO (0, 0)), .blk pb (.cells (cellsR podVs tl) TP (0, 0)), .blk nb (.cells (flatCells [ndV 97 (.slice a1 1 1) (.slice none 0 0) false false, ndV 98 (.slice a2 1 1) (.slice none 0 0) false false, ndV 99 (.slice none 0 0) (.slice none 0 0) false false]).toArray TN (0, 0))] ∧
    3 ≤ cap ∧ (rSlice 32 rLabel).V S' (.slice a1 1 1) [⟨zoneS, ⟨#[120]⟩⟩] ∧ (rSlice 32 rLabel).V S' (.slice a2 1 1) [⟨zoneS, ⟨#[121]⟩⟩]
end Go.Dr
namespace Go.Dr
def findC (l : List Clause) (c : Clause) : Int := match l.find? (isC c.kind c.a c.b) with | some d => d.by_ | none => 0
def worseF (l : List Clause) (c : Clause) : Bool := decide (findC l c < c.by_)
def worseV (s : Snap) (p q : List Int) : List Clause × Int :=
  if ¬ checkP s p = 0 then ([], checkP s p) else if ¬ checkP s q = 0 then ([], checkP s q) else ((allL s q).filter (worseF (allL s p)), 0)
end Go.Dr
namespace Go.Dr
open Go.Proofs
set_option maxRecDepth 20000
set_option maxHeartbeats 2000000
set_option linter.unusedSimpArgs false
set_option linter.unusedVariables false
theorem allC_rng {s : Snap} {p : List Int} (hok : checkP s p = 0) : (allC s p).length ≤ 400 ∧ ∀ c ∈ allC s p, 0 ≤ c.by_ ∧ c.by_ ≤ Qty := by
  obtain ⟨hs, hlen, hodd⟩ := checkP_ok hok
  have hsh := (checkS_ok hs).1
  obtain ⟨hn8, hp24, ho8⟩ := shaped_small hsh
  obtain ⟨hwl, htl⟩ := shaped_lists hsh
  have hof := of8_rng (s := s) (p := p) (by omega) hwl htl
  constructor
  · unfold allC
    have h1 : (capsC s p).length ≤ 40 := by unfold capsC; rw [capTo_len]; omega
    have h2 := kindsTo_len s p 5
    have h3 := spreadTo_len s p s.owners.length
    have h4 := minTo_len s p s.owners.length
    simp only [List.length_append]
    omega
  · intro c hc
    unfold allC at hc
    simp only [List.mem_append] at hc
    rcases hc with ((hc | hc) | hc) | hc
    · unfold capsC capTo at hc
      simp only [List.range_zero, List.map_nil, List.append_nil, List.mem_flatMap, List.mem_range, List.mem_map] at hc
      obtain ⟨n, hn, k, hk, rfl⟩ := hc
      obtain ⟨hul, hur⟩ := used_fine hs hlen (n : Int)
      have hu : 0 ≤ at0 (usedV s p n) k ∧ at0 (usedV s p n) k ≤ Qty := by
        have : (usedV s p n)[k]? = some ((usedV s p n)[k]'(by omega)) := List.getElem?_eq_getElem (by omega)
        rw [at0_some this]
        exact hur _ (List.getElem_mem _)
      have hcp : 0 ≤ at0 (capOf s n) k := by
        unfold at0
        rw [List.getD_eq_getElem?_getD]
        cases h : (capOf s n)[k]? with
        | none => simp
        | some y =>
          unfold capOf at h
          obtain ⟨x, hx⟩ : ∃ x, s.nodes[n]? = some x := ⟨_, List.getElem?_eq_getElem hn⟩
          rw [hx] at h
          exact (shaped_cap hsh x (List.mem_of_getElem? hx) y (List.mem_of_getElem? h)).1
      simp only [capN]
      unfold Qty at *
      omega
    · unfold kindsTo podsTo at hc
      simp only [List.mem_flatMap, List.mem_range] at hc
      obtain ⟨t, _, i, _, hc⟩ := hc
      unfold podC1 at hc
      split at hc
      · simp only [List.mem_singleton] at hc
        subst hc
        have := hof ((t : Int) + 2) i
        simp only [Qty]; omega
      · cases hc
    · unfold spreadTo at hc
      simp only [List.mem_flatMap, List.mem_range] at hc
      obtain ⟨o, ho, hc⟩ := hc
      unfold spreadC1 at hc
      split at hc
      · cases hc
      · simp only [List.mem_singleton] at hc
        subst hc
        obtain ⟨ow, how⟩ : ∃ ow, s.owners[o]? = some ow := ⟨_, List.getElem?_eq_getElem ho⟩
        have hsr := shaped_owner hsh ow (List.mem_of_getElem? how)
        have := skewV_rng (o := o) (p := p) (s := s) (by omega) hlen (by omega) (by simp [skewOf, how]; omega)
        simp only [Qty]; omega
    · unfold minTo at hc
      simp only [List.mem_map, List.mem_range] at hc
      obtain ⟨o, ho, rfl⟩ := hc
      obtain ⟨ow, how⟩ : ∃ ow, s.owners[o]? = some ow := ⟨_, List.getElem?_eq_getElem ho⟩
      have hsr := shaped_owner hsh ow (List.mem_of_getElem? how)
      have hplr := placed_rng (s := s) (p := p) (o := o) hlen
      have hmo : minOf s o = ow.min := by simp [minOf, how]
      simp only [minC1, hmo, Qty]; omega
theorem allL_rng (s : Snap) (p : List Int) : (allL s p).length ≤ 400 ∧ ∀ c ∈ allL s p, 0 ≤ c.by_ ∧ c.by_ ≤ Qty := by
  unfold allL
  split
  · rename_i h; exact allC_rng h
  · simp
end Go.Dr
namespace Go.Dr
def ltC (c d : Clause) : Prop := c.kind < d.kind ∨ (c.kind = d.kind ∧ (c.a < d.a ∨ (c.a = d.a ∧ c.b < d.b)))
theorem pw_flat {f : Nat → List Clause} {R : Clause → Clause → Prop} : ∀ {n : Nat}, (∀ i, i < n → (f i).Pairwise R) → (∀ i j, i < j → j < n → ∀ x ∈ f i, ∀ y ∈ f j, R x y) → ((List.range n).flatMap f).Pairwise R
  | 0, _, _ => by simp
  | n + 1, h1, h2 => by
    rw [List.range_succ, List.flatMap_append]
    refine List.pairwise_append.2 ⟨pw_flat (fun i hi => h1 i (by omega)) (fun i j hij hj => h2 i j hij (by omega)), by simpa using h1 n (by omega), ?_⟩
    intro x hx y hy
    obtain ⟨i, hi, hxi⟩ := List.mem_flatMap.1 hx
    have hi : i < n := by simpa using hi
    exact h2 i n hi (by omega) x hxi y (by simpa using hy)
theorem mem_pods {s : Snap} {p : List Int} {kind : Int} {n : Nat} {c : Clause} (h : c ∈ podsTo s p kind n) : ∃ i, i < n ∧ c = ⟨kind, i, 0, (of8 s p kind i).1⟩ ∧ (of8 s p kind i).2 = true := by
  obtain ⟨i, hi, hc⟩ := List.mem_flatMap.1 h
  unfold podC1 at hc
  split at hc
  · rename_i h1
    exact ⟨i, by simpa using hi, by simpa using hc, h1⟩
  · simp at hc
theorem mem_caps {s : Snap} {p : List Int} {c : Clause} (h : c ∈ capsC s p) : ∃ n k, n < s.nodes.length ∧ k < 5 ∧ c = capN s p n k := by
  unfold capsC capTo at h
  simp only [List.range_zero, List.map_nil, List.append_nil] at h
  obtain ⟨n, hn, hc⟩ := List.mem_flatMap.1 h
  obtain ⟨k, hk, rfl⟩ := List.mem_map.1 hc
  exact ⟨n, k, by simpa using hn, by simpa using hk, rfl⟩
theorem mem_kinds {s : Snap} {p : List Int} {c : Clause} {j : Nat} (h : c ∈ kindsTo s p j) : ∃ t i, t < j ∧ i < p.length ∧ c = ⟨(t : Int) + 2, i, 0, (of8 s p ((t : Int) + 2) i).1⟩ ∧ (of8 s p ((t : Int) + 2) i).2 = true := by
  obtain ⟨t, ht, hc⟩ := List.mem_flatMap.1 h
  obtain ⟨i, hi, hc, h2⟩ := mem_pods hc
  exact ⟨t, i, by simpa using ht, hi, hc, h2⟩
theorem mem_spread {s : Snap} {p : List Int} {c : Clause} {n : Nat} (h : c ∈ spreadTo s p n) : ∃ o, o < n ∧ c = ⟨7, o, 0, skewV s p o⟩ ∧ topoOf s o ≠ noS := by
  obtain ⟨o, ho, hc⟩ := List.mem_flatMap.1 h
  unfold spreadC1 at hc
  split at hc
  · simp at hc
  · rename_i h1
    exact ⟨o, by simpa using ho, by simpa using hc, h1⟩
theorem mem_min {s : Snap} {p : List Int} {c : Clause} {n : Nat} (h : c ∈ minTo s p n) : ∃ o, o < n ∧ c = minC1 s p o := by
  obtain ⟨o, ho, hc⟩ := List.mem_map.1 h
  exact ⟨o, by simpa using ho, hc.symm⟩
theorem allC_order (s : Snap) (p : List Int) : (allC s p).Pairwise ltC := by
  have h1 : (capsC s p).Pairwise ltC := by
    unfold capsC capTo
    simp only [List.range_zero, List.map_nil, List.append_nil]
    refine pw_flat (fun n _ => ?_) (fun i j hij hj x hx y hy => ?_)
    · refine List.pairwise_map.2 (List.Pairwise.imp ?_ List.pairwise_lt_range)
      intro a b hab
      exact .inr ⟨rfl, .inr ⟨rfl, by show (a : Int) < b; omega⟩⟩
    · obtain ⟨a, _, rfl⟩ := List.mem_map.1 hx
      obtain ⟨b, _, rfl⟩ := List.mem_map.1 hy
      exact .inr ⟨rfl, .inl (by show (i : Int) < j; omega)⟩
  have h2 : (kindsTo s p 5).Pairwise ltC := by
    refine pw_flat (fun t _ => ?_) (fun i j hij hj x hx y hy => ?_)
    · refine pw_flat (fun i _ => ?_) (fun i j hij hj x hx y hy => ?_)
      · unfold podC1; split <;> simp
      · unfold podC1 at hx hy
        split at hx <;> split at hy <;> first | (simp at hx; done) | (simp at hy; done) | skip
        simp only [List.mem_singleton] at hx hy
        subst hx; subst hy
        exact .inr ⟨rfl, .inl (by show (i : Int) < j; omega)⟩
    · obtain ⟨a, _, rfl, _⟩ := mem_pods hx
      obtain ⟨b, _, rfl, _⟩ := mem_pods hy
      exact .inl (by show (i : Int) + 2 < (j : Int) + 2; omega)
  have h3 : (spreadTo s p s.owners.length).Pairwise ltC := by
    refine pw_flat (fun o _ => ?_) (fun i j hij hj x hx y hy => ?_)
    · unfold spreadC1; split <;> simp
    · unfold spreadC1 at hx hy
      split at hx <;> split at hy <;> first | (simp at hx; done) | (simp at hy; done) | skip
      simp only [List.mem_singleton] at hx hy
      subst hx; subst hy
      exact .inr ⟨rfl, .inl (by show (i : Int) < j; omega)⟩
  have h4 : (minTo s p s.owners.length).Pairwise ltC := by
    refine List.pairwise_map.2 (List.Pairwise.imp ?_ List.pairwise_lt_range)
    intro a b hab
    exact .inr ⟨rfl, .inl (by show (a : Int) < b; omega)⟩
  unfold allC
  refine List.pairwise_append.2 ⟨List.pairwise_append.2 ⟨List.pairwise_append.2 ⟨h1, h2, ?_⟩, h3, ?_⟩, h4, ?_⟩
  · intro x hx y hy
    obtain ⟨n, k, _, _, rfl⟩ := mem_caps hx
    obtain ⟨t, i, _, _, rfl, _⟩ := mem_kinds hy
    exact .inl (by show (1 : Int) < (t : Int) + 2; omega)
  · intro x hx y hy
    obtain ⟨o, _, rfl, _⟩ := mem_spread hy
    rcases List.mem_append.1 hx with hx | hx
    · obtain ⟨n, k, _, _, rfl⟩ := mem_caps hx
      exact .inl (by show (1 : Int) < 7; omega)
    · obtain ⟨t, i, _, _, rfl, _⟩ := mem_kinds hx
      exact .inl (by show (t : Int) + 2 < 7; omega)
  · intro x hx y hy
    obtain ⟨o, _, rfl⟩ := mem_min hy
    rcases List.mem_append.1 hx with hx | hx
    · rcases List.mem_append.1 hx with hx | hx
      · obtain ⟨n, k, _, _, rfl⟩ := mem_caps hx
        exact .inl (by show (1 : Int) < 8; omega)
      · obtain ⟨t, i, _, _, rfl, _⟩ := mem_kinds hx
        exact .inl (by show (t : Int) + 2 < 8; omega)
    · obtain ⟨o', _, rfl, _⟩ := mem_spread hx
      exact .inl (by show (7 : Int) < 8; omega)
theorem allL_order (s : Snap) (p : List Int) : (allL s p).Pairwise ltC := by
  unfold allL
  split
  · exact allC_order s p
  · exact .nil
def nameC (c : Clause) : Int × Int × Int := (c.kind, c.a, c.b)
theorem ltC_name {c d : Clause} (h : ltC c d) : nameC c ≠ nameC d := by
  intro e
  simp only [nameC, Prod.mk.injEq] at e
  unfold ltC at h
  omega
theorem allL_names (s : Snap) (p : List Int) : (allL s p).Pairwise (fun c d => nameC c ≠ nameC d) := (allL_order s p).imp ltC_name
theorem isC_name (c d : Clause) : isC c.kind c.a c.b d = decide (nameC d = nameC c) := by
  unfold isC nameC
  rw [Bool.eq_iff_iff]
  simp [and_assoc]
theorem find_self {l : List Clause} (h : l.Pairwise (fun c d => nameC c ≠ nameC d)) {c : Clause} (hc : c ∈ l) : l.find? (isC c.kind c.a c.b) = some c := by
  induction l with
  | nil => cases hc
  | cons x l ih =>
    obtain ⟨h1, h2⟩ := List.pairwise_cons.1 h
    rw [List.find?_cons, isC_name]
    rcases List.mem_cons.1 hc with rfl | hc
    · simp
    · have := h1 c hc
      rw [decide_eq_false this]
      exact ih h2 hc
end Go.Dr
namespace Go.Dr
set_option linter.unusedSimpArgs false
set_option linter.unusedVariables false
theorem run_forIn_unit {P : Program} {α : Type} {g : α → PUnit → Sem (ForInStep PUnit)} {w : World} : ∀ (l : List α), (∀ x ∈ l, (g x ⟨⟩).run P w = .ok (.yield ⟨⟩) w) → (forIn l PUnit.unit g).run P w = .ok ⟨⟩ w
  | [], _ => by simp [Sem.run_pure]
  | x :: l, h => by
    simp only [List.forIn_cons, Sem.run_bind, h x (by simp), Result.andThen_ok]
    exact run_forIn_unit l (fun y hy => h y (by simp [hy]))
theorem flat_field {P : Program} {w : World} : ∀ (fs : List Field) (ks : List Kd) (pre xs : List Value), flatB P pre.length fs ks = true → fits ks xs = true →
    ∀ f ∈ fs, ∃ d v, P.underlying f.type = some d ∧ MapKept.IsKey d v ∧ (part f.type (pre ++ xs).toArray f.offset).run P w = .ok v w
  | [], _, _, _, _, _ => by intro f hf; cases hf
  | _ :: _, [], _, _, h, _ => by cases h
  | f0 :: fs, k :: ks, pre, xs, h, h1 => by
    simp only [flatB, Bool.and_eq_true, Bool.not_eq_true'] at h
    obtain ⟨⟨⟨hn, ho⟩, hk⟩, hr⟩ := h
    have ho := Nat.eq_of_beq_eq_true ho
    have hd := kd_desc hk
    have ha : isAggD (kdD k) = false := by cases k <;> rfl
    obtain ⟨x, xs', rfl, hx, h1'⟩ : ∃ x xs', xs = x :: xs' ∧ MapKept.IsKey (kdD k) x ∧ fits ks xs' = true := by
      cases k with
      | int => match xs, h1 with | .int .i64 a :: xs', h1 => exact ⟨_, _, rfl, by simp [kdD, MapKept.IsKey], h1⟩
      | str => match xs, h1 with | .string a :: xs', h1 => exact ⟨_, _, rfl, by simp [kdD, MapKept.IsKey], h1⟩
      | bool => match xs, h1 with | .bool a :: xs', h1 => exact ⟨_, _, rfl, by simp [kdD, MapKept.IsKey], h1⟩
    intro f hf
    rcases List.mem_cons.1 hf with rfl | hf
    · exact ⟨_, x, hd, hx, by rw [ho]; exact run_part1 hd ha pre x xs' w⟩
    · have := flat_field (w := w) fs ks (pre ++ [x]) xs' (by simpa using hr) h1' f hf
      simpa using this
theorem check_flat {P : Program} {T : TypeId} {ks : List Kd} (h : FlatS P T ks) {xs : List Value} (hx : fits ks xs = true) (e : Bool) (w : World) : (Instr.checkKey e 10000 T (.agg xs.toArray)).run P w = .ok () w := by
  have hb := h.b
  unfold flatT at hb
  split at hb
  · rename_i fs hu
    have hfl := flat_field (w := w) fs.toList ks [] xs hb hx
    unfold Instr.checkKey
    simp only [Sem.run_bind, run_underlying hu, Result.andThen_ok]
    rw [← Array.forIn_toList]
    have := run_forIn_unit (P := P) (w := w) (g := fun (f : Field) (r : PUnit) => (do
      if f.name ≠ "_" then Instr.checkKey e 9999 f.type (← part f.type xs.toArray f.offset)
      pure (ForInStep.yield PUnit.unit) : Sem (ForInStep PUnit))) fs.toList (fun f hf => by
        obtain ⟨d, v, hd, hv, hp⟩ := hfl f hf
        simp only [List.nil_append] at hp
        by_cases hn : f.name ≠ "_"
        · simp only [if_pos hn, Sem.run_bind, hp, Result.andThen_ok, MapKept.run_checkKey hd hv, Sem.run_pure]
        · simp only [if_neg hn, Sem.run_bind, Result.andThen_ok, Sem.run_pure])
    simp [Sem.run_bind, Sem.run_pure, Result.andThen_ok] at this ⊢
    rw [this]
    rfl
  · cases hb
theorem find_asking {κ : Type} [DecidableEq κ] {P : Program} {T : TypeId} {ks : List Kd} (h : FlatS P T ks) {ls : κ → List Value} (hf : ∀ k, fits ks (ls k) = true) (hc : ∀ a b, ceqs (ls a) (ls b) = decide (a = b)) (s : κ) (w : World) : ∀ (l : List (κ × Value)) (n i : Nat),
    ((Instr.findAsking T (.agg (ls s).toArray) (esK (fun k => .agg (ls k).toArray) n l) i).run P w = .ok none w ∧ ∀ p ∈ l, p.1 ≠ s) ∨
    ∃ j p, (Instr.findAsking T (.agg (ls s).toArray) (esK (fun k => .agg (ls k).toArray) n l) i).run P w = .ok (some (i + j, p.2)) w ∧ l[j]? = some p ∧ p.1 = s
  | [], n, i => .inl ⟨by simp [Instr.findAsking, esK, Sem.run_pure], by intro p hp; cases hp⟩
  | (k, v) :: l, n, i => by
    have heq : (Op.equal T (.agg (ls s).toArray) (.agg (ls k).toArray)).run P w = .ok (decide (s = k)) w := by
      have := run_eq_flat h (hf s) (hf k) w
      rw [hc] at this
      exact this
    by_cases hs : s = k
    · refine .inr ⟨0, (k, v), ?_, rfl, hs.symm⟩
      simp only [esK, Instr.findAsking, Sem.run_bind, heq, Result.andThen_ok, decide_eq_true hs, if_true, Sem.run_pure]
      rfl
    · have hstep : (Instr.findAsking T (.agg (ls s).toArray) (esK (fun k => .agg (ls k).toArray) n ((k, v) :: l)) i).run P w = (Instr.findAsking T (.agg (ls s).toArray) (esK (fun k => .agg (ls k).toArray) (n + 1) l) (i + 1)).run P w := by
        simp only [esK, Instr.findAsking, Sem.run_bind, heq, Result.andThen_ok, decide_eq_false hs, Bool.false_eq_true, if_false]
      rw [hstep]
      rcases find_asking h hf hc s w l (n + 1) (i + 1) with ⟨h1, h2⟩ | ⟨j, p, h1, h2, h3⟩
      · refine .inl ⟨h1, fun p hp => ?_⟩
        rcases List.mem_cons.1 hp with rfl | hp
        · exact fun e => hs e.symm
        · exact h2 p hp
      · exact .inr ⟨j + 1, p, by rw [h1]; congr 3; omega, by simpa using h2, h3⟩
theorem sameBits_flat : ∀ (ks : List Kd) (xs : List Value), fits ks xs = true → (xs.zip xs).all (fun (x, y) => Instr.sameBits 9999 x y) = true
  | [], [], _ => rfl
  | .int :: ks, .int .i64 a :: vs, h => by simp only [List.zip_cons_cons, List.all_cons, sameBits_flat ks vs h, Bool.and_true]; simp [Instr.sameBits]
  | .str :: ks, .string a :: vs, h => by simp only [List.zip_cons_cons, List.all_cons, sameBits_flat ks vs h, Bool.and_true]; simp [Instr.sameBits, MapKept.bytes_beq]
  | .bool :: ks, .bool a :: vs, h => by simp only [List.zip_cons_cons, List.all_cons, sameBits_flat ks vs h, Bool.and_true]; simp [Instr.sameBits]
theorem key_flat {κ : Type} [DecidableEq κ] {P : Program} {T : TypeId} {ks : List Kd} (h : FlatS P T ks) {ls : κ → List Value} (hf : ∀ k, fits ks (ls k) = true) (hc : ∀ a b, ceqs (ls a) (ls b) = decide (a = b)) : Key P T (fun k => .agg (ls k).toArray) where
  check e k w := check_flat h (hf k) e w
  find k l w := by
    have hb := h.b
    unfold flatT at hb
    split at hb
    · rename_i fs hu
      have hask : (Instr.findKey T (.agg (ls k).toArray) (esK (fun k => .agg (ls k).toArray) 0 l)).run P w = (Instr.findAsking T (.agg (ls k).toArray) (esK (fun k => .agg (ls k).toArray) 0 l) 0).run P w := by
        cases l with
        | nil => simp [Instr.findKey, run_underlying hu, Result.andThen, esK, Instr.findNow, Instr.findAsking, Sem.run_pure]
        | cons p l => simp [Instr.findKey, run_underlying hu, Result.andThen, esK, Instr.findNow, Instr.sameNow]
      rw [hask]
      rcases find_asking h hf hc k w l 0 0 with h1 | ⟨j, p, h1, h2⟩
      · exact .inl h1
      · exact .inr ⟨j, p, by rw [h1]; simp, h2⟩
    · cases hb
  stays k w := by
    have : Instr.sameBits 10000 (.agg (ls k).toArray) (.agg (ls k).toArray) = true := by
      simp only [Instr.sameBits, sameBits_flat ks _ (hf k)]
      simp
    simp [Instr.keyThatStays, this, Sem.run_pure]
section
variable {C : Cx} {R : Rg} {Q : Post} {S S' S1 : SHeap} {M M' : List MEnt} {e e' : Env} {rest : List Nat}
variable {d : Nat} {ty : TypeId} {pos : String} {aft : Array Edge} {g : Option (Nat × Bool)} {an : Bool}
end
end Go.Dr
namespace Go.Dr
open Go.Proofs
set_option maxRecDepth 20000
set_option maxHeartbeats 2000000
set_option linter.unusedSimpArgs false
set_option linter.unusedVariables false
def nm (c : Clause) : Step := ⟨c.kind, c.a, c.b⟩
def kvN (x : Step) : Value := .agg [Value.int .i64 x.kind, .int .i64 x.pod, .int .i64 x.node].toArray
instance : TyR Tryz.prog 113 rStep := ⟨by kernel_rfl⟩
instance : FlatS Tryz.prog 113 [.int, .int, .int] := ⟨by kernel_rfl, by kernel_rfl, by kernel_rfl⟩
instance : Key Tryz.prog 113 kvN := key_flat (κ := Step) (ls := fun x => [Value.int .i64 x.kind, .int .i64 x.pod, .int .i64 x.node]) (inferInstance : FlatS Tryz.prog 113 [.int, .int, .int]) (fun _ => rfl) (fun a b => by cases a; cases b; rw [Bool.eq_iff_iff]; simp [ceqs])
theorem nm_eq {c d : Clause} : nm c = nm d ↔ nameC c = nameC d := by cases c; cases d; simp [nm, nameC]
theorem p9_of {S : SHeap} {u : Value} {x : Clause} (hu : rClause.V S u x) : FnV Tryz.prog 71 #[u] S (kvN (nm x)) := by
  obtain ⟨rfl, h1, h2, h3, h4⟩ := V_clause.1 hu
  (refine Fn.enter (args := [.agg #[.int .i64 x.kind, .int .i64 x.a, .int .i64 x.b, .int .i64 x.by_]]) Tryz.func71 rfl Tryz.ntmps71 rfl ?_; intro w0)
  repeat (first | (refine Walk ?_; intros) | refine JC.block ?_ | (refine WBox ?_; intros))
  (refine JO.eff rfl rfl rfl (JEff.alloc rfl ?_); intro cb hcb)
  repeat (first | (refine Walk ?_; intros) | refine JC.block ?_ | (refine WBox ?_; intros))
  have hV : ∀ S, rStep.V S (kvN (nm x)) (nm x) := fun S => V_step.2 ⟨rfl, h1, h2, h3⟩
  refine JO.eff rfl rfl rfl (JEff.storeW rfl rfl (hV _) nna (List.Perm.refl _) rfl (by intro l hl; cases hl) ?_)
  refine JO.freezeV (hV _) nna hcb (by intro l hl; cases hl) ?_; intro S2 hl2 hpo
  repeat (first | (refine Walk ?_; intros) | refine JC.block ?_ | (refine WBox ?_; intros))
  exact JX.retCell Tryz.results71 rfl hpo (List.nil_sublist _) (fun w hw => ⟨rfl, by obtain ⟨rfl, _⟩ := V_step.1 hw; rfl⟩)
def bys (l : List Clause) : List (Step × Value) := l.map (fun c => (nm c, Value.int .i64 c.by_))
theorem bys_step {l : List Clause} {k : Nat} {x : Clause} (hx : l[k]? = some x) : bys (l.take (k + 1)) = bys (l.take k) ++ [(nm x, Value.int .i64 x.by_)] := by
  unfold bys
  rw [List.take_add_one, hx]; simp
theorem bys_new {l : List Clause} (h : l.Pairwise (fun c d => nameC c ≠ nameC d)) {k : Nat} {x : Clause} (hx : l[k]? = some x) : ∀ p ∈ bys (l.take k), p.1 ≠ nm x := by
  intro p hp e
  obtain ⟨c, hc, rfl⟩ := List.mem_map.1 hp
  obtain ⟨i, hi, hci⟩ := List.mem_take_iff_getElem.1 hc
  obtain ⟨hk, rfl⟩ := List.getElem?_eq_some_iff.1 hx
  exact List.pairwise_iff_getElem.1 h i k (by omega) hk (by omega) (by rw [hci]; exact nm_eq.1 e)
theorem bys_distinct {l : List Clause} (h : l.Pairwise (fun c d => nameC c ≠ nameC d)) : DistinctK (bys l) := by
  intro i j p q hi hj hpq
  unfold bys at hi hj
  rw [List.getElem?_map] at hi hj
  obtain ⟨c, hc, rfl⟩ := Option.map_eq_some_iff.1 hi
  obtain ⟨d, hd, rfl⟩ := Option.map_eq_some_iff.1 hj
  obtain ⟨h1, rfl⟩ := List.getElem?_eq_some_iff.1 hc
  obtain ⟨h2, rfl⟩ := List.getElem?_eq_some_iff.1 hd
  have hpq := nm_eq.1 hpq
  rcases Nat.lt_trichotomy i j with a | a | a
  · exact absurd hpq (List.pairwise_iff_getElem.1 h i j h1 h2 a)
  · exact a
  · exact absurd hpq.symm (List.pairwise_iff_getElem.1 h j i h2 h1 a)
def LookAns (s : Snap) (p : List Int) (w : Value) (S' : SHeap) : Prop :=
  (¬ checkP s p = 0 ∧ w = .tuple #[.map none, .slice none 0 0, .int .i64 (checkP s p)]) ∨
  (checkP s p = 0 ∧ ∃ b a c, w = .tuple #[.map (some b), .slice a (allL s p).length c, .int .i64 0] ∧ S' b = some (mapK kvN (bys (allL s p))) ∧ (rSlice 32 rClause).V S' (.slice a (allL s p).length c) (allL s p))
theorem s69_L9a {P K : Prop} (k : K) (h : Goal K → P := by
  intro zk
  (first | refine Walk ?_ | refine JC.block ?_ | refine JC.drawN 8 rfl [0, 1, 3, 4, 2, 5] [1] Tryz_mixed (by decide +kernel) ?_ | (refine JO.eff rfl rfl rfl (JEff.callLE rfl (p8_All (by exact vta) (by exact vta)) rfl ?_); intro zqa zqb zqc zqd zqe zqf) | (refine JO.eff rfl rfl rfl (JEff.callV rfl (p9_of (by exact vta)) rfl ?_); intro zqa zqb) | (refine WBox ?_) | (refine WNew ?_) | (refine WPut ?_))
  (repeat (first | revert zqg | revert zqf | revert zqe | revert zqd | revert zqc | revert zqb | revert zqa))
  exact zk.k) : P := h ⟨k⟩
theorem p9_look {S : SHeap} {u v : Value} {s : Snap} {p : List Int} (hu : rSnap.V S u s) (hv : (rSlice 8 rI64).V S v p) : FnR Tryz.prog 69 #[u, v] S (LookAns s p) := by
  (refine Fn.enter (args := [u, v]) Tryz.func69 rfl Tryz.ntmps69 rfl ?_; intro w0)
  repeat (refine s69_L9a ?_; intros)
  refine JC.cond rfl (fun h1 => ?_) (fun h1 => ?_)
  · have h1 : ¬ checkP s p = 0 := by simpa using h1
    repeat (refine s69_L9a ?_; intros)
    (refine JX.ret3 Tryz.results69 (ResV.tmp rfl) (ResV.tmp rfl) (ResV.tmp rfl) (List.nil_sublist _) ?_)
    exact ⟨rfl, .inl ⟨h1, rfl⟩⟩
  have hok : checkP s p = 0 := by simpa using h1
  have hnames := allL_names s p
  obtain ⟨hLl, hLr⟩ := allL_rng s p
  generalize hL : allL s p = L at *
  have hb32 := slice_bytes (by assumption : (rSlice 32 rClause).V _ _ L)
  unfold big at hb32
  repeat (refine s69_L9a ?_; intros)
  refine JO.eff rfl rfl rfl (JEff.makeMapK kvN rfl ?_); intro mb hmb
  repeat (refine s69_L9a ?_; intros)
  refine JC.loopF (σ := Nat) [(7, _), (9, _), (22, _), (23, _)] (fun q => [(24, .int .i64 (q : Int))]) (fun q => [.blk mb (mapK kvN (bys (L.take q)))]) (fun Si q => q ≤ L.length) (fun q => L.length - q) (0) (by exact sba) (by exact sba) rfl (Nat.zero_le _) ?_; rintro Si k hli hii; (try dsimp only at hii); dsimp only [List.cons_append, List.nil_append]
  repeat (refine s69_L9a ?_; intros)
  refine JC.cond rfl (fun hc => ?_) (fun hc => ?_)
  · have hk' := dlt hc
    obtain ⟨x, hx, _⟩ := drop_at hk'
    have hst := bys_step hx
    have hnew := bys_new hnames hx
    repeat (refine s69_L9a ?_; intros)
    refine JO.eff rfl rfl rfl (JEff.putK (kv := kvN) (s := nm x) rfl rfl rfl (List.Perm.refl _) (by intro l hl; cases hl) (fun _ => ?_) (fun j q hj hq => absurd hq (hnew q (List.mem_of_getElem? hj))))
    rw [← hst]
    repeat (refine s69_L9a ?_; intros)
    exact JX.roundF (k + 1) (by exact lea) (by omega) (by (try dsimp only); omega) rfl (by exact sba) (by exact sba)
  · have hk' := dnlt hc
    obtain rfl : k = L.length := by omega
    rw [List.take_length]
    refine JC.freeze hmb (fun S10 hl10 hS10 => ?_)
    repeat (refine s69_L9a ?_; intros)
    (refine JX.ret3 Tryz.results69 (ResV.tmp rfl) (ResV.tmp rfl) (ResV.tmp rfl) (List.nil_sublist _) ?_)
    subst hL
    exact ⟨rfl, .inr ⟨hok, _, _, _, rfl, hS10, by exact vta⟩⟩
theorem bys_none {L : List Clause} {x : Clause} (h : ∀ p ∈ bys L, p.1 ≠ nm x) : findC L x = 0 := by
  unfold findC
  rw [List.find?_eq_none.2]
  intro c hc
  rw [isC_name]
  have := h (nm c, Value.int .i64 c.by_) (List.mem_map.2 ⟨c, hc, rfl⟩)
  intro e
  exact this (nm_eq.2 (of_decide_eq_true e))
theorem bys_some {L : List Clause} (hn : L.Pairwise (fun c d => nameC c ≠ nameC d)) {x : Clause} {j : Nat} {q : Step × Value} (hj : (bys L)[j]? = some q) (hq : q.1 = nm x) : q.2 = .int .i64 (findC L x) := by
  unfold bys at hj
  rw [List.getElem?_map] at hj
  obtain ⟨c, hc, rfl⟩ := Option.map_eq_some_iff.1 hj
  have he := nm_eq.1 hq
  have hf := find_self hn (List.mem_of_getElem? hc)
  simp only [nameC, Prod.mk.injEq] at he
  unfold findC
  rw [← he.1, ← he.2.1, ← he.2.2, hf]
theorem s70_L9a {P K : Prop} (k : K) (h : Goal K → P := by
  intro zk
  (first | refine Walk ?_ | refine JC.block ?_ | refine JC.drawN 1 rfl [0, 1, 2, 3, 4, 5, 6, 7] [3, 5, 6, 7] Tryz_mixed (by decide +kernel) ?_ | (refine JO.eff rfl rfl rfl (JEff.callV rfl (p9_of (by exact vta)) rfl ?_); intro zqa zqb) | (refine WBox ?_))
  (repeat (first | revert zqg | revert zqf | revert zqe | revert zqd | revert zqc | revert zqb | revert zqa))
  exact zk.k) : P := h ⟨k⟩
theorem p9_Worse1 {S : SHeap} {u : Value} {x : Clause} {L : List Clause} {q : Addr} {b : Nat} (hn : L.Pairwise (fun c d => nameC c ≠ nameC d)) (hu : rClause.V S u x) (hq : PtrTo S q rVal (.map (some b))) (hS : S b = some (mapK kvN (bys L))) : FnV Tryz.prog 70 #[u, .pointer (some q)] S (.bool (worseF L x)) := by
  (refine Fn.enter (args := [u, .pointer (some q)]) Tryz.func70 rfl Tryz.ntmps70 rfl ?_; intro w0)
  repeat (refine s70_L9a ?_; intros)
  refine JO.pure rfl rfl rfl (JPure.lookS (kv := kvN) (s := nm x) rfl rfl (by first | exact hS | exact (by assumption : SHeap.le _ _) _ _ hS | exact SHeap.le.trans (by assumption) (by assumption) _ _ hS) (bys_distinct hn) rfl (fun hno => ?_) (fun j q hj hq => ?_))
  · have hf := bys_none hno
    repeat (refine s70_L9a ?_; intros)
    (refine JX.ret1 Tryz.results70 (ResV.tmp rfl) (List.nil_sublist _) ?_)
    exact ⟨rfl, by simp [worseF, hf]⟩
  · have hf := bys_some hn hj hq
    rw [hf]
    repeat (refine s70_L9a ?_; intros)
    (refine JX.ret1 Tryz.results70 (ResV.tmp rfl) (List.nil_sublist _) ?_)
    exact ⟨rfl, by simp [worseF]⟩
theorem p9_Worse {S : SHeap} {u v v2 : Value} {s : Snap} {p q : List Int} (hu : rSnap.V S u s) (hv : (rSlice 8 rI64).V S v p) (hv2 : (rSlice 8 rI64).V S v2 q) : FnLE Tryz.prog 44 #[u, v, v2] S 32 rClause (worseV s p q).1 (.int .i64 (worseV s p q).2) := by
  (refine Fn.enter (args := [u, v, v2]) Tryz.func44 rfl Tryz.ntmps44 rfl ?_; intro w0)
  repeat (first | (refine Walk ?_; intros) | refine JC.block ?_ | (refine WBox ?_; intros) | (refine WNew ?_; intros) | (refine WPut ?_; intros))
  (refine JO.eff rfl rfl rfl (JEff.callR rfl (p9_look (s := s) (p := p) (by exact vta) (by exact vta)) rfl ?_); intro w S2 hl2 hw)
  rcases hw with ⟨he, rfl⟩ | ⟨hok, b, a, c, rfl, hSb, hVb⟩
  · repeat (first | (refine Walk ?_; intros) | refine JC.block ?_ | (refine WBox ?_; intros) | (refine WNew ?_; intros) | (refine WPut ?_; intros))
    refine JC.cond rfl (fun h1 => ?_) (fun h1 => ?_)
    · repeat (first | (refine Walk ?_; intros) | refine JC.block ?_ | (refine WBox ?_; intros) | (refine WNew ?_; intros) | (refine WPut ?_; intros))
      (refine JX.ret2 Tryz.results44 (ResV.tmp rfl) (ResV.tmp rfl) (List.nil_sublist _) ?_)
      unfold worseV
      rw [if_pos he]
      exact ⟨rfl, _, rfl, V_nil⟩
    · (exfalso; first | (simp only [decide_eq_true_eq, decide_eq_false_iff_not, Bool.not_eq_true', Bool.not_eq_false', Bool.and_eq_true, Bool.or_eq_true, Bool.and_eq_false_iff, Bool.or_eq_false_iff] at *; omega) | (simp_all; done) | (simp_all; omega))
  · repeat (first | (refine Walk ?_; intros) | refine JC.block ?_ | (refine WBox ?_; intros) | (refine WNew ?_; intros) | (refine WPut ?_; intros))
    (refine JO.eff rfl rfl rfl (JEff.callR rfl (p9_look (s := s) (p := q) (by exact vta) (by exact vta)) rfl ?_); intro w S3 hl3 hw)
    obtain ⟨m, a3, c3, rfl, hV3⟩ : ∃ m a c, w = .tuple #[m, .slice a (allL s q).length c, .int .i64 (checkP s q)] ∧ (rSlice 32 rClause).V S3 (.slice a (allL s q).length c) (allL s q) := by
      rcases hw with ⟨he, rfl⟩ | ⟨hokq, b3, a3, c3, rfl, _, hV3⟩
      · have : allL s q = [] := by unfold allL; rw [if_neg he]
        rw [this]
        exact ⟨_, _, _, rfl, V_nil⟩
      · exact ⟨_, _, _, by rw [hokq], hV3⟩
    have hwv : worseV s p q = ((allL s q).filter (worseF (allL s p)), checkP s q) := by
      unfold worseV
      rw [if_neg (by simpa using hok)]
      split
      · rename_i he
        have : allL s q = [] := by unfold allL; rw [if_neg he]
        rw [this]; rfl
      · rename_i he
        have he : checkP s q = 0 := Classical.not_not.1 he
        rw [he]
    rw [hwv]
    have hnames := allL_names s p
    generalize allL s p = LA at *
    generalize hL : allL s q = L at *
    have hb32 := slice_bytes hV3
    unfold big at hb32
    repeat (first | (refine Walk ?_; intros) | refine JC.block ?_ | (refine WBox ?_; intros) | (refine WNew ?_; intros) | (refine WPut ?_; intros))
    (first | refine JC.newRow 35 (Rp.sz rClause) ?_ | refine JO.newRow 35 (Rp.sz rClause) ?_ | refine JX.newRow 35 (Rp.sz rClause) ?_)
    refine JC.loopF (σ := Nat × Option Addr × Nat × List Value) [(7, _), (10, _), (33, _), (34, _)] (fun q => [(6, .slice q.2.1 ((fun k => (L.take k).filter (worseF LA)) q.1).length q.2.2.1), (35, ((fun k => .int .i64 k) q.1))]) (fun q => [.row w0.heap.size 35 (Rp.sz rClause) (.slice q.2.1 ((fun k => (L.take k).filter (worseF LA)) q.1).length q.2.2.1) ((fun k => (L.take k).filter (worseF LA)) q.1).length (flatCells q.2.2.2)]) (fun Sk q => q.1 ≤ L.length ∧ allV rClause Sk q.2.2.2 ((fun k => (L.take k).filter (worseF LA)) q.1) ∧ ((fun k => True) q.1)) (fun q => L.length - q.1) (0, none, 0, []) (by exact sba) (by exact sba) (by first | rfl | simp) (⟨Nat.zero_le _, trivial, trivial⟩) ?_; rintro Sk ⟨k, rak, rck, vsk⟩ hlk ⟨hk, hvk, hik⟩; (try dsimp only at hk hvk hik); dsimp only [List.cons_append, List.nil_append]
    have hfl := filter_len L (worseF LA) k
    repeat (first | (refine Walk ?_; intros) | refine JC.block ?_ | (refine WBox ?_; intros) | (refine WNew ?_; intros) | (refine WPut ?_; intros))
    refine JC.cond rfl (fun hc => ?_) (fun hc => ?_)
    · have hk' := dlt hc
      obtain ⟨x, hx, _⟩ := drop_at hk'
      have hst := filter_step (f := worseF LA) hx
      repeat (first | (refine Walk ?_; intros) | refine JC.block ?_ | (refine WBox ?_; intros) | (refine WNew ?_; intros) | (refine WPut ?_; intros))
      (refine JO.eff rfl rfl rfl (JEff.dynV rfl inferInstance rfl (p9_Worse1 (x := x) hnames (by exact vta) (by exact pta) ((show S2.le _ by exact lea) _ _ hSb)) rfl ?_); intro _ _)
      repeat (first | (refine Walk ?_; intros) | refine JC.block ?_ | (refine WBox ?_; intros) | (refine WNew ?_; intros) | (refine WPut ?_; intros))
      refine JC.cond rfl (fun hq => ?_) (fun hq => ?_)
      · rw [hq, if_pos rfl] at hst
        repeat (first | (refine Walk ?_; intros) | refine JC.block ?_ | (refine WBox ?_; intros) | (refine WNew ?_; intros) | (refine WPut ?_; intros))
        have hvx := (by assumption : rClause.V _ _ x)
        (refine JO.eff rfl rfl rfl (JEff.build (rep := rClause) (ys := [x]) rfl rfl ⟨⟨(hvx.mono (by exact lea)), nna⟩, trivial⟩ rfl rfl rfl rfl ?_); intro bb hbb hvv); (repeat (first | (refine Walk ?_; intros) | refine JC.block ?_)); (refine JO.eff rfl rfl rfl (JEff.appendL (rep := rClause) rfl rfl rfl rfl (List.Perm.swap _ _ _) (by exact hvv.flat) (by intro c hc; exact flat_one (fun v hv => (hvv.size v hv).2) c hc) (by first | omega | (unfold big; omega)) (by unfold big; omega) (by first | exact rowT_ok | (intro l hl; cases hl)) rfl ?_); intro a2 c2; clear hvv hbb)
        repeat (first | (refine Walk ?_; intros) | refine JC.block ?_ | (refine WBox ?_; intros) | (refine WNew ?_; intros) | (refine WPut ?_; intros))
        exact JX.roundF (k + 1, a2, c2, vsk ++ [(_)]) (by exact lea) ⟨by omega, by (try dsimp only); rw [hst]; exact allV_add (by exact lea) hvk (hvx.mono (by exact lea)) nna, (trivial)⟩ (by (try dsimp only); omega) (by (try dsimp only); rw [hst]; (simp [flat_append] <;> omega)) (by (try dsimp only); rw [hst]; simp only [List.length_append, List.length_cons, List.length_nil]; exact sba) (by exact sba)
      · rw [hq, if_neg (by simp), List.append_nil] at hst
        repeat (first | (refine Walk ?_; intros) | refine JC.block ?_ | (refine WBox ?_; intros) | (refine WNew ?_; intros) | (refine WPut ?_; intros))
        exact JX.roundF (k + 1, rak, rck, vsk) (by exact lea) ⟨by omega, by (try dsimp only); rw [hst]; exact hvk.mono (by exact lea), (trivial)⟩ (by (try dsimp only); omega) (by (try dsimp only); rw [hst]) (by (try dsimp only); rw [hst]; exact sba) (by exact sba)
    · have hk' := dnlt hc
      obtain rfl : k = L.length := by omega
      rw [List.take_length] at hvk hfl ⊢
      repeat (first | (refine Walk ?_; intros) | refine JC.block ?_ | (refine WBox ?_; intros) | (refine WNew ?_; intros) | (refine WPut ?_; intros))
      refine JX.freezeRow (rep := rClause) (bt := 32) hvk rfl (by unfold big; omega) (by unfold big; omega) (fun S9 hl9 hV9 => ?_)
      (refine JX.ret2 Tryz.results44 (ResV.tmp rfl) (ResV.tmp rfl) (List.nil_sublist _) ?_)
      exact ⟨rfl, _, rfl, hV9⟩
end Go.Dr
namespace Go.Dr
open Go.Proofs
set_option maxRecDepth 20000
set_option maxHeartbeats 2000000
set_option linter.unusedSimpArgs false
set_option linter.unusedVariables false
theorem step_rng {S : SHeap} {v : Value} {x : Step} (h : rStep.V S v x) : Rng x.kind ∧ Rng x.pod ∧ Rng x.node := (V_step.1 h).2
end Go.Dr
namespace Go.Dr
def noC : Clause := ⟨0, 0, 0, 0⟩
def cordonAt (s : Snap) (n : Int) : Bool := match s.nodes[n.toNat]? with | some x => x.cordon | none => false
def stepV (s : Snap) (p : List Int) (x : Step) : List Int × Clause × Int :=
  if ¬ (applyP s p x).2 = 0 then ([], noC, (applyP s p x).2)
  else if x.kind = 2 ∧ cordonAt s x.node = true then ([], noC, 100)
  else match (worseV s p (applyP s p x).1).1 with
    | c :: _ => ([], c, 100)
    | [] => ((applyP s p x).1, noC, 0)
def mayV (s : Snap) (p : List Int) (x : Step) : Bool := decide ((stepV s p x).2.2 = 0)
def waysV (s : Snap) (p : List Int) (pod : Int) : List Int := ((List.range s.nodes.length).filter (fun (n : Nat) => mayV s p ⟨2, pod, (n : Int)⟩)).map (fun (n : Nat) => (n : Int))
def runGo (s : Snap) : List Int → Int → List Step → List Int × Int × Int
  | q, i, [] => (q, i, 0)
  | q, i, x :: l => if ¬ (stepV s q x).2.2 = 0 then ([], i, (stepV s q x).2.2) else runGo s (stepV s q x).1 (i + 1) l
def runV (s : Snap) (p : List Int) (l : List Step) : List Int × Int × Int := if ¬ checkP s p = 0 then ([], 0, checkP s p) else runGo s p 0 l
end Go.Dr
namespace Go.Dr
open Go.Proofs
set_option maxRecDepth 20000
set_option maxHeartbeats 2000000
set_option linter.unusedSimpArgs false
set_option linter.unusedVariables false
theorem noC_rng : Rng noC.kind ∧ Rng noC.a ∧ Rng noC.b ∧ Rng noC.by_ := by simp [noC, Rng]
theorem V_noC {S : SHeap} : rClause.V S (.agg (flatCells [.int .i64 0, .int .i64 0, .int .i64 0, .int .i64 0]).toArray) noC := V_clause.2 ⟨by simp [flatCells, Value.cells, noC], noC_rng⟩
theorem apply_ok {s : Snap} {p : List Int} {x : Step} (h : (applyP s p x).2 = 0) : checkP s p = 0 ∧ (x.kind = 2 → 0 ≤ x.node ∧ x.node < s.nodes.length) := by
  unfold applyP at h
  split at h
  · rename_i h1; simp [z0] at h1; exact absurd h h1
  · rename_i h1
    have h1 : checkP s p = 0 := by simpa [z0] using h1
    refine ⟨h1, fun hk => ?_⟩
    split at h
    · cases h
    · split at h
      · cases h
      · rename_i h3
        simp [hk] at h3
        omega
def waysK (s : Snap) (p : List Int) (pod : Int) (k : Nat) : List Int := ((List.range k).filter (fun (n : Nat) => mayV s p ⟨2, pod, (n : Int)⟩)).map (fun (n : Nat) => (n : Int))
theorem waysK_step (s : Snap) (p : List Int) (pod : Int) (k : Nat) : waysK s p pod (k + 1) = waysK s p pod k ++ (if mayV s p ⟨2, pod, k⟩ = true then [(k : Int)] else []) := by
  unfold waysK
  rw [List.range_succ, List.filter_append, List.map_append]
  congr 1
  cases h : mayV s p ⟨2, pod, k⟩ <;> simp [List.filter_cons, h]
theorem waysK_len (s : Snap) (p : List Int) (pod : Int) (k : Nat) : (waysK s p pod k).length ≤ k := by
  unfold waysK
  rw [List.length_map]
  exact Nat.le_trans (List.length_filter_le _ _) (by simp)
end Go.Dr
namespace Go.Dr
open Go.Proofs
set_option maxRecDepth 20000
set_option maxHeartbeats 2000000
set_option linter.unusedSimpArgs false
set_option linter.unusedVariables false
theorem p_Clone_int {S : SHeap} {u : Value} {l : List Int} (hu : (rSlice 8 rI64).V S u l) : FnRow Tryz.prog 46 #[u] S 3 rI64 l := by
  have hu0 := hu
  obtain ⟨a, c, rfl, _, hb16, hb, _⟩ := V_slice.1 hu
  unfold big at hb16 hb
  (refine FnRow.enter (args := [.slice a l.length c]) Tryz.func46 rfl Tryz.ntmps46 rfl ?_; intro w0)
  repeat (first | (refine Walk ?_; intros) | refine JC.block ?_)
  refine JO.pure rfl rfl rfl (JPure.eqNil rfl rfl rfl ?_)
  repeat (first | (refine Walk ?_; intros) | refine JC.block ?_)
  refine JC.cond rfl (fun hn => ?_) (fun hn => ?_)
  · have ha : a = none := by simpa using hn
    subst ha
    have hl : l = [] := nil_slice hu0
    subst hl
    repeat (first | (refine Walk ?_; intros) | refine JC.block ?_)
    (first | refine JC.newRow 3 (Rp.sz rI64) ?_ | refine JO.newRow 3 (Rp.sz rI64) ?_ | refine JX.newRow 3 (Rp.sz rI64) ?_)
    exact JX.retRow (vs := []) Tryz.results46 (ResV.tmp rfl) rfl trivial
  · repeat (first | (refine Walk ?_; intros) | refine JC.block ?_)
    refine JO.eff rfl rfl rfl (JEff.build0 rI64 rfl ?_); intro b0
    repeat (first | (refine Walk ?_; intros) | refine JC.block ?_)
    (refine JO.eff rfl rfl rfl (JEff.appendS (rep := rI64) rfl rfl (hu0.mono (by exact lea)) rfl rfl (List.Perm.refl _) (by unfold big; omega) (by unfold big; omega) (by intro l hl; cases hl) rfl ?_); intro a2 c2 us1 hus1)
    repeat (first | (refine Walk ?_; intros) | refine JC.block ?_)
    exact JX.retRow Tryz.results46 (ResV.tmp rfl) (Nat.zero_add _) hus1
end Go.Dr
namespace Go.Dr
open Go.Proofs
set_option maxRecDepth 20000
set_option maxHeartbeats 2000000
set_option linter.unusedSimpArgs false
set_option linter.unusedVariables false
def OwnAns (E : TypeId) (xs : List Int) (z : Int) (w : Value) (S' : SHeap) (M' : List MEnt) : Prop :=
  ∃ a c, w = .tuple #[.slice a xs.length c, .int .i64 z] ∧ ((xs = [] ∧ a = none ∧ M' = []) ∨ (∃ b tl, a = some ⟨b, 0, none⟩ ∧ xs.length ≤ c ∧ M' = [.blk b (.cells (intsT xs tl) E (0, 0))]))
theorem s41_L7f {P K : Prop} (k : K) (h : Goal K → P := by
  intro zk
  (first | refine Walk ?_ | refine JC.block ?_ | refine JC.drawN 9 rfl [0, 1, 2, 3, 4, 5, 6] [0, 1, 2, 3, 4, 5, 6] Tryz_mixed (by decide +kernel) ?_ | (refine JO.eff rfl rfl rfl (JEff.callV rfl (p7_Check (by exact vta) (by exact vta)) rfl ?_); intro zqa zqb) | (refine JO.eff rfl rfl rfl (JEff.callRow rfl (p_Clone_int (by exact vta)) rfl ?_); intro zqa zqb zqc zqd zqe zqf) | (refine JO.eff rfl rfl rfl (JEff.callV rfl (p7_there _ _) rfl ?_); intro zqa zqb) | (refine WBox ?_))
  (repeat (first | revert zqg | revert zqf | revert zqe | revert zqd | revert zqc | revert zqb | revert zqa))
  exact zk.k) : P := h ⟨k⟩
theorem p7_Apply {S : SHeap} {u v xv : Value} {s : Snap} {p : List Int} {x : Step} (hu : rSnap.V S u s) (hv : (rSlice 8 rI64).V S v p) (hx : rStep.V S xv x) : Fn Tryz.prog 41 #[u, v, xv] S [] (OwnAns 3 (applyP s p x).1 (applyP s p x).2) := by
  have hv0 := hv
  obtain ⟨a, c, rfl, _, hb8, hb, hpr⟩ := V_slice.1 hv
  unfold big at hb8 hb
  have hprn : ∀ z ∈ p, Rng z := fun z hz => by
    obtain ⟨q, cs, h, _⟩ := slice_at hv z hz
    exact h.2
  obtain ⟨hxr1, hxr2, hxr3⟩ := step_rng hx
  (refine Fn.enter (args := [u, .slice a p.length c, xv]) Tryz.func41 rfl Tryz.ntmps41 rfl ?_; intro w0)
  repeat (refine s41_L7f ?_; intros)
  refine JC.cond rfl (fun he => ?_) (fun he => ?_)
  · have he : z0 (checkP s p) = false := by simpa [z0] using he
    repeat (refine s41_L7f ?_; intros)
    (refine JX.ret2 Tryz.results41 (ResV.tmp rfl) (ResV.tmp rfl) (List.nil_sublist _) ?_)
    exact ⟨none, 0, by rw [applyP, he]; rfl, .inl ⟨by rw [applyP, he]; rfl, rfl, rfl⟩⟩
  have he : z0 (checkP s p) = true := by simpa [z0] using he
  have hok : checkP s p = 0 := by simpa [z0] using he
  obtain ⟨hs, hlen, hodd⟩ := checkP_ok hok
  obtain ⟨hn8, hp24, ho8⟩ := shaped_small (checkS_ok hs).1
  obtain ⟨kd, pd, nd⟩ := x
  dsimp only at hxr1 hxr2 hxr3
  unfold Rng at hxr2 hxr3
  have hap0 : applyP s p ⟨kd, pd, nd⟩ = (if !decide (kd = 1) && !decide (kd = 2) then ([], 2)
    else if decide (pd < 0) || decide ((p.length : Int) ≤ pd) || decide (nd < 0) || (decide (kd = 2) && decide ((s.nodes.length : Int) ≤ nd)) || (decide (kd = 1) && !decide (nd = 0)) then ([], 9)
    else if (decide (at0 p pd.toNat = -1) == decide (kd = 1)) || (decide (kd = 2) && lostAt s nd) then ([], 110)
    else (p.set pd.toNat (if kd = 2 then nd else -1), 0)) := by rw [applyP, he]; rfl
  by_cases hk1 : kd = 1
  · subst hk1
    by_cases hbad : pd < 0 ∨ (p.length : Int) ≤ pd ∨ nd < 0 ∨ ¬ nd = 0
    · have hap : applyP s p ⟨1, pd, nd⟩ = ([], 9) := by rw [hap0]; simp; intro h1 h2 h3 h4; omega
      rw [hap]
      repeat' (first | (refine s41_L7f ?_; intros) | (refine JO.guard rfl rfl rfl rfl ?_ ?_ <;> intro _) | (refine JC.cond rfl ?_ ?_ <;> intro _))
      all_goals first
        | ((refine JX.ret2 Tryz.results41 (ResV.tmp rfl) (ResV.tmp rfl) (List.nil_sublist _) ?_); exact ⟨none, 0, rfl, .inl ⟨rfl, rfl, rfl⟩⟩)
        | (clear hap hap0; (exfalso; first | (simp only [decide_eq_true_eq, decide_eq_false_iff_not, Bool.not_eq_true', Bool.not_eq_false', Bool.and_eq_true, Bool.or_eq_true, Bool.and_eq_false_iff, Bool.or_eq_false_iff] at *; omega) | (simp_all; done) | (simp_all; omega)))
    · obtain ⟨i, rfl⟩ : ∃ i : Nat, pd = i := ⟨pd.toNat, by omega⟩
      obtain rfl : nd = 0 := by omega
      have hi : i < p.length := by omega
      obtain ⟨z, hz, _⟩ := drop_at hi
      have ecast : ((i : Int)).toNat = i := by omega
      have hz0 := at0_some hz
      have hz' : p[((i : Int)).toNat]? = some z := by rw [ecast]; exact hz
      have e1 : decide ((i : Int) < 0) = false := by simp
      have e2 : decide ((p.length : Int) ≤ (i : Int)) = false := by simp; omega
      have hap : applyP s p ⟨1, i, 0⟩ = (if z = -1 then ([], 110) else (p.set i (-1), 0)) := by rw [hap0]; simp only [e1, e2, ecast, hz0]; by_cases h : z = -1 <;> simp [h]
      have hzr := hprn z (List.mem_of_getElem? hz)
      by_cases hz1 : z = -1
      · rw [hap, if_pos hz1]
        repeat' (first | (refine s41_L7f ?_; intros) | (refine JO.guard rfl rfl rfl rfl ?_ ?_ <;> intro _) | (refine JC.cond rfl ?_ ?_ <;> intro _))
        all_goals first
          | ((refine JX.ret2 Tryz.results41 (ResV.tmp rfl) (ResV.tmp rfl) (List.nil_sublist _) ?_); exact ⟨none, 0, rfl, .inl ⟨rfl, rfl, rfl⟩⟩)
          | (clear hap hap0; (exfalso; first | (simp only [decide_eq_true_eq, decide_eq_false_iff_not, Bool.not_eq_true', Bool.not_eq_false', Bool.and_eq_true, Bool.or_eq_true, Bool.and_eq_false_iff, Bool.or_eq_false_iff] at *; omega) | (simp_all; done) | (simp_all; omega)))
      rw [hap, if_neg hz1]
      repeat' (first | (refine s41_L7f ?_; intros) | (refine JO.guard rfl rfl rfl rfl ?_ ?_ <;> intro _) | (refine JC.cond rfl ?_ ?_ <;> intro _))
      all_goals first
        | (clear hap hap0; (exfalso; first | (simp only [decide_eq_true_eq, decide_eq_false_iff_not, Bool.not_eq_true', Bool.not_eq_false', Bool.and_eq_true, Bool.or_eq_true, Bool.and_eq_false_iff, Bool.or_eq_false_iff] at *; omega) | (simp_all; done) | (simp_all; omega)))
        | skip
      repeat (refine s41_L7f ?_; intros)
      rw [flat_int (by assumption)]
      refine JO.rowBlk (by omega) (fun b tl hab hbb hnc => ?_)
      subst hab
      repeat (refine s41_L7f ?_; intros)
      refine JO.pure rfl rfl rfl (JPure.indexRI rfl rfl rfl (by dsimp only; omega) (by dsimp only; omega) ?_)
      refine JO.eff rfl rfl rfl (JEff.storeIT (i := i) rfl rfl (by unfold Rng; omega) (List.Perm.refl _) (by omega) (by intro l hl; cases hl) ?_)
      repeat (refine s41_L7f ?_; intros)
      refine JX.ret2 Tryz.results41 (ResV.tmp rfl) (ResV.tmp rfl) (List.Sublist.refl _) ?_
      exact ⟨some ⟨b, 0, none⟩, _, by rw [List.length_set], .inr ⟨b, tl, rfl, by rw [List.length_set]; exact hnc, rfl⟩⟩
  · by_cases hk2 : kd = 2
    · subst hk2
      by_cases hbad : pd < 0 ∨ (p.length : Int) ≤ pd ∨ nd < 0 ∨ (s.nodes.length : Int) ≤ nd
      · have hap : applyP s p ⟨2, pd, nd⟩ = ([], 9) := by rw [hap0]; simp; intro h1 h2 h3 h4; omega
        rw [hap]
        repeat' (first | (refine s41_L7f ?_; intros) | (refine JO.guard rfl rfl rfl rfl ?_ ?_ <;> intro _) | (refine JC.cond rfl ?_ ?_ <;> intro _))
        all_goals first
          | ((refine JX.ret2 Tryz.results41 (ResV.tmp rfl) (ResV.tmp rfl) (List.nil_sublist _) ?_); exact ⟨none, 0, rfl, .inl ⟨rfl, rfl, rfl⟩⟩)
          | (clear hap hap0; (exfalso; first | (simp only [decide_eq_true_eq, decide_eq_false_iff_not, Bool.not_eq_true', Bool.not_eq_false', Bool.and_eq_true, Bool.or_eq_true, Bool.and_eq_false_iff, Bool.or_eq_false_iff] at *; omega) | (simp_all; done) | (simp_all; omega)))
      · obtain ⟨i, rfl⟩ : ∃ i : Nat, pd = i := ⟨pd.toNat, by omega⟩
        obtain ⟨m, rfl⟩ : ∃ m : Nat, nd = m := ⟨nd.toNat, by omega⟩
        have hi : i < p.length := by omega
        obtain ⟨z, hz, _⟩ := drop_at hi
        obtain ⟨nn, hnn, _⟩ := drop_at (l := s.nodes) (show m < s.nodes.length by omega)
        have ecast : ((i : Int)).toNat = i := by omega
        have ecast2 : ((m : Int)).toNat = m := by omega
        have hz0 := at0_some hz
        have hz' : p[((i : Int)).toNat]? = some z := by rw [ecast]; exact hz
        have hnn' : s.nodes[((m : Int)).toNat]? = some nn := by rw [ecast2]; exact hnn
        have hlo : lostAt s m = nn.lost := by simp [lostAt, hnn]
        have e1 : decide ((i : Int) < 0) = false := by simp
        have e2 : decide ((p.length : Int) ≤ (i : Int)) = false := by simp; omega
        have e3 : decide ((m : Int) < 0) = false := by simp
        have e4 : decide ((s.nodes.length : Int) ≤ (m : Int)) = false := by simp; omega
        have hap : applyP s p ⟨2, i, m⟩ = (if ¬ z = -1 ∨ nn.lost = true then ([], 110) else (p.set i m, 0)) := by rw [hap0]; simp only [e1, e2, e3, e4, ecast, hz0, hlo]; by_cases h : z = -1 <;> simp [h]
        have hzr := hprn z (List.mem_of_getElem? hz)
        by_cases hst : ¬ z = -1 ∨ nn.lost = true
        · rw [hap, if_pos hst]
          repeat' (first | (refine s41_L7f ?_; intros) | (refine JO.guard rfl rfl rfl rfl ?_ ?_ <;> intro _) | (refine JC.cond rfl ?_ ?_ <;> intro _))
          all_goals first
            | ((refine JX.ret2 Tryz.results41 (ResV.tmp rfl) (ResV.tmp rfl) (List.nil_sublist _) ?_); exact ⟨none, 0, rfl, .inl ⟨rfl, rfl, rfl⟩⟩)
            | (clear hap hap0; (exfalso; first | (simp only [decide_eq_true_eq, decide_eq_false_iff_not, Bool.not_eq_true', Bool.not_eq_false', Bool.and_eq_true, Bool.or_eq_true, Bool.and_eq_false_iff, Bool.or_eq_false_iff] at *; omega) | (simp_all; done) | (simp_all; omega)))
        rw [hap, if_neg hst]
        repeat' (first | (refine s41_L7f ?_; intros) | (refine JO.guard rfl rfl rfl rfl ?_ ?_ <;> intro _) | (refine JC.cond rfl ?_ ?_ <;> intro _))
        all_goals first
          | (clear hap hap0; (exfalso; first | (simp only [decide_eq_true_eq, decide_eq_false_iff_not, Bool.not_eq_true', Bool.not_eq_false', Bool.and_eq_true, Bool.or_eq_true, Bool.and_eq_false_iff, Bool.or_eq_false_iff] at *; omega) | (simp_all; done) | (simp_all; omega)))
          | skip
        repeat (refine s41_L7f ?_; intros)
        rw [flat_int (by assumption)]
        refine JO.rowBlk (by omega) (fun b tl hab hbb hnc => ?_)
        subst hab
        repeat (refine s41_L7f ?_; intros)
        refine JO.pure rfl rfl rfl (JPure.indexRI rfl rfl rfl (by dsimp only; omega) (by dsimp only; omega) ?_)
        refine JO.eff rfl rfl rfl (JEff.storeIT (i := i) rfl rfl (by unfold Rng; omega) (List.Perm.refl _) (by omega) (by intro l hl; cases hl) ?_)
        repeat (refine s41_L7f ?_; intros)
        refine JX.ret2 Tryz.results41 (ResV.tmp rfl) (ResV.tmp rfl) (List.Sublist.refl _) ?_
        exact ⟨some ⟨b, 0, none⟩, _, by rw [List.length_set], .inr ⟨b, tl, rfl, by rw [List.length_set]; exact hnc, rfl⟩⟩
    · have hap : applyP s p ⟨kd, pd, nd⟩ = ([], 2) := by rw [hap0]; simp [hk1, hk2]
      rw [hap]
      repeat' (first | (refine s41_L7f ?_; intros) | (refine JO.guard rfl rfl rfl rfl ?_ ?_ <;> intro _) | (refine JC.cond rfl ?_ ?_ <;> intro _))
      all_goals first
        | ((refine JX.ret2 Tryz.results41 (ResV.tmp rfl) (ResV.tmp rfl) (List.nil_sublist _) ?_); exact ⟨none, 0, rfl, .inl ⟨rfl, rfl, rfl⟩⟩)
        | (clear hap hap0; (exfalso; first | (simp only [decide_eq_true_eq, decide_eq_false_iff_not, Bool.not_eq_true', Bool.not_eq_false', Bool.and_eq_true, Bool.or_eq_true, Bool.and_eq_false_iff, Bool.or_eq_false_iff] at *; omega) | (simp_all; done) | (simp_all; omega)))
end Go.Dr
namespace Go.Dr
theorem checkP_set {s : Snap} {p : List Int} {i : Nat} {v : Int} (h : checkP s p = 0) (hv : oddP s v = false) : checkP s (p.set i v) = 0 := by
  obtain ⟨h1, h2, h3⟩ := checkP_ok h
  unfold checkP
  have e1 : z0 (checkS s) = true := by simp [z0, h1]
  have e2 : (p.set i v).any (oddP s) = false := by
    rw [List.any_eq_false]
    intro x hx
    rcases List.mem_or_eq_of_mem_set hx with hx | rfl
    · rw [h3 x hx]; simp
    · rw [hv]; simp
  rw [e1, e2, List.length_set, h2]
  simp
theorem odd_none (s : Snap) : oddP s (-1) = false := by simp [oddP]; omega
theorem apply_set {s : Snap} {p : List Int} {x : Step} (h : (applyP s p x).2 = 0) : ∃ v, (applyP s p x).1 = p.set x.pod.toNat v ∧ x.pod.toNat < p.length ∧ 0 ≤ x.pod ∧ oddP s v = false ∧ checkP s p = 0 ∧
    ((x.kind = 1 ∧ v = -1 ∧ x.node = 0 ∧ at0 p x.pod.toNat ≠ -1) ∨ (x.kind = 2 ∧ v = x.node ∧ 0 ≤ x.node ∧ x.node < s.nodes.length ∧ lostAt s x.node = false ∧ at0 p x.pod.toNat = -1)) := by
  unfold applyP at h ⊢
  split at h
  · rename_i h1; simp [z0] at h1; exact absurd h h1
  rename_i h1
  rw [if_neg h1]
  have hok : checkP s p = 0 := by simpa [z0] using h1
  split at h
  · cases h
  rename_i h2
  rw [if_neg h2]
  split at h
  · cases h
  rename_i h3
  rw [if_neg h3]
  split at h
  · cases h
  rename_i h4
  rw [if_neg h4]
  simp only [Bool.and_eq_true, Bool.not_eq_true', decide_eq_false_iff_not, not_and, Classical.not_not] at h2
  simp only [Bool.or_eq_true, decide_eq_true_eq, Bool.and_eq_true, Bool.not_eq_true', decide_eq_false_iff_not, not_or, not_and, Classical.not_not] at h3
  obtain ⟨⟨⟨⟨a1, a2⟩, a3⟩, a4⟩, a5⟩ := h3
  have hp : x.pod.toNat < p.length := by omega
  by_cases hk : x.kind = 2
  · have hk1 : ¬ x.kind = 1 := by omega
    simp only [hk, Bool.or_eq_true, Bool.and_eq_true, not_or, not_and, Bool.not_eq_true, decide_true, true_implies] at h4
    obtain ⟨b1, b2⟩ := h4
    have b1 : at0 p x.pod.toNat = -1 := by
      by_cases e : at0 p x.pod.toNat = -1
      · exact e
      · rw [decide_eq_false e] at b1; simp at b1
    refine ⟨x.node, by rw [if_pos hk], hp, by omega, ?_, hok, .inr ⟨hk, rfl, by omega, by have := a4 hk; omega, b2, b1⟩⟩
    unfold oddP
    have := a4 hk
    simp [b2]; omega
  · have hk1 : x.kind = 1 := by
      by_cases e : x.kind = 1
      · exact e
      · exact absurd (h2 e) hk
    have b1 : ¬ at0 p x.pod.toNat = -1 := by
      intro e
      apply h4
      rw [decide_eq_true e, decide_eq_true hk1]; simp
    exact ⟨-1, by rw [if_neg hk], hp, by omega, odd_none s, hok, .inl ⟨hk1, rfl, a5 hk1, b1⟩⟩
theorem apply_check {s : Snap} {p : List Int} {x : Step} (h : (applyP s p x).2 = 0) : checkP s (applyP s p x).1 = 0 ∧ (applyP s p x).1.length = p.length ∧ 0 < p.length := by
  obtain ⟨v, h1, h2, _, h3, h4, _⟩ := apply_set h
  rw [h1]
  exact ⟨checkP_set h4 h3, by simp, by omega⟩
theorem worse_ok {s : Snap} {p q : List Int} (h1 : checkP s p = 0) (h2 : checkP s q = 0) : worseV s p q = ((allL s q).filter (worseF (allL s p)), 0) := by
  unfold worseV; rw [if_neg (by simpa using h1), if_neg (by simpa using h2)]
end Go.Dr
namespace Go.Dr
open Go.Proofs
set_option maxRecDepth 20000
set_option maxHeartbeats 2000000
set_option linter.unusedSimpArgs false
set_option linter.unusedVariables false
def StepRaw (E Te Tc : TypeId) (s : Snap) (p : List Int) (x : Step) (w : Value) (S' : SHeap) (M' : List MEnt) : Prop :=
  (∃ e, ¬ e = 0 ∧ stepV s p x = ([], noC, e) ∧ w = .tuple #[.slice none 0 0, .iface Te (.int .i64 e)] ∧ M' = []) ∨
  (∃ c, (Rng c.kind ∧ Rng c.a ∧ Rng c.b ∧ Rng c.by_) ∧ stepV s p x = ([], c, 100) ∧ w = .tuple #[.slice none 0 0, .iface Tc (clV c)] ∧ M' = []) ∨
  (∃ q b tl cap, stepV s p x = (q, noC, 0) ∧ (∀ z ∈ q, Rng z) ∧ q.length = p.length ∧ w = .tuple #[.slice (some ⟨b, 0, none⟩) q.length cap, .nilIface] ∧ q.length ≤ cap ∧ M' = [.blk b (.cells (intsT q tl) E (0, 0))])
theorem s45_L10a {P K : Prop} (k : K) (h : Goal K → P := by
  intro zk
  (first | refine Walk ?_ | refine JC.block ?_ | refine JC.drawN 10 rfl [0, 1, 2, 3, 4, 5] [0, 1, 2, 3, 4, 5] Tryz_mixed (by decide +kernel) ?_ | (refine JO.eff rfl rfl rfl (JEff.callLE rfl (p9_Worse (by exact vta) (by exact vta) (by exact vta)) rfl ?_); intro zqa zqb zqc zqd zqe zqf) | (refine WBox ?_))
  (repeat (first | revert zqg | revert zqf | revert zqe | revert zqd | revert zqc | revert zqb | revert zqa))
  exact zk.k) : P := h ⟨k⟩
theorem p10_step {S : SHeap} {u v xv : Value} {s : Snap} {p : List Int} {x : Step} (hu : rSnap.V S u s) (hv : (rSlice 8 rI64).V S v p) (hx : rStep.V S xv x) : Fn Tryz.prog 45 #[u, v, xv] S [] (StepRaw 3 36 35 s p x) := by
  (refine Fn.enter (args := [u, v, xv]) Tryz.func45 rfl Tryz.ntmps45 rfl ?_; intro w0)
  repeat (refine s45_L10a ?_; intros)
  refine JO.eff rfl rfl rfl (JEff.callM (Mc := []) rfl (List.Perm.refl _) (mayAll rfl) (p7_Apply (s := s) (p := p) (x := x) (by exact vta) (by exact vta) (by exact vta)) rfl ?_); intro w S2 M2 hl2 hw
  obtain ⟨aa, ca, rfl, hw⟩ := hw
  by_cases he : (applyP s p x).2 = 0
  · obtain ⟨hcq, hql, hp0⟩ := apply_check he
    obtain ⟨hok, hnode⟩ := apply_ok he
    rcases hw with ⟨h1, _, _⟩ | ⟨b, tl, rfl, hqc, rfl⟩
    · rw [h1] at hql; simp at hql; omega
    have hW2 : (worseV s p (applyP s p x).1).2 = 0 := by rw [worse_ok hok hcq]
    have he' : ¬ ¬ (applyP s p x).2 = 0 := by simpa using he
    obtain ⟨_, _, hp24, _, _, _, hqr⟩ := placed_hyps hcq
    have hql2 : (applyP s p x).1.length ≤ 24 := hp24
    dsimp only [List.cons_append, List.nil_append]
    refine JO.blkNew rfl (fun hb0 hbb => ?_)
    refine JO.freeze hbb (by intro l hl; cases hl) (fun S3 hl3 hS3 => ?_)
    have hVq := blk_slice (SHeap.le.refl S3) hS3 rfl hqc (by unfold big; omega) hqr
    by_cases hk : x.kind = 2
    · obtain ⟨h0, h1⟩ := hnode hk
      obtain ⟨nd, hnd, _⟩ := drop_at (l := s.nodes) (show x.node.toNat < s.nodes.length by omega)
      have hco : cordonAt s x.node = nd.cordon := by simp [cordonAt, hnd]
      repeat (refine s45_L10a ?_; intros)
      refine JC.cond rfl (fun g0 => ?_) (fun g0 => ?_)
      · (exfalso; first | (simp only [decide_eq_true_eq, decide_eq_false_iff_not, Bool.not_eq_true', Bool.not_eq_false', Bool.and_eq_true, Bool.or_eq_true, Bool.and_eq_false_iff, Bool.or_eq_false_iff] at *; omega) | (simp_all; done) | (simp_all; omega))
      repeat (refine s45_L10a ?_; intros)
      refine JO.guard rfl rfl rfl rfl (fun g1 => ?_) (fun g1 => ?_)
      · repeat (refine s45_L10a ?_; intros)
        refine JC.cond rfl (fun g2 => ?_) (fun g2 => ?_)
        · repeat (refine s45_L10a ?_; intros)
          refine JO.pure rfl rfl rfl (JPure.mkIface rfl rfl ?_)
          repeat (refine s45_L10a ?_; intros)
          refine JX.ret2 Tryz.results45 (ResV.tmp rfl) (ResV.tmp rfl) (List.nil_sublist _) ?_
          exact .inl ⟨100, by decide, by rw [stepV, if_neg he', if_pos ⟨hk, by rw [hco]; exact g2⟩], rfl, rfl⟩
        · have hnc : ¬ (x.kind = 2 ∧ cordonAt s x.node = true) := by rw [hco, g2]; simp
          repeat (refine s45_L10a ?_; intros)
          refine JC.cond rfl (fun g3 => ?_) (fun g3 => ?_)
          · exfalso
            simp [hW2] at g3
          repeat (refine s45_L10a ?_; intros)
          refine JC.cond rfl (fun g4 => ?_) (fun g4 => ?_)
          · obtain ⟨y, L', hL⟩ : ∃ y L', (worseV s p (applyP s p x).1).1 = y :: L' := by
              cases hh : (worseV s p (applyP s p x).1).1 with
              | nil => rw [hh] at g4; simp at g4
              | cons y L' => exact ⟨y, L', rfl⟩
            have hy0 : (worseV s p (applyP s p x).1).1[(0 : Int).toNat]? = some y := by rw [hL]; rfl
            repeat (refine s45_L10a ?_; intros)
            have hvy := (by assumption : rClause.V _ _ y)
            obtain ⟨hy1, hyr⟩ := V_clause.1 hvy
            refine JO.pure rfl rfl rfl (JPure.mkIface rfl rfl ?_)
            repeat (refine s45_L10a ?_; intros)
            refine JX.ret2 Tryz.results45 (ResV.tmp rfl) (ResV.tmp rfl) (List.nil_sublist _) ?_
            exact .inr (.inl ⟨y, hyr, by rw [stepV, if_neg he', if_neg hnc, hL], by rw [hy1]; rfl, rfl⟩)
          · have hL : (worseV s p (applyP s p x).1).1 = [] := by
              cases hh : (worseV s p (applyP s p x).1).1 with
              | nil => rfl
              | cons y L' => rw [hh] at g4; simp at g4
            repeat (refine s45_L10a ?_; intros)
            refine JX.thaw hb0 hbb ((by exact lea : SHeap.le S3 _) _ _ hS3) ?_
            refine JX.ret2 Tryz.results45 (ResV.tmp rfl) (ResV.tmp rfl) (List.Sublist.refl _) ?_
            exact .inr (.inr ⟨(applyP s p x).1, b, tl, ca, by rw [stepV, if_neg he', if_neg hnc, hL], hqr, hql, rfl, hqc, rfl⟩)
      · (exfalso; first | (simp only [decide_eq_true_eq, decide_eq_false_iff_not, Bool.not_eq_true', Bool.not_eq_false', Bool.and_eq_true, Bool.or_eq_true, Bool.and_eq_false_iff, Bool.or_eq_false_iff] at *; omega) | (simp_all; done) | (simp_all; omega))
    · have hnc : ¬ (x.kind = 2 ∧ cordonAt s x.node = true) := fun h => hk h.1
      repeat (refine s45_L10a ?_; intros)
      refine JC.cond rfl (fun g0 => ?_) (fun g0 => ?_)
      · (exfalso; first | (simp only [decide_eq_true_eq, decide_eq_false_iff_not, Bool.not_eq_true', Bool.not_eq_false', Bool.and_eq_true, Bool.or_eq_true, Bool.and_eq_false_iff, Bool.or_eq_false_iff] at *; omega) | (simp_all; done) | (simp_all; omega))
      repeat (refine s45_L10a ?_; intros)
      refine JO.guard rfl rfl rfl rfl (fun g1 => ?_) (fun g1 => ?_)
      · (exfalso; first | (simp only [decide_eq_true_eq, decide_eq_false_iff_not, Bool.not_eq_true', Bool.not_eq_false', Bool.and_eq_true, Bool.or_eq_true, Bool.and_eq_false_iff, Bool.or_eq_false_iff] at *; omega) | (simp_all; done) | (simp_all; omega))
      · repeat (refine s45_L10a ?_; intros)
        refine JC.cond rfl (fun g3 => ?_) (fun g3 => ?_)
        · exfalso
          simp [hW2] at g3
        repeat (refine s45_L10a ?_; intros)
        refine JC.cond rfl (fun g4 => ?_) (fun g4 => ?_)
        · obtain ⟨y, L', hL⟩ : ∃ y L', (worseV s p (applyP s p x).1).1 = y :: L' := by
            cases hh : (worseV s p (applyP s p x).1).1 with
            | nil => rw [hh] at g4; simp at g4
            | cons y L' => exact ⟨y, L', rfl⟩
          have hy0 : (worseV s p (applyP s p x).1).1[(0 : Int).toNat]? = some y := by rw [hL]; rfl
          repeat (refine s45_L10a ?_; intros)
          have hvy := (by assumption : rClause.V _ _ y)
          obtain ⟨hy1, hyr⟩ := V_clause.1 hvy
          refine JO.pure rfl rfl rfl (JPure.mkIface rfl rfl ?_)
          repeat (refine s45_L10a ?_; intros)
          refine JX.ret2 Tryz.results45 (ResV.tmp rfl) (ResV.tmp rfl) (List.nil_sublist _) ?_
          exact .inr (.inl ⟨y, hyr, by rw [stepV, if_neg he', if_neg hnc, hL], by rw [hy1]; rfl, rfl⟩)
        · have hL : (worseV s p (applyP s p x).1).1 = [] := by
            cases hh : (worseV s p (applyP s p x).1).1 with
            | nil => rfl
            | cons y L' => rw [hh] at g4; simp at g4
          repeat (refine s45_L10a ?_; intros)
          refine JX.thaw hb0 hbb ((by exact lea : SHeap.le S3 _) _ _ hS3) ?_
          refine JX.ret2 Tryz.results45 (ResV.tmp rfl) (ResV.tmp rfl) (List.Sublist.refl _) ?_
          exact .inr (.inr ⟨(applyP s p x).1, b, tl, ca, by rw [stepV, if_neg he', if_neg hnc, hL], hqr, hql, rfl, hqc, rfl⟩)
  · have hst : stepV s p x = ([], noC, (applyP s p x).2) := by rw [stepV, if_pos he]
    repeat (refine s45_L10a ?_; intros)
    refine JC.cond rfl (fun g0 => ?_) (fun g0 => ?_)
    · repeat (refine s45_L10a ?_; intros)
      refine JO.pure rfl rfl rfl (JPure.mkIface rfl rfl ?_)
      repeat (refine s45_L10a ?_; intros)
      refine JX.ret2 Tryz.results45 (ResV.tmp rfl) (ResV.tmp rfl) (List.nil_sublist _) ?_
      exact .inl ⟨_, he, hst, rfl, rfl⟩
    · (exfalso; first | (simp only [decide_eq_true_eq, decide_eq_false_iff_not, Bool.not_eq_true', Bool.not_eq_false', Bool.and_eq_true, Bool.or_eq_true, Bool.and_eq_false_iff, Bool.or_eq_false_iff] at *; omega) | (simp_all; done) | (simp_all; omega))
end Go.Dr
namespace Go.Dr
open Go.Proofs
set_option maxRecDepth 20000
set_option maxHeartbeats 2000000
set_option linter.unusedSimpArgs false
set_option linter.unusedVariables false
instance : IfaceT Tryz.prog 83 := ⟨by kernel_rfl⟩
def StepAns (E : TypeId) (s : Snap) (p : List Int) (x : Step) (w : Value) (S' : SHeap) (M' : List MEnt) : Prop :=
  (∃ c e, ¬ e = 0 ∧ (Rng c.kind ∧ Rng c.a ∧ Rng c.b ∧ Rng c.by_) ∧ stepV s p x = ([], c, e) ∧ w = .tuple #[.slice none 0 0, clV c, .int .i64 e] ∧ M' = []) ∨
  (∃ q b tl cap, stepV s p x = (q, noC, 0) ∧ (∀ z ∈ q, Rng z) ∧ q.length = p.length ∧ w = .tuple #[.slice (some ⟨b, 0, none⟩) q.length cap, clV noC, .int .i64 0] ∧ q.length ≤ cap ∧ M' = [.blk b (.cells (intsT q tl) E (0, 0))])
theorem s12_L10b {P K : Prop} (k : K) (h : Goal K → P := by
  intro zk
  (first | refine Walk ?_ | refine JC.block ?_ | refine JC.drawN 6 rfl [0, 1, 2, 3] [0, 1, 3] Tryz_mixed (by decide +kernel) ?_ | refine JC.drawN 7 rfl [0, 1, 2, 3, 4, 5] [0, 3, 5] Tryz_mixed (by decide +kernel) ?_ | (refine WBox ?_))
  (repeat (first | revert zqg | revert zqf | revert zqe | revert zqd | revert zqc | revert zqb | revert zqa))
  exact zk.k) : P := h ⟨k⟩
theorem p10_Step {S : SHeap} {u v xv : Value} {s : Snap} {p : List Int} {x : Step} (hu : rSnap.V S u s) (hv : (rSlice 8 rI64).V S v p) (hx : rStep.V S xv x) : Fn Tryz.prog 12 #[u, v, xv] S [] (StepAns 3 s p x) := by
  (refine Fn.enter (args := [u, v, xv]) Tryz.func12 rfl Tryz.ntmps12 rfl ?_; intro w0)
  repeat (refine s12_L10b ?_; intros)
  (refine JO.eff rfl rfl rfl (JEff.alloc rfl ?_); intro b7 hb7)
  repeat (refine s12_L10b ?_; intros)
  refine JO.eff rfl rfl rfl (JEff.callM (Mc := []) rfl (List.Perm.refl _) (mayAll rfl) (p10_step (s := s) (p := p) (x := x) (by exact vta) (by exact vta) (by exact vta)) rfl ?_); intro w S2 M2 hl2 hw
  rcases hw with ⟨e, he, hst, rfl, rfl⟩ | ⟨c, hcr, hst, rfl, rfl⟩ | ⟨q, b, tl, cap, hst, hqr, hql, rfl, hqc, rfl⟩
  · dsimp only [List.nil_append]
    have hN0 : rClause.V S2 (.agg #[.int .i64 0, .int .i64 0, .int .i64 0, .int .i64 0]) noC := V_clV noC_rng
    have hN := V_noC (S := S2)
    repeat (first | (refine Walk ?_; intros) | refine JC.block ?_ | refine JC.drawN 6 rfl [0, 1, 2, 3] [0, 1, 3] Tryz_mixed (by decide +kernel) ?_ | refine JC.drawN 7 rfl [0, 1, 2, 3, 4, 5] [0, 3, 5] Tryz_mixed (by decide +kernel) ?_ | refine JO.pure rfl rfl rfl (JPure.eqNilF rfl rfl ?_) | refine JO.pure rfl rfl rfl (JPure.assertF rfl rfl rfl ?_) | (refine WBox ?_; intros))
    (refine JO.eff rfl rfl rfl (JEff.alloc rfl ?_); intro b10 hb10)
    refine JO.eff rfl rfl rfl (JEff.storeW rfl rfl hN0 nna (List.Perm.refl _) rfl (by intro l hl; cases hl) ?_)
    refine JO.freezeV hN0 nna hb10 (by intro l hl; cases hl) ?_; intro S3 hl3 hp10
    repeat (first | (refine Walk ?_; intros) | refine JC.block ?_ | refine JC.drawN 6 rfl [0, 1, 2, 3] [0, 1, 3] Tryz_mixed (by decide +kernel) ?_ | refine JC.drawN 7 rfl [0, 1, 2, 3, 4, 5] [0, 3, 5] Tryz_mixed (by decide +kernel) ?_ | refine JO.pure rfl rfl rfl (JPure.assertT rfl rfl ?_) | (refine WBox ?_; intros))
    have hN2 := V_noC (S := S3)
    (refine JO.eff rfl rfl rfl (JEff.storeW rfl rfl (by exact vta) nna pma rfl (by intro l hl; cases hl) ?_))
    repeat (refine s12_L10b ?_; intros)
    refine JX.ret3 Tryz.results12 (ResV.tmp rfl) (ResV.clause (S1 := S3) rfl (by (first | exact List.mem_cons_self | exact List.mem_cons_of_mem _ List.mem_cons_self | exact List.mem_cons_of_mem _ (List.mem_cons_of_mem _ List.mem_cons_self))) V_noC) (ResV.tmp rfl) (List.nil_sublist _) ?_
    exact .inl ⟨noC, e, he, noC_rng, hst, rfl, rfl⟩
  · dsimp only [List.nil_append]
    have hN := V_clV (S := S2) hcr
    repeat (first | (refine Walk ?_; intros) | refine JC.block ?_ | refine JC.drawN 6 rfl [0, 1, 2, 3] [0, 1, 3] Tryz_mixed (by decide +kernel) ?_ | refine JC.drawN 7 rfl [0, 1, 2, 3, 4, 5] [0, 3, 5] Tryz_mixed (by decide +kernel) ?_ | refine JO.pure rfl rfl rfl (JPure.eqNilF rfl rfl ?_) | refine JO.pure rfl rfl rfl (JPure.assertT rfl rfl ?_) | (refine WBox ?_; intros))
    (refine JO.eff rfl rfl rfl (JEff.alloc rfl ?_); intro b10 hb10)
    refine JO.eff rfl rfl rfl (JEff.storeW rfl rfl hN nna (List.Perm.refl _) rfl (by intro l hl; cases hl) ?_)
    refine JO.freezeV hN nna hb10 (by intro l hl; cases hl) ?_; intro S3 hl3 hp10
    repeat (refine s12_L10b ?_; intros)
    have hvy := (by assumption : rClause.V _ _ c)
    (refine JO.eff rfl rfl rfl (JEff.storeW rfl rfl (by exact vta) nna pma rfl (by intro l hl; cases hl) ?_))
    repeat (refine s12_L10b ?_; intros)
    refine JX.ret3 Tryz.results12 (ResV.tmp rfl) (ResV.clause rfl (by (first | exact List.mem_cons_self | exact List.mem_cons_of_mem _ List.mem_cons_self | exact List.mem_cons_of_mem _ (List.mem_cons_of_mem _ List.mem_cons_self))) hvy) (ResV.tmp rfl) (List.nil_sublist _) ?_
    exact .inl ⟨c, 100, by decide, hcr, hst, rfl, rfl⟩
  · dsimp only [List.cons_append, List.nil_append]
    have hN := V_noC (S := S2)
    repeat (first | (refine Walk ?_; intros) | refine JC.block ?_ | refine JC.drawN 6 rfl [0, 1, 2, 3] [0, 1, 3] Tryz_mixed (by decide +kernel) ?_ | refine JC.drawN 7 rfl [0, 1, 2, 3, 4, 5] [0, 3, 5] Tryz_mixed (by decide +kernel) ?_ | refine JO.pure rfl rfl rfl (JPure.eqNilT rfl rfl ?_) | (refine WBox ?_; intros))
    refine JO.eff rfl rfl rfl (JEff.storeW rfl rfl hN nna (List.Perm.swap _ _ _) rfl (by intro l hl; cases hl) ?_)
    repeat (refine s12_L10b ?_; intros)
    refine JX.ret3 Tryz.results12 (ResV.tmp rfl) (ResV.clause (S1 := S2) rfl (by (first | exact List.mem_cons_self | exact List.mem_cons_of_mem _ List.mem_cons_self | exact List.mem_cons_of_mem _ (List.mem_cons_of_mem _ List.mem_cons_self))) V_noC) (ResV.tmp rfl) (List.sublist_cons_self _ _) ?_
    exact .inr ⟨q, b, tl, cap, hst, hqr, hql, rfl, hqc, rfl⟩
theorem p10_May {S : SHeap} {u v xv : Value} {s : Snap} {p : List Int} {x : Step} (hu : rSnap.V S u s) (hv : (rSlice 8 rI64).V S v p) (hx : rStep.V S xv x) : FnV Tryz.prog 18 #[u, v, xv] S (.bool (mayV s p x)) := by
  (refine Fn.enter (args := [u, v, xv]) Tryz.func18 rfl Tryz.ntmps18 rfl ?_; intro w0)
  repeat (first | (refine Walk ?_; intros) | refine JC.block ?_ | (refine WBox ?_; intros))
  refine JO.eff rfl rfl rfl (JEff.callM (Mc := []) rfl (List.Perm.refl _) (mayAll rfl) (p10_step (s := s) (p := p) (x := x) (by exact vta) (by exact vta) (by exact vta)) rfl ?_); intro w S2 M2 hl2 hw
  rcases hw with ⟨e, he, hst, rfl, rfl⟩ | ⟨c, hcr, hst, rfl, rfl⟩ | ⟨q, b, tl, cap, hst, hqr, hql, rfl, hqc, rfl⟩
  all_goals unfold mayV; rw [hst]
  · repeat (first | (refine Walk ?_; intros) | refine JC.block ?_ | refine JO.pure rfl rfl rfl (JPure.eqNilF rfl rfl ?_) | (refine WBox ?_; intros))
    (refine JX.ret1 Tryz.results18 (ResV.tmp rfl) (List.nil_sublist _) ?_)
    exact ⟨rfl, by simp [he]⟩
  · repeat (first | (refine Walk ?_; intros) | refine JC.block ?_ | refine JO.pure rfl rfl rfl (JPure.eqNilF rfl rfl ?_) | (refine WBox ?_; intros))
    (refine JX.ret1 Tryz.results18 (ResV.tmp rfl) (List.nil_sublist _) ?_)
    exact ⟨rfl, by simp⟩
  · repeat (first | (refine Walk ?_; intros) | refine JC.block ?_ | refine JO.pure rfl rfl rfl (JPure.eqNilT rfl rfl ?_) | (refine WBox ?_; intros))
    (refine JX.ret1 Tryz.results18 (ResV.tmp rfl) (List.nil_sublist _) ?_)
    exact ⟨rfl, by simp⟩
end Go.Dr
namespace Go.Dr
open Go.Proofs
set_option maxRecDepth 20000
set_option maxHeartbeats 2000000
set_option linter.unusedSimpArgs false
set_option linter.unusedVariables false
end Go.Dr
namespace Go.Dr
open Go.Proofs
set_option maxRecDepth 20000
set_option maxHeartbeats 2000000
set_option linter.unusedSimpArgs false
set_option linter.unusedVariables false
theorem s19_L10c {P K : Prop} (k : K) (h : Goal K → P := by
  intro zk
  (first | refine Walk ?_ | refine JC.block ?_ | (refine JO.eff rfl rfl rfl (JEff.callV rfl (p10_May (by exact vta) (by exact vta) (by exact vta)) rfl ?_); intro zqa zqb) | (refine WBox ?_))
  (repeat (first | revert zqg | revert zqf | revert zqe | revert zqd | revert zqc | revert zqb | revert zqa))
  exact zk.k) : P := h ⟨k⟩
theorem p10_Ways {S : SHeap} {u v : Value} {s : Snap} {p : List Int} (pod : Int) (hu : rSnap.V S u s) (hv : (rSlice 8 rI64).V S v p) (hn : s.nodes.length ≤ 1000) (hpr : Rng pod) : FnL Tryz.prog 19 #[u, v, .int .i64 pod] S 8 rI64 (waysV s p pod) := by
  (refine Fn.enter (args := [u, v, .int .i64 pod]) Tryz.func19 rfl Tryz.ntmps19 rfl ?_; intro w0)
  repeat (refine s19_L10c ?_; intros)
  (first | refine JC.newRow 3 1 ?_ | refine JO.newRow 3 1 ?_ | refine JX.newRow 3 1 ?_)
  refine JC.loopF (σ := Nat × Option Addr × Nat × List Value) [(1, _), (2, _), (3, _), (10, _)] (fun q => [(6, .slice q.2.1 ((fun k => waysK s p pod k) q.1).length q.2.2.1), (11, ((fun k => .int .i64 k) q.1))]) (fun q => [.row w0.heap.size 3 (Rp.sz rI64) (.slice q.2.1 ((fun k => waysK s p pod k) q.1).length q.2.2.1) ((fun k => waysK s p pod k) q.1).length (flatCells q.2.2.2)]) (fun Sk q => q.1 ≤ s.nodes.length ∧ allV rI64 Sk q.2.2.2 ((fun k => waysK s p pod k) q.1) ∧ ((fun k => True) q.1)) (fun q => s.nodes.length - q.1) (0, none, 0, []) (by exact sba) (by exact sba) (by first | rfl | simp) (⟨Nat.zero_le _, trivial, trivial⟩) ?_; rintro Sk ⟨k, rak, rck, vsk⟩ hlk ⟨hk, hvk, hik⟩; (try dsimp only at hk hvk hik); dsimp only [List.cons_append, List.nil_append]
  have hfl := waysK_len s p pod k
  repeat (refine s19_L10c ?_; intros)
  refine JC.cond rfl (fun hc => ?_) (fun hc => ?_)
  · have hk' := dlt hc
    have hst := waysK_step s p pod k
    have hxv : rStep.V Sk (.agg (flatCells [.int .i64 2, .int .i64 pod, .int .i64 k]).toArray) ⟨2, pod, k⟩ := V_step.2 ⟨by simp [flatCells, Value.cells], by simp [Rng], hpr, by unfold Rng; dsimp only; omega⟩
    repeat (refine s19_L10c ?_; intros)
    refine JC.cond rfl (fun hf => ?_) (fun hf => ?_)
    · rw [hf, if_pos rfl] at hst
      repeat (refine s19_L10c ?_; intros)
      (refine JO.eff rfl rfl rfl (JEff.build (rep := rI64) (ys := [(k : Int)]) rfl rfl ⟨⟨(V_i64.2 ⟨rfl, by unfold Rng; omega⟩), nna⟩, trivial⟩ rfl rfl rfl rfl ?_); intro bb hbb hvv); (repeat (first | (refine Walk ?_; intros) | refine JC.block ?_)); (refine JO.eff rfl rfl rfl (JEff.appendL (rep := rI64) rfl rfl rfl rfl (List.Perm.swap _ _ _) (by exact hvv.flat) (by intro c hc; exact flat_one (fun v hv => (hvv.size v hv).2) c hc) (by first | omega | (unfold big; omega)) (by unfold big; omega) (by first | exact rowT_ok | (intro l hl; cases hl)) rfl ?_); intro a2 c2; clear hvv hbb)
      repeat (refine s19_L10c ?_; intros)
      exact JX.roundF (k + 1, a2, c2, vsk ++ [(.int .i64 k)]) (by exact lea) ⟨by omega, by (try dsimp only); rw [hst]; exact allV_add (by exact lea) hvk (V_i64.2 ⟨rfl, by unfold Rng; omega⟩) nna, (trivial)⟩ (by (try dsimp only); omega) (by (try dsimp only); rw [hst]; (simp [flat_append] <;> omega)) (by (try dsimp only); rw [hst]; simp only [List.length_append, List.length_cons, List.length_nil]; exact sba) (by exact sba)
    · rw [hf, if_neg (by simp), List.append_nil] at hst
      repeat (refine s19_L10c ?_; intros)
      exact JX.roundF (k + 1, rak, rck, vsk) (by exact lea) ⟨by omega, by (try dsimp only); rw [hst]; exact hvk.mono (by exact lea), (trivial)⟩ (by (try dsimp only); omega) (by (try dsimp only); rw [hst]) (by (try dsimp only); rw [hst]; exact sba) (by exact sba)
  · have hk' := dnlt hc
    obtain rfl : k = s.nodes.length := by omega
    repeat (refine s19_L10c ?_; intros)
    refine JX.freezeRow (rep := rI64) (bt := 8) hvk rfl (by unfold big; omega) (by unfold big; omega) (fun S9 hl9 hV9 => ?_)
    (refine JX.ret1 Tryz.results19 (ResV.tmp rfl) (List.nil_sublist _) ?_)
    exact ⟨rfl, hV9⟩
def OwnNow (E : TypeId) (S0 : SHeap) (n0 : Nat) (S : SHeap) (a : Option Addr) (c : Nat) (Q : List Int) : Prop :=
  Q = [] ∨ ∃ b tl, a = some ⟨b, 0, none⟩ ∧ Q.length ≤ c ∧ S0 b = none ∧ n0 ≤ b ∧ S b = some (.cells (intsT Q tl) E (0, 0))
def RunAns (E : TypeId) (xs : List Int) (n e : Int) (w : Value) (S' : SHeap) (M' : List MEnt) : Prop :=
  ∃ a c, w = .tuple #[.slice a xs.length c, .int .i64 n, .int .i64 e] ∧ (xs.length ≤ c ∧ xs.length * 8 ≤ big ∧ ∀ z ∈ xs, Rng z) ∧ ((xs = [] ∧ M' = []) ∨ ∃ b tl, a = some ⟨b, 0, none⟩ ∧ M' = [.blk b (.cells (intsT xs tl) E (0, 0))])
theorem cap_of {S : SHeap} {a : Option Addr} {n c : Nat} {xs : List Int} (h : (rSlice 8 rI64).V S (.slice a n c) xs) : n = xs.length ∧ xs.length ≤ c ∧ xs.length * 8 ≤ big ∧ ∀ z ∈ xs, Rng z := by
  have hr : ∀ z ∈ xs, Rng z := fun z hz => by
    obtain ⟨q, cs, h, _⟩ := slice_at h z hz
    exact h.2
  obtain ⟨a', c', h1, h2, h3, _⟩ := V_slice.1 h
  cases h1
  exact ⟨rfl, h2, h3, hr⟩
theorem s15_L10c {P K : Prop} (k : K) (h : Goal K → P := by
  intro zk
  (first | refine Walk ?_ | refine JC.block ?_ | (refine JO.eff rfl rfl rfl (JEff.callV rfl (p7_Check (by exact vta) (by exact vta)) rfl ?_); intro zqa zqb) | (refine JO.eff rfl rfl rfl (JEff.callRow rfl (p_Clone_int (by exact vta)) rfl ?_); intro zqa zqb zqc zqd zqe zqf) | (refine WBox ?_) | (refine WNew ?_) | (refine WPut ?_))
  (repeat (first | revert zqg | revert zqf | revert zqe | revert zqd | revert zqc | revert zqb | revert zqa))
  exact zk.k) : P := h ⟨k⟩
theorem p10_Run {S : SHeap} {u v lv : Value} {s : Snap} {p : List Int} {l : List Step} (hu : rSnap.V S u s) (hv : (rSlice 8 rI64).V S v p) (hl : (rSlice 24 rStep).V S lv l) :
    Fn Tryz.prog 15 #[u, v, lv] S [] (RunAns 3 (runV s p l).1 (runV s p l).2.1 (runV s p l).2.2) := by
  have hv0 := hv
  obtain ⟨a, c, rfl, _, hb8, hb, hpr⟩ := V_slice.1 hv
  obtain ⟨a1, c1, rfl, _, _, hb1, _⟩ := V_slice.1 hl
  unfold big at hb8 hb hb1
  (refine Fn.enter (args := [u, .slice a p.length c, .slice a1 l.length c1]) Tryz.func15 rfl Tryz.ntmps15 rfl ?_; intro w0)
  repeat (refine s15_L10c ?_; intros)
  refine JC.cond rfl (fun he => ?_) (fun he => ?_)
  · have he : ¬ checkP s p = 0 := by simpa using he
    repeat (refine s15_L10c ?_; intros)
    refine JX.ret3 Tryz.results15 (ResV.tmp rfl) (ResV.tmp rfl) (ResV.tmp rfl) (List.nil_sublist _) ?_
    rw [runV, if_pos he]
    exact ⟨_, _, rfl, ⟨Nat.le_refl _, by simp, by simp⟩, .inl ⟨rfl, rfl⟩⟩
  have he : ¬ ¬ checkP s p = 0 := by simpa using he
  rw [runV, if_neg he]
  have hok : checkP s p = 0 := Classical.not_not.1 he
  obtain ⟨_, _, _, _, _, _, hqr⟩ := placed_hyps hok
  repeat (refine s15_L10c ?_; intros)
  rename_i a2 c2 S3 us hl3 hus
  by_cases hp0 : p = []
  · refine JC.freezeRow (rep := rI64) (bt := 8) (xs := p) hus rfl (by unfold big; omega) (by unfold big; omega) (fun S9 hl9 hV9 => ?_)
    have hOwn : OwnNow 3 S w0.heap.size S9 a2 c2 p := .inl hp0
    repeat (refine s15_L10c ?_; intros)
    refine JC.loopF0 (σ := Nat × Option Addr × Nat × List Int) [(2, _), (3, _), (23, _), (24, _)] (fun q => [(6, .slice q.2.1 q.2.2.2.length q.2.2.1), (25, .int .i64 q.1)]) (fun Si q => q.1 ≤ l.length ∧ (rSlice 8 rI64).V Si (.slice q.2.1 q.2.2.2.length q.2.2.1) q.2.2.2 ∧ OwnNow 3 S w0.heap.size Si q.2.1 q.2.2.1 q.2.2.2 ∧ runGo s q.2.2.2 q.1 (l.drop q.1) = runGo s p 0 l) (fun q => l.length - q.1) ((0, a2, c2, p)) (by exact sba) (by exact sba) (⟨Nat.zero_le _, hV9, hOwn, rfl⟩) ?_; rintro Si ⟨i, ra, rc, Q⟩ hli hii; (try dsimp only at hii); dsimp only [List.cons_append, List.nil_append]
    obtain ⟨hi, hV, hO, hgo⟩ := hii
    try dsimp only at hi hV hO hgo
    repeat (refine s15_L10c ?_; intros)
    refine JC.cond rfl (fun hc => ?_) (fun hc => ?_)
    · have hi' := dlt hc
      obtain ⟨x, hx, hd⟩ := drop_at hi'
      rw [hd, runGo] at hgo
      repeat (refine s15_L10c ?_; intros)
      refine JO.eff rfl rfl rfl (JEff.callM (Mc := []) rfl (List.Perm.refl _) (mayAll rfl) (p10_Step (s := s) (p := Q) (x := x) (by exact vta) (by exact vta) (by exact vta)) rfl ?_); intro w S2 M2 hl2 hw
      rcases hw with ⟨cc, e, he2, hcr, hst, rfl, rfl⟩ | ⟨q, b, tl, cap, hst, hqr2, hql, rfl, hqc, rfl⟩
      · dsimp only [List.nil_append]
        have hVc := V_clV (S := S2) hcr
        rw [hst, if_pos he2] at hgo
        repeat (refine s15_L10c ?_; intros)
        refine JC.cond rfl (fun hf => ?_) (fun hf => ?_)
        · repeat (refine s15_L10c ?_; intros)
          refine JX.ret3 Tryz.results15 (ResV.tmp rfl) (ResV.tmp rfl) (ResV.tmp rfl) (List.nil_sublist _) ?_
          rw [← hgo]
          exact ⟨_, _, rfl, ⟨Nat.le_refl _, by simp, by simp⟩, .inl ⟨rfl, rfl⟩⟩
        · exact absurd (by simpa using hf) he2
      · dsimp only [List.cons_append, List.nil_append]
        rw [hst, if_neg (by simp)] at hgo
        have hVc := V_clV (S := S2) noC_rng
        refine JO.blkNew rfl (fun hb0 hbb => ?_)
        refine JO.freeze hbb (by intro l hl; cases hl) (fun S4 hl4 hS4 => ?_)
        obtain ⟨_, _, _, _, hQ8, _⟩ := V_slice.1 hV
        have hVq := blk_slice (SHeap.le.refl S4) hS4 rfl hqc (by rw [hql]; exact hQ8) hqr2
        repeat (refine s15_L10c ?_; intros)
        exact JX.roundF ((i + 1, some ⟨b, 0, none⟩, cap, q)) (by exact lea) (⟨by omega, hVq.mono (by exact lea), .inr ⟨b, tl, rfl, hqc, hb0, hbb, (by exact lea : SHeap.le S4 _) _ _ hS4⟩, by rw [← hgo]; rfl⟩) (by (try dsimp only); omega) rfl (by exact sba) (by exact sba)
    · have hi' := dnlt hc
      rw [List.drop_eq_nil_of_le hi', runGo] at hgo
      obtain rfl : i = l.length := by omega
      repeat (refine s15_L10c ?_; intros)
      rw [← hgo]
      rcases hO with h | ⟨b, tl, rfl, hqc, hb0, hbb, hSb⟩
      · refine JX.ret3 Tryz.results15 (ResV.tmp rfl) (ResV.tmp rfl) (ResV.tmp rfl) (List.Sublist.refl _) ?_
        exact ⟨_, _, rfl, (cap_of hV).2, .inl ⟨h, rfl⟩⟩
      · refine JX.thaw hb0 hbb hSb ?_
        refine JX.ret3 Tryz.results15 (ResV.tmp rfl) (ResV.tmp rfl) (ResV.tmp rfl) (List.Sublist.refl _) ?_
        exact ⟨_, _, rfl, (cap_of hV).2, .inr ⟨b, tl, rfl, rfl⟩⟩
  · have hp1 : 0 < p.length := List.length_pos_iff.2 hp0
    rw [flat_int hus]
    refine JC.rowBlk hp1 (fun b tl hab hbb hnc => ?_)
    subst hab
    refine JC.blkNew rfl (fun hb0 hbb => ?_)
    refine JC.freeze hbb (fun S9 hl9 hS9 => ?_)
    have hV9 := blk_slice (SHeap.le.refl S9) hS9 rfl hnc (by unfold big; omega) hqr
    generalize ha2 : (some (⟨b, 0, none⟩ : Addr)) = a2 at *
    have hOwn : OwnNow 3 S w0.heap.size S9 a2 c2 p := .inr ⟨b, tl, ha2.symm, hnc, hb0, hbb, hS9⟩
    repeat (refine s15_L10c ?_; intros)
    refine JC.loopF0 (σ := Nat × Option Addr × Nat × List Int) [(2, _), (3, _), (23, _), (24, _)] (fun q => [(6, .slice q.2.1 q.2.2.2.length q.2.2.1), (25, .int .i64 q.1)]) (fun Si q => q.1 ≤ l.length ∧ (rSlice 8 rI64).V Si (.slice q.2.1 q.2.2.2.length q.2.2.1) q.2.2.2 ∧ OwnNow 3 S w0.heap.size Si q.2.1 q.2.2.1 q.2.2.2 ∧ runGo s q.2.2.2 q.1 (l.drop q.1) = runGo s p 0 l) (fun q => l.length - q.1) ((0, a2, c2, p)) (by exact sba) (by exact sba) (⟨Nat.zero_le _, hV9, hOwn, rfl⟩) ?_; rintro Si ⟨i, ra, rc, Q⟩ hli hii; (try dsimp only at hii); dsimp only [List.cons_append, List.nil_append]
    obtain ⟨hi, hV, hO, hgo⟩ := hii
    try dsimp only at hi hV hO hgo
    repeat (refine s15_L10c ?_; intros)
    refine JC.cond rfl (fun hc => ?_) (fun hc => ?_)
    · have hi' := dlt hc
      obtain ⟨x, hx, hd⟩ := drop_at hi'
      rw [hd, runGo] at hgo
      repeat (refine s15_L10c ?_; intros)
      refine JO.eff rfl rfl rfl (JEff.callM (Mc := []) rfl (List.Perm.refl _) (mayAll rfl) (p10_Step (s := s) (p := Q) (x := x) (by exact vta) (by exact vta) (by exact vta)) rfl ?_); intro w S2 M2 hl2 hw
      rcases hw with ⟨cc, e, he2, hcr, hst, rfl, rfl⟩ | ⟨q, b, tl, cap, hst, hqr2, hql, rfl, hqc, rfl⟩
      · dsimp only [List.nil_append]
        have hVc := V_clV (S := S2) hcr
        rw [hst, if_pos he2] at hgo
        repeat (refine s15_L10c ?_; intros)
        refine JC.cond rfl (fun hf => ?_) (fun hf => ?_)
        · repeat (refine s15_L10c ?_; intros)
          refine JX.ret3 Tryz.results15 (ResV.tmp rfl) (ResV.tmp rfl) (ResV.tmp rfl) (List.nil_sublist _) ?_
          rw [← hgo]
          exact ⟨_, _, rfl, ⟨Nat.le_refl _, by simp, by simp⟩, .inl ⟨rfl, rfl⟩⟩
        · exact absurd (by simpa using hf) he2
      · dsimp only [List.cons_append, List.nil_append]
        rw [hst, if_neg (by simp)] at hgo
        have hVc := V_clV (S := S2) noC_rng
        refine JO.blkNew rfl (fun hb0 hbb => ?_)
        refine JO.freeze hbb (by intro l hl; cases hl) (fun S4 hl4 hS4 => ?_)
        obtain ⟨_, _, _, _, hQ8, _⟩ := V_slice.1 hV
        have hVq := blk_slice (SHeap.le.refl S4) hS4 rfl hqc (by rw [hql]; exact hQ8) hqr2
        repeat (refine s15_L10c ?_; intros)
        exact JX.roundF ((i + 1, some ⟨b, 0, none⟩, cap, q)) (by exact lea) (⟨by omega, hVq.mono (by exact lea), .inr ⟨b, tl, rfl, hqc, hb0, hbb, (by exact lea : SHeap.le S4 _) _ _ hS4⟩, by rw [← hgo]; rfl⟩) (by (try dsimp only); omega) rfl (by exact sba) (by exact sba)
    · have hi' := dnlt hc
      rw [List.drop_eq_nil_of_le hi', runGo] at hgo
      obtain rfl : i = l.length := by omega
      repeat (refine s15_L10c ?_; intros)
      rw [← hgo]
      rcases hO with h | ⟨b, tl, rfl, hqc, hb0, hbb, hSb⟩
      · refine JX.ret3 Tryz.results15 (ResV.tmp rfl) (ResV.tmp rfl) (ResV.tmp rfl) (List.Sublist.refl _) ?_
        exact ⟨_, _, rfl, (cap_of hV).2, .inl ⟨h, rfl⟩⟩
      · refine JX.thaw hb0 hbb hSb ?_
        refine JX.ret3 Tryz.results15 (ResV.tmp rfl) (ResV.tmp rfl) (ResV.tmp rfl) (List.Sublist.refl _) ?_
        exact ⟨_, _, rfl, (cap_of hV).2, .inr ⟨b, tl, rfl, rfl⟩⟩
end Go.Dr
namespace Go.Dr
open Go.Proofs
set_option maxRecDepth 20000
set_option maxHeartbeats 2000000
set_option linter.unusedSimpArgs false
set_option linter.unusedVariables false
theorem V_cl {S : SHeap} {a b c d : Int} (h : Rng a ∧ Rng b ∧ Rng c ∧ Rng d := by simp [Rng]) : rClause.V S (.agg (flatCells [.int .i64 a, .int .i64 b, .int .i64 c, .int .i64 d]).toArray) ⟨a, b, c, d⟩ := V_clause.2 ⟨by simp [flatCells, Value.cells], h⟩
theorem V_num {S : SHeap} {a : Int} (h : Rng a := by simp [Rng]) : rI64.V S (.int .i64 a) a := V_i64.2 ⟨rfl, h⟩
end Go.Dr
namespace Go.Dr
open Go.Proofs
set_option maxRecDepth 20000
set_option maxHeartbeats 2000000
set_option linter.unusedSimpArgs false
set_option linter.unusedVariables false
theorem w_EqInts {S : SHeap} {u v : Value} {xs : List Int} (hu : (rSlice 8 rI64).V S u xs) (hv : (rSlice 8 rI64).V S v xs) : FnV Tryz.prog 17 #[u, v] S (.bool true) := by
  have h := r0_EqInts hu hv
  rw [decide_eq_true rfl] at h; exact h
end Go.Dr
namespace Go.Dr
open Go.Proofs
set_option maxRecDepth 20000
set_option maxHeartbeats 2000000
set_option linter.unusedSimpArgs false
set_option linter.unusedVariables false
def chap10 : Snap := chapM 1
theorem q10_chapter {S : SHeap} : FnR Tryz.prog 11 #[] S (fun w S' => rSnap.V S' w chap10) := by
  haveI : TyR Tryz.prog 23 rVal := ⟨(inferInstance : TyR Tryz.prog 23 (rSlice 240 rPod)).b⟩
  have hmr : Rng 1 := by simp [Rng]
  (refine Fn.enter (args := []) Tryz.func11 rfl Tryz.ntmps11 rfl ?_; intro w0)
  repeat (first | (refine Walk ?_; intros) | refine JC.block ?_)
  (refine JO.eff rfl rfl rfl (JEff.alloc rfl ?_); intro rb hrb)
  repeat (first | (refine Walk ?_; intros) | refine JC.block ?_)
  (refine JO.eff rfl rfl rfl (JEff.alloc rfl ?_); intro vb hvb)
  repeat (first | (refine Walk ?_; intros) | refine JC.block ?_)
  refine JO.eff rfl rfl rfl (JEff.storeW rfl rfl V_vec15 nna (List.Perm.refl _) rfl (by intro l hl; cases hl) ?_)
  refine JO.freezeV V_vec15 nna hvb (by intro l hl; cases hl) ?_; intro S1 hl1 hpv
  repeat (first | (refine Walk ?_; intros) | refine JC.block ?_)
  obtain ⟨rfl, _, _⟩ := V_arr.1 (by assumption : (rArr 5).V _ _ [15, 0, 0, 0, 0])
  (refine JO.eff rfl rfl rfl (JEff.buildS (bt := 32) (rep := rLabel) (ys := [(⟨zoneS, ⟨#[120]⟩⟩ : Label)]) rfl rfl (⟨⟨V_lab (by decide) (by decide), nna⟩, trivial⟩) rfl rfl rfl (by decide) rfl ?_); intro S2 a2 hl2 hV2)
  repeat (first | (refine Walk ?_; intros) | refine JC.block ?_)
  obtain ⟨rfl, _, _⟩ := V_arr.1 (by assumption : (rArr 5).V _ _ [15, 0, 0, 0, 0])
  (refine JO.eff rfl rfl rfl (JEff.buildS (bt := 32) (rep := rLabel) (ys := [(⟨zoneS, ⟨#[121]⟩⟩ : Label)]) rfl rfl (⟨⟨V_lab (by decide) (by decide), nna⟩, trivial⟩) rfl rfl rfl (by decide) rfl ?_); intro S3 a3 hl3 hV3)
  repeat (first | (refine Walk ?_; intros) | refine JC.block ?_)
  obtain ⟨rfl, _, _⟩ := V_arr.1 (by assumption : (rArr 5).V _ _ [15, 0, 0, 0, 0])
  (refine JO.eff rfl rfl rfl (JEff.buildS (bt := 112) (rep := rNode) (ys := nodes8) rfl rfl ⟨⟨V_node8 (hV2.mono hl3), nna⟩, ⟨V_node8 hV3, nna⟩, ⟨V_node8 V_nil, nna⟩, trivial⟩ rfl rfl rfl (by decide) rfl ?_); intro S4 a4 hl4 hV4)
  repeat (first | (refine Walk ?_; intros) | refine JC.block ?_)
  (refine JO.eff rfl rfl rfl (JEff.buildS (bt := 56) (rep := rOwner) (ys := [(⟨⟨#[111]⟩, 1, zoneS, 1, false⟩ : Owner)]) rfl rfl (⟨⟨V_owner8 hmr, nna⟩, trivial⟩) rfl rfl rfl (by decide) rfl ?_); intro S5 a5 hl5 hV5)
  repeat (first | (refine Walk ?_; intros) | refine JC.block ?_)
  (refine JO.eff rfl rfl rfl (JEff.alloc rfl ?_); intro sb hsb)
  repeat (first | (refine Walk ?_; intros) | refine JC.block ?_)
  refine JO.eff rfl rfl rfl (JEff.storeW rfl rfl (V_snap (x := ⟨nodes8, [], [⟨⟨#[111]⟩, 1, zoneS, 1, false⟩]⟩) (hV4.mono (by exact lea)) V_nil (hV5.mono (by exact lea))) nna (List.Perm.refl _) rfl (by intro l hl; cases hl) ?_)
  repeat (first | (refine Walk ?_; intros) | refine JC.block ?_)
  refine JC.newRow 79 (Rp.sz rPod) ?_
  refine JC.loopF (σ := Nat × Option Addr × Nat × List Value) [(0, _), (2, _)] (fun q => [(3, .int .i64 q.1)])
    (fun q => [.row w0.heap.size 79 (Rp.sz rPod) (.slice q.2.1 q.1 q.2.2.1) q.1 (flatCells q.2.2.2), .blk sb (.cells #[.slice a4 3 3, .slice q.2.1 q.1 q.2.2.1, .slice a5 1 1] 26 (0, 0)), .blk rb (.cells #[.slice none 0 0, .slice none 0 0, .slice none 0 0] 26 (0, 0))])
    (fun Sk q => q.1 ≤ 3 ∧ allV rPod Sk q.2.2.2 (pods8.take q.1)) (fun q => 3 - q.1) (0, none, 0, []) (by exact sba) (by exact sba) (by rfl) ⟨Nat.zero_le _, trivial⟩ ?_
  rintro Sk ⟨k, ra, rc, vs⟩ hlk ⟨hk, hv1⟩
  dsimp only at hk hv1
  dsimp only [List.cons_append, List.nil_append]
  repeat (first | (refine Walk ?_; intros) | refine JC.block ?_)
  refine JC.cond rfl (fun hc => ?_) (fun hc => ?_)
  · have hk' : k < 3 := by have := of_decide_eq_true hc; omega
    obtain ⟨x, hx⟩ : ∃ x, ([112, 113, 114] : List UInt8)[k]? = some x := ⟨_, List.getElem?_eq_getElem (by simpa using hk')⟩
    have hst : pods8.take (k + 1) = pods8.take k ++ [pod8 x] := by
      match k with
      | 0 => cases hx; rfl
      | 1 => cases hx; rfl
      | 2 => cases hx; rfl
      | k + 3 => omega
    have hP := fun S => V_pod8 (S := S) (pqr_at hx)
    have hvl := hv1.length
    have hpl : (pods8.take k).length = k := by rw [List.length_take]; show min k 3 = k; omega
    rw [hpl] at hvl
    repeat (first | (refine Walk ?_; intros) | refine JC.block ?_)
    refine JC.drawTreeF 6 rfl [10] [1] [0, 2, 3, 4, 5, 6, 7] (.alt (ofL [1, 8, 9, 10, 11] .nil) (ofL [8, 1, 9, 10, 11] .nil)) Tryz_mixed (by decide +kernel) ?_
    refine JO.pure rfl rfl rfl (JPure.fieldP rfl rfl ?_)
    repeat (first | (refine Walk ?_; intros) | refine JC.block ?_)
    refine JO.pure rfl rfl rfl (JPure.sliceT rfl rfl rfl rfl (by omega) (by omega) (by show (k : Int) + 1 ≤ 3; omega) ?_)
    repeat (first | (refine Walk ?_; intros) | refine JC.block ?_)
    refine JO.alt ?_ ?_
    · refine JO.eff rfl rfl rfl (JEff.loadE (rVal) (x0 := .slice ra k rc) rfl (by (first | exact List.mem_cons_self | exact List.mem_cons_of_mem _ List.mem_cons_self | exact List.mem_cons_of_mem _ (List.mem_cons_of_mem _ List.mem_cons_self))) rfl ⟨rfl, rfl⟩ inferInstance rfl ?_)
      repeat (first | (refine Walk ?_; intros) | refine JC.block ?_)
      (refine JO.eff rfl rfl rfl (JEff.build (rep := rPod) (ys := [pod8 x]) rfl rfl ⟨⟨hP _, nna⟩, trivial⟩ rfl rfl rfl rfl ?_); intro bb hbb hvv)
      repeat (first | (refine Walk ?_; intros) | refine JC.block ?_)
      (refine JO.eff rfl rfl rfl (JEff.appendL (rep := rPod) rfl rfl rfl rfl (List.Perm.swap _ _ _) (by exact hvv.flat) (by intro c hc; exact flat_one (fun v hv => (hvv.size v hv).2) c hc) (by unfold big; omega) (by unfold big; omega) (by first | exact rowT_ok | (intro l hl; cases hl)) rfl ?_); intro a2 c2; clear hvv hbb)
      repeat (first | (refine Walk ?_; intros) | refine JC.block ?_)
      refine JO.pure rfl rfl rfl (JPure.fieldP rfl rfl ?_)
      refine JO.eff rfl rfl rfl (JEff.store (rep := rVal) (x0 := .slice a2 (k + 1) c2) rfl rfl (V_val.2 ⟨rfl, rfl⟩) nna (List.Perm.swap _ _ _) (by simp [rVal]) (by intro l hl; cases hl) ?_)
      repeat (first | (refine Walk ?_; intros) | refine JC.block ?_)
      refine JX.perm (M' := [_, _, _]) (List.Perm.trans (List.Perm.swap _ _ _) (List.Perm.refl _)) ?_
      exact JX.roundF (k + 1, a2, c2, vs ++ [_]) (by exact lea) ⟨by dsimp only; omega, by (try dsimp only); rw [hst]; exact allV_add (by exact lea) hv1 (hP _) nna⟩ (by (try dsimp only); omega) (by simp [flat_append]; rfl) (by exact sba) (by exact sba)
    · (refine JO.eff rfl rfl rfl (JEff.build (rep := rPod) (ys := [pod8 x]) rfl rfl ⟨⟨hP _, nna⟩, trivial⟩ rfl rfl rfl rfl ?_); intro bb hbb hvv)
      repeat (first | (refine Walk ?_; intros) | refine JC.block ?_)
      refine JO.eff rfl rfl rfl (JEff.loadE (rVal) (x0 := .slice ra k rc) rfl (by (first | exact List.mem_cons_self | exact List.mem_cons_of_mem _ List.mem_cons_self | exact List.mem_cons_of_mem _ (List.mem_cons_of_mem _ List.mem_cons_self))) rfl ⟨rfl, rfl⟩ inferInstance rfl ?_)
      repeat (first | (refine Walk ?_; intros) | refine JC.block ?_)
      (refine JO.eff rfl rfl rfl (JEff.appendL (rep := rPod) rfl rfl rfl rfl (List.Perm.swap _ _ _) (by exact hvv.flat) (by intro c hc; exact flat_one (fun v hv => (hvv.size v hv).2) c hc) (by unfold big; omega) (by unfold big; omega) (by first | exact rowT_ok | (intro l hl; cases hl)) rfl ?_); intro a2 c2; clear hvv hbb)
      repeat (first | (refine Walk ?_; intros) | refine JC.block ?_)
      refine JO.pure rfl rfl rfl (JPure.fieldP rfl rfl ?_)
      refine JO.eff rfl rfl rfl (JEff.store (rep := rVal) (x0 := .slice a2 (k + 1) c2) rfl rfl (V_val.2 ⟨rfl, rfl⟩) nna (List.Perm.swap _ _ _) (by simp [rVal]) (by intro l hl; cases hl) ?_)
      repeat (first | (refine Walk ?_; intros) | refine JC.block ?_)
      refine JX.perm (M' := [_, _, _]) (List.Perm.trans (List.Perm.swap _ _ _) (List.Perm.refl _)) ?_
      exact JX.roundF (k + 1, a2, c2, vs ++ [_]) (by exact lea) ⟨by dsimp only; omega, by (try dsimp only); rw [hst]; exact allV_add (by exact lea) hv1 (hP _) nna⟩ (by (try dsimp only); omega) (by simp [flat_append]; rfl) (by exact sba) (by exact sba)
  · obtain rfl : k = 3 := by have := of_decide_eq_false hc; omega
    refine JC.freezeRow (rep := rPod) (bt := 240) (xs := pods8) hv1 rfl (by decide) (by decide) (fun S9 hl9 hV9 => ?_)
    refine JC.freeze hsb (fun S10 hl10 hS10 => ?_)
    have hfin : PtrTo S10 ⟨sb, 0, none⟩ rSnap (chapM 1) :=
      cells_ptr (v := .agg #[.slice a4 3 3, .slice ra 3 rc, .slice a5 1 1]) hS10 (map_R (seq1 ((hV4.mono (by exact lea)).one rfl) (seq1 ((hV9.mono (by exact lea)).one rfl) ((hV5.mono (by exact lea)).one rfl))))
    repeat (first | (refine Walk ?_; intros) | refine JC.block ?_)
    refine JO.eff rfl rfl rfl (JEff.storeW rfl rfl (by assumption : rSnap.V _ _ (chapM 1)) nna (List.Perm.refl _) rfl (by intro l hl; cases hl) ?_)
    refine JO.freezeV (by assumption : rSnap.V _ _ (chapM 1)) nna hrb (by intro l hl; cases hl) ?_; intro S11 hl11 hpo
    repeat (first | (refine Walk ?_; intros) | refine JC.block ?_)
    exact JX.retCell Tryz.results11 rfl hpo (List.nil_sublist _) (fun w hw => ⟨rfl, hw⟩)
def stV (x : Step) : Value := .agg #[.int .i64 x.kind, .int .i64 x.pod, .int .i64 x.node]
theorem V_stV {S : SHeap} {x : Step} (h : Rng x.kind ∧ Rng x.pod ∧ Rng x.node) : rStep.V S (stV x) x := V_step.2 ⟨rfl, h⟩
theorem q10_off {S : SHeap} (pod : Int) (h : Rng pod) : FnV Tryz.prog 14 #[.int .i64 pod] S (stV ⟨1, pod, 0⟩) := by
  (refine Fn.enter (args := [.int .i64 pod]) Tryz.func14 rfl Tryz.ntmps14 rfl ?_; intro w0)
  repeat (first | (refine Walk ?_; intros) | refine JC.block ?_)
  (refine JO.eff rfl rfl rfl (JEff.alloc rfl ?_); intro cb hcb)
  repeat (first | (refine Walk ?_; intros) | refine JC.block ?_)
  have hV : ∀ S, rStep.V S (.agg (flatCells [.int .i64 1, .int .i64 pod, .int .i64 0]).toArray) ⟨1, pod, 0⟩ := fun S => V_step.2 ⟨by simp [flatCells, Value.cells], by unfold Rng; dsimp only; omega, h, by unfold Rng; dsimp only; omega⟩
  refine JO.eff rfl rfl rfl (JEff.storeW rfl rfl (hV _) nna (List.Perm.refl _) rfl (by intro l hl; cases hl) ?_)
  refine JO.freezeV (hV _) nna hcb (by intro l hl; cases hl) ?_; intro S2 hl2 hpo
  repeat (first | (refine Walk ?_; intros) | refine JC.block ?_)
  exact JX.retCell Tryz.results14 rfl hpo (List.nil_sublist _) (fun w hw => ⟨rfl, by obtain ⟨rfl, _⟩ := V_step.1 hw; rfl⟩)
theorem q10_on {S : SHeap} (pod node : Int) (h : Rng pod) (h2 : Rng node) : FnV Tryz.prog 13 #[.int .i64 pod, .int .i64 node] S (stV ⟨2, pod, node⟩) := by
  (refine Fn.enter (args := [.int .i64 pod, .int .i64 node]) Tryz.func13 rfl Tryz.ntmps13 rfl ?_; intro w0)
  repeat (first | (refine Walk ?_; intros) | refine JC.block ?_)
  (refine JO.eff rfl rfl rfl (JEff.alloc rfl ?_); intro cb hcb)
  repeat (first | (refine Walk ?_; intros) | refine JC.block ?_)
  have hV : ∀ S, rStep.V S (.agg (flatCells [.int .i64 2, .int .i64 pod, .int .i64 node]).toArray) ⟨2, pod, node⟩ := fun S => V_step.2 ⟨by simp [flatCells, Value.cells], by unfold Rng; dsimp only; omega, h, h2⟩
  refine JO.eff rfl rfl rfl (JEff.storeW rfl rfl (hV _) nna (List.Perm.refl _) rfl (by intro l hl; cases hl) ?_)
  refine JO.freezeV (hV _) nna hcb (by intro l hl; cases hl) ?_; intro S2 hl2 hpo
  repeat (first | (refine Walk ?_; intros) | refine JC.block ?_)
  exact JX.retCell Tryz.results13 rfl hpo (List.nil_sublist _) (fun w hw => ⟨rfl, by obtain ⟨rfl, _⟩ := V_step.1 hw; rfl⟩)
end Go.Dr
namespace Go.Dr
open Go.Proofs
set_option maxRecDepth 20000
set_option maxHeartbeats 2000000
set_option linter.unusedSimpArgs false
set_option linter.unusedVariables false
theorem p10_StepS {S : SHeap} {u v xv : Value} {s : Snap} {p : List Int} {x : Step} (hu : rSnap.V S u s) (hv : (rSlice 8 rI64).V S v p) (hx : rStep.V S xv x) : FnSt Tryz.prog 12 #[u, v, xv] S (stepV s p x).1 (stepV s p x).2.1 (.int .i64 (stepV s p x).2.2) := by
  obtain ⟨_, _, _, _, hQ8, _⟩ := V_slice.1 hv
  refine Fn.frozen (p10_Step hu hv hx) fun w S' M' hw => ?_
  rcases hw with ⟨c, e, he, hcr, hst, rfl, rfl⟩ | ⟨q, b, tl, cap, hst, hqr, hql, rfl, hqc, rfl⟩
  · rw [hst]
    exact .inl ⟨rfl, _, rfl, V_nil, V_clV hcr⟩
  · rw [hst]
    exact .inr ⟨b, _, rfl, fun S'' hl hS => ⟨_, rfl, blk_slice hl hS rfl hqc (by rw [hql]; exact hQ8) hqr, V_clV noC_rng⟩⟩
theorem w10_Step {S : SHeap} {u v xv : Value} {s : Snap} {p q : List Int} {c : Clause} {e : Int} {x : Step} (h : stepV s p x = (q, c, e)) (hu : rSnap.V S u s) (hv : (rSlice 8 rI64).V S v p) (hx : rStep.V S xv x) : FnSt Tryz.prog 12 #[u, v, xv] S q c (.int .i64 e) := by
  have hh := p10_StepS hu hv hx
  rw [h] at hh; exact hh
theorem p10_RunS {S : SHeap} {u v lv : Value} {s : Snap} {p : List Int} {l : List Step} (hu : rSnap.V S u s) (hv : (rSlice 8 rI64).V S v p) (hl : (rSlice 24 rStep).V S lv l) :
    FnLs Tryz.prog 15 #[u, v, lv] S 8 rI64 (runV s p l).1 [.int .i64 (runV s p l).2.1, .int .i64 (runV s p l).2.2] := by
  refine Fn.frozen (p10_Run hu hv hl) fun w S' M' hw => ?_
  obtain ⟨a, c, rfl, ⟨h1, h2, h3⟩, ⟨he, rfl⟩ | ⟨b, tl, rfl, rfl⟩⟩ := hw
  · rw [he]
    exact .inl ⟨rfl, _, rfl, V_slice.2 ⟨_, _, rfl, by simp, by simp, by simp, by simp⟩⟩
  · exact .inr ⟨b, _, rfl, fun S'' hl hS => ⟨_, rfl, blk_slice hl hS rfl h1 h2 h3⟩⟩
theorem w10_Run {S : SHeap} {u v lv : Value} {s : Snap} {p q : List Int} {l : List Step} {n e : Int} (h : runV s p l = (q, n, e)) (hu : rSnap.V S u s) (hv : (rSlice 8 rI64).V S v p) (hl : (rSlice 24 rStep).V S lv l) : FnLs Tryz.prog 15 #[u, v, lv] S 8 rI64 q [.int .i64 n, .int .i64 e] := by
  have hh := p10_RunS hu hv hl
  rw [h] at hh; exact hh
theorem w10_Ways {S : SHeap} {u v : Value} {s : Snap} {p q : List Int} {pod : Int} (h : waysV s p pod = q) (hn : s.nodes.length ≤ 1000) (hpr : Rng pod) (hu : rSnap.V S u s) (hv : (rSlice 8 rI64).V S v p) : FnL Tryz.prog 19 #[u, v, .int .i64 pod] S 8 rI64 q := by
  have hh := p10_Ways pod hu hv hn hpr
  rw [h] at hh; exact hh
theorem w10_May {S : SHeap} {u v xv : Value} {s : Snap} {p : List Int} {x : Step} {b : Bool} (h : mayV s p x = b) (hu : rSnap.V S u s) (hv : (rSlice 8 rI64).V S v p) (hx : rStep.V S xv x) : FnV Tryz.prog 18 #[u, v, xv] S (.bool b) := by
  have hh := p10_May hu hv hx
  rw [h] at hh; exact hh
theorem f10_1 : stepV chap10 [0, 1, -1] ⟨2, 2, 0⟩ = ([], ⟨1, 0, 0, 5⟩, 100) := by decide +kernel
theorem f10_2 : stepV chap10 [0, 1, -1] ⟨2, 2, 2⟩ = ([0, 1, 2], noC, 0) := by decide +kernel
theorem f10_3 : runV chap10 [0, 1, -1] [⟨1, 0, 0⟩, ⟨2, 2, 0⟩, ⟨1, 1, 0⟩, ⟨1, 2, 0⟩] = ([], 3, 100) := by decide +kernel
theorem f10_4 : waysV chap10 [0, 1, -1] 2 = [2] := by decide +kernel
theorem f10_5 : waysV chap10 [0, 1, -1] 0 = [] := by decide +kernel
theorem f10_6 : mayV chap10 [0, 1, -1] ⟨1, 0, 0⟩ = true := by decide +kernel
theorem s16_L10e {P K : Prop} (k : K) (h : Goal K → P := by
  intro zk
  (first | refine Walk ?_ | refine JC.block ?_ | refine JC.drawN 5 rfl [0, 1, 2, 3, 4, 5, 6, 7, 8, 9, 10, 11, 12, 13, 14] [8, 9, 10, 11, 12, 13, 14] Tryz_mixed (by decide +kernel) ?_ | (refine JO.eff rfl rfl rfl (JEff.callR rfl (q10_chapter) rfl ?_); intro zqa zqb zqc zqd) | (refine JO.eff rfl rfl rfl (JEff.callV rfl (q10_on _ _ (by unfold Rng; omega) (by unfold Rng; omega)) rfl ?_); intro zqa zqb) | (refine JO.eff rfl rfl rfl (JEff.callV rfl (q10_off _ (by unfold Rng; omega)) rfl ?_); intro zqa zqb) | (refine JO.eff rfl rfl rfl (JEff.callV rfl (r0_EqInts (by exact vta) (by exact vta)) rfl ?_); intro zqa zqb) | (refine JO.eff rfl rfl rfl (JEff.callV rfl (p10_May (by exact vta) (by exact vta) (by exact vta)) rfl ?_); intro zqa zqb) | (refine JO.eff rfl rfl rfl (JEff.callL rfl (p10_Ways _ (by exact vta) (by exact vta) (by first | assumption | omega) (by first | assumption | (unfold Rng; omega))) rfl ?_); intro zqa zqb zqc zqd zqe zqf) | (refine WNew ?_) | (refine WPut ?_))
  (repeat (first | revert zqg | revert zqf | revert zqe | revert zqd | revert zqc | revert zqb | revert zqa))
  exact zk.k) : P := h ⟨k⟩
theorem q10_works {S : SHeap} : FnV Tryz.prog 16 #[] S (.bool true) := by
  (refine Fn.enter (args := []) Tryz.func16 rfl Tryz.ntmps16 rfl ?_; intro w0)
  repeat (refine s16_L10e ?_; intros)
  (refine JO.eff rfl rfl rfl (JEff.buildS (bt := 8) (rep := rI64) (ys := [(0 : Int), 1, -1]) rfl rfl (⟨⟨V_num, nna⟩, ⟨V_num, nna⟩, ⟨V_num, nna⟩, trivial⟩) rfl rfl rfl (by decide) rfl ?_); intro S2 a2 hl2 hV2)
  have hcl5 : ∀ S, rClause.V S (clV ⟨1, 0, 0, 5⟩) ⟨1, 0, 0, 5⟩ := fun S => V_clV (by simp [Rng])
  have hcl0 : ∀ S, rClause.V S (clV noC) noC := fun S => V_clV noC_rng
  repeat (refine s16_L10e ?_; intros)
  refine JC.partF0 (σ := Addr) [(1, _), (2, _)] (fun q => [(4, .pointer (some q)), (5, .int .i64 100)]) (fun SA q => PtrTo SA q rClause ⟨1, 0, 0, 5⟩) ?_ (by exact sba) ?_; rotate_left; rintro SA kp hlA hiA; (try dsimp only at hiA); dsimp only [List.cons_append, List.nil_append]; rotate_left
  · refine JC.drawTree 3 rfl [9, 11] [0, 1] (.alt (ofL [2] (.alt (ofL [3, 4, 5, 6, 7, 8, 9, 10, 11] .nil) (ofL [8, 3, 4, 5, 6, 7, 9, 10, 11] .nil))) (ofL [8, 2, 3, 4, 5, 6, 7, 9, 10, 11] .nil)) Tryz_mixed (by decide +kernel) ?_
    repeat (refine s16_L10e ?_; intros)
    refine JO.alt ?_ ?_
    · repeat (refine s16_L10e ?_; intros)
      refine JO.alt ?_ ?_
      all_goals
        repeat (first | (refine Walk ?_; intros) | refine JC.block ?_ | refine JC.drawN 5 rfl [0, 1, 2, 3, 4, 5, 6, 7, 8, 9, 10, 11, 12, 13, 14] [8, 9, 10, 11, 12, 13, 14] Tryz_mixed (by decide +kernel) ?_ | (refine JO.eff rfl rfl rfl (JEff.callSt rfl (w10_Step f10_1 (by exact vta) (by exact vta) (V_stV (by simp [Rng]))) rfl ?_); intro _ _ _ _ _ _ _) | (refine JO.eff rfl rfl rfl (JEff.callR rfl (q10_chapter) rfl ?_); intro _ _ _ _) | (refine JO.eff rfl rfl rfl (JEff.callV rfl (q10_on _ _ (by unfold Rng; omega) (by unfold Rng; omega)) rfl ?_); intro _ _) | (refine JO.eff rfl rfl rfl (JEff.callV rfl (q10_off _ (by unfold Rng; omega)) rfl ?_); intro _ _) | (refine JO.eff rfl rfl rfl (JEff.callV rfl (r0_EqInts (by exact vta) (by exact vta)) rfl ?_); intro _ _) | (refine JO.eff rfl rfl rfl (JEff.callV rfl (p10_May (by exact vta) (by exact vta) (by exact vta)) rfl ?_); intro _ _) | (refine JO.eff rfl rfl rfl (JEff.callL rfl (p10_Ways _ (by exact vta) (by exact vta) (by first | assumption | omega) (by first | assumption | (unfold Rng; omega))) rfl ?_); intro _ _ _ _ _ _) | (refine WNew ?_; intros) | (refine WPut ?_; intros))
        exact JX.partF ((_)) (by exact lea) (by exact pta) rfl (by exact sba) (by exact sba)
    · repeat (first | (refine Walk ?_; intros) | refine JC.block ?_ | refine JC.drawN 5 rfl [0, 1, 2, 3, 4, 5, 6, 7, 8, 9, 10, 11, 12, 13, 14] [8, 9, 10, 11, 12, 13, 14] Tryz_mixed (by decide +kernel) ?_ | (refine JO.eff rfl rfl rfl (JEff.callSt rfl (w10_Step f10_1 (by exact vta) (by exact vta) (V_stV (by simp [Rng]))) rfl ?_); intro _ _ _ _ _ _ _) | (refine JO.eff rfl rfl rfl (JEff.callR rfl (q10_chapter) rfl ?_); intro _ _ _ _) | (refine JO.eff rfl rfl rfl (JEff.callV rfl (q10_on _ _ (by unfold Rng; omega) (by unfold Rng; omega)) rfl ?_); intro _ _) | (refine JO.eff rfl rfl rfl (JEff.callV rfl (q10_off _ (by unfold Rng; omega)) rfl ?_); intro _ _) | (refine JO.eff rfl rfl rfl (JEff.callV rfl (r0_EqInts (by exact vta) (by exact vta)) rfl ?_); intro _ _) | (refine JO.eff rfl rfl rfl (JEff.callV rfl (p10_May (by exact vta) (by exact vta) (by exact vta)) rfl ?_); intro _ _) | (refine JO.eff rfl rfl rfl (JEff.callL rfl (p10_Ways _ (by exact vta) (by exact vta) (by first | assumption | omega) (by first | assumption | (unfold Rng; omega))) rfl ?_); intro _ _ _ _ _ _) | (refine WNew ?_; intros) | (refine WPut ?_; intros))
      exact JX.partF ((_)) (by exact lea) (by exact pta) rfl (by exact sba) (by exact sba)
  repeat (refine s16_L10e ?_; intros)
  refine JC.partF0 (σ := Option Addr × Nat) [(1, _), (2, _), (4, _), (5, _)] (fun q => [(6, .slice q.1 3 q.2), (8, .int .i64 0)]) (fun SB q => (rSlice 8 rI64).V SB (.slice q.1 3 q.2) [0, 1, 2]) ?_ (by exact sba) ?_; rotate_left; rintro SB ⟨ra, rc⟩ hlB hiB; (try dsimp only at hiB); dsimp only [List.cons_append, List.nil_append]; rotate_left
  · refine JC.drawTree 4 rfl [9, 11] [0, 1] (.alt (ofL [2] (.alt (ofL [3, 4, 5, 6, 7, 8, 9, 10, 11] .nil) (ofL [8, 3, 4, 5, 6, 7, 9, 10, 11] .nil))) (ofL [8, 2, 3, 4, 5, 6, 7, 9, 10, 11] .nil)) Tryz_mixed (by decide +kernel) ?_
    repeat (refine s16_L10e ?_; intros)
    refine JO.alt ?_ ?_
    · repeat (refine s16_L10e ?_; intros)
      refine JO.alt ?_ ?_
      all_goals
        repeat (first | (refine Walk ?_; intros) | refine JC.block ?_ | refine JC.drawN 5 rfl [0, 1, 2, 3, 4, 5, 6, 7, 8, 9, 10, 11, 12, 13, 14] [8, 9, 10, 11, 12, 13, 14] Tryz_mixed (by decide +kernel) ?_ | (refine JO.eff rfl rfl rfl (JEff.callSt rfl (w10_Step f10_2 (by exact vta) (by exact vta) (V_stV (by simp [Rng]))) rfl ?_); intro _ _ _ _ _ _ _) | (refine JO.eff rfl rfl rfl (JEff.callR rfl (q10_chapter) rfl ?_); intro _ _ _ _) | (refine JO.eff rfl rfl rfl (JEff.callV rfl (q10_on _ _ (by unfold Rng; omega) (by unfold Rng; omega)) rfl ?_); intro _ _) | (refine JO.eff rfl rfl rfl (JEff.callV rfl (q10_off _ (by unfold Rng; omega)) rfl ?_); intro _ _) | (refine JO.eff rfl rfl rfl (JEff.callV rfl (r0_EqInts (by exact vta) (by exact vta)) rfl ?_); intro _ _) | (refine JO.eff rfl rfl rfl (JEff.callV rfl (p10_May (by exact vta) (by exact vta) (by exact vta)) rfl ?_); intro _ _) | (refine JO.eff rfl rfl rfl (JEff.callL rfl (p10_Ways _ (by exact vta) (by exact vta) (by first | assumption | omega) (by first | assumption | (unfold Rng; omega))) rfl ?_); intro _ _ _ _ _ _) | (refine WNew ?_; intros) | (refine WPut ?_; intros))
        exact JX.partF ((_, _)) (by exact lea) (by exact vta) rfl (by exact sba) (by exact sba)
    · repeat (first | (refine Walk ?_; intros) | refine JC.block ?_ | refine JC.drawN 5 rfl [0, 1, 2, 3, 4, 5, 6, 7, 8, 9, 10, 11, 12, 13, 14] [8, 9, 10, 11, 12, 13, 14] Tryz_mixed (by decide +kernel) ?_ | (refine JO.eff rfl rfl rfl (JEff.callSt rfl (w10_Step f10_2 (by exact vta) (by exact vta) (V_stV (by simp [Rng]))) rfl ?_); intro _ _ _ _ _ _ _) | (refine JO.eff rfl rfl rfl (JEff.callR rfl (q10_chapter) rfl ?_); intro _ _ _ _) | (refine JO.eff rfl rfl rfl (JEff.callV rfl (q10_on _ _ (by unfold Rng; omega) (by unfold Rng; omega)) rfl ?_); intro _ _) | (refine JO.eff rfl rfl rfl (JEff.callV rfl (q10_off _ (by unfold Rng; omega)) rfl ?_); intro _ _) | (refine JO.eff rfl rfl rfl (JEff.callV rfl (r0_EqInts (by exact vta) (by exact vta)) rfl ?_); intro _ _) | (refine JO.eff rfl rfl rfl (JEff.callV rfl (p10_May (by exact vta) (by exact vta) (by exact vta)) rfl ?_); intro _ _) | (refine JO.eff rfl rfl rfl (JEff.callL rfl (p10_Ways _ (by exact vta) (by exact vta) (by first | assumption | omega) (by first | assumption | (unfold Rng; omega))) rfl ?_); intro _ _ _ _ _ _) | (refine WNew ?_; intros) | (refine WPut ?_; intros))
      exact JX.partF ((_, _)) (by exact lea) (by exact vta) rfl (by exact sba) (by exact sba)
  repeat (refine s16_L10e ?_; intros)
  (refine JO.eff rfl rfl rfl (JEff.buildS (bt := 24) (rep := rStep) (ys := [(⟨1, 0, 0⟩ : Step), ⟨2, 2, 0⟩, ⟨1, 1, 0⟩, ⟨1, 2, 0⟩]) rfl rfl (⟨⟨V_stV (by simp [Rng]), nna⟩, ⟨V_stV (by simp [Rng]), nna⟩, ⟨V_stV (by simp [Rng]), nna⟩, ⟨V_stV (by simp [Rng]), nna⟩, trivial⟩) rfl rfl rfl (by decide) rfl ?_); intro S7 a7 hl7 hV7)
  repeat (first | (refine Walk ?_; intros) | refine JC.block ?_ | refine JC.drawN 5 rfl [0, 1, 2, 3, 4, 5, 6, 7, 8, 9, 10, 11, 12, 13, 14] [8, 9, 10, 11, 12, 13, 14] Tryz_mixed (by decide +kernel) ?_ | (refine JO.eff rfl rfl rfl (JEff.callLs rfl (w10_Run f10_3 (by exact vta) (by exact vta) hV7) rfl ?_); intro _ _ _ _ _ _) | (refine JO.eff rfl rfl rfl (JEff.callR rfl (q10_chapter) rfl ?_); intro _ _ _ _) | (refine JO.eff rfl rfl rfl (JEff.callV rfl (q10_on _ _ (by unfold Rng; omega) (by unfold Rng; omega)) rfl ?_); intro _ _) | (refine JO.eff rfl rfl rfl (JEff.callV rfl (q10_off _ (by unfold Rng; omega)) rfl ?_); intro _ _) | (refine JO.eff rfl rfl rfl (JEff.callV rfl (r0_EqInts (by exact vta) (by exact vta)) rfl ?_); intro _ _) | (refine JO.eff rfl rfl rfl (JEff.callV rfl (p10_May (by exact vta) (by exact vta) (by exact vta)) rfl ?_); intro _ _) | (refine JO.eff rfl rfl rfl (JEff.callL rfl (p10_Ways _ (by exact vta) (by exact vta) (by first | assumption | omega) (by first | assumption | (unfold Rng; omega))) rfl ?_); intro _ _ _ _ _ _) | (refine WNew ?_; intros) | (refine WPut ?_; intros))
  refine JC.drawTree 6 rfl [0, 1, 2, 3, 4, 5, 6, 7, 11, 12, 13, 14, 15, 16, 22, 23, 24, 25, 27, 28, 29, 30, 35, 36, 37, 38, 39, 40, 41, 42, 43, 44, 45, 46, 47, 48, 49] [0, 1, 2, 3, 4, 5, 6, 7, 8, 9, 10, 11, 12, 13, 14, 15, 16, 17, 18] (.alt (ofL [19, 20, 21, 22, 23, 24, 25, 26, 27, 28, 29, 30, 31, 32, 33, 34, 35, 36, 37, 38, 39, 40, 41, 42, 43, 44, 45, 46, 47, 48, 49] .nil) (ofL [20, 19, 21, 22, 23, 24, 25, 26, 27, 28, 29, 30, 31, 32, 33, 34, 35, 36, 37, 38, 39, 40, 41, 42, 43, 44, 45, 46, 47, 48, 49] .nil)) Tryz_mixed (by decide +kernel) ?_
  repeat (first | (refine Walk ?_; intros) | refine JC.block ?_ | refine JC.drawN 5 rfl [0, 1, 2, 3, 4, 5, 6, 7, 8, 9, 10, 11, 12, 13, 14] [8, 9, 10, 11, 12, 13, 14] Tryz_mixed (by decide +kernel) ?_ | refine JO.pure rfl rfl rfl (JPure.eqR rfl vta rfl V_cl rfl rfl ?_) | (refine JO.eff rfl rfl rfl (JEff.callR rfl (q10_chapter) rfl ?_); intro _ _ _ _) | (refine JO.eff rfl rfl rfl (JEff.callV rfl (q10_on _ _ (by unfold Rng; omega) (by unfold Rng; omega)) rfl ?_); intro _ _) | (refine JO.eff rfl rfl rfl (JEff.callV rfl (q10_off _ (by unfold Rng; omega)) rfl ?_); intro _ _) | (refine JO.eff rfl rfl rfl (JEff.callV rfl (r0_EqInts (by exact vta) (by exact vta)) rfl ?_); intro _ _) | (refine JO.eff rfl rfl rfl (JEff.callV rfl (p10_May (by exact vta) (by exact vta) (by exact vta)) rfl ?_); intro _ _) | (refine JO.eff rfl rfl rfl (JEff.callL rfl (p10_Ways _ (by exact vta) (by exact vta) (by first | assumption | omega) (by first | assumption | (unfold Rng; omega))) rfl ?_); intro _ _ _ _ _ _) | (refine WNew ?_; intros) | (refine WPut ?_; intros))
  (refine JO.eff rfl rfl rfl (JEff.buildS (bt := 8) (rep := rI64) (ys := [(0 : Int), 1, 2]) rfl rfl (⟨⟨V_num, nna⟩, ⟨V_num, nna⟩, ⟨V_num, nna⟩, trivial⟩) rfl rfl rfl (by decide) rfl ?_); intro S8 a8 hl8 hV8)
  repeat (first | (refine Walk ?_; intros) | refine JC.block ?_ | refine JC.drawN 5 rfl [0, 1, 2, 3, 4, 5, 6, 7, 8, 9, 10, 11, 12, 13, 14] [8, 9, 10, 11, 12, 13, 14] Tryz_mixed (by decide +kernel) ?_ | (refine JO.eff rfl rfl rfl (JEff.callV rfl (w_EqInts (by exact vta) (by exact vta)) rfl ?_); intro _ _) | (refine JO.eff rfl rfl rfl (JEff.callR rfl (q10_chapter) rfl ?_); intro _ _ _ _) | (refine JO.eff rfl rfl rfl (JEff.callV rfl (q10_on _ _ (by unfold Rng; omega) (by unfold Rng; omega)) rfl ?_); intro _ _) | (refine JO.eff rfl rfl rfl (JEff.callV rfl (q10_off _ (by unfold Rng; omega)) rfl ?_); intro _ _) | (refine JO.eff rfl rfl rfl (JEff.callV rfl (r0_EqInts (by exact vta) (by exact vta)) rfl ?_); intro _ _) | (refine JO.eff rfl rfl rfl (JEff.callV rfl (p10_May (by exact vta) (by exact vta) (by exact vta)) rfl ?_); intro _ _) | (refine JO.eff rfl rfl rfl (JEff.callL rfl (p10_Ways _ (by exact vta) (by exact vta) (by first | assumption | omega) (by first | assumption | (unfold Rng; omega))) rfl ?_); intro _ _ _ _ _ _) | (refine WNew ?_; intros) | (refine WPut ?_; intros))
  refine JO.alt ?_ ?_
  · repeat (first | (refine Walk ?_; intros) | refine JC.block ?_ | refine JC.drawN 5 rfl [0, 1, 2, 3, 4, 5, 6, 7, 8, 9, 10, 11, 12, 13, 14] [8, 9, 10, 11, 12, 13, 14] Tryz_mixed (by decide +kernel) ?_ | (refine JO.eff rfl rfl rfl (JEff.callL rfl (w10_Ways f10_4 (by decide) (by simp [Rng]) (by exact vta) (by exact vta)) rfl ?_); intro _ _ _ _ _ _) | (refine JO.eff rfl rfl rfl (JEff.callR rfl (q10_chapter) rfl ?_); intro _ _ _ _) | (refine JO.eff rfl rfl rfl (JEff.callV rfl (q10_on _ _ (by unfold Rng; omega) (by unfold Rng; omega)) rfl ?_); intro _ _) | (refine JO.eff rfl rfl rfl (JEff.callV rfl (q10_off _ (by unfold Rng; omega)) rfl ?_); intro _ _) | (refine JO.eff rfl rfl rfl (JEff.callV rfl (r0_EqInts (by exact vta) (by exact vta)) rfl ?_); intro _ _) | (refine JO.eff rfl rfl rfl (JEff.callV rfl (p10_May (by exact vta) (by exact vta) (by exact vta)) rfl ?_); intro _ _) | (refine JO.eff rfl rfl rfl (JEff.callL rfl (p10_Ways _ (by exact vta) (by exact vta) (by first | assumption | omega) (by first | assumption | (unfold Rng; omega))) rfl ?_); intro _ _ _ _ _ _) | (refine WNew ?_; intros) | (refine WPut ?_; intros))
    (refine JO.eff rfl rfl rfl (JEff.buildS (bt := 8) (rep := rI64) (ys := [(2 : Int)]) rfl rfl (⟨⟨V_num, nna⟩, trivial⟩) rfl rfl rfl (by decide) rfl ?_); intro S9 a9 hl9 hV9)
    repeat (first | (refine Walk ?_; intros) | refine JC.block ?_ | refine JC.drawN 5 rfl [0, 1, 2, 3, 4, 5, 6, 7, 8, 9, 10, 11, 12, 13, 14] [8, 9, 10, 11, 12, 13, 14] Tryz_mixed (by decide +kernel) ?_ | (refine JO.eff rfl rfl rfl (JEff.callV rfl (w_EqInts (by exact vta) (by exact vta)) rfl ?_); intro _ _) | (refine JO.eff rfl rfl rfl (JEff.callL rfl (w10_Ways f10_5 (by decide) (by simp [Rng]) (by exact vta) (by exact vta)) rfl ?_); intro _ _ _ _ _ _) | (refine JO.eff rfl rfl rfl (JEff.callV rfl (w10_May f10_6 (by exact vta) (by exact vta) (V_stV (by simp [Rng]))) rfl ?_); intro _ _) | (refine JO.eff rfl rfl rfl (JEff.callR rfl (q10_chapter) rfl ?_); intro _ _ _ _) | (refine JO.eff rfl rfl rfl (JEff.callV rfl (q10_on _ _ (by unfold Rng; omega) (by unfold Rng; omega)) rfl ?_); intro _ _) | (refine JO.eff rfl rfl rfl (JEff.callV rfl (q10_off _ (by unfold Rng; omega)) rfl ?_); intro _ _) | (refine JO.eff rfl rfl rfl (JEff.callV rfl (r0_EqInts (by exact vta) (by exact vta)) rfl ?_); intro _ _) | (refine JO.eff rfl rfl rfl (JEff.callV rfl (p10_May (by exact vta) (by exact vta) (by exact vta)) rfl ?_); intro _ _) | (refine JO.eff rfl rfl rfl (JEff.callL rfl (p10_Ways _ (by exact vta) (by exact vta) (by first | assumption | omega) (by first | assumption | (unfold Rng; omega))) rfl ?_); intro _ _ _ _ _ _) | (refine WNew ?_; intros) | (refine WPut ?_; intros))
    (refine JX.ret1 Tryz.results16 (ResV.tmp rfl) (List.nil_sublist _) ?_)
    exact ⟨rfl, rfl⟩
  · (refine JO.eff rfl rfl rfl (JEff.buildS (bt := 8) (rep := rI64) (ys := [(2 : Int)]) rfl rfl (⟨⟨V_num, nna⟩, trivial⟩) rfl rfl rfl (by decide) rfl ?_); intro S9 a9 hl9 hV9)
    repeat (first | (refine Walk ?_; intros) | refine JC.block ?_ | refine JC.drawN 5 rfl [0, 1, 2, 3, 4, 5, 6, 7, 8, 9, 10, 11, 12, 13, 14] [8, 9, 10, 11, 12, 13, 14] Tryz_mixed (by decide +kernel) ?_ | (refine JO.eff rfl rfl rfl (JEff.callL rfl (w10_Ways f10_4 (by decide) (by simp [Rng]) (by exact vta) (by exact vta)) rfl ?_); intro _ _ _ _ _ _) | (refine JO.eff rfl rfl rfl (JEff.callR rfl (q10_chapter) rfl ?_); intro _ _ _ _) | (refine JO.eff rfl rfl rfl (JEff.callV rfl (q10_on _ _ (by unfold Rng; omega) (by unfold Rng; omega)) rfl ?_); intro _ _) | (refine JO.eff rfl rfl rfl (JEff.callV rfl (q10_off _ (by unfold Rng; omega)) rfl ?_); intro _ _) | (refine JO.eff rfl rfl rfl (JEff.callV rfl (r0_EqInts (by exact vta) (by exact vta)) rfl ?_); intro _ _) | (refine JO.eff rfl rfl rfl (JEff.callV rfl (p10_May (by exact vta) (by exact vta) (by exact vta)) rfl ?_); intro _ _) | (refine JO.eff rfl rfl rfl (JEff.callL rfl (p10_Ways _ (by exact vta) (by exact vta) (by first | assumption | omega) (by first | assumption | (unfold Rng; omega))) rfl ?_); intro _ _ _ _ _ _) | (refine WNew ?_; intros) | (refine WPut ?_; intros))
    repeat (first | (refine Walk ?_; intros) | refine JC.block ?_ | refine JC.drawN 5 rfl [0, 1, 2, 3, 4, 5, 6, 7, 8, 9, 10, 11, 12, 13, 14] [8, 9, 10, 11, 12, 13, 14] Tryz_mixed (by decide +kernel) ?_ | (refine JO.eff rfl rfl rfl (JEff.callV rfl (w_EqInts (by exact vta) (by exact vta)) rfl ?_); intro _ _) | (refine JO.eff rfl rfl rfl (JEff.callL rfl (w10_Ways f10_5 (by decide) (by simp [Rng]) (by exact vta) (by exact vta)) rfl ?_); intro _ _ _ _ _ _) | (refine JO.eff rfl rfl rfl (JEff.callV rfl (w10_May f10_6 (by exact vta) (by exact vta) (V_stV (by simp [Rng]))) rfl ?_); intro _ _) | (refine JO.eff rfl rfl rfl (JEff.callR rfl (q10_chapter) rfl ?_); intro _ _ _ _) | (refine JO.eff rfl rfl rfl (JEff.callV rfl (q10_on _ _ (by unfold Rng; omega) (by unfold Rng; omega)) rfl ?_); intro _ _) | (refine JO.eff rfl rfl rfl (JEff.callV rfl (q10_off _ (by unfold Rng; omega)) rfl ?_); intro _ _) | (refine JO.eff rfl rfl rfl (JEff.callV rfl (r0_EqInts (by exact vta) (by exact vta)) rfl ?_); intro _ _) | (refine JO.eff rfl rfl rfl (JEff.callV rfl (p10_May (by exact vta) (by exact vta) (by exact vta)) rfl ?_); intro _ _) | (refine JO.eff rfl rfl rfl (JEff.callL rfl (p10_Ways _ (by exact vta) (by exact vta) (by first | assumption | omega) (by first | assumption | (unfold Rng; omega))) rfl ?_); intro _ _ _ _ _ _) | (refine WNew ?_; intros) | (refine WPut ?_; intros))
    (refine JX.ret1 Tryz.results16 (ResV.tmp rfl) (List.nil_sublist _) ?_)
    exact ⟨rfl, rfl⟩
end Go.Dr
