/- Part 6 of the rules and of the walks that the proofs of this seat rest on; no condition. -/
import Derived.Test.YthlkghfkcbpacaaGreatA04
set_option linter.unusedVariables false
set_option linter.unusedSimpArgs false
namespace Go.Dr
theorem bytesLess_trans : ∀ a b c : List UInt8, Op.bytesLess a b = true → Op.bytesLess b c = true → Op.bytesLess a c = true
  | [], [], _, h, _ => by simp [Op.bytesLess] at h
  | [], _ :: _, [], _, h => by simp [Op.bytesLess] at h
  | [], _ :: _, _ :: _, _, _ => by simp [Op.bytesLess]
  | _ :: _, [], _, h, _ => by simp [Op.bytesLess] at h
  | _ :: _, _ :: _, [], _, h => by simp [Op.bytesLess] at h
  | x :: a, y :: b, z :: c, h1, h2 => by
    have ih := bytesLess_trans a b c
    simp only [Op.bytesLess, Bool.or_eq_true, Bool.and_eq_true, decide_eq_true_eq, beq_iff_eq, UInt8.lt_iff_toNat_lt] at h1 h2 ⊢
    rcases h1 with h1 | ⟨rfl, h1⟩
    · rcases h2 with h2 | ⟨rfl, h2⟩
      · exact .inl (by omega)
      · exact .inl h1
    · rcases h2 with h2 | ⟨rfl, h2⟩
      · exact .inl h2
      · exact .inr ⟨rfl, ih h1 h2⟩
theorem ltS_trans {a b c : ByteArray} (h1 : ltS a b = true) (h2 : ltS b c = true) : ltS a c = true := bytesLess_trans _ _ _ h1 h2
theorem ltS_irr (a : ByteArray) : ltS a a = false := bytesLess_irr _
abbrev pwS (l : List ByteArray) : Prop := l.Pairwise (fun a b => ltS a b = true)
theorem chain_pw : ∀ {l : List ByteArray}, (∀ k x y, l[k]? = some x → l[k + 1]? = some y → ltS x y = true) → pwS l
  | [], _ => List.Pairwise.nil
  | [x], _ => by simp [pwS]
  | x :: y :: l, h => by
    have ih : pwS (y :: l) := chain_pw (fun k a b ha hb => h (k + 1) a b (by simpa using ha) (by simpa using hb))
    have hxy := h 0 x y rfl rfl
    refine List.pairwise_cons.2 ⟨fun z hz => ?_, ih⟩
    rcases List.mem_cons.1 hz with rfl | hz
    · exact hxy
    · exact ltS_trans hxy ((List.pairwise_cons.1 ih).1 z hz)
theorem pw_eq : ∀ {l m : List ByteArray}, pwS l → pwS m → (∀ x, x ∈ l ↔ x ∈ m) → l = m
  | [], [], _, _, _ => rfl
  | [], y :: m, _, _, h => by have := (h y).2 (by simp); cases this
  | x :: l, [], _, _, h => by have := (h x).1 (by simp); cases this
  | x :: l, y :: m, h1, h2, h => by
    obtain ⟨a1, a2⟩ := List.pairwise_cons.1 h1
    obtain ⟨b1, b2⟩ := List.pairwise_cons.1 h2
    have hxy : x = y := by
      rcases List.mem_cons.1 ((h x).1 (by simp)) with e | e
      · exact e
      · rcases List.mem_cons.1 ((h y).2 (by simp)) with e' | e'
        · exact e'.symm
        · have := ltS_trans (b1 x e) (a1 y e')
          rw [ltS_irr] at this; cases this
    subst hxy
    rw [pw_eq a2 b2 (fun z => ?_)]
    constructor
    · intro hz
      rcases List.mem_cons.1 ((h z).1 (by simp [hz])) with rfl | hz'
      · have := a1 z hz; rw [ltS_irr] at this; cases this
      · exact hz'
    · intro hz
      rcases List.mem_cons.1 ((h z).2 (by simp [hz])) with rfl | hz'
      · have := b1 z hz; rw [ltS_irr] at this; cases this
      · exact hz'
theorem lt_of_not {x v : ByteArray} (h : ltS x v = false) (hne : ¬ x = v) : ltS v x = true := by
  rw [ltS_total, h]; simp [hne]
theorem domIns_mem (v x : ByteArray) (out : List ByteArray) : x ∈ domIns v out ↔ x = v ∨ x ∈ out := by
  have h : out = out.takeWhile (fun x => ltS x v) ++ out.dropWhile (fun x => ltS x v) := (List.takeWhile_append_dropWhile).symm
  unfold domIns
  conv => rhs; rw [h]
  generalize out.takeWhile (fun x => ltS x v) = A
  generalize out.dropWhile (fun x => ltS x v) = B
  match B with
  | [] => simp [or_comm]
  | y :: r =>
    by_cases hy : y = v
    · subst hy
      simp only [if_true, List.mem_append, List.mem_cons]
      constructor
      · intro hh; exact .inr hh
      · rintro (rfl | hh)
        · exact .inr (.inl rfl)
        · exact hh
    · simp only [if_neg hy, List.mem_append, List.mem_cons]
      constructor
      · rintro (hh | hh | hh | hh)
        · exact .inr (.inl hh)
        · exact .inl hh
        · exact .inr (.inr (.inl hh))
        · exact .inr (.inr (.inr hh))
      · rintro (hh | hh | hh | hh)
        · exact .inr (.inl hh)
        · exact .inl hh
        · exact .inr (.inr (.inl hh))
        · exact .inr (.inr (.inr hh))
theorem takeWhile_all {f : ByteArray → Bool} : ∀ {l : List ByteArray} {x : ByteArray}, x ∈ l.takeWhile f → f x = true
  | [], _, h => by cases h
  | y :: l, x, h => by
    rw [List.takeWhile_cons] at h
    split at h
    · rename_i hy
      rcases List.mem_cons.1 h with rfl | h
      · exact hy
      · exact takeWhile_all h
    · cases h
theorem dropWhile_head {f : ByteArray → Bool} : ∀ {l : List ByteArray} {y : ByteArray} {r : List ByteArray}, l.dropWhile f = y :: r → f y = false
  | [], _, _, h => by cases h
  | z :: l, y, r, h => by
    rw [List.dropWhile_cons] at h
    split at h
    · exact dropWhile_head h
    · rename_i hz
      cases h
      simpa using hz
theorem domIns_pw {v : ByteArray} {out : List ByteArray} (h : pwS out) : pwS (domIns v out) := by
  have e : out = out.takeWhile (fun x => ltS x v) ++ out.dropWhile (fun x => ltS x v) := (List.takeWhile_append_dropWhile).symm
  have hA : ∀ x ∈ out.takeWhile (fun x => ltS x v), ltS x v = true := fun x hx => takeWhile_all (f := fun x => ltS x v) hx
  have hB : ∀ y r, out.dropWhile (fun x => ltS x v) = y :: r → ltS y v = false := fun y r hh => dropWhile_head (f := fun x => ltS x v) hh
  rw [e] at h
  unfold domIns
  generalize out.takeWhile (fun x => ltS x v) = A at *
  generalize out.dropWhile (fun x => ltS x v) = B at *
  obtain ⟨p1, p2, p3⟩ := List.pairwise_append.1 h
  match B, hB, p2, p3 with
  | [], _, _, _ => exact List.pairwise_append.2 ⟨p1, by simp, fun a ha b hb => by simp at hb; subst hb; exact hA a ha⟩
  | y :: r, hB, p2, p3 =>
    by_cases hy : y = v
    · simp only [if_pos hy]
      exact List.pairwise_append.2 ⟨p1, p2, p3⟩
    · simp only [if_neg hy]
      have hvy := lt_of_not (hB y r rfl) hy
      refine List.pairwise_append.2 ⟨p1, List.pairwise_cons.2 ⟨fun z hz => ?_, p2⟩, fun a ha b hb => ?_⟩
      · rcases List.mem_cons.1 hz with rfl | hz
        · exact hvy
        · exact ltS_trans hvy ((List.pairwise_cons.1 p2).1 z hz)
      · rcases List.mem_cons.1 hb with rfl | hb
        · exact hA a ha
        · exact p3 a ha b hb
def dkStep (key : ByteArray) (out : List ByteArray) (n : Node) : List ByteArray := if (valB n key).2 = true then (if out.any (fun x => decide (x = (valB n key).1)) = true then out else out ++ [(valB n key).1]) else out
def dkL (s : Snap) (key : ByteArray) (i : Nat) : List ByteArray := (s.nodes.take i).foldl (dkStep key) []
theorem dkL_step {s : Snap} {key : ByteArray} {i : Nat} {n : Node} (h : s.nodes[i]? = some n) : dkL s key (i + 1) = dkStep key (dkL s key i) n := by
  unfold dkL
  rw [List.take_add_one, h]; simp [List.foldl_append]
theorem dk_same (key : ByteArray) : ∀ (l : List Node) (a b : List ByteArray), (∀ x, x ∈ a ↔ x ∈ b) → ∀ x, x ∈ l.foldl (dkStep key) a ↔ x ∈ l.foldl (domStep key) b
  | [], _, _, h, x => h x
  | n :: l, a, b, h, x => by
    simp only [List.foldl_cons]
    refine dk_same key l _ _ (fun z => ?_) x
    unfold dkStep domStep
    split
    · rw [domIns_mem]
      split
      · rename_i hm
        have hm : (valB n key).1 ∈ a := by
          obtain ⟨w, hw, he⟩ := List.any_eq_true.1 hm
          rw [← of_decide_eq_true he]; exact hw
        constructor
        · intro hz; exact .inr ((h z).1 hz)
        · rintro (rfl | hz)
          · exact hm
          · exact (h z).2 hz
      · rw [List.mem_append, List.mem_singleton, h z, or_comm]
    · exact h z
theorem dom_pw (key : ByteArray) : ∀ (l : List Node) (b : List ByteArray), pwS b → pwS (l.foldl (domStep key) b)
  | [], _, h => h
  | n :: l, b, h => by
    simp only [List.foldl_cons]
    refine dom_pw key l _ ?_
    unfold domStep
    split
    · exact domIns_pw h
    · exact h
theorem dk_nodup (key : ByteArray) : ∀ (l : List Node) (b : List ByteArray), b.Nodup → (l.foldl (dkStep key) b).Nodup
  | [], _, h => h
  | n :: l, b, h => by
    simp only [List.foldl_cons]
    refine dk_nodup key l _ ?_
    unfold dkStep
    split
    · split
      · exact h
      · rename_i hm
        rw [List.nodup_append]
        refine ⟨h, by simp, ?_⟩
        intro a ha c hc he
        simp at hc
        subst hc; subst he
        exact hm (List.any_eq_true.2 ⟨_, ha, by simp⟩)
    · exact h
theorem dk_len (s : Snap) (key : ByteArray) : ∀ i, (dkL s key i).length ≤ i
  | 0 => by simp [dkL]
  | i + 1 => by
    have ih := dk_len s key i
    cases h : s.nodes[i]? with
    | none => unfold dkL at *; rw [List.take_add_one, h]; simpa using Nat.le_succ_of_le ih
    | some n =>
      rw [dkL_step h]
      unfold dkStep
      split
      · split
        · omega
        · simp; omega
      · omega
theorem srt_dom {s : Snap} {key : ByteArray} {xs : List ByteArray} (hp : xs.Perm (dkL s key s.nodes.length)) (hs : ∀ k x y, k + 1 ≤ xs.length - 1 → xs[k]? = some x → xs[k + 1]? = some y → ltS y x = false) : xs = domL s key := by
  have hfull : dkL s key s.nodes.length = s.nodes.foldl (dkStep key) [] := by unfold dkL; rw [List.take_length]
  have hnd : xs.Nodup := hp.nodup_iff.2 (by rw [hfull]; exact dk_nodup key _ _ List.nodup_nil)
  refine pw_eq (chain_pw (fun k x y hx hy => ?_)) (dom_pw key _ _ List.Pairwise.nil) (fun x => ?_)
  · have hl := (List.getElem?_eq_some_iff.1 hy).1
    have h1 := hs k x y (by omega) hx hy
    refine lt_of_not h1 (fun he => ?_)
    subst he
    obtain ⟨l1, e1⟩ := List.getElem?_eq_some_iff.1 hx
    obtain ⟨l2, e2⟩ := List.getElem?_eq_some_iff.1 hy
    exact List.pairwise_iff_getElem.1 hnd k (k + 1) l1 l2 (by omega) (by rw [e1, e2])
  · rw [hp.mem_iff, hfull]
    exact dk_same key _ _ _ (fun _ => Iff.rfl) x
end Go.Dr
namespace Go.Dr
open Go.Proofs
set_option maxRecDepth 20000
set_option maxHeartbeats 2000000
set_option linter.unusedSimpArgs false
set_option linter.unusedVariables false
def oneV (v : ByteArray) : ByteArray × Value := (v, .int .i64 1)
theorem set_same {l : List ByteArray} {j : Nat} {p : ByteArray × Value} {v : ByteArray} (h : (l.map oneV)[j]? = some p) (hv : p.1 = v) : (l.map oneV).set j (v, .int .i64 1) = l.map oneV := by
  rw [List.getElem?_map] at h
  cases hl : l[j]? with
  | none => rw [hl] at h; cases h
  | some x =>
    rw [hl] at h
    cases h
    have hx : x = v := hv
    subst hx
    apply List.ext_getElem?
    intro i
    rw [List.getElem?_set]
    by_cases hij : j = i
    · subst hij
      have := (List.getElem?_eq_some_iff.1 hl).1
      rw [if_pos rfl, if_pos (by simpa using this), List.getElem?_map, hl]; rfl
    · simp [hij]
theorem dk_big {key : ByteArray} : ∀ (l : List Node) (b : List ByteArray), (∀ v ∈ b, v.size ≤ big) → (∀ x ∈ l, (valB x key).1.size ≤ big) → ∀ v ∈ l.foldl (dkStep key) b, v.size ≤ big
  | [], _, h, _ => h
  | n :: l, b, h, hl => by
    simp only [List.foldl_cons]
    refine dk_big l _ ?_ (fun x hx => hl x (by simp [hx]))
    unfold dkStep
    split
    · split
      · exact h
      · intro v hv
        rcases List.mem_append.1 hv with hv | hv
        · exact h v hv
        · simp at hv; subst hv; exact hl n (by simp)
    · exact h
theorem keys_one (l : List ByteArray) : (l.map oneV).map Prod.fst = l := by
  rw [List.map_map]
  exact (List.map_congr_left (fun x _ => rfl)).trans (List.map_id' l)
theorem s178_L7n {P K : Prop} (k : K) (h : Goal K → P := by
  intro zk
  (first | refine Walk ?_ | refine JC.block ?_ | (refine JO.eff rfl rfl rfl (JEff.callV rfl (p5_Check (by exact vta)) rfl ?_); intro zqa zqb) | (refine JO.eff rfl rfl rfl (JEff.callV rfl (p7_value _ (by assumption) (by exact vta)) rfl ?_); intro zqa zqb) | (refine WBox ?_) | (refine WNew ?_) | (refine WPut ?_))
  (repeat (first | revert zqg | revert zqf | revert zqe | revert zqd | revert zqc | revert zqb | revert zqa))
  exact zk.k) : P := h ⟨k⟩
theorem p7_Domains {S : SHeap} {u : Value} {s : Snap} (key : ByteArray) (hk : key.size ≤ big) (hu : rSnap.V S u s) : FnL Tryz.prog 178 #[u, .string key] S 16 rStr (if z0 (checkS s) then domL s key else []) := by
  (refine Fn.enter (args := [u, .string key]) Tryz.func178 rfl Tryz.ntmps178 rfl ?_; intro w0)
  repeat (refine s178_L7n ?_; intros)
  cases h1 : decide (checkS s = 0) with
  | false =>
    repeat (refine s178_L7n ?_; intros)
    (refine JX.ret1 Tryz.results178 (ResV.tmp rfl) (List.nil_sublist _) ?_)
    refine ⟨rfl, ?_⟩
    rw [z0, h1]
    exact V_nil
  | true =>
    have hc : checkS s = 0 := of_decide_eq_true h1
    obtain ⟨hn, _, _⟩ := shaped_small (checkS_ok hc).1
    have hif : (if z0 (checkS s) then domL s key else []) = domL s key := by rw [z0, h1]; rfl
    rw [hif]
    repeat (refine s178_L7n ?_; intros)
    refine JO.eff rfl rfl rfl (JEff.makeMap rfl ?_); intro bm hbm
    repeat (refine s178_L7n ?_; intros)
    refine JC.loopF [(1, _), (5, _), (15, _), (16, _)] (fun (i : Nat) => [(17, .int .i64 i)]) (fun i => [.blk bm (mapObj ((dkL s key i).map oneV))]) (fun Si i => i ≤ s.nodes.length ∧ (True)) (fun i => s.nodes.length - i) 0 (by exact sba) (by exact sba) rfl ⟨Nat.zero_le _, trivial⟩ ?_; intro Si i hli hii; obtain ⟨hi, hii⟩ := hii; (try dsimp only at hi hii); dsimp only [List.cons_append, List.nil_append]
    repeat (refine s178_L7n ?_; intros)
    refine JC.cond rfl (fun hc0 => ?_) (fun hc0 => ?_)
    · have hi' := dlt hc0
      obtain ⟨n, hnd, _⟩ := drop_at hi'
      have hst := dkL_step (key := key) hnd
      repeat (refine s178_L7n ?_; intros)
      cases hv2 : (valB n key).2 with
      | true =>
        repeat (refine s178_L7n ?_; intros)
        refine JO.eff rfl rfl rfl (JEff.mapPut rfl rfl rfl (List.Perm.refl _) (by intro l hl; cases hl) (fun hno => ?_) (fun j p hj hp => ?_))
        · have e1 : (dkL s key i).map oneV ++ [((valB n key).1, .int .i64 1)] = (dkL s key (i + 1)).map oneV := by
            rw [hst, dkStep, if_pos hv2, if_neg]
            · simp [oneV]
            · intro hany
              obtain ⟨w, hw, he⟩ := List.any_eq_true.1 hany
              exact hno (oneV w) (List.mem_map.2 ⟨w, hw, rfl⟩) (of_decide_eq_true he)
          rw [e1]
          repeat (refine s178_L7n ?_; intros)
          exact JX.roundF (i + 1) (by exact lea) ⟨by omega, (trivial)⟩ (by (try dsimp only); omega) rfl (by exact sba) (by exact sba)
        · rw [set_same hj hp]
          have e2 : (dkL s key i).map oneV = (dkL s key (i + 1)).map oneV := by
            rw [hst, dkStep, if_pos hv2, if_pos]
            rw [List.getElem?_map] at hj
            cases hl : (dkL s key i)[j]? with
            | none => rw [hl] at hj; cases hj
            | some x =>
              rw [hl] at hj
              cases hj
              exact List.any_eq_true.2 ⟨x, List.mem_of_getElem? hl, decide_eq_true hp⟩
          rw [e2]
          repeat (refine s178_L7n ?_; intros)
          exact JX.roundF (i + 1) (by exact lea) ⟨by omega, (trivial)⟩ (by (try dsimp only); omega) rfl (by exact sba) (by exact sba)
      | false =>
        have e2 : (dkL s key i).map oneV = (dkL s key (i + 1)).map oneV := by
          rw [hst, dkStep, if_neg (by rw [hv2]; simp)]
        rw [e2]
        repeat (refine s178_L7n ?_; intros)
        exact JX.roundF (i + 1) (by exact lea) ⟨by omega, (trivial)⟩ (by (try dsimp only); omega) rfl (by exact sba) (by exact sba)
    · have hi' := dnlt hc0
      obtain rfl : i = s.nodes.length := by omega
      have hsz := snap_val (S := Si) (PtrTo.mono (by assumption) (by exact lea)) key
      repeat (refine s178_L7n ?_; intros)
      have hkb : ∀ p ∈ (dkL s key s.nodes.length).map oneV, p.1.size ≤ big := by
        intro p hp
        obtain ⟨v, hv, rfl⟩ := List.mem_map.1 hp
        have hfull : dkL s key s.nodes.length = s.nodes.foldl (dkStep key) [] := by unfold dkL; rw [List.take_length]
        rw [hfull] at hv
        exact dk_big s.nodes [] (by intro v hv; cases hv) hsz v hv
      refine JO.freeze hbm (by intro l hl; cases hl) (fun S2 hl2 hS2 => ?_)
      (refine JO.eff rfl rfl rfl (JEff.callR rfl ((p_Keys hS2 hkb)) rfl ?_); intro w3 S3 hl3 hV3)
      obtain ⟨lb, rfl, hit⟩ := hV3
      rw [keys_one] at hit
      repeat (refine s178_L7n ?_; intros)
      (refine JO.eff rfl rfl rfl (JEff.callR rfl ((p_Sorted inferInstance hit (fun xs hp => by have h1 := hp.length_eq; have h2 := dk_len s key s.nodes.length; omega))) rfl ?_); intro w4 S4 hl4 hV4)
      obtain ⟨xs, xs', hp, hp', hs', hV⟩ := hV4
      have hx : xs' = domL s key := srt_dom (hp'.trans hp) (by rw [hp'.length_eq]; exact hs')
      rw [hx] at hV
      repeat (refine s178_L7n ?_; intros)
      (refine JX.ret1 Tryz.results178 (ResV.tmp rfl) (List.nil_sublist _) ?_)
      exact ⟨rfl, hV⟩
end Go.Dr
namespace Go.Dr
open Go.Proofs
set_option maxRecDepth 20000
set_option maxHeartbeats 2000000
set_option linter.unusedSimpArgs false
set_option linter.unusedVariables false
def domainP (s : Snap) (node : Int) (key : ByteArray) : ByteArray × Bool :=
  if z0 (checkS s) && (decide (0 ≤ node) && decide (node < s.nodes.length)) then (match s.nodes[node.toNat]? with | some n => valB n key | none => (noS, false)) else (noS, false)
theorem s252_L7o {P K : Prop} (k : K) (h : Goal K → P := by
  intro zk
  (first | refine Walk ?_ | refine JC.block ?_ | (refine JO.eff rfl rfl rfl (JEff.callV rfl (p5_Check (by exact vta)) rfl ?_); intro zqa zqb) | (refine JO.eff rfl rfl rfl (JEff.callV rfl (p7_there _ _) rfl ?_); intro zqa zqb) | (refine JO.eff rfl rfl rfl (JEff.callV rfl (p7_value _ (by assumption) (by exact vta)) rfl ?_); intro zqa zqb) | (refine WBox ?_))
  (repeat (first | revert zqg | revert zqf | revert zqe | revert zqd | revert zqc | revert zqb | revert zqa))
  exact zk.k) : P := h ⟨k⟩
theorem p7_Domain {S : SHeap} {u : Value} {s : Snap} (node : Int) (key : ByteArray) (hk : key.size ≤ big) (hu : rSnap.V S u s) : FnV Tryz.prog 252 #[u, .int .i64 node, .string key] S (.tuple #[.string (domainP s node key).1, .bool (domainP s node key).2]) := by
  (refine Fn.enter (args := [u, .int .i64 node, .string key]) Tryz.func252 rfl Tryz.ntmps252 rfl ?_; intro w0)
  repeat (refine s252_L7o ?_; intros)
  cases h1 : decide (checkS s = 0) with
  | false =>
    refine JO.guard rfl rfl rfl rfl (fun _ => ?_) (fun g => Bool.noConfusion (g.symm.trans rfl))
    repeat (refine s252_L7o ?_; intros)
    (refine JX.ret2 Tryz.results252 (ResV.tmp rfl) (ResV.tmp rfl) (List.nil_sublist _) ?_)
    exact ⟨rfl, by rw [domainP, z0, h1]; rfl⟩
  | true =>
    refine JO.guard rfl rfl rfl rfl (fun g => Bool.noConfusion (g.symm.trans rfl)) (fun _ => ?_)
    repeat (refine s252_L7o ?_; intros)
    cases h2 : (decide (0 ≤ node) && decide (node < s.nodes.length)) with
    | false =>
      repeat (refine s252_L7o ?_; intros)
      (refine JX.ret2 Tryz.results252 (ResV.tmp rfl) (ResV.tmp rfl) (List.nil_sublist _) ?_)
      exact ⟨rfl, by rw [domainP, z0, h1, h2]; rfl⟩
    | true =>
      have h3 := h2
      simp only [Bool.and_eq_true, decide_eq_true_eq] at h3
      obtain ⟨h4, h5⟩ := h3
      obtain ⟨n, hnd, _⟩ := drop_at (l := s.nodes) (show node.toNat < s.nodes.length by omega)
      repeat (refine s252_L7o ?_; intros)
      (refine JX.ret2 Tryz.results252 (ResV.tmp rfl) (ResV.tmp rfl) (List.nil_sublist _) ?_)
      exact ⟨rfl, by rw [domainP, z0, h1, h2, hnd]; rfl⟩
end Go.Dr
namespace Go.Dr
open Go.Proofs
set_option maxRecDepth 20000
set_option maxHeartbeats 2000000
set_option linter.unusedSimpArgs false
set_option linter.unusedVariables false
theorem doms_at {s : Snap} {key : ByteArray} {a : Nat} {x : Node} (h : s.nodes[a]? = some x) : (doms s key)[((a : Int)).toNat]? = some (valB x key) := by
  have e : ((a : Int)).toNat = a := by omega
  rw [e, doms, List.getElem?_map, h]; rfl
def dmK (s : Snap) (key : ByteArray) (k : Nat) : List (ByteArray × Bool) := (doms s key).take k
theorem domainP_doms {s : Snap} {key : ByteArray} {k : Nat} {x : Node} (hok : checkS s = 0) (hx : s.nodes[k]? = some x) : domainP s k key = valB x key := by
  have hk := (List.getElem?_eq_some_iff.1 hx).1
  have e : ((k : Int)).toNat = k := by omega
  unfold domainP
  rw [e, hx]
  simp [z0, hok, hk]
theorem dmK_step {s : Snap} {key : ByteArray} {k : Nat} {x : Node} (hok : checkS s = 0) (hx : s.nodes[k]? = some x) : dmK s key (k + 1) = dmK s key k ++ [domainP s k key] := by
  unfold dmK
  rw [domainP_doms hok hx, List.take_add_one]
  simp [doms, hx]
theorem dmK_len (s : Snap) (key : ByteArray) (k : Nat) : (dmK s key k).length ≤ k := by unfold dmK; rw [List.length_take]; omega
theorem dmK_all (s : Snap) (key : ByteArray) : dmK s key s.nodes.length = doms s key := by unfold dmK; rw [List.take_of_length_le (by simp [doms])]
theorem s223_L8a {P K : Prop} (k : K) (h : Goal K → P := by
  intro zk
  (first | refine Walk ?_ | refine JC.block ?_ | refine JC.drawN 10 rfl [0, 1, 2, 3, 4, 5, 6, 7, 8, 9, 10, 11, 12, 13, 14, 15, 16, 17, 18, 19, 20, 21, 22, 23, 24, 25] [0, 1, 2, 3, 4, 5, 6, 7, 8, 9, 10, 11, 12, 13, 14, 15, 16, 17, 18, 19, 20, 21, 22, 23, 24, 25] Tryz_mixed (by decide +kernel) ?_ | (refine JO.eff rfl rfl rfl (JEff.callV rfl (p7_Domain _ _ (by assumption) (by exact vta)) rfl ?_); intro zqa zqb))
  (repeat (first | revert zqg | revert zqf | revert zqe | revert zqd | revert zqc | revert zqb | revert zqa))
  exact zk.k) : P := h ⟨k⟩
theorem p8_near {S : SHeap} {kp : Addr} {s : Snap} {p : List Int} {us : List (List Int)} {mb : Nat} {l : List (ByteArray × Value)} (a b : Nat) (key : ByteArray) (hkey : key.size ≤ big) (hok : checkS s = 0) (ha : a < s.nodes.length) (hb : b < s.nodes.length)
    (hL : PtrTo S kp rLook ⟨s, p, us, .map (some mb)⟩) (hco : Cache s S l) :
    FnC Tryz.prog 223 #[.pointer (some kp), .int .i64 a, .int .i64 b, .string key] S Value.string mb (Cache s) l (fun w _ => w = .bool (near8 s a b key)) := by
  obtain ⟨xa, hxa⟩ : ∃ x, s.nodes[a]? = some x := ⟨_, List.getElem?_eq_getElem ha⟩
  obtain ⟨xb, hxb⟩ : ∃ x, s.nodes[b]? = some x := ⟨_, List.getElem?_eq_getElem hb⟩
  have hda := doms_at (key := key) hxa
  have hdb := doms_at (key := key) hxb
  have hn8 := (shaped_small (checkS_ok hok).1).1
  have hsz := snap_val (PtrTo.part hL (Part.map Part.first)) key
  (refine Fn.enter (args := [.pointer (some kp), .int .i64 a, .int .i64 b, .string key]) Tryz.func223 rfl Tryz.ntmps223 rfl ?_; intro w0)
  repeat (refine s223_L8a ?_; intros)
  refine JO.pure rfl rfl rfl (JPure.lookM (s := key) rfl rfl (by (first | exact List.mem_cons_self | exact List.mem_cons_of_mem _ List.mem_cons_self | exact List.mem_cons_of_mem _ (List.mem_cons_of_mem _ List.mem_cons_self))) hco.1 (.inl rfl) rfl (fun hno => ?_) (fun j q hj hq => ?_))
  · repeat (refine s223_L8a ?_; intros)
    (first | refine JC.newRow 262 2 ?_ | refine JO.newRow 262 2 ?_ | refine JX.newRow 262 2 ?_)
    refine JC.loopF (σ := Nat × Option Addr × Nat × List Value) [(0, _), (1, _), (2, _), (3, _), (30, _)] (fun q => [(9, .slice q.2.1 ((fun k => dmK s key k) q.1).length q.2.2.1), (31, ((fun k => .int .i64 k) q.1))]) (fun q => [.row w0.heap.size 262 (Rp.sz rDom) (.slice q.2.1 ((fun k => dmK s key k) q.1).length q.2.2.1) ((fun k => dmK s key k) q.1).length (flatCells q.2.2.2), ((fun k => .blk mb (mapK Value.string l)) q.1)]) (fun Sk q => q.1 ≤ s.nodes.length ∧ allV rDom Sk q.2.2.2 ((fun k => dmK s key k) q.1) ∧ ((fun k => True) q.1)) (fun q => s.nodes.length - q.1) (0, none, 0, []) (by exact sba) (by exact sba) (by first | rfl | simp) (⟨Nat.zero_le _, trivial, trivial⟩) ?_; rintro Sk ⟨k, rak, rck, vsk⟩ hlk ⟨hk, hvk, hik⟩; (try dsimp only at hk hvk hik); dsimp only [List.cons_append, List.nil_append]
    have hfl := dmK_len s key k
    repeat (refine s223_L8a ?_; intros)
    refine JC.cond rfl (fun hc => ?_) (fun hc => ?_)
    · have hk' := dlt hc
      obtain ⟨x, hx, _⟩ := drop_at hk'
      have hst := dmK_step (key := key) hok hx
      have hvs : (domainP s k key).1.size ≤ big := by rw [domainP_doms hok hx]; exact hsz x (List.mem_of_getElem? hx)
      have hDV : ∀ S, rDom.V S (.agg (flatCells [.string (domainP s k key).1, .bool (domainP s k key).2]).toArray) (domainP s k key) := fun S => ⟨_, ⟨_, _, by simp [flatCells, Value.cells]; rfl, ⟨rfl, hvs⟩, rfl⟩, by rfl⟩
      repeat (refine s223_L8a ?_; intros)
      (refine JO.eff rfl rfl rfl (JEff.build (rep := rDom) (ys := [domainP s k key]) rfl rfl ⟨⟨(hDV _), nna⟩, trivial⟩ rfl rfl rfl rfl ?_); intro bb hbb hvv); (repeat (first | (refine Walk ?_; intros) | refine JC.block ?_)); (refine JO.eff rfl rfl rfl (JEff.appendL (rep := rDom) rfl rfl rfl rfl (List.Perm.swap _ _ _) (by exact hvv.flat) (by intro c hc; exact flat_one (fun v hv => (hvv.size v hv).2) c hc) (by first | omega | (unfold big; omega)) (by unfold big; omega) (by first | exact rowT_ok | (intro l hl; cases hl)) rfl ?_); intro a2 c2; clear hvv hbb)
      repeat (refine s223_L8a ?_; intros)
      exact JX.roundF (k + 1, a2, c2, vsk ++ [((.agg (flatCells [.string (domainP s k key).1, .bool (domainP s k key).2]).toArray))]) (by exact lea) ⟨by omega, by (try dsimp only); rw [hst]; exact allV_add (by exact lea) hvk (hDV _) nna, (trivial)⟩ (by (try dsimp only); omega) (by (try dsimp only); rw [hst]; (simp [flat_append] <;> omega)) (by (try dsimp only); rw [hst]; simp only [List.length_append, List.length_cons, List.length_nil]; exact sba) (by exact sba)
    · have hk' := dnlt hc
      obtain rfl : k = s.nodes.length := by omega
      rw [dmK_all] at hvk hfl
      rw [dmK_all]
      refine JC.freezeRow (rep := rDom) (bt := 24) hvk rfl (by unfold big; omega) (by unfold big; omega) (fun S9 hl9 hV9 => ?_)
      repeat (refine s223_L8a ?_; intros)
      refine JO.eff rfl rfl rfl (JEff.putK (kv := Value.string) (s := key) rfl rfl rfl (List.Perm.refl _) (by intro l hl; cases hl) (fun _ => ?_) (fun j q hj hq => absurd hq (hno q (List.mem_of_getElem? hj))))
      have hcoF : Cache s S9 (l ++ [(key, .slice rak (doms s key).length rck)]) := ⟨hco.1.snoc hno, fun q hq => by
        rcases List.mem_append.1 hq with h | h
        · exact (hco.2 q h).mono (by exact lea)
        · rw [List.mem_singleton] at h
          subst h
          exact hV9⟩
      repeat' (first | (refine s223_L8a ?_; intros) | (refine JO.guard rfl rfl rfl rfl ?_ ?_ <;> intro _) | (refine JC.cond rfl ?_ ?_ <;> intro _))
      all_goals
        refine JX.ret1 Tryz.results223 (ResV.tmp rfl) (List.Sublist.refl _) ?_
        refine ⟨?_, _, rfl, hcoF.mono (by exact lea)⟩
        simp only [near8, hxa, hxb]
        simp [*]
  · obtain ⟨qk, qv⟩ := q
    dsimp only at hq
    subst hq
    have hV := hco.2 _ (List.mem_of_getElem? hj)
    obtain ⟨a1, c1, hq2, _⟩ := V_slice.1 hV
    dsimp only at hq2
    subst hq2
    have hcoF := hco
    repeat' (first | (refine s223_L8a ?_; intros) | (refine JO.guard rfl rfl rfl rfl ?_ ?_ <;> intro _) | (refine JC.cond rfl ?_ ?_ <;> intro _))
    all_goals
      refine JX.ret1 Tryz.results223 (ResV.tmp rfl) (List.Sublist.refl _) ?_
      refine ⟨?_, _, rfl, hcoF.mono (by exact lea)⟩
      simp only [near8, hxa, hxb]
      simp [*]
end Go.Dr
namespace Go.Dr
open Go.Proofs
set_option maxRecDepth 20000
set_option maxHeartbeats 2000000
set_option linter.unusedSimpArgs false
set_option linter.unusedVariables false
def thereB (p : List Int) (F : Nat → Bool) (j : Nat) : Bool := decide (0 ≤ at0 p j) && F j
theorem p8_many {S : SHeap} {kp : Addr} {s : Snap} {p : List Int} {us : List (List Int)} {mb : Nat} {l : List (ByteArray × Value)} {f : FuncId} {fs cs : Array Value} (F : Nat → Bool) (hE : Ent Tryz.prog f) (hp : p.length ≤ 1000)
    (hL : PtrTo S kp rLook ⟨s, p, us, .map (some mb)⟩) (hco : Cache s S l)
    (hf : ∀ (S' : SHeap) (l' : List (ByteArray × Value)) (j : Nat) (n : Int), S.le S' → Cache s S' l' → p[j]? = some n → 0 ≤ n → FnC Tryz.prog f (fs.toList ++ [Value.int .i64 j] ++ cs.toList).toArray S' Value.string mb (Cache s) l' (fun w _ => w = .bool (F j))) :
    FnC Tryz.prog 174 #[.pointer (some kp), .func (.func f) fs cs] S Value.string mb (Cache s) l (fun w _ => w = .int .i64 (cntI p.length (thereB p F))) := by
  (refine Fn.enter (args := [.pointer (some kp), .func (.func f) fs cs]) Tryz.func174 rfl Tryz.ntmps174 rfl ?_; intro w0)
  repeat (first | (refine Walk ?_; intros) | refine JC.block ?_)
  refine JC.loopF (σ := Nat × List (ByteArray × Value)) [(1, _), (10, _), (11, _)] (fun q => [(4, .int .i64 (cntI q.1 (thereB p F))), (12, .int .i64 q.1)]) (fun q => [.blk mb (mapK Value.string q.2)]) (fun Sk q => q.1 ≤ p.length ∧ Cache s Sk q.2) (fun q => p.length - q.1) ((0, l)) (by exact sba) (by exact sba) rfl (⟨Nat.zero_le _, hco⟩) ?_; rintro Sk ⟨k, l1⟩ hlk hik; (try dsimp only at hik); dsimp only [List.cons_append, List.nil_append]
  obtain ⟨hk, hco1⟩ := hik
  have hrg := cntI_rng k (thereB p F)
  repeat (first | (refine Walk ?_; intros) | refine JC.block ?_)
  refine JC.cond rfl (fun hc => ?_) (fun hc => ?_)
  · have hk' := dlt hc
    obtain ⟨n, hn, _⟩ := drop_at hk'
    have hst := cntI_step k (thereB p F)
    have hG : thereB p F k = (decide (0 ≤ n) && F k) := by simp [thereB, at0_some hn]
    rw [hG] at hst
    repeat (first | (refine Walk ?_; intros) | refine JC.block ?_)
    refine JO.guard rfl rfl rfl rfl (fun h1 => ?_) (fun h1 => ?_)
    · have h1' : 0 ≤ n := by simpa using h1
      repeat (first | (refine Walk ?_; intros) | refine JC.block ?_)
      refine JO.eff rfl rfl rfl (JEff.dynC (kv := Value.string) rfl hE rfl (List.Perm.refl _) (by intro l hl; cases hl) (hf _ _ k n (by exact lea) hco1 hn h1') rfl ?_); intro w S2 l2 hl2 hw hco2; subst hw
      repeat (first | (refine Walk ?_; intros) | refine JC.block ?_)
      refine JC.cond rfl (fun h2 => ?_) (fun h2 => ?_)
      · have hst1 : cntI (k + 1) (thereB p F) = cntI k (thereB p F) + 1 := by rw [hst]; simp [h1', h2]
        repeat (first | (refine Walk ?_; intros) | refine JC.block ?_)
        exact JX.roundF ((k + 1, l2)) (by exact lea) (⟨by omega, hco2⟩) (by (try dsimp only); omega) rfl (by (try dsimp only); rw [hst1]; exact sba) (by exact sba)
      · have hst1 : cntI (k + 1) (thereB p F) = cntI k (thereB p F) := by rw [hst]; simp [h2]
        repeat (first | (refine Walk ?_; intros) | refine JC.block ?_)
        exact JX.roundF ((k + 1, l2)) (by exact lea) (⟨by omega, hco2⟩) (by (try dsimp only); omega) rfl (by (try dsimp only); rw [hst1]; exact sba) (by exact sba)
    · have h1' : ¬ 0 ≤ n := by simpa using h1
      have hst1 : cntI (k + 1) (thereB p F) = cntI k (thereB p F) := by rw [hst]; simp [h1']
      repeat (first | (refine Walk ?_; intros) | refine JC.block ?_)
      exact JX.roundF ((k + 1, l1)) (by exact lea) (⟨by omega, hco1⟩) (by (try dsimp only); omega) rfl (by (try dsimp only); rw [hst1]; exact sba) (by exact sba)
  · have hk' := dnlt hc
    obtain rfl : k = p.length := by omega
    repeat (first | (refine Walk ?_; intros) | refine JC.block ?_)
    refine JX.ret1 Tryz.results174 (ResV.tmp rfl) (List.Sublist.refl _) ?_
    exact ⟨rfl, _, rfl, hco1⟩
def aroundF (s : Snap) (p : List Int) (i : Nat) (x : Near) (self : Bool) (j : Nat) : Bool :=
  match p[j]?, s.pods[j]?, p[i]? with
  | some n, some q, some m => (self || !decide (j = i)) && near8 s n.toNat m.toNat x.topo && holdsB x.terms q.labels
  | _, _, _ => false
theorem around_about {s : Snap} {p : List Int} {i : Nat} {x : Near} {self : Bool} (hlen : p.length = s.pods.length) : cntI p.length (thereB p (aroundF s p i x self)) = about8 s p i x (!self) := by
  unfold about8
  refine cntI_congr fun j hj => ?_
  obtain ⟨n, hn⟩ : ∃ n, p[j]? = some n := ⟨_, List.getElem?_eq_getElem hj⟩
  unfold thereB aroundF aboutF
  rw [at0_some hn, hn]
  cases s.pods[j]? <;> cases p[i]? <;> simp
  cases self <;> cases decide (j = i) <;> simp [Bool.and_assoc]
theorem s222_L8b {P K : Prop} (k : K) (h : Goal K → P := by
  intro zk
  (first | refine Walk ?_ | refine JC.block ?_ | refine JC.drawN 1 rfl [0, 1, 2, 3, 4, 5, 6, 7, 8, 9, 10, 11, 12, 13, 14, 15, 16, 17, 18, 19, 20, 21, 22, 23, 24, 25, 26, 27, 28, 29, 30, 31, 32, 33, 34, 35, 36, 37, 38, 39, 40] [0, 1, 2, 3, 4, 5, 6, 7, 8, 9, 10, 11, 12, 13, 14, 15, 16, 17, 18, 19, 20, 21, 22, 23, 25, 26, 27, 28, 29, 30, 31, 32, 33, 34, 35, 36, 37, 39, 40] Tryz_mixed (by decide +kernel) ?_ | (refine JO.eff rfl rfl rfl (JEff.callV rfl (p3_Holds (by exact vta) (by exact vta)) rfl ?_); intro zqa zqb))
  (repeat (first | revert zqg | revert zqf | revert zqe | revert zqd | revert zqc | revert zqb | revert zqa))
  exact zk.k) : P := h ⟨k⟩
theorem p8_around1 {S : SHeap} {kp : Addr} {s : Snap} {p : List Int} {us : List (List Int)} {mb : Nat} {l : List (ByteArray × Value)} {qs qi qk qx : Addr} {self : Bool} {i : Nat} {x : Near} {j : Nat} {n m : Int} (hok : checkP s p = 0)
    (hL : PtrTo S kp rLook ⟨s, p, us, .map (some mb)⟩) (hco : Cache s S l) (h1 : PtrTo S qs rBool self) (h2 : PtrTo S qi rI64 (i : Int)) (h3 : PtrTo S qk rVal (.pointer (some kp))) (h4 : PtrTo S qx rNear x)
    (hj : p[j]? = some n) (hn : 0 ≤ n) (hi : p[i]? = some m) (hm : 0 ≤ m) :
    FnC Tryz.prog 222 #[.int .i64 j, .pointer (some qs), .pointer (some qi), .pointer (some qk), .pointer (some qx)] S Value.string mb (Cache s) l (fun w _ => w = .bool (aroundF s p i x self j)) := by
  obtain ⟨hs, hlen, hp24, hn8, ho8, hpr, hprn⟩ := placed_hyps hok
  have hj' := (List.getElem?_eq_some_iff.1 hj).1
  have hi' := (List.getElem?_eq_some_iff.1 hi).1
  obtain ⟨q, hq⟩ : ∃ q, s.pods[j]? = some q := ⟨_, List.getElem?_eq_getElem (by omega)⟩
  have hnr := hpr n (List.mem_of_getElem? hj)
  have hmr := hpr m (List.mem_of_getElem? hi)
  obtain ⟨n, rfl⟩ := Int.eq_ofNat_of_zero_le hn
  obtain ⟨m, rfl⟩ := Int.eq_ofNat_of_zero_le hm
  have haf : aroundF s p i x self j = ((self || !decide (j = i)) && near8 s n m x.topo && holdsB x.terms q.labels) := by simp [aroundF, hj, hq, hi]
  have hij : decide ((j : Int) = (i : Int)) = decide (j = i) := by rw [Bool.eq_iff_iff]; simp; omega
  have hjr : Rng (j : Int) := by unfold Rng; omega
  (refine Fn.enter (args := [.int .i64 j, .pointer (some qs), .pointer (some qi), .pointer (some qk), .pointer (some qx)]) Tryz.func222 rfl Tryz.ntmps222 rfl ?_; intro w0)
  cases self with
  | true =>
    repeat (refine s222_L8b ?_; intros)
    refine JO.eff rfl rfl rfl (JEff.callC (kv := Value.string) rfl (List.Perm.refl _) (by intro l hl; cases hl) (p8_near n m x.topo (by assumption) hs (by omega) (by omega) (by exact pta) (hco.mono (by exact lea))) rfl ?_); intro w S2 l2 hl2 hw hco2; subst hw
    repeat' (first | (refine s222_L8b ?_; intros) | (refine JO.guard rfl rfl rfl rfl ?_ ?_ <;> intro _) | (refine JC.cond rfl ?_ ?_ <;> intro _))
    all_goals
      refine JX.ret1 Tryz.results222 (ResV.tmp rfl) (List.Sublist.refl _) ?_
      refine ⟨?_, _, rfl, by first | assumption | (exact Cache.mono (by assumption) (by exact lea))⟩
      rw [haf]
      simp_all
  | false =>
    repeat (refine s222_L8b ?_; intros)
    refine JO.guard rfl rfl rfl rfl (fun g1 => ?_) (fun g1 => ?_)
    · repeat (refine s222_L8b ?_; intros)
      refine JO.eff rfl rfl rfl (JEff.callC (kv := Value.string) rfl (List.Perm.refl _) (by intro l hl; cases hl) (p8_near n m x.topo (by assumption) hs (by omega) (by omega) (by exact pta) (hco.mono (by exact lea))) rfl ?_); intro w S2 l2 hl2 hw hco2; subst hw
      repeat' (first | (refine s222_L8b ?_; intros) | (refine JO.guard rfl rfl rfl rfl ?_ ?_ <;> intro _) | (refine JC.cond rfl ?_ ?_ <;> intro _))
      all_goals
        refine JX.ret1 Tryz.results222 (ResV.tmp rfl) (List.Sublist.refl _) ?_
        refine ⟨?_, _, rfl, by first | assumption | (exact Cache.mono (by assumption) (by exact lea))⟩
        rw [haf]
        simp_all
    · repeat' (first | (refine s222_L8b ?_; intros) | (refine JO.guard rfl rfl rfl rfl ?_ ?_ <;> intro _) | (refine JC.cond rfl ?_ ?_ <;> intro _))
      all_goals
        refine JX.ret1 Tryz.results222 (ResV.tmp rfl) (List.Sublist.refl _) ?_
        refine ⟨?_, _, rfl, by first | assumption | (exact Cache.mono (by assumption) (by exact lea))⟩
        rw [haf]
        simp_all
end Go.Dr
namespace Go.Dr
open Go.Proofs
set_option maxRecDepth 20000
set_option maxHeartbeats 1000000
set_option linter.unusedSimpArgs false
set_option linter.unusedVariables false
end Go.Dr
namespace Go.Dr
open Go.Proofs
set_option maxRecDepth 20000
set_option maxHeartbeats 1000000
set_option linter.unusedSimpArgs false
set_option linter.unusedVariables false
def domSum (s : Snap) (key : ByteArray) (c : List Int) (v : ByteArray) (k : Nat) : Int := ((List.range k).map (fun n => if inDom s key v n = true then at0 c n else 0)).sum
theorem domSum_step (s : Snap) (key : ByteArray) (c : List Int) (v : ByteArray) (k : Nat) : domSum s key c v (k + 1) = domSum s key c v k + (if inDom s key v k = true then at0 c k else 0) := by
  unfold domSum
  rw [List.range_succ, List.map_append, List.sum_append]; simp
theorem domSum_rng {s : Snap} {key : ByteArray} {c : List Int} {v : ByteArray} (h : ∀ x ∈ c, 0 ≤ x ∧ x ≤ 1000) : ∀ k, 0 ≤ domSum s key c v k ∧ domSum s key c v k ≤ 1000 * k
  | 0 => by simp [domSum]
  | k + 1 => by
    have ih := domSum_rng (s := s) (key := key) (v := v) h k
    rw [domSum_step]
    have hk : 0 ≤ at0 c k ∧ at0 c k ≤ 1000 := by
      unfold at0
      rw [List.getD_eq_getElem?_getD]
      cases hc : c[k]? with
      | none => simp
      | some x => exact h x (List.mem_of_getElem? hc)
    split <;> omega
theorem counts_rng {s : Snap} {p : List Int} {o : Nat} (h : p.length ≤ 1000) (hlen : p.length = s.pods.length) : ∀ x ∈ countsL s p o, 0 ≤ x ∧ x ≤ 1000 := by
  intro x hx
  obtain ⟨n, _, rfl⟩ := List.mem_map.1 hx
  have h1 := List.length_filter_le (fun x => decide (x = (n : Int))) (ownedL s p o)
  have h2 : (ownedL s p o).length ≤ p.length := by rw [← ownedK_all hlen]; exact ownedK_len _ _ _ _
  omega
end Go.Dr
namespace Go.Dr
open Go.Proofs
set_option maxRecDepth 20000
set_option maxHeartbeats 1000000
set_option linter.unusedSimpArgs false
set_option linter.unusedVariables false
end Go.Dr
namespace Go.Dr
open Go.Proofs
set_option maxRecDepth 20000
set_option maxHeartbeats 1000000
set_option linter.unusedSimpArgs false
set_option linter.unusedVariables false
end Go.Dr
namespace Go.Dr
open Go.Proofs
set_option maxRecDepth 20000
set_option maxHeartbeats 1000000
set_option linter.unusedSimpArgs false
set_option linter.unusedVariables false
theorem spread_rng {s : Snap} {p : List Int} {o : Nat} (h : p.length ≤ 1000) (hlen : p.length = s.pods.length) (hn : s.nodes.length ≤ 1000) : ∀ x ∈ spreadL s p o, 0 ≤ x ∧ x ≤ 1000000 := by
  intro x hx
  obtain ⟨v, _, rfl⟩ := List.mem_map.1 hx
  have := domSum_rng (s := s) (key := topoOf s o) (v := v) (counts_rng (o := o) h hlen) s.nodes.length
  unfold domCount
  unfold domSum at this
  omega
theorem shaped_owner {s : Snap} (h : shapedB s = true) : ∀ o ∈ s.owners, 0 ≤ o.min ∧ o.min ≤ 24 ∧ 0 ≤ o.skew ∧ o.skew ≤ 24 := by
  intro o ho
  unfold shapedB at h
  simp only [Bool.and_eq_true, List.all_eq_true] at h
  have h1 := h.2.2 o ho
  unfold ownerB at h1
  simp only [Bool.and_eq_true, decide_eq_true_eq] at h1
  obtain ⟨⟨h1, h2⟩, h3⟩ := h1
  split at h1
  · have := of_decide_eq_true h1; omega
  · simp only [Bool.and_eq_true, decide_eq_true_eq] at h1; omega
theorem alike_step {α : Type} {xs ys : List α} {k : Nat} {x y : α} (hx : xs[k]? = some x) (hy : ys[k]? = some y) (h : xs.take k = ys.take k) (hxy : x = y) : xs.take (k + 1) = ys.take (k + 1) := by
  rw [List.take_add_one, List.take_add_one, hx, hy, h, hxy]
theorem alike_not {α : Type} {xs ys : List α} {k : Nat} {x y : α} (hx : xs[k]? = some x) (hy : ys[k]? = some y) (hxy : ¬ x = y) : ¬ xs = ys := by
  rintro rfl; rw [hx] at hy; exact hxy (Option.some.inj hy)
theorem s17_L8u {P K : Prop} (k : K) (h : Goal K → P := by
  intro zk
  (first | refine Walk ?_ | refine JC.block ?_ | refine JC.drawN 6 rfl [0, 1, 2, 3, 4, 5, 6, 7, 8] [0, 1, 2, 3, 4, 5, 6, 7, 8] Tryz_mixed (by decide +kernel) ?_)
  (repeat (first | revert zqg | revert zqf | revert zqe | revert zqd | revert zqc | revert zqb | revert zqa))
  exact zk.k) : P := h ⟨k⟩
theorem r0_EqInts {S : SHeap} {u v : Value} {xs ys : List Int} (hu : (rSlice 8 rI64).V S u xs) (hv : (rSlice 8 rI64).V S v ys) : FnV Tryz.prog 17 #[u, v] S (.bool (decide (xs = ys))) := by
  obtain ⟨a, c, rfl, _, _, hb, _⟩ := V_slice.1 hu
  obtain ⟨a2, c2, rfl, _, _, hb2, _⟩ := V_slice.1 hv
  unfold big at hb hb2
  (refine Fn.enter (args := [.slice a xs.length c, .slice a2 ys.length c2]) Tryz.func17 rfl Tryz.ntmps17 rfl ?_; intro w0)
  repeat (refine s17_L8u ?_; intros)
  refine JC.cond rfl (fun h0 => ?_) (fun h0 => ?_)
  · have h0 : ¬ xs.length = ys.length := by simp at h0; omega
    repeat (refine s17_L8u ?_; intros)
    (refine JX.ret1 Tryz.results17 (ResV.tmp rfl) (List.nil_sublist _) ?_)
    refine ⟨rfl, ?_⟩
    congr 1
    exact (decide_eq_false (fun h => h0 (by rw [h]))).symm
  · have h0 : xs.length = ys.length := by simp at h0; omega
    repeat (refine s17_L8u ?_; intros)
    refine JC.loopF0 [(0, _), (1, _)] (fun (k : Nat) => [(5, .int .i64 k)]) (fun Sk k => k ≤ xs.length ∧ (xs.take k = ys.take k)) (fun k => xs.length - k) 0 (by exact sba) (by exact sba) ⟨Nat.zero_le _, by simp⟩ ?_; intro Sk k hlk hik; obtain ⟨hk, hik⟩ := hik; (try dsimp only at hk hik); dsimp only [List.cons_append, List.nil_append]
    repeat (refine s17_L8u ?_; intros)
    refine JC.cond rfl (fun hc => ?_) (fun hc => ?_)
    · have hk' := dlt hc
      obtain ⟨x, hx, _⟩ := drop_at hk'
      obtain ⟨y, hy, _⟩ := drop_at (l := ys) (show k < ys.length by omega)
      repeat (refine s17_L8u ?_; intros)
      refine JC.cond rfl (fun hxy => ?_) (fun hxy => ?_)
      · have hxy : ¬ x = y := by simpa using hxy
        repeat (refine s17_L8u ?_; intros)
        (refine JX.ret1 Tryz.results17 (ResV.tmp rfl) (List.nil_sublist _) ?_)
        refine ⟨rfl, ?_⟩
        congr 1
        exact (decide_eq_false (alike_not hx hy hxy)).symm
      · have hxy : x = y := by simpa using hxy
        repeat (refine s17_L8u ?_; intros)
        exact JX.roundF (k + 1) (by exact lea) ⟨by omega, (alike_step hx hy hik hxy)⟩ (by (try dsimp only); omega) rfl (by exact sba) (by exact sba)
    · have hk' := dnlt hc
      rw [List.take_of_length_le hk', List.take_of_length_le (by omega)] at hik
      repeat (refine s17_L8u ?_; intros)
      (refine JX.ret1 Tryz.results17 (ResV.tmp rfl) (List.nil_sublist _) ?_)
      refine ⟨rfl, ?_⟩
      congr 1
      exact (decide_eq_true hik).symm
end Go.Dr
namespace Go.Dr
open Go.Proofs
set_option maxRecDepth 20000
set_option maxHeartbeats 1000000
set_option linter.unusedSimpArgs false
set_option linter.unusedVariables false
theorem used_fine {s : Snap} (h : checkS s = 0) {p : List Int} (hlen : p.length = s.pods.length) (n : Int) : (usedV s p n).length = 5 ∧ (∀ x ∈ usedV s p n, 0 ≤ x ∧ x ≤ Qty) := by
  refine ⟨by simp [usedV], fun z hz => ?_⟩
  obtain ⟨j, hj, rfl⟩ := List.mem_map.1 hz
  have := used_bound h p n p.length j (by simpa using hj)
  rwa [onK_all hlen] at this
theorem check_vec {v : List Int} (h : z0 (checkV v) = true) : ∀ x ∈ v, 0 ≤ x ∧ x ≤ Qty := by
  intro x hx
  unfold z0 checkV at h
  split at h
  · cases h
  · rename_i h1
    split at h
    · cases h
    · rename_i h2
      have h1 := (List.any_eq_false.1 (by simpa using h1)) x hx
      have h2 := (List.any_eq_false.1 (by simpa using h2)) x hx
      simp only [negB, overB, decide_eq_true_eq] at h1 h2
      omega
theorem shaped_cap {s : Snap} (h : shapedB s = true) : ∀ n ∈ s.nodes, ∀ x ∈ n.cap, 0 ≤ x ∧ x ≤ Qty := by
  intro n hn
  unfold shapedB at h
  simp only [Bool.and_eq_true, List.all_eq_true] at h
  have h1 := h.2.1.1 n hn
  unfold nodeB at h1
  simp only [Bool.and_eq_true] at h1
  exact check_vec h1.1.1
end Go.Dr
namespace Go.Dr
open Go.Proofs
set_option maxRecDepth 20000
set_option maxHeartbeats 1000000
set_option linter.unusedSimpArgs false
set_option linter.unusedVariables false
end Go.Dr
namespace Go.Dr
open Go.Proofs
set_option maxRecDepth 20000
set_option maxHeartbeats 2000000
set_option linter.unusedSimpArgs false
set_option linter.unusedVariables false
theorem of8_rng {s : Snap} {p : List Int} (hp : p.length ≤ 1000) (hw : ∀ x ∈ s.pods, x.wher.length ≤ 1000) (ht : ∀ x ∈ s.nodes, x.taints.length ≤ 1000) (kind : Int) (i : Nat) : 0 ≤ (of8 s p kind i).1 ∧ (of8 s p kind i).1 ≤ 1000 := by
  unfold of8
  cases hm : p[i]? with
  | none => simp
  | some m =>
    cases hx : s.pods[i]? with
    | none => simp
    | some x =>
      dsimp only
      split
      · simp
      · cases hn : s.nodes[m.toNat]? with
        | none => simp
        | some n =>
          dsimp only
          have h1 := hw x (List.mem_of_getElem? hx)
          have h2 := ht n (List.mem_of_getElem? hn)
          have h3 := List.length_filter_le (fun t => !holdsB [t] n.labels) x.wher
          have h4 := List.length_filter_le (fun t => !bearsB x.bears [t]) n.taints
          have h5 := cntI_rng p.length (aboutF s p i x.with_ false)
          have h6 := cntI_rng p.length (aboutF s p i x.apart true)
          have h7 := cntI_rng p.length (doubleF s p i)
          unfold termsN taintsN about8 double8
          repeat' split
          all_goals dsimp only
          all_goals omega
theorem shaped_lists {s : Snap} (h : shapedB s = true) : (∀ x ∈ s.pods, x.wher.length ≤ 1000) ∧ (∀ x ∈ s.nodes, x.taints.length ≤ 1000) := by
  unfold shapedB at h
  simp only [Bool.and_eq_true, List.all_eq_true] at h
  refine ⟨fun x hx => ?_, fun x hx => ?_⟩
  · have h1 := h.2.1.2 x hx
    unfold podB at h1
    simp only [Bool.and_eq_true] at h1
    have h2 := h1.1.1.2.1.2
    unfold z0 checkT at h2
    split at h2
    · rename_i h3
      simp only [Bool.and_eq_true, decide_eq_true_eq] at h3
      omega
    · simp at h2
  · have h1 := h.2.1.1 x hx
    unfold nodeB at h1
    simp only [Bool.and_eq_true] at h1
    have h2 := h1.2
    unfold z0 checkL at h2
    split at h2
    · rename_i h3
      simp only [Bool.and_eq_true, decide_eq_true_eq] at h3
      omega
    · simp at h2
theorem skewV_rng {s : Snap} {p : List Int} {o : Nat} (h : p.length ≤ 1000) (hlen : p.length = s.pods.length) (hn : s.nodes.length ≤ 1000) (hs : 0 ≤ skewOf s o) : 0 ≤ skewV s p o ∧ skewV s p o ≤ 1000000 := by
  unfold skewV
  have hr := spread_rng (o := o) h hlen hn
  generalize spreadL s p o = L at *
  cases L with
  | nil => simp
  | cons x L =>
    have r1 := fold_rng min_or (lo := 0) (hi := 1000000) (l := L) (z := x) (hr x (by simp)).1 (hr x (by simp)).2 (fun y hy => hr y (by simp [hy]))
    have r2 := fold_rng max_or (lo := 0) (hi := 1000000) (l := L) (z := x) (hr x (by simp)).1 (hr x (by simp)).2 (fun y hy => hr y (by simp [hy]))
    simp only [minL, maxL]
    split <;> omega
theorem placed_rng {s : Snap} {p : List Int} {o : Nat} (hlen : p.length = s.pods.length) : 0 ≤ placedN s p o ∧ placedN s p o ≤ p.length := by
  have : (ownedL s p o).length ≤ p.length := by rw [← ownedK_all hlen]; exact ownedK_len _ _ _ _
  unfold placedN; omega
end Go.Dr
namespace Go.Dr
open Go.Proofs
set_option maxRecDepth 20000
set_option maxHeartbeats 2000000
set_option linter.unusedSimpArgs false
set_option linter.unusedVariables false
theorem p8_around {S : SHeap} {kp : Addr} {s : Snap} {p : List Int} {us : List (List Int)} {mb : Nat} {l : List (ByteArray × Value)} {xv : Value} {i : Nat} {x : Near} {m : Int} (self : Bool) (hok : checkP s p = 0)
    (hL : PtrTo S kp rLook ⟨s, p, us, .map (some mb)⟩) (hco : Cache s S l) (hx : rNear.V S xv x) (hi : p[i]? = some m) (hm : 0 ≤ m) :
    FnC Tryz.prog 170 #[.pointer (some kp), .int .i64 i, xv, .bool self] S Value.string mb (Cache s) l (fun w _ => w = .int .i64 (about8 s p i x (!self))) := by
  obtain ⟨hs, hlen, hp24, hn8, ho8, hpr, hprn⟩ := placed_hyps hok
  have hi' := (List.getElem?_eq_some_iff.1 hi).1
  have hir : Rng (i : Int) := by unfold Rng; omega
  (refine Fn.enter (args := [.pointer (some kp), .int .i64 i, xv, .bool self]) Tryz.func170 rfl Tryz.ntmps170 rfl ?_; intro w0)
  repeat (first | (refine Walk ?_; intros) | refine JC.block ?_ | (refine WBox ?_; intros))
  refine JO.eff rfl rfl rfl (JEff.callC (kv := Value.string) rfl (List.Perm.refl _) (by intro l hl; cases hl) (p8_many (aroundF s p i x self) inferInstance (by omega) (by exact pta) (hco.mono (by exact lea)) (fun S' l' j n hl hc hj hn => p8_around1 hok (by exact pta) hc (by exact pta) (by exact pta) (by exact pta) (by exact pta) hj hn hi hm)) rfl ?_); intro w S2 l2 hl2 hw hco2; subst hw
  rw [around_about hlen]
  repeat (first | (refine Walk ?_; intros) | refine JC.block ?_ | (refine WBox ?_; intros))
  refine JX.ret1 Tryz.results170 (ResV.tmp rfl) (List.Sublist.refl _) ?_
  exact ⟨rfl, _, rfl, hco2⟩
theorem p8_single1 {S : SHeap} {u : Value} {o : Owner} {q : Addr} {name : ByteArray} (hu : rOwner.V S u o) (hq : PtrTo S q rStr name) : FnV Tryz.prog 224 #[u, .pointer (some q)] S (.bool (decide (o.name = name))) := by
  (refine Fn.enter (args := [u, .pointer (some q)]) Tryz.func224 rfl Tryz.ntmps224 rfl ?_; intro w0)
  repeat (first | (refine Walk ?_; intros) | refine JC.block ?_ | (refine WBox ?_; intros))
  (refine JX.ret1 Tryz.results224 (ResV.tmp rfl) (List.nil_sublist _) ?_)
  exact ⟨rfl, rfl⟩
theorem idx_find {α : Type} {f : α → Bool} {xs : List α} : (∃ (i : Nat) (x : α), idxF f xs = i ∧ xs[i]? = some x ∧ xs.find? f = some x) ∨ (idxF f xs = -1 ∧ xs.find? f = none) := by
  unfold idxF
  cases h : xs.findIdx? f with
  | none =>
    right
    refine ⟨rfl, ?_⟩
    rw [List.find?_eq_none]
    intro x hx
    have := List.findIdx?_eq_none_iff.1 h x hx
    simpa using this
  | some i =>
    left
    obtain ⟨hi, h1, h2⟩ := List.findIdx?_eq_some_iff_getElem.1 h
    refine ⟨i, xs[i], rfl, List.getElem?_eq_getElem hi, ?_⟩
    rw [List.find?_eq_some_iff_getElem]
    exact ⟨h1, i, hi, rfl, fun j hj => by simpa using h2 j hj⟩
theorem p8_single {S : SHeap} {kp : Addr} {s : Snap} {p : List Int} {us : List (List Int)} {d : Value} (name : ByteArray) (hn : name.size ≤ big) (hL : PtrTo S kp rLook ⟨s, p, us, d⟩) : FnV Tryz.prog 173 #[.pointer (some kp), .string name] S (.bool (single8 s name)) := by
  (refine Fn.enter (args := [.pointer (some kp), .string name]) Tryz.func173 rfl Tryz.ntmps173 rfl ?_; intro w0)
  repeat (first | (refine Walk ?_; intros) | refine JC.block ?_ | (refine WBox ?_; intros))
  (refine JO.eff rfl rfl rfl (JEff.callV rfl (p_IndexFunc_Owner (fun o => decide (o.name = name)) (by exact vta) inferInstance (fun S' hl u x hx => p8_single1 hx (by exact pta))) rfl ?_); intro _ _)
  rcases idx_find (f := fun o : Owner => decide (o.name = name)) (xs := s.owners) with ⟨i, o, h1, h2, h3⟩ | ⟨h1, h3⟩
  · rw [h1]
    repeat' (first | (refine Walk ?_; intros) | refine JC.block ?_ | (refine WBox ?_; intros) | (refine JO.guard rfl rfl rfl rfl ?_ ?_ <;> intro _) | (refine JC.cond rfl ?_ ?_ <;> intro _))
    all_goals first
      | ((refine JX.ret1 Tryz.results173 (ResV.tmp rfl) (List.nil_sublist _) ?_); exact ⟨rfl, by simp [single8, h3, *]⟩)
      | (exfalso; first | (simp only [decide_eq_true_eq, decide_eq_false_iff_not, Bool.not_eq_true', Bool.not_eq_false', Bool.and_eq_true, Bool.or_eq_true, Bool.and_eq_false_iff, Bool.or_eq_false_iff] at *; omega) | (simp_all; done) | (simp_all; omega))
  · rw [h1]
    repeat' (first | (refine Walk ?_; intros) | refine JC.block ?_ | (refine WBox ?_; intros) | (refine JO.guard rfl rfl rfl rfl ?_ ?_ <;> intro _) | (refine JC.cond rfl ?_ ?_ <;> intro _))
    all_goals first
      | ((refine JX.ret1 Tryz.results173 (ResV.tmp rfl) (List.nil_sublist _) ?_); exact ⟨rfl, by simp [single8, h3]⟩)
      | (exfalso; first | (simp only [decide_eq_true_eq, decide_eq_false_iff_not, Bool.not_eq_true', Bool.not_eq_false', Bool.and_eq_true, Bool.or_eq_true, Bool.and_eq_false_iff, Bool.or_eq_false_iff] at *; omega) | (simp_all; done) | (simp_all; omega))
theorem p8_withoutT {S : SHeap} {u : Value} {l : List Term} {f : FuncId} {fs cs : Array Value} (F : Term → Bool) (hu : (rSlice 40 rTerm).V S u l) (hE : Ent Tryz.prog f)
    (hf : ∀ (S' : SHeap) (v : Value) (x : Term), S.le S' → (rSlice 40 rTerm).V S' v [x] → FnV Tryz.prog f (fs.toList ++ [v] ++ cs.toList).toArray S' (.bool (F x))) : FnV Tryz.prog 162 #[u, .func (.func f) fs cs] S (.int .i64 ((l.filter (fun t => !F t)).length : Int)) := by
  obtain ⟨a, c, rfl, _, _, hb, _⟩ := V_slice.1 hu
  unfold big at hb
  (refine Fn.enter (args := [.slice a l.length c, .func (.func f) fs cs]) Tryz.func162 rfl Tryz.ntmps162 rfl ?_; intro w0)
  repeat (first | (refine Walk ?_; intros) | refine JC.block ?_)
  refine JC.loopF0 [(0, _), (1, _), (7, _)] (fun (k : Nat) => [(4, .int .i64 (((l.take k).filter (fun t => !F t)).length : Int)), (8, .int .i64 k)]) (fun Sk k => k ≤ l.length ∧ (True)) (fun k => l.length - k) 0 (by exact sba) (by exact sba) ⟨Nat.zero_le _, trivial⟩ ?_; intro Sk k hlk hik; obtain ⟨hk, hik⟩ := hik; (try dsimp only at hk hik); dsimp only [List.cons_append, List.nil_append]
  repeat (first | (refine Walk ?_; intros) | refine JC.block ?_)
  refine JC.cond rfl (fun hc => ?_) (fun hc => ?_)
  · have hk' := dlt hc
    obtain ⟨x, hx, hd⟩ := drop_at hk'
    have hst := filt_take (f := fun t => !F t) hx
    have hle := filt_le l (fun t => !F t) k
    repeat (first | (refine Walk ?_; intros) | refine JC.block ?_)
    refine JO.pure rfl rfl rfl (JPure.sliceS (xs := l) (rep := rTerm) (bt := 40) rfl (by exact vta) rfl rfl rfl (by omega) (by omega) (by omega) ?_); intro a1 c1 ys hys hV hyl hyb
    rw [cut1 hx] at hys
    subst hys
    repeat (first | (refine Walk ?_; intros) | refine JC.block ?_)
    (refine JO.eff rfl rfl rfl (JEff.dynV rfl (by assumption) rfl (hf _ _ x (by exact lea) (by exact vta)) rfl ?_); intro _ _)
    repeat (first | (refine Walk ?_; intros) | refine JC.block ?_)
    refine JC.cond rfl (fun h1 => ?_) (fun h1 => ?_)
    · rw [h1, if_pos rfl] at hst
      repeat (first | (refine Walk ?_; intros) | refine JC.block ?_)
      (refine JX.roundF (k + 1) (by exact lea) ⟨by omega, (trivial)⟩ (by (try dsimp only); omega) rfl ?_ (by exact sba); (try dsimp only); rw [hst]; exact sba; done)
    · rw [h1, if_neg (by simp), Int.add_zero] at hst
      repeat (first | (refine Walk ?_; intros) | refine JC.block ?_)
      (refine JX.roundF (k + 1) (by exact lea) ⟨by omega, (trivial)⟩ (by (try dsimp only); omega) rfl ?_ (by exact sba); (try dsimp only); rw [hst]; exact sba; done)
  · have hk' := dnlt hc
    rw [List.take_of_length_le hk']
    repeat (first | (refine Walk ?_; intros) | refine JC.block ?_)
    (refine JX.ret1 Tryz.results162 (ResV.tmp rfl) (List.nil_sublist _) ?_)
    exact ⟨rfl, rfl⟩
theorem p8_withoutL {S : SHeap} {u : Value} {l : List Label} {f : FuncId} {fs cs : Array Value} (F : Label → Bool) (hu : (rSlice 32 rLabel).V S u l) (hE : Ent Tryz.prog f)
    (hf : ∀ (S' : SHeap) (v : Value) (x : Label), S.le S' → (rSlice 32 rLabel).V S' v [x] → FnV Tryz.prog f (fs.toList ++ [v] ++ cs.toList).toArray S' (.bool (F x))) : FnV Tryz.prog 166 #[u, .func (.func f) fs cs] S (.int .i64 ((l.filter (fun t => !F t)).length : Int)) := by
  obtain ⟨a, c, rfl, _, _, hb, _⟩ := V_slice.1 hu
  unfold big at hb
  (refine Fn.enter (args := [.slice a l.length c, .func (.func f) fs cs]) Tryz.func166 rfl Tryz.ntmps166 rfl ?_; intro w0)
  repeat (first | (refine Walk ?_; intros) | refine JC.block ?_)
  refine JC.loopF0 [(0, _), (1, _), (7, _)] (fun (k : Nat) => [(4, .int .i64 (((l.take k).filter (fun t => !F t)).length : Int)), (8, .int .i64 k)]) (fun Sk k => k ≤ l.length ∧ (True)) (fun k => l.length - k) 0 (by exact sba) (by exact sba) ⟨Nat.zero_le _, trivial⟩ ?_; intro Sk k hlk hik; obtain ⟨hk, hik⟩ := hik; (try dsimp only at hk hik); dsimp only [List.cons_append, List.nil_append]
  repeat (first | (refine Walk ?_; intros) | refine JC.block ?_)
  refine JC.cond rfl (fun hc => ?_) (fun hc => ?_)
  · have hk' := dlt hc
    obtain ⟨x, hx, hd⟩ := drop_at hk'
    have hst := filt_take (f := fun t => !F t) hx
    have hle := filt_le l (fun t => !F t) k
    repeat (first | (refine Walk ?_; intros) | refine JC.block ?_)
    refine JO.pure rfl rfl rfl (JPure.sliceS (xs := l) (rep := rLabel) (bt := 32) rfl (by exact vta) rfl rfl rfl (by omega) (by omega) (by omega) ?_); intro a1 c1 ys hys hV hyl hyb
    rw [cut1 hx] at hys
    subst hys
    repeat (first | (refine Walk ?_; intros) | refine JC.block ?_)
    (refine JO.eff rfl rfl rfl (JEff.dynV rfl (by assumption) rfl (hf _ _ x (by exact lea) (by exact vta)) rfl ?_); intro _ _)
    repeat (first | (refine Walk ?_; intros) | refine JC.block ?_)
    refine JC.cond rfl (fun h1 => ?_) (fun h1 => ?_)
    · rw [h1, if_pos rfl] at hst
      repeat (first | (refine Walk ?_; intros) | refine JC.block ?_)
      (refine JX.roundF (k + 1) (by exact lea) ⟨by omega, (trivial)⟩ (by (try dsimp only); omega) rfl ?_ (by exact sba); (try dsimp only); rw [hst]; exact sba; done)
    · rw [h1, if_neg (by simp), Int.add_zero] at hst
      repeat (first | (refine Walk ?_; intros) | refine JC.block ?_)
      (refine JX.roundF (k + 1) (by exact lea) ⟨by omega, (trivial)⟩ (by (try dsimp only); omega) rfl ?_ (by exact sba); (try dsimp only); rw [hst]; exact sba; done)
  · have hk' := dnlt hc
    rw [List.take_of_length_le hk']
    repeat (first | (refine Walk ?_; intros) | refine JC.block ?_)
    (refine JX.ret1 Tryz.results166 (ResV.tmp rfl) (List.nil_sublist _) ?_)
    exact ⟨rfl, rfl⟩
end Go.Dr
namespace Go.Dr
open Go.Proofs
set_option maxRecDepth 20000
set_option maxHeartbeats 2000000
set_option linter.unusedSimpArgs false
set_option linter.unusedVariables false
structure PodAt (s : Snap) (p : List Int) (i m : Nat) (x : Pod) (n : Node) : Prop where
  ok : checkP s p = 0
  hm : p[i]? = some (m : Int)
  hx : s.pods[i]? = some x
  hn : s.nodes[m]? = some n
theorem of8_at {s : Snap} {p : List Int} {i m : Nat} {x : Pod} {n : Node} (h : PodAt s p i m x n) (kind : Int) : of8 s p kind i =
      if kind = 2 then (termsN x.wher n.labels, true)
      else if kind = 3 then (taintsN n.taints x.bears, true)
      else if kind = 4 then (if x.with_.topo = noS then (0, false) else (max 0 (1 - about8 s p i x.with_ false), true))
      else if kind = 5 then (if x.apart.topo = noS then (0, false) else (about8 s p i x.apart true, true))
      else if x.owner = noS then (0, false) else if !single8 s x.owner then (0, false) else (double8 s p i, true) := by
  unfold of8
  rw [h.hm, h.hx]
  have e : ((m : Int)).toNat = m := by omega
  have e2 : ¬ (m : Int) < 0 := by omega
  simp only [e, h.hn, if_neg e2]
def KindAns (f : FuncId) (kind : Int) : Prop :=
  ∀ {S : SHeap} {kp : Addr} {s : Snap} {p : List Int} {us : List (List Int)} {mb : Nat} {l : List (ByteArray × Value)} {i m : Nat} {x : Pod} {n : Node}, PodAt s p i m x n →
    PtrTo S kp rLook ⟨s, p, us, .map (some mb)⟩ → Cache s S l → FnC Tryz.prog f #[.pointer (some kp), .int .i64 i] S Value.string mb (Cache s) l (fun w _ => w = .tuple #[.int .i64 (of8 s p kind i).1, .bool (of8 s p kind i).2])
theorem p8_kinds11 {S : SHeap} {u : Value} {t : Term} {ls : List Label} {q : Addr} (hu : (rSlice 40 rTerm).V S u [t]) (hq : PtrTo S q (rSlice 32 rLabel) ls) : FnV Tryz.prog 163 #[u, .pointer (some q)] S (.bool (holdsB [t] ls)) := by
  (refine Fn.enter (args := [u, .pointer (some q)]) Tryz.func163 rfl Tryz.ntmps163 rfl ?_; intro w0)
  repeat (first | (refine Walk ?_; intros) | refine JC.block ?_ | (refine JO.eff rfl rfl rfl (JEff.callV rfl (p3_Holds (by exact vta) (by exact vta)) rfl ?_); intro _ _))
  (refine JX.ret1 Tryz.results163 (ResV.tmp rfl) (List.nil_sublist _) ?_)
  exact ⟨rfl, rfl⟩
theorem p8_kinds21 {S : SHeap} {u : Value} {t : Label} {ls : List Label} {q : Addr} (hu : (rSlice 32 rLabel).V S u [t]) (hq : PtrTo S q (rSlice 32 rLabel) ls) : FnV Tryz.prog 167 #[u, .pointer (some q)] S (.bool (bearsB ls [t])) := by
  (refine Fn.enter (args := [u, .pointer (some q)]) Tryz.func167 rfl Tryz.ntmps167 rfl ?_; intro w0)
  repeat (first | (refine Walk ?_; intros) | refine JC.block ?_ | (refine JO.eff rfl rfl rfl (JEff.callV rfl (p3_Bears (by exact vta) (by exact vta)) rfl ?_); intro _ _))
  (refine JX.ret1 Tryz.results167 (ResV.tmp rfl) (List.nil_sublist _) ?_)
  exact ⟨rfl, rfl⟩
theorem s161_L8d {P K : Prop} (k : K) (h : Goal K → P := by
  intro zk
  (first | refine Walk ?_ | refine JC.block ?_ | refine JC.drawN 1 rfl [0, 1, 2, 3, 4, 5, 6, 7, 8, 9, 10, 11, 12, 13, 14, 15, 16] [] Tryz_mixed (by decide +kernel) ?_ | (refine WNew ?_) | (refine WPut ?_))
  (repeat (first | revert zqg | revert zqf | revert zqe | revert zqd | revert zqc | revert zqb | revert zqa))
  exact zk.k) : P := h ⟨k⟩
theorem p8_kinds1 : KindAns 161 2 := by
  intro S kp s p us mb l i m x n h hL hco
  rw [of8_at h]
  have hm := h.hm
  have hx := h.hx
  have hn := h.hn
  refine FnR.toC ?_ (fun S' hl => hco.mono hl)
  (refine Fn.enter (args := [.pointer (some kp), .int .i64 i]) Tryz.func161 rfl Tryz.ntmps161 rfl ?_; intro w0)
  repeat (refine s161_L8d ?_; intros)
  (refine JO.eff rfl rfl rfl (JEff.callV rfl (p8_withoutT (fun t => holdsB [t] n.labels) (by exact vta) inferInstance (fun S' v t hl hv => p8_kinds11 hv (by exact pta))) rfl ?_); intro _ _)
  repeat (refine s161_L8d ?_; intros)
  (refine JX.ret2 Tryz.results161 (ResV.tmp rfl) (ResV.tmp rfl) (List.nil_sublist _) ?_)
  exact ⟨rfl, rfl⟩
theorem s165_L8d {P K : Prop} (k : K) (h : Goal K → P := by
  intro zk
  (first | refine Walk ?_ | refine JC.block ?_ | refine JC.drawN 2 rfl [0, 1, 2, 3, 4, 5, 6, 7, 8, 9, 10, 11, 12, 13, 14, 15, 16, 17, 18] [0, 1, 2, 3, 4, 5, 6, 7, 8, 9, 10, 11, 12, 13, 14, 15, 17, 18] Tryz_mixed (by decide +kernel) ?_ | (refine WNew ?_) | (refine WPut ?_))
  (repeat (first | revert zqg | revert zqf | revert zqe | revert zqd | revert zqc | revert zqb | revert zqa))
  exact zk.k) : P := h ⟨k⟩
theorem p8_kinds2 : KindAns 165 3 := by
  intro S kp s p us mb l i m x n h hL hco
  rw [of8_at h]
  have hm := h.hm
  have hx := h.hx
  have hn := h.hn
  refine FnR.toC ?_ (fun S' hl => hco.mono hl)
  (refine Fn.enter (args := [.pointer (some kp), .int .i64 i]) Tryz.func165 rfl Tryz.ntmps165 rfl ?_; intro w0)
  repeat (refine s165_L8d ?_; intros)
  (refine JO.eff rfl rfl rfl (JEff.callV rfl (p8_withoutL (fun t => bearsB x.bears [t]) (by exact vta) inferInstance (fun S' v t hl hv => p8_kinds21 hv (by exact pta))) rfl ?_); intro _ _)
  repeat (refine s165_L8d ?_; intros)
  (refine JX.ret2 Tryz.results165 (ResV.tmp rfl) (ResV.tmp rfl) (List.nil_sublist _) ?_)
  exact ⟨rfl, rfl⟩
theorem p8_kinds3 : KindAns 169 4 := by
  intro S kp s p us mb l i m x n h hL hco
  rw [of8_at h]
  have hm := h.hm
  have hx := h.hx
  obtain ⟨hs, hlen, hp24, hn8, ho8, hpr, hprn⟩ := placed_hyps h.ok
  have hab := cntI_rng p.length (aboutF s p i x.with_ false)
  (refine Fn.enter (args := [.pointer (some kp), .int .i64 i]) Tryz.func169 rfl Tryz.ntmps169 rfl ?_; intro w0)
  repeat (first | (refine Walk ?_; intros) | refine JC.block ?_ | (refine WNew ?_; intros) | (refine WPut ?_; intros))
  refine JC.cond rfl (fun h1 => ?_) (fun h1 => ?_)
  · have h1 : x.with_.topo = noS := by simpa [noS] using h1
    repeat (first | (refine Walk ?_; intros) | refine JC.block ?_ | (refine WNew ?_; intros) | (refine WPut ?_; intros))
    refine JX.ret2 Tryz.results169 (ResV.tmp rfl) (ResV.tmp rfl) (List.Sublist.refl _) ?_
    exact ⟨by simp [h1], _, rfl, hco.mono (by exact lea)⟩
  · have h1 : ¬ x.with_.topo = noS := by simpa [noS] using h1
    repeat (first | (refine Walk ?_; intros) | refine JC.block ?_ | (refine WNew ?_; intros) | (refine WPut ?_; intros))
    refine JO.eff rfl rfl rfl (JEff.callC (kv := Value.string) rfl (List.Perm.refl _) (by intro l hl; cases hl) (p8_around true h.ok (by exact pta) (hco.mono (by exact lea)) (by exact vta) hm (by omega)) rfl ?_); intro w S2 l2 hl2 hw hco2; subst hw
    have e : about8 s p i x.with_ (!true) = about8 s p i x.with_ false := rfl
    have hab2 : 0 ≤ about8 s p i x.with_ (!true) ∧ about8 s p i x.with_ (!true) ≤ p.length := hab
    repeat (first | (refine Walk ?_; intros) | refine JC.block ?_ | (refine WNew ?_; intros) | (refine WPut ?_; intros))
    refine JX.ret2 Tryz.results169 (ResV.tmp rfl) (ResV.tmp rfl) (List.Sublist.refl _) ?_
    exact ⟨by simp [h1], _, rfl, hco2⟩
theorem p8_kinds4 : KindAns 171 5 := by
  intro S kp s p us mb l i m x n h hL hco
  rw [of8_at h]
  have hm := h.hm
  have hx := h.hx
  obtain ⟨hs, hlen, hp24, hn8, ho8, hpr, hprn⟩ := placed_hyps h.ok
  (refine Fn.enter (args := [.pointer (some kp), .int .i64 i]) Tryz.func171 rfl Tryz.ntmps171 rfl ?_; intro w0)
  repeat (first | (refine Walk ?_; intros) | refine JC.block ?_ | (refine WNew ?_; intros) | (refine WPut ?_; intros))
  refine JC.cond rfl (fun h1 => ?_) (fun h1 => ?_)
  · have h1 : x.apart.topo = noS := by simpa [noS] using h1
    repeat (first | (refine Walk ?_; intros) | refine JC.block ?_ | (refine WNew ?_; intros) | (refine WPut ?_; intros))
    refine JX.ret2 Tryz.results171 (ResV.tmp rfl) (ResV.tmp rfl) (List.Sublist.refl _) ?_
    exact ⟨by simp [h1], _, rfl, hco.mono (by exact lea)⟩
  · have h1 : ¬ x.apart.topo = noS := by simpa [noS] using h1
    repeat (first | (refine Walk ?_; intros) | refine JC.block ?_ | (refine WNew ?_; intros) | (refine WPut ?_; intros))
    refine JO.eff rfl rfl rfl (JEff.callC (kv := Value.string) rfl (List.Perm.refl _) (by intro l hl; cases hl) (p8_around false h.ok (by exact pta) (hco.mono (by exact lea)) (by exact vta) hm (by omega)) rfl ?_); intro w S2 l2 hl2 hw hco2; subst hw
    repeat (first | (refine Walk ?_; intros) | refine JC.block ?_ | (refine WNew ?_; intros) | (refine WPut ?_; intros))
    refine JX.ret2 Tryz.results171 (ResV.tmp rfl) (ResV.tmp rfl) (List.Sublist.refl _) ?_
    exact ⟨by simp [h1], _, rfl, hco2⟩
def dblF (s : Snap) (p : List Int) (i m : Nat) (x : Pod) (j : Nat) : Bool :=
  match p[j]?, s.pods[j]? with
  | some n, some q => !decide (j = i) && decide (n = (m : Int)) && decide (q.owner = x.owner)
  | _, _ => false
theorem dbl_double {s : Snap} {p : List Int} {i m : Nat} {x : Pod} {n : Node} (h : PodAt s p i m x n) : cntI p.length (thereB p (dblF s p i m x)) = double8 s p i := by
  unfold double8
  refine cntI_congr fun j hj => ?_
  obtain ⟨n, hn⟩ : ∃ n, p[j]? = some n := ⟨_, List.getElem?_eq_getElem hj⟩
  unfold thereB dblF doubleF
  rw [at0_some hn, hn, h.hm, h.hx]
  cases s.pods[j]? <;> simp
  intro _ h1 _
  omega
theorem p8_kinds51 {S : SHeap} {kp : Addr} {s : Snap} {p : List Int} {us : List (List Int)} {d : Value} {qi qk qn : Addr} {i m j : Nat} {x : Pod} {n : Node} {nj : Int} (h : PodAt s p i m x n)
    (hL : PtrTo S kp rLook ⟨s, p, us, d⟩) (h2 : PtrTo S qi rI64 (i : Int)) (h3 : PtrTo S qk rVal (.pointer (some kp))) (h4 : PtrTo S qn rStr x.owner) (hj : p[j]? = some nj) :
    FnV Tryz.prog 175 #[.int .i64 j, .pointer (some qi), .pointer (some qk), .pointer (some qn)] S (.bool (dblF s p i m x j)) := by
  obtain ⟨hs, hlen, hp24, hn8, ho8, hpr, hprn⟩ := placed_hyps h.ok
  have hm := h.hm
  have hj' := (List.getElem?_eq_some_iff.1 hj).1
  have hi' := (List.getElem?_eq_some_iff.1 hm).1
  obtain ⟨q, hq⟩ : ∃ q, s.pods[j]? = some q := ⟨_, List.getElem?_eq_getElem (by omega)⟩
  have haf : dblF s p i m x j = (!decide (j = i) && decide (nj = (m : Int)) && decide (q.owner = x.owner)) := by simp [dblF, hj, hq]
  have hij : decide ((j : Int) = (i : Int)) = decide (j = i) := by rw [Bool.eq_iff_iff]; simp; omega
  have hjr : Rng (j : Int) := by unfold Rng; omega
  rw [haf]
  clear haf
  (refine Fn.enter (args := [.int .i64 j, .pointer (some qi), .pointer (some qk), .pointer (some qn)]) Tryz.func175 rfl Tryz.ntmps175 rfl ?_; intro w0)
  repeat' (first | (refine Walk ?_; intros) | refine JC.block ?_ | refine JC.drawN 1 rfl [0, 1, 2, 3, 4, 5, 6, 7, 8, 9, 10, 11, 12, 13, 14, 15, 16, 17, 18, 19, 20, 21, 22, 23, 24, 25, 26, 27, 28, 29, 30, 31, 32, 33] [0, 1, 2, 3, 4, 5, 6, 7, 8, 9, 10, 11, 12, 13, 14, 15, 16, 17, 18, 19, 20, 21, 22, 23, 24, 25, 26, 27, 28, 29, 30, 31, 32, 33] Tryz_mixed (by decide +kernel) ?_ | (refine JO.guard rfl rfl rfl rfl ?_ ?_ <;> intro _) | (refine JC.cond rfl ?_ ?_ <;> intro _))
  all_goals ((refine JX.ret1 Tryz.results175 (ResV.tmp rfl) (List.nil_sublist _) ?_); refine ⟨rfl, ?_⟩; simp_all)
theorem single_no {s : Snap} (h : shapedB s = true) : single8 s noS = false := by
  unfold single8
  cases hf : s.owners.find? (fun o => decide (o.name = noS)) with
  | none => rfl
  | some o =>
    exfalso
    have h1 := List.find?_some hf
    have h2 := List.mem_of_find?_eq_some hf
    have h1 : o.name = noS := by simpa using h1
    unfold shapedB at h
    simp only [Bool.and_eq_true] at h
    have h3 := h.1.2.2
    have h4 : nameB o.name = true := by
      have : ∀ (l : List ByteArray) (a : Option ByteArray), riseN a l = true → ∀ x ∈ l, nameB x = true := by
        intro l
        induction l with
        | nil => intro a _ x hx; cases hx
        | cons y l ih =>
          intro a hr x hx
          simp only [riseN, Bool.and_eq_true] at hr
          rcases List.mem_cons.1 hx with rfl | hx
          · exact hr.1.1
          · exact ih _ hr.2 x hx
      exact this _ _ h3 _ (List.mem_map.2 ⟨o, h2, rfl⟩)
    rw [h1] at h4
    exact absurd h4 (by decide)
theorem s172_L8d {P K : Prop} (k : K) (h : Goal K → P := by
  intro zk
  (first | refine Walk ?_ | refine JC.block ?_ | refine JC.drawN 1 rfl [0, 1, 2, 3, 4, 5, 6, 7, 8, 9, 10] [] Tryz_mixed (by decide +kernel) ?_ | (refine WBox ?_) | (refine WNew ?_) | (refine WPut ?_))
  (repeat (first | revert zqg | revert zqf | revert zqe | revert zqd | revert zqc | revert zqb | revert zqa))
  exact zk.k) : P := h ⟨k⟩
theorem p8_kinds5 : KindAns 172 6 := by
  intro S kp s p us mb l i m x n h hL hco
  have hm := h.hm
  have hx := h.hx
  obtain ⟨hs, hlen, hp24, hn8, ho8, hpr, hprn⟩ := placed_hyps h.ok
  have hi' := (List.getElem?_eq_some_iff.1 hm).1
  have hir : Rng (i : Int) := by unfold Rng; omega
  have hno := single_no (checkS_ok hs).1
  have hval : (if x.owner = noS then ((0 : Int), false) else if !single8 s x.owner then (0, false) else (double8 s p i, true)) = if single8 s x.owner then (double8 s p i, true) else (0, false) := by
    by_cases h1 : x.owner = noS
    · rw [if_pos h1, h1, hno]; rfl
    · rw [if_neg h1]; cases single8 s x.owner <;> rfl
  have hv6 : of8 s p 6 i = if single8 s x.owner then (double8 s p i, true) else (0, false) := by rw [of8_at h, if_neg (by decide), if_neg (by decide), if_neg (by decide), if_neg (by decide)]; exact hval
  rw [hv6]
  (refine Fn.enter (args := [.pointer (some kp), .int .i64 i]) Tryz.func172 rfl Tryz.ntmps172 rfl ?_; intro w0)
  repeat (refine s172_L8d ?_; intros)
  (refine JO.eff rfl rfl rfl (JEff.callV rfl (p8_single x.owner (by assumption) (by exact pta)) rfl ?_); intro _ _)
  repeat (refine s172_L8d ?_; intros)
  cases h1 : single8 s x.owner with
  | false =>
    repeat (refine s172_L8d ?_; intros)
    refine JX.ret2 Tryz.results172 (ResV.tmp rfl) (ResV.tmp rfl) (List.Sublist.refl _) ?_
    exact ⟨by simp [h1], _, rfl, hco.mono (by exact lea)⟩
  | true =>
    repeat (refine s172_L8d ?_; intros)
    refine JO.eff rfl rfl rfl (JEff.callC (kv := Value.string) rfl (List.Perm.refl _) (by intro l hl; cases hl) (p8_many (dblF s p i m x) inferInstance (by omega) (by exact pta) (hco.mono (by exact lea)) (fun S' l' j n hl hc hj hn => FnR.toC (p8_kinds51 h (by exact pta) (by exact pta) (by exact pta) (by exact pta) hj) (fun _ hl => hc.mono hl))) rfl ?_); intro w S2 l2 hl2 hw hco2; subst hw
    rw [dbl_double h]
    repeat (refine s172_L8d ?_; intros)
    refine JX.ret2 Tryz.results172 (ResV.tmp rfl) (ResV.tmp rfl) (List.Sublist.refl _) ?_
    exact ⟨by simp [h1], _, rfl, hco2⟩
end Go.Dr
namespace Go.Dr
def spCnt (s : Snap) (key : ByteArray) (xs : List Int) (v : ByteArray) : Int := ((xs.filter (fun x => inDom s key v x.toNat)).length : Int)
theorem sum_add2 (f g : Nat → Int) : ∀ N, ((List.range N).map (fun n => f n + g n)).sum = ((List.range N).map f).sum + ((List.range N).map g).sum
  | 0 => rfl
  | N + 1 => by
    simp only [List.range_succ, List.map_append, List.sum_append, List.map_cons, List.map_nil, List.sum_cons, List.sum_nil, sum_add2 f g N]; omega
theorem sum_one (c : Int) (i : Nat) : ∀ N, ((List.range N).map (fun n => if n = i then c else 0)).sum = if i < N then c else 0
  | 0 => rfl
  | N + 1 => by
    simp only [List.range_succ, List.map_append, List.sum_append, List.map_cons, List.map_nil, List.sum_cons, List.sum_nil, sum_one c i N]
    by_cases h : i < N
    · rw [if_pos h, if_neg (by omega), if_pos (by omega)]; omega
    · by_cases h2 : N = i
      · rw [if_neg h, if_pos h2, if_pos (by omega)]; omega
      · rw [if_neg h, if_neg h2, if_neg (by omega)]; rfl
theorem spCnt_sum (s : Snap) (key v : ByteArray) (N : Nat) : ∀ (xs : List Int), (∀ x ∈ xs, 0 ≤ x ∧ x < N) →
    ((List.range N).map (fun n => if inDom s key v n = true then ((xs.filter (fun x => decide (x = (n : Int)))).length : Int) else 0)).sum = spCnt s key xs v
  | [], _ => by
    unfold spCnt
    simp [List.map_const', List.sum_replicate_int]
  | x :: xs, h => by
    have ih := spCnt_sum s key v N xs (fun y hy => h y (by simp [hy]))
    obtain ⟨h0, h1⟩ := h x (by simp)
    obtain ⟨i, rfl⟩ := Int.eq_ofNat_of_zero_le h0
    have e1 : (fun n : Nat => if inDom s key v n = true then ((((i : Int) :: xs).filter (fun x => decide (x = (n : Int)))).length : Int) else 0) =
        fun n => (if inDom s key v n = true then ((xs.filter (fun x => decide (x = (n : Int)))).length : Int) else 0) + (if n = i then (if inDom s key v i = true then 1 else 0) else 0) := by
      funext n
      by_cases hn : n = i
      · subst hn
        rw [List.filter_cons_of_pos (by simp)]
        cases inDom s key v n <;> simp
      · rw [List.filter_cons_of_neg (by simp; omega), if_neg hn]; simp
    rw [e1, sum_add2, ih, sum_one, if_pos (by omega)]
    unfold spCnt
    cases hd : inDom s key v i with
    | true => rw [List.filter_cons_of_pos (by simpa using hd)]; simp
    | false => rw [List.filter_cons_of_neg (by simpa using hd)]; simp
theorem spread_cnt {s : Snap} {p : List Int} {o : Nat} (h : ∀ x ∈ ownedL s p o, 0 ≤ x ∧ x < s.nodes.length) : spreadL s p o = (domL s (topoOf s o)).map (spCnt s (topoOf s o) (ownedL s p o)) := by
  unfold spreadL
  apply List.map_congr_left
  intro v _
  rw [← spCnt_sum s (topoOf s o) v s.nodes.length _ h]
  unfold domCount
  congr 1
  apply List.map_congr_left
  intro n hn
  have hn := List.mem_range.1 hn
  have : at0 (countsL s p o) n = (((ownedL s p o).filter (fun x => decide (x = (n : Int)))).length : Int) := by
    simp [at0, countsL, hn]
  rw [this]
theorem spCnt_step {s : Snap} {key : ByteArray} {xs : List Int} {k : Nat} {y : Int} (h : xs[k]? = some y) (v : ByteArray) : spCnt s key (xs.take (k + 1)) v = spCnt s key (xs.take k) v + if inDom s key v y.toNat = true then 1 else 0 := by
  unfold spCnt
  rw [List.take_add_one, h]
  cases hd : inDom s key v y.toNat <;> simp [hd]
theorem map_set1 {D : List ByteArray} {j : Nat} {v : ByteArray} (f : ByteArray → Int) (hn : pwS D) (hj : D[j]? = some v) : D.map (fun d => f d + if d = v then 1 else 0) = (D.map f).set j (f v + 1) := by
  obtain ⟨l1, e1⟩ := List.getElem?_eq_some_iff.1 hj
  apply List.ext_getElem?
  intro i
  rw [List.getElem?_set, List.getElem?_map, List.getElem?_map, List.length_map]
  by_cases hi : j = i
  · subst hi
    rw [if_pos rfl, if_pos l1, hj]; simp
  · rw [if_neg hi]
    cases hd : D[i]? with
    | none => rfl
    | some d =>
      obtain ⟨l2, e2⟩ := List.getElem?_eq_some_iff.1 hd
      have hne : ¬ d = v := by
        intro he
        have hp := List.pairwise_iff_getElem.1 hn
        rcases Nat.lt_or_ge i j with hl | hl
        · have := hp i j l2 l1 hl
          rw [e1, e2, he, ltS_irr] at this; cases this
        · have := hp j i l1 l2 (by omega)
          rw [e1, e2, he, ltS_irr] at this; cases this
      simp [hne]
theorem dom_has (key : ByteArray) : ∀ (l : List Node) (b : List ByteArray) (v : ByteArray), (v ∈ b ∨ ∃ x ∈ l, (valB x key).2 = true ∧ (valB x key).1 = v) → v ∈ l.foldl (domStep key) b
  | [], b, v, h => by
    rcases h with h | ⟨x, hx, _⟩
    · exact h
    · cases hx
  | n :: l, b, v, h => by
    simp only [List.foldl_cons]
    refine dom_has key l _ v ?_
    rcases h with h | ⟨x, hx, h1, h2⟩
    · left
      unfold domStep
      split
      · rw [domIns_mem]; exact .inr h
      · exact h
    · rcases List.mem_cons.1 hx with rfl | hx
      · left
        unfold domStep
        rw [if_pos h1, domIns_mem]; exact .inl h2.symm
      · exact .inr ⟨x, hx, h1, h2⟩
end Go.Dr
namespace Go.Dr
open Go.Proofs
set_option maxRecDepth 20000
set_option maxHeartbeats 2000000
set_option linter.unusedSimpArgs false
set_option linter.unusedVariables false
def spreadP (s : Snap) (p : List Int) (o : Int) : List Int := if z0 (checkP s p) && (decide (0 ≤ o) && decide (o < s.owners.length)) then spreadL s p o.toNat else []
theorem idxS_mem {l : List ByteArray} {v : ByteArray} (h : v ∈ l) : ∃ j : Nat, idxS l v = (j : Int) ∧ l[j]? = some v := by
  unfold idxS idxF
  cases hf : l.findIdx? (fun x => decide (x = v)) with
  | none =>
    have := List.findIdx?_eq_none_iff.1 hf v h
    simp at this
  | some j =>
    obtain ⟨h1, h2, _⟩ := List.findIdx?_eq_some_iff_getElem.1 hf
    refine ⟨j, rfl, ?_⟩
    rw [List.getElem?_eq_getElem h1, of_decide_eq_true h2]
theorem s109_L7i {P K : Prop} (k : K) (h : Goal K → P := by
  intro zk
  (first | refine Walk ?_ | refine JC.block ?_ | refine JC.drawN 8 rfl [0, 1, 2, 3, 4, 5, 6, 7, 8, 9, 10, 11] [0, 1, 2, 3, 4, 5, 7, 8, 9, 10, 11] Tryz_mixed (by decide +kernel) ?_ | refine JC.drawN 10 rfl [0, 1, 2, 3, 4, 5, 6, 7, 8] [1, 2, 4, 5, 6, 7] Tryz_mixed (by decide +kernel) ?_ | (refine JO.eff rfl rfl rfl (JEff.callV rfl (p7_asked _ (by exact vta) (by exact vta)) rfl ?_); intro zqa zqb) | (refine JO.eff rfl rfl rfl (JEff.callL rfl (p7_Domains _ (by assumption) (by exact vta)) rfl ?_); intro zqa zqb zqc zqd zqe zqf) | (refine JO.eff rfl rfl rfl (JEff.callV rfl (p7_value _ (by assumption) (by exact vta)) rfl ?_); intro zqa zqb) | (refine JO.eff rfl rfl rfl (JEff.callV rfl (p_Index_string _ (by exact vta)) rfl ?_); intro zqa zqb) | (refine WBox ?_) | (refine WNew ?_) | (refine WPut ?_))
  (repeat (first | revert zqg | revert zqf | revert zqe | revert zqd | revert zqc | revert zqb | revert zqa))
  exact zk.k) : P := h ⟨k⟩
theorem p7_Spread {S : SHeap} {u v : Value} {s : Snap} {p : List Int} (o : Int) (hu : rSnap.V S u s) (hv : (rSlice 8 rI64).V S v p) :
    FnL Tryz.prog 109 #[u, v, .int .i64 o] S 8 rI64 (spreadP s p o) := by
  haveI : TyR Tryz.prog 28 rVal := ⟨(inferInstance : TyR Tryz.prog 28 (rSlice 8 rI64)).b⟩
  obtain ⟨a, c, rfl, _⟩ := V_slice.1 hv
  (refine Fn.enterM (args := [u, .slice a p.length c, .int .i64 o]) Tryz.func109 rfl Tryz.ntmps109 rfl ?_; intro w0)
  repeat (refine s109_L7i ?_; intros)
  cases hc : (z0 (checkP s p) && (decide (0 ≤ o) && decide (o < s.owners.length))) with
  | false =>
    repeat (refine s109_L7i ?_; intros)
    refine JX.retM0 Tryz.results109 (ResV.tmp rfl) (List.nil_sublist _) ?_
    refine ⟨rfl, ?_⟩
    rw [spreadP, hc]
    exact V_nil
  | true =>
    have hol := owned_len s p o.toNat
    have hsp : spreadP s p o = spreadL s p o.toNat := by rw [spreadP, hc]; rfl
    rw [hsp]
    simp only [Bool.and_eq_true, decide_eq_true_eq] at hc
    obtain ⟨c1, c2, c3⟩ := hc
    obtain ⟨o, rfl⟩ := Int.eq_ofNat_of_zero_le c2
    rw [Int.toNat_natCast] at hol ⊢
    obtain ⟨h1, h2, h3, h4, h5, h6, h7⟩ := placed_hyps (s := s) (p := p) (by simpa [z0] using c1)
    obtain ⟨ow, how, _⟩ := drop_at (l := s.owners) (show o < s.owners.length by omega)
    have htp : topoOf s o = ow.topo := by rw [topoOf, how]
    repeat (refine s109_L7i ?_; intros)
    have hif : (if z0 (checkS s) = true then domL s ow.topo else []) = domL s ow.topo := by rw [h1]; rfl
    have hdl := domK_len s ow.topo s.nodes.length
    have hdf : domK s ow.topo s.nodes.length = domL s ow.topo := by unfold domK domL; rw [List.take_length]
    rw [hdf] at hdl
    generalize (if z0 (checkS s) = true then domL s ow.topo else []) = D at *
    subst hif
    refine JO.eff rfl rfl rfl (JEff.makeInts (n := (domL s ow.topo).length) rfl rfl (by unfold big; omega) rfl ?_); intro bo hbo
    repeat (refine s109_L7i ?_; intros)
    (refine JO.eff rfl rfl rfl (JEff.callR rfl ((p7_owned o (by exact vta) (by exact vta) (by omega) (by omega) h2 (by omega) h7)) rfl ?_); intro w S2 hl2 hV)
    obtain ⟨lb, rfl, hit⟩ := hV
    repeat (refine s109_L7i ?_; intros)
    have hz : (domL s ow.topo).map (spCnt s ow.topo ((ownedL s p o).take 0)) = List.replicate (domL s ow.topo).length 0 := by
      rw [List.take_zero, ← List.map_const']
      apply List.map_congr_left
      intro v _
      simp [spCnt]
    have hown : ∀ x ∈ ownedL s p o, 0 ≤ x ∧ x < s.nodes.length := by
      intro x hx
      unfold ownedL at hx
      obtain ⟨z, hz, rfl⟩ := List.mem_map.1 hx
      rw [List.mem_filter] at hz
      simp only [Bool.and_eq_true, decide_eq_true_eq] at hz
      have := h6 z.1 (List.of_mem_zip hz.1).1
      exact ⟨hz.2.1, this.2⟩
    refine JC.rangeFunc (rep := rI64) (xs := ownedL s p o) (fun k S' M' => M' = [.blk bo (.cells (ints ((domL s ow.topo).map (spCnt s ow.topo ((ownedL s p o).take k)))) 3 (0, 0))]) rfl rfl inferInstance rfl hit (by rw [hz]) ?_ ?_
    · rintro w1 B1 K L Rc k y v S' M' hR hp hl hy hv rfl
      obtain ⟨rfl, hyr⟩ := V_i64.1 hv
      obtain ⟨y0, y1⟩ := hown y (List.mem_of_getElem? hy)
      obtain ⟨n, hn, _⟩ := drop_at (l := s.nodes) (show y.toNat < s.nodes.length by omega)
      repeat (refine s109_L7i ?_; intros)
      refine JX.begin rfl hR ?_
      repeat (refine s109_L7i ?_; intros)
      have hkl := (List.getElem?_eq_some_iff.1 hy).1
      cases hv2 : (valB n ow.topo).2 with
      | true =>
        obtain ⟨j, hj, hjd⟩ := idxS_mem (dom_has ow.topo s.nodes [] (valB n ow.topo).1 (.inr ⟨n, List.mem_of_getElem? hn, hv2, rfl⟩))
        have hjd : (domL s ow.topo)[j]? = some (valB n ow.topo).1 := hjd
        have hj : idxS (domL s ow.topo) (valB n ow.topo).1 = (j : Int) := hj
        have hjl := (List.getElem?_eq_some_iff.1 hjd).1
        have hset : ((domL s ow.topo).map (spCnt s ow.topo ((ownedL s p o).take k))).set j (spCnt s ow.topo ((ownedL s p o).take k) (valB n ow.topo).1 + 1) = (domL s ow.topo).map (spCnt s ow.topo ((ownedL s p o).take (k + 1))) := by
          rw [← map_set1 (D := domL s ow.topo) _ (show pwS (domL s ow.topo) from dom_pw ow.topo s.nodes [] List.Pairwise.nil) hjd]
          apply List.map_congr_left
          intro d _
          rw [spCnt_step hy, inDom, hn]
          simp [hv2, eq_comm]
        have hcn : 0 ≤ spCnt s ow.topo ((ownedL s p o).take k) (valB n ow.topo).1 ∧ spCnt s ow.topo ((ownedL s p o).take k) (valB n ow.topo).1 ≤ 1000 := by
          unfold spCnt
          have e1 := List.length_filter_le (fun x => inDom s ow.topo (valB n ow.topo).1 x.toNat) ((ownedL s p o).take k)
          rw [List.length_take] at e1
          omega
        have hxj : ((domL s ow.topo).map (spCnt s ow.topo ((ownedL s p o).take k)))[j]? = some (spCnt s ow.topo ((ownedL s p o).take k) (valB n ow.topo).1) := by rw [List.getElem?_map, hjd]; rfl
        repeat (refine s109_L7i ?_; intros)
        rw [hj]
        repeat (refine s109_L7i ?_; intros)
        refine JO.pure rfl rfl rfl (JPure.indexRI rfl rfl rfl (by omega) (by omega) ?_)
        refine JO.pure rfl rfl rfl (JPure.loadMI (off := j) rfl (by (first | exact List.mem_cons_self | exact List.mem_cons_of_mem _ List.mem_cons_self | exact List.mem_cons_of_mem _ (List.mem_cons_of_mem _ List.mem_cons_self))) hxj (by unfold Rng; omega) (.inl rfl) rfl ?_)
        repeat (refine s109_L7i ?_; intros)
        refine JO.pure rfl rfl rfl (JPure.indexRI rfl rfl rfl (by omega) (by omega) ?_)
        refine JO.eff rfl rfl rfl (JEff.storeI (i := j) (Mr := [.blk L (.loop { Rc with state := .busy }), .blk K (.deferred (some []))]) rfl rfl (by unfold Rng; omega) (List.perm_append_comm (l₁ := [_]) (l₂ := [_, _])) (by rw [List.length_map]; exact hjl) (by intro l hl; cases hl) ?_)
        rw [hset]
        repeat (refine s109_L7i ?_; intros)
        refine JX.endRound hR hp (List.perm_append_comm (l₁ := [_, _]) (l₂ := [_])) ?_
        rfl
      | false =>
        have hset : (domL s ow.topo).map (spCnt s ow.topo ((ownedL s p o).take k)) = (domL s ow.topo).map (spCnt s ow.topo ((ownedL s p o).take (k + 1))) := by
          apply List.map_congr_left
          intro d _
          rw [spCnt_step hy, inDom, hn]
          simp [hv2]
        rw [hset]
        repeat (refine s109_L7i ?_; intros)
        refine JX.endRound hR hp (List.Perm.refl _) ?_
        rfl
    · rintro K S' M' hl rfl
      have hfin : (domL s ow.topo).map (spCnt s ow.topo ((ownedL s p o).take (ownedL s p o).length)) = spreadL s p o := by
        rw [List.take_length, spread_cnt hown, htp]
      rw [hfin]
      have hln : (spreadL s p o).length = (domL s ow.topo).length := by rw [← hfin, List.length_map]
      repeat (refine s109_L7i ?_; intros)
      have hrg : ∀ x ∈ spreadL s p o, Rng x := by
        intro x hx
        rw [← hfin, List.take_length] at hx
        obtain ⟨d, _, rfl⟩ := List.mem_map.1 hx
        have e1 := List.length_filter_le (fun x => inDom s ow.topo d x.toNat) (ownedL s p o)
        unfold spCnt Rng
        omega
      refine JX.perm (List.Perm.swap _ _ _) ?_
      refine JX.freezeInts hln.symm (Nat.le_refl _) (by unfold big; omega) hrg hbo (fun S3 hl3 hV3 => ?_)
      refine JX.retM1 Tryz.results109 (List.Perm.refl _) (ResV.tmp rfl) (List.nil_sublist _) ?_
      exact ⟨rfl, hV3⟩
end Go.Dr
namespace Go.Dr
open Go.Proofs
set_option maxRecDepth 20000
set_option maxHeartbeats 2000000
set_option linter.unusedSimpArgs false
set_option linter.unusedVariables false
instance : Fld1 Tryz.prog 156 0 0 := ⟨by kernel_rfl⟩
def kindV (f : FuncId) : Value := .agg #[.func (.func f) #[] #[]]
def kindsL : List (Int × Value) := [(2, kindV 161), (3, kindV 165), (4, kindV 169), (5, kindV 171), (6, kindV 172)]
theorem p8_kinds {S : SHeap} : FnR Tryz.prog 107 #[] S (fun w S' => ∃ b, w = .map (some b) ∧ S' b = some (mapK (Value.int .i64) kindsL)) := by
  (refine Fn.enter (args := []) Tryz.func107 rfl Tryz.ntmps107 rfl ?_; intro w0)
  repeat (first | (refine Walk ?_; intros) | refine JC.block ?_)
  refine JO.eff rfl rfl rfl (JEff.makeMapK (Value.int .i64) rfl ?_); intro b hb
  repeat (first | (refine Walk ?_; intros) | refine JC.block ?_)
  refine JO.eff rfl rfl rfl (JEff.insNew (kv := Value.int .i64) rfl rfl rfl (List.Perm.refl _) (by intro l hl; cases hl) rfl ?_)
  repeat (first | (refine Walk ?_; intros) | refine JC.block ?_)
  refine JO.eff rfl rfl rfl (JEff.insNew (kv := Value.int .i64) rfl rfl rfl (List.Perm.refl _) (by intro l hl; cases hl) rfl ?_)
  repeat (first | (refine Walk ?_; intros) | refine JC.block ?_)
  refine JO.eff rfl rfl rfl (JEff.insNew (kv := Value.int .i64) rfl rfl rfl (List.Perm.refl _) (by intro l hl; cases hl) rfl ?_)
  repeat (first | (refine Walk ?_; intros) | refine JC.block ?_)
  refine JO.eff rfl rfl rfl (JEff.insNew (kv := Value.int .i64) rfl rfl rfl (List.Perm.refl _) (by intro l hl; cases hl) rfl ?_)
  repeat (first | (refine Walk ?_; intros) | refine JC.block ?_)
  refine JO.eff rfl rfl rfl (JEff.insNew (kv := Value.int .i64) rfl rfl rfl (List.Perm.refl _) (by intro l hl; cases hl) rfl ?_)
  repeat (first | (refine Walk ?_; intros) | refine JC.block ?_)
  refine JX.freeze hb (fun S' hl hS => ?_)
  (refine JX.ret1 Tryz.results107 (ResV.tmp rfl) (List.nil_sublist _) ?_)
  exact ⟨rfl, b, rfl, hS⟩
theorem kinds_all {j : Nat} {q : Int × Value} (h : kindsL[j]? = some q) : ∃ f, q.2 = kindV f ∧ Ent Tryz.prog f ∧ KindAns f q.1 := by
  match j with
  | 0 => cases h; exact ⟨_, rfl, inferInstance, p8_kinds1⟩
  | 1 => cases h; exact ⟨_, rfl, inferInstance, p8_kinds2⟩
  | 2 => cases h; exact ⟨_, rfl, inferInstance, p8_kinds3⟩
  | 3 => cases h; exact ⟨_, rfl, inferInstance, p8_kinds4⟩
  | 4 => cases h; exact ⟨_, rfl, inferInstance, p8_kinds5⟩
  | j + 5 => simp [kindsL] at h
theorem kinds_there {kind : Int} (h1 : 2 ≤ kind) (h2 : kind ≤ 6) : ∃ q ∈ kindsL, q.1 = kind := by
  have : kind = 2 ∨ kind = 3 ∨ kind = 4 ∨ kind = 5 ∨ kind = 6 := by omega
  rcases this with rfl | rfl | rfl | rfl | rfl <;> simp [kindsL]
theorem kinds_distinct : DistinctK kindsL := by
  intro i j p q hi hj h
  have hi5 := (List.getElem?_eq_some_iff.1 hi).1
  have hj5 := (List.getElem?_eq_some_iff.1 hj).1
  simp only [kindsL, List.length_cons, List.length_nil] at hi5 hj5
  match i, j, hi, hj with
  | 0, 0, _, _ => rfl
  | 1, 1, _, _ => rfl
  | 2, 2, _, _ => rfl
  | 3, 3, _, _ => rfl
  | 4, 4, _, _ => rfl
  | 0, 1, hi, hj | 0, 2, hi, hj | 0, 3, hi, hj | 0, 4, hi, hj | 1, 0, hi, hj | 1, 2, hi, hj | 1, 3, hi, hj | 1, 4, hi, hj | 2, 0, hi, hj | 2, 1, hi, hj | 2, 3, hi, hj | 2, 4, hi, hj | 3, 0, hi, hj | 3, 1, hi, hj | 3, 2, hi, hj | 3, 4, hi, hj | 4, 0, hi, hj | 4, 1, hi, hj | 4, 2, hi, hj | 4, 3, hi, hj => cases hi; cases hj; simp at h
  | i + 5, _, hi, _ => omega
  | _, j + 5, _, hj => omega
theorem p8_numN {S : SHeap} (n : Int) : FnV Tryz.prog 299 #[.int .i64 n] S (.int .i64 n) := by
  (refine Fn.enter (args := [.int .i64 n]) Tryz.func299 rfl Tryz.ntmps299 rfl ?_; intro w0)
  repeat (first | (refine Walk ?_; intros) | refine JC.block ?_)
  (refine JX.ret1 Tryz.results299 (ResV.tmp rfl) (List.nil_sublist _) ?_)
  exact ⟨rfl, rfl⟩
theorem p8_numP {S : SHeap} (n : Int) : FnV Tryz.prog 300 #[.int .i64 n] S (.int .i64 n) := by
  (refine Fn.enter (args := [.int .i64 n]) Tryz.func300 rfl Tryz.ntmps300 rfl ?_; intro w0)
  repeat (first | (refine Walk ?_; intros) | refine JC.block ?_)
  (refine JX.ret1 Tryz.results300 (ResV.tmp rfl) (List.nil_sublist _) ?_)
  exact ⟨rfl, rfl⟩
theorem p8_numO {S : SHeap} (n : Int) : FnV Tryz.prog 301 #[.int .i64 n] S (.int .i64 n) := by
  (refine Fn.enter (args := [.int .i64 n]) Tryz.func301 rfl Tryz.ntmps301 rfl ?_; intro w0)
  repeat (first | (refine Walk ?_; intros) | refine JC.block ?_)
  (refine JX.ret1 Tryz.results301 (ResV.tmp rfl) (List.nil_sublist _) ?_)
  exact ⟨rfl, rfl⟩
theorem m8_N (v : Value) (w : World) : (callMethod (.iface 121 v) "drayage/clause.number" #[]).run Tryz.prog w = .ok (.enter 299 #[v]) w := by kernel_rfl
theorem m8_P (v : Value) (w : World) : (callMethod (.iface 122 v) "drayage/clause.number" #[]).run Tryz.prog w = .ok (.enter 300 #[v]) w := by kernel_rfl
theorem m8_O (v : Value) (w : World) : (callMethod (.iface 123 v) "drayage/clause.number" #[]).run Tryz.prog w = .ok (.enter 301 #[v]) w := by kernel_rfl
end Go.Dr
namespace Go.Dr
section
variable {C : Cx} {R : Rg} {Q : Post} {S S' : SHeap} {M M' : List MEnt} {e : Env} {rest : List Nat} {L : List Nat}
variable {d : Nat} {ty : TypeId} {pos : String} {aft : Array Edge} {g : Option (Nat × Bool)}
theorem JO.perm (hM : M'.Perm M) (k : JO C R L Q S M' e) : JO C R L Q S M e := ⟨fun a w hw => k.run a w ⟨hw.env, hw.defers, hw.wd.perm hM⟩⟩
theorem JPure.loadCl {i : Nat} {T t : TypeId} {x : Operand} {b : Nat} {xs : List Int} {fr : Nat × Nat} {c : Clause} (hx : ev e x = some (.pointer (some ⟨b, 0, none⟩))) (hM : MEnt.blk b (.cells (ints xs) t fr) ∈ M)
    (hc : xs = [c.kind, c.a, c.b, c.by_]) (hr : Rng c.kind ∧ Rng c.a ∧ Rng c.b ∧ Rng c.by_) [ht : TyR C.P T rClause] (hst : R.isAnch i = true ∨ ∃ l, R.T = some l ∧ b ∉ l) (hdN : Nat.blt d C.N = true)
    (k : rClause.V S (clV c) c → JO C R rest Q S M ((d, clV c) :: e)) : JPure C R (R.isAnch i) ⟨some d, .load T x, ty, pos, aft, g⟩ rest Q S M e := by
  subst hc
  exact JPure.loadM (rep := rClause) (x0 := c) (mid := [.int .i64 c.kind, .int .i64 c.a, .int .i64 c.b, .int .i64 c.by_]) hx hM rfl (R_clause.2 ⟨rfl, hr⟩) hst hdN (k (V_clV hr))
end
/-! ### A result that is a variable -/
theorem JX.retCell {α : Type} {P : Program} {r : Option Nat} {N : Nat} {fn : Func} {w0 : World} {B0 : List Nat} {S S0 : SHeap} {M M' : List MEnt} {e : Env} {PP : Value → SHeap → List MEnt → Prop} {p : Nat} {T : TypeId} {q : Addr} {rep : Rp α} {x : α}
    (hr : fn.results = #[.cell p T]) (h : Env.get? e p = some (.pointer (some q))) (hq : PtrTo S q rep x) [ht : TyR P T rep] (hM : M'.Sublist M) (hp : ∀ w, rep.V S w x → PP w S M') :
    JX ⟨P, r, N, [], w0, B0, S0⟩ .ret (bodyPost P fn (EndPost w0 B0 S0 PP)) S M e := by
  obtain ⟨w, hw, hrv⟩ := ResV.cell (C := ⟨P, r, N, [], w0, B0, S0⟩) (M := M) (T := T) h hq
  exact JX.ret1 hr hrv hM (hp w hw)
/-! ### Structs, written out -/
theorem map_R {α γ : Type} {f : γ → α} {a : Rp α} {S : SHeap} {cs : List Value} {x : γ} (h : a.R S cs (f x)) : (rMap f a).R S cs x := h
theorem seq1 {α β : Type} {a : Rp α} {b : Rp β} {S : SHeap} {c : Value} {cs : List Value} {x : α × β} (h1 : a.R S [c] x.1) (h2 : b.R S cs x.2) : (rSeq a b).R S (c :: cs) x := ⟨[c], cs, rfl, h1, h2⟩
theorem seq2 {α β : Type} {a : Rp α} {b : Rp β} {S : SHeap} {c d : Value} {cs : List Value} {x : α × β} (h1 : a.R S [c, d] x.1) (h2 : b.R S cs x.2) : (rSeq a b).R S (c :: d :: cs) x := ⟨[c, d], cs, rfl, h1, h2⟩
theorem seq5 {α β : Type} {a : Rp α} {b : Rp β} {S : SHeap} {c1 c2 c3 c4 c5 : Value} {cs : List Value} {x : α × β} (h1 : a.R S [c1, c2, c3, c4, c5] x.1) (h2 : b.R S cs x.2) : (rSeq a b).R S (c1 :: c2 :: c3 :: c4 :: c5 :: cs) x := ⟨[c1, c2, c3, c4, c5], cs, rfl, h1, h2⟩
theorem R_i64 {S : SHeap} {n : Int} (h : Rng n) : rI64.R S [.int .i64 n] n := ⟨rfl, h⟩
theorem R_str {S : SHeap} {s : ByteArray} (h : s.size ≤ big) : rStr.R S [.string s] s := ⟨rfl, h⟩
theorem R_bool {S : SHeap} {b : Bool} : rBool.R S [.bool b] b := rfl
theorem Rp.V.one {α : Type} {rep : Rp α} {S : SHeap} {v : Value} {x : α} (ha : rep.agg = false) (h : rep.V S v x) : rep.R S [v] x := by
  obtain ⟨cs, h1, h2⟩ := h
  rw [if_neg (by rw [ha]; simp)] at h2
  rw [h2] at h1; exact h1
theorem V_snap {S : SHeap} {u v w : Value} {x : Snap} (h1 : (rSlice 112 rNode).V S u x.nodes) (h2 : (rSlice 240 rPod).V S v x.pods) (h3 : (rSlice 56 rOwner).V S w x.owners) : rSnap.V S (.agg (flatCells [u, v, w]).toArray) x := by
  obtain ⟨a1, c1, rfl, _⟩ := V_slice.1 h1
  obtain ⟨a2, c2, rfl, _⟩ := V_slice.1 h2
  obtain ⟨a3, c3, rfl, _⟩ := V_slice.1 h3
  exact ⟨[_, _, _], map_R (seq1 (h1.one rfl) (seq1 (h2.one rfl) (h3.one rfl))), rfl⟩
end Go.Dr
namespace Go.Dr
open Go.Proofs
set_option maxRecDepth 20000
set_option maxHeartbeats 2000000
set_option linter.unusedSimpArgs false
set_option linter.unusedVariables false
def usedAll (s : Snap) (p : List Int) : List (List Int) := (List.range s.nodes.length).map (fun (n : Nat) => usedV s p n)
def capW (s : Snap) (p : List Int) (n : Nat) : Nat → List Int
  | 0 => [1, n, 0, 0]
  | k + 1 => [1, n, k, (capN s p n k).by_]
theorem capW_len (s : Snap) (p : List Int) (n k : Nat) : (capW s p n k).length = 4 := by cases k <;> rfl
theorem capW_set (s : Snap) (p : List Int) (n k : Nat) : ((capW s p n k).set 2 (k : Int)).set 3 (capN s p n k).by_ = capW s p n (k + 1) := by cases k <;> rfl
def capsK (s : Snap) (p : List Int) (n k : Nat) : List Clause := (List.range k).map (capN s p n)
theorem capsK_step (s : Snap) (p : List Int) (n k : Nat) : capsK s p n (k + 1) = capsK s p n k ++ [capN s p n k] := by
  unfold capsK; rw [List.range_succ]; simp
theorem capsK_len (s : Snap) (p : List Int) (n k : Nat) : (capsK s p n k).length = k := by simp [capsK]
theorem s72_L8f {P K : Prop} (k : K) (h : Goal K → P := by
  intro zk
  (first | refine Walk ?_ | refine JC.block ?_ | refine JC.drawN 8 rfl [0, 1, 2, 3, 4, 5, 6, 7, 8, 9, 10, 11, 12, 13, 14, 15, 16, 17, 18] [0, 15, 17] Tryz_mixed (by decide +kernel) ?_ | refine JC.drawN 24 rfl [0, 1, 2, 3, 4, 5, 6, 7, 8, 9, 10, 11, 12, 13, 14, 15] [2, 3, 4, 5, 6, 7, 8, 9, 10, 12, 13, 14] Tryz_mixed (by decide +kernel) ?_ | refine JC.drawN 27 rfl [0, 1, 2, 3, 4, 5, 6, 7, 8, 9, 10] [0, 1, 2, 3, 4, 5, 6, 7, 8, 10] Tryz_mixed (by decide +kernel) ?_ | refine JC.drawN 29 rfl [0, 2, 5, 6, 1, 3, 4, 7, 8, 9, 10] [0, 4, 7, 8, 9] Tryz_mixed (by decide +kernel) ?_ | (refine JO.eff rfl rfl rfl (JEff.callL rfl (p7_Spread _ (by exact vta) (by exact vta)) rfl ?_); intro zqa zqb zqc zqd zqe zqf) | (refine JO.eff rfl rfl rfl (JEff.callV rfl (p_Max (by exact vta) (by first | assumption | simp)) rfl ?_); intro zqa zqb) | (refine JO.eff rfl rfl rfl (JEff.callV rfl (p_Min (by exact vta) (by first | assumption | simp)) rfl ?_); intro zqa zqb))
  (repeat (first | revert zqg | revert zqf | revert zqe | revert zqd | revert zqc | revert zqb | revert zqa))
  exact zk.k) : P := h ⟨k⟩
theorem p8_ofNode {S : SHeap} {kp : Addr} {s : Snap} {p : List Int} {mb : Nat} {l : List (ByteArray × Value)} {n : Nat} (hok : checkP s p = 0) (hn : n < s.nodes.length)
    (hL : PtrTo S kp rLook ⟨s, p, usedAll s p, .map (some mb)⟩) (hco : Cache s S l) :
    FnC Tryz.prog 72 #[.pointer (some kp), .iface 121 (.int .i64 n), .int .i64 1] S Value.string mb (Cache s) l (fun w S' => (rSlice 32 rClause).V S' w (capsK s p n 5)) := by
  obtain ⟨hs, hlen, hp24, hn8, ho8, hpr, hprn⟩ := placed_hyps hok
  have hnr : Rng (n : Int) := by unfold Rng; omega
  obtain ⟨x, hx, _⟩ := drop_at hn
  have hxm := List.mem_of_getElem? hx
  have hcl := snap_caps (PtrTo.part hL (Part.map Part.first))
  have hxl := (hcl x hxm).1
  have hxr := shaped_cap (checkS_ok hs).1 x hxm
  obtain ⟨hul, hur⟩ := used_fine hs hlen n
  have hus : (usedAll s p)[n]? = some (usedV s p n) := by simp [usedAll, hn]
  have hcap : capOf s n = x.cap := by simp [capOf, hx]
  have hV0 : ∀ S, rClause.V S (.agg (flatCells [.int .i64 1, .int .i64 n, .int .i64 0, .int .i64 0]).toArray) ⟨1, n, 0, 0⟩ := fun S => V_clause.2 ⟨by simp [flatCells, Value.cells], by unfold Rng; dsimp only; omega, hnr, by unfold Rng; dsimp only; omega, by unfold Rng; dsimp only; omega⟩
  (refine Fn.enter (args := [.pointer (some kp), .iface 121 (.int .i64 n), .int .i64 1]) Tryz.func72 rfl Tryz.ntmps72 rfl ?_; intro w0)
  repeat (refine s72_L8f ?_; intros)
  refine JO.eff rfl rfl rfl (JEff.method rfl rfl (m8_N _) (p8_numN _) rfl ?_); intro S1 hl1
  repeat (refine s72_L8f ?_; intros)
  (refine JO.eff rfl rfl rfl (JEff.alloc rfl ?_); intro cb hcb)
  repeat (refine s72_L8f ?_; intros)
  refine JO.eff rfl rfl rfl (JEff.storeW rfl rfl (hV0 _) nna (List.Perm.refl _) rfl (by intro l hl; cases hl) ?_)
  repeat (refine s72_L8f ?_; intros)
  refine JO.pure rfl rfl rfl (JPure.assertT rfl rfl ?_)
  repeat (refine s72_L8f ?_; intros)
  obtain ⟨hv31, _, _⟩ := V_arr.1 (by assumption : (rArr 5).V _ _ (usedV s p n))
  subst hv31
  (first | refine JC.newRow 35 (Rp.sz rClause) ?_ | refine JO.newRow 35 (Rp.sz rClause) ?_ | refine JX.newRow 35 (Rp.sz rClause) ?_)
  refine JC.loopF (σ := Nat × Option Addr × Nat × List Value) [(0, _), (7, _), (8, _), (31, _)] (fun q => [(6, .slice q.2.1 ((fun k => capsK s p n k) q.1).length q.2.2.1), (32, ((fun k => .int .i64 k) q.1))]) (fun q => [.row w0.heap.size 35 (Rp.sz rClause) (.slice q.2.1 ((fun k => capsK s p n k) q.1).length q.2.2.1) ((fun k => capsK s p n k) q.1).length (flatCells q.2.2.2), ((fun k => .blk cb (.cells (ints (capW s p n k)) 35 (0, 0))) q.1), ((fun k => .blk mb (mapK Value.string l)) q.1)]) (fun Sk q => q.1 ≤ 5 ∧ allV rClause Sk q.2.2.2 ((fun k => capsK s p n k) q.1) ∧ ((fun k => True) q.1)) (fun q => 5 - q.1) (0, none, 0, []) (by exact sba) (by exact sba) (by first | rfl | simp) (⟨Nat.zero_le _, trivial, trivial⟩) ?_; rintro Sk ⟨k, rak, rck, vsk⟩ hlk ⟨hk, hvk, hik⟩; (try dsimp only at hk hvk hik); dsimp only [List.cons_append, List.nil_append]
  repeat (refine s72_L8f ?_; intros)
  refine JC.cond rfl (fun hc2 => ?_) (fun hc2 => ?_)
  · have hk' := dlt5 hc2
    obtain ⟨z, hz⟩ : ∃ z, (usedV s p n)[k]? = some z := ⟨_, List.getElem?_eq_getElem (by omega)⟩
    obtain ⟨y, hy⟩ : ∃ y, x.cap[k]? = some y := ⟨_, List.getElem?_eq_getElem (by omega)⟩
    have hzr := hur z (List.mem_of_getElem? hz)
    have hyr := hxr y (List.mem_of_getElem? hy)
    have hz0 := at0_some hz
    have hy0 := at0_some hy
    have hst := capsK_step s p n k
    have hcl := capsK_len s p n k
    unfold Qty at hzr hyr
    have hby : (capN s p n k).by_ = max 0 (z - y) := by simp [capN, hcap, hz0, hy0]
    repeat (refine s72_L8f ?_; intros)
    refine JO.pure rfl rfl rfl (JPure.indexV rfl rfl rfl (by omega) hul hz ?_)
    repeat (refine s72_L8f ?_; intros)
    refine JO.pure rfl rfl rfl (JPure.fieldP rfl rfl ?_)
    refine JO.eff rfl rfl rfl (JEff.storeI (i := 2) (xs := capW s p n k) rfl rfl (by unfold Rng; omega) (List.perm_middle (l₁ := [_])).symm (by rw [capW_len]; omega) (by intro l hl; cases hl) ?_)
    refine JO.pure rfl rfl rfl (JPure.fieldP rfl rfl ?_)
    refine JO.eff rfl rfl rfl (JEff.storeI (i := 3) (xs := (capW s p n k).set 2 (k : Int)) rfl rfl (by unfold Rng; omega) (List.Perm.refl _) (by rw [List.length_set, capW_len]; omega) (by intro l hl; cases hl) ?_)
    rw [← hby, capW_set]
    repeat (refine s72_L8f ?_; intros)
    refine JO.pure rfl rfl rfl (JPure.loadCl (c := capN s p n k) rfl (by (first | exact List.mem_cons_self | exact List.mem_cons_of_mem _ List.mem_cons_self | exact List.mem_cons_of_mem _ (List.mem_cons_of_mem _ List.mem_cons_self))) rfl ⟨by unfold Rng capN; dsimp only; omega, hnr, by unfold Rng capN; dsimp only; omega, by rw [hby]; unfold Rng; omega⟩ (.inl rfl) rfl ?_); intro hV
    refine JO.perm (M' := [_, _, _]) (List.Perm.swap _ _ _) ?_
    repeat (refine s72_L8f ?_; intros)
    (refine JO.eff rfl rfl rfl (JEff.build (rep := rClause) (ys := [capN s p n k]) rfl rfl ⟨⟨(hV), nna⟩, trivial⟩ rfl rfl rfl rfl ?_); intro bb hbb hvv); (repeat (first | (refine Walk ?_; intros) | refine JC.block ?_)); (refine JO.eff rfl rfl rfl (JEff.appendL (rep := rClause) rfl rfl rfl rfl (List.Perm.swap _ _ _) (by exact hvv.flat) (by intro c hc; exact flat_one (fun v hv => (hvv.size v hv).2) c hc) (by first | omega | (unfold big; omega)) (by unfold big; omega) (by first | exact rowT_ok | (intro l hl; cases hl)) rfl ?_); intro a2 c2; clear hvv hbb)
    repeat (refine s72_L8f ?_; intros)
    exact JX.roundF (k + 1, a2, c2, vsk ++ [(clV (capN s p n k))]) (by exact lea) ⟨by omega, by (try dsimp only); rw [hst]; exact allV_add (by exact lea) hvk (hV.mono (by exact lea)) nna, (trivial)⟩ (by (try dsimp only); omega) (by (try dsimp only); rw [hst]; (simp [flat_append] <;> omega)) (by (try dsimp only); rw [hst]; simp only [List.length_append, List.length_cons, List.length_nil]; exact sba) (by exact sba)
  · have hk' := dnlt5 hc2
    obtain rfl : k = 5 := by omega
    have hcl := capsK_len s p n 5
    refine JC.freezeRow (rep := rClause) (bt := 32) hvk rfl (by unfold big; omega) (by unfold big; omega) (fun S9 hl9 hV9 => ?_)
    repeat (refine s72_L8f ?_; intros)
    refine JX.ret1 Tryz.results72 (ResV.tmp rfl) (List.sublist_cons_self _ _) ?_
    exact ⟨hV9, _, rfl, hco.mono (by exact lea)⟩
end Go.Dr
namespace Go.Dr
open Go.Proofs
set_option maxRecDepth 20000
set_option maxHeartbeats 2000000
set_option linter.unusedSimpArgs false
set_option linter.unusedVariables false
theorem s72_L8g {P K : Prop} (k : K) (h : Goal K → P := by
  intro zk
  (first | refine Walk ?_ | refine JC.block ?_ | refine JC.drawN 8 rfl [0, 1, 2, 3, 4, 5, 6, 7, 8, 9, 10, 11, 12, 13, 14, 15, 16, 17, 18] [0, 15, 17] Tryz_mixed (by decide +kernel) ?_ | refine JC.drawN 24 rfl [0, 1, 2, 3, 4, 5, 6, 7, 8, 9, 10, 11, 12, 13, 14, 15] [2, 3, 4, 5, 6, 7, 8, 9, 10, 12, 13, 14] Tryz_mixed (by decide +kernel) ?_ | refine JC.drawN 27 rfl [0, 1, 2, 3, 4, 5, 6, 7, 8, 9, 10] [0, 1, 2, 3, 4, 5, 6, 7, 8, 10] Tryz_mixed (by decide +kernel) ?_ | refine JC.drawN 29 rfl [0, 2, 5, 6, 1, 3, 4, 7, 8, 9, 10] [0, 4, 7, 8, 9] Tryz_mixed (by decide +kernel) ?_ | (refine JO.eff rfl rfl rfl (JEff.callL rfl (p7_Spread _ (by exact vta) (by exact vta)) rfl ?_); intro zqa zqb zqc zqd zqe zqf) | (refine JO.eff rfl rfl rfl (JEff.callV rfl (p_Max (by exact vta) (by first | assumption | simp)) rfl ?_); intro zqa zqb) | (refine JO.eff rfl rfl rfl (JEff.callV rfl (p_Min (by exact vta) (by first | assumption | simp)) rfl ?_); intro zqa zqb))
  (repeat (first | revert zqg | revert zqf | revert zqe | revert zqd | revert zqc | revert zqb | revert zqa))
  exact zk.k) : P := h ⟨k⟩
theorem p8_ofPod {S : SHeap} {kp : Addr} {s : Snap} {p : List Int} {us : List (List Int)} {mb : Nat} {l : List (ByteArray × Value)} {i : Nat} {kind : Int} (hok : checkP s p = 0) (hi : i < p.length) (hk1 : 2 ≤ kind) (hk2 : kind ≤ 6)
    (hL : PtrTo S kp rLook ⟨s, p, us, .map (some mb)⟩) (hco : Cache s S l) :
    FnC Tryz.prog 72 #[.pointer (some kp), .iface 122 (.int .i64 i), .int .i64 kind] S Value.string mb (Cache s) l (fun w S' => (rSlice 32 rClause).V S' w (podC1 s p kind i)) := by
  obtain ⟨hs, hlen, hp24, hn8, ho8, hpr, hprn⟩ := placed_hyps hok
  have hir : Rng (i : Int) := by unfold Rng; omega
  have hkr : Rng kind := by unfold Rng; omega
  obtain ⟨m, hm, _⟩ := drop_at hi
  obtain ⟨x, hx⟩ : ∃ x, s.pods[i]? = some x := ⟨_, List.getElem?_eq_getElem (by omega)⟩
  have hmr := hpr m (List.mem_of_getElem? hm)
  obtain ⟨hwl, htl⟩ := shaped_lists (checkS_ok hs).1
  have hof := of8_rng (s := s) (p := p) (by omega) hwl htl kind i
  have hV0 : ∀ S, rClause.V S (.agg (flatCells [.int .i64 kind, .int .i64 i, .int .i64 0, .int .i64 0]).toArray) ⟨kind, i, 0, 0⟩ := fun S => V_clause.2 ⟨by simp [flatCells, Value.cells], hkr, hir, by unfold Rng; dsimp only; omega, by unfold Rng; dsimp only; omega⟩
  (refine Fn.enter (args := [.pointer (some kp), .iface 122 (.int .i64 i), .int .i64 kind]) Tryz.func72 rfl Tryz.ntmps72 rfl ?_; intro w0)
  repeat (refine s72_L8g ?_; intros)
  refine JO.eff rfl rfl rfl (JEff.method rfl rfl (m8_P _) (p8_numP _) rfl ?_); intro S1 hl1
  repeat (refine s72_L8g ?_; intros)
  (refine JO.eff rfl rfl rfl (JEff.alloc rfl ?_); intro cb hcb)
  repeat (refine s72_L8g ?_; intros)
  refine JO.eff rfl rfl rfl (JEff.storeW rfl rfl (hV0 _) nna (List.Perm.refl _) rfl (by intro l hl; cases hl) ?_)
  repeat (refine s72_L8g ?_; intros)
  refine JO.pure rfl rfl rfl (JPure.assertF rfl rfl rfl ?_)
  repeat (refine s72_L8g ?_; intros)
  refine JO.pure rfl rfl rfl (JPure.assertT rfl rfl ?_)
  repeat (refine s72_L8g ?_; intros)
  refine JC.cond rfl (fun hneg => ?_) (fun hneg => ?_)
  · have hneg : m < 0 := by simpa using hneg
    have hp1 : podC1 s p kind i = [] := by unfold podC1 of8; rw [hm, hx]; simp [hneg]
    repeat (refine s72_L8g ?_; intros)
    refine JX.ret1 Tryz.results72 (ResV.tmp rfl) (List.sublist_cons_self _ _) ?_
    exact ⟨by rw [hp1]; exact V_nil, _, rfl, hco.mono (by exact lea)⟩
  · have hneg : ¬ m < 0 := by simpa using hneg
    obtain ⟨m, rfl⟩ := Int.eq_ofNat_of_zero_le (show 0 ≤ m by omega)
    obtain ⟨nd, hnd, _⟩ := drop_at (l := s.nodes) (show m < s.nodes.length by omega)
    have hat : PodAt s p i m x nd := ⟨hok, hm, hx, hnd⟩
    repeat (refine s72_L8g ?_; intros)
    (refine JO.eff rfl rfl rfl (JEff.callR rfl (p8_kinds) rfl ?_); intro w S2 hl2 hw)
    obtain ⟨b, rfl, hSb⟩ := hw
    repeat (refine s72_L8g ?_; intros)
    refine JO.pure rfl rfl rfl (JPure.lookS (kv := Value.int .i64) (s := kind) rfl rfl hSb kinds_distinct rfl (fun hno => ?_) (fun j q hj hq => ?_))
    · obtain ⟨q, hq, hqk⟩ := kinds_there hk1 hk2
      exact absurd hqk (hno q hq)
    obtain ⟨g, hg, hE, hans⟩ := kinds_all hj
    rw [hq] at hans
    rw [hg]
    refine JO.pure rfl rfl rfl (JPure.fieldV rfl rfl rfl ?_)
    repeat (refine s72_L8g ?_; intros)
    refine JO.eff rfl rfl rfl (JEff.dynC (kv := Value.string) rfl hE rfl (List.Perm.swap _ _ _) (by intro l hl; cases hl) (hans hat (by exact pta) (hco.mono (by exact lea))) rfl ?_); intro w S3 l3 hl3 hw hco3; subst hw
    repeat (refine s72_L8g ?_; intros)
    cases his : (of8 s p kind i).2 with
    | false =>
      have hp1 : podC1 s p kind i = [] := by unfold podC1; rw [his]; rfl
      repeat (refine s72_L8g ?_; intros)
      refine JX.ret1 Tryz.results72 (ResV.tmp rfl) (M' := [_]) (List.Sublist.cons_cons _ (List.nil_sublist _)) ?_
      exact ⟨by rw [hp1]; exact V_nil, _, rfl, hco3.mono (by exact lea)⟩
    | true =>
      have hp1 : podC1 s p kind i = [⟨kind, i, 0, (of8 s p kind i).1⟩] := by unfold podC1; rw [his]; rfl
      repeat (refine s72_L8g ?_; intros)
      refine JO.pure rfl rfl rfl (JPure.fieldP rfl rfl ?_)
      refine JO.eff rfl rfl rfl (JEff.storeI (i := 3) (xs := [kind, i, 0, 0]) rfl rfl (by unfold Rng; omega) (List.Perm.swap _ _ _) (by simp) (by intro l hl; cases hl) ?_)
      repeat (refine s72_L8g ?_; intros)
      refine JO.pure rfl rfl rfl (JPure.loadCl (c := ⟨kind, i, 0, (of8 s p kind i).1⟩) rfl (by (first | exact List.mem_cons_self | exact List.mem_cons_of_mem _ List.mem_cons_self | exact List.mem_cons_of_mem _ (List.mem_cons_of_mem _ List.mem_cons_self))) rfl ⟨hkr, hir, by unfold Rng; dsimp only; omega, by unfold Rng; dsimp only; omega⟩ (.inl rfl) rfl ?_); intro hV
      (refine JO.eff rfl rfl rfl (JEff.buildS (bt := 32) (rep := rClause) (ys := [(⟨kind, i, 0, (of8 s p kind i).1⟩ : Clause)]) rfl rfl (⟨⟨hV, nna⟩, trivial⟩) rfl rfl rfl (by decide) rfl ?_); intro S4 a4 hl4 hV4)
      repeat (refine s72_L8g ?_; intros)
      refine JX.ret1 Tryz.results72 (ResV.tmp rfl) (M' := [_]) (List.sublist_cons_self _ _) ?_
      exact ⟨by rw [hp1]; exact hV4, _, rfl, hco3.mono (by exact lea)⟩
end Go.Dr
namespace Go.Dr
open Go.Proofs
set_option maxRecDepth 20000
set_option maxHeartbeats 2000000
set_option linter.unusedSimpArgs false
set_option linter.unusedVariables false
def ownC1 (s : Snap) (p : List Int) (kind : Int) (o : Nat) : List Clause := if kind = 8 then [minC1 s p o] else spreadC1 s p o
theorem maxmin_rng {L : List Int} (hne : L ≠ []) (hr : ∀ x ∈ L, 0 ≤ x ∧ x ≤ 1000000) : (0 ≤ maxL L ∧ maxL L ≤ 1000000) ∧ (0 ≤ minL L ∧ minL L ≤ 1000000) := by
  cases L with
  | nil => exact absurd rfl hne
  | cons x L =>
    have r1 := fold_rng min_or (lo := 0) (hi := 1000000) (l := L) (z := x) (hr x (by simp)).1 (hr x (by simp)).2 (fun y hy => hr y (by simp [hy]))
    have r2 := fold_rng max_or (lo := 0) (hi := 1000000) (l := L) (z := x) (hr x (by simp)).1 (hr x (by simp)).2 (fun y hy => hr y (by simp [hy]))
    exact ⟨r2, r1⟩
theorem s72_L8h {P K : Prop} (k : K) (h : Goal K → P := by
  intro zk
  (first | refine Walk ?_ | refine JC.block ?_ | refine JC.drawN 8 rfl [0, 1, 2, 3, 4, 5, 6, 7, 8, 9, 10, 11, 12, 13, 14, 15, 16, 17, 18] [0, 15, 17] Tryz_mixed (by decide +kernel) ?_ | refine JC.drawN 24 rfl [0, 1, 2, 3, 4, 5, 6, 7, 8, 9, 10, 11, 12, 13, 14, 15] [2, 3, 4, 5, 6, 7, 8, 9, 10, 12, 13, 14] Tryz_mixed (by decide +kernel) ?_ | refine JC.drawN 27 rfl [0, 1, 2, 3, 4, 5, 6, 7, 8, 9, 10] [0, 1, 2, 3, 4, 5, 6, 7, 8, 10] Tryz_mixed (by decide +kernel) ?_ | refine JC.drawN 29 rfl [0, 2, 5, 6, 1, 3, 4, 7, 8, 9, 10] [0, 4, 7, 8, 9] Tryz_mixed (by decide +kernel) ?_ | (refine JO.eff rfl rfl rfl (JEff.callL rfl (p7_Spread _ (by exact vta) (by exact vta)) rfl ?_); intro zqa zqb zqc zqd zqe zqf) | (refine JO.eff rfl rfl rfl (JEff.callV rfl (p_Max (by exact vta) (by first | assumption | simp)) rfl ?_); intro zqa zqb) | (refine JO.eff rfl rfl rfl (JEff.callV rfl (p_Min (by exact vta) (by first | assumption | simp)) rfl ?_); intro zqa zqb))
  (repeat (first | revert zqg | revert zqf | revert zqe | revert zqd | revert zqc | revert zqb | revert zqa))
  exact zk.k) : P := h ⟨k⟩
theorem p8_ofMin {S : SHeap} {kp : Addr} {s : Snap} {p : List Int} {us : List (List Int)} {mb : Nat} {l : List (ByteArray × Value)} {o : Nat} (hok : checkP s p = 0) (ho : o < s.owners.length)
    (hL : PtrTo S kp rLook ⟨s, p, us, .map (some mb)⟩) (hco : Cache s S l) :
    FnC Tryz.prog 72 #[.pointer (some kp), .iface 123 (.int .i64 o), .int .i64 8] S Value.string mb (Cache s) l (fun w S' => (rSlice 32 rClause).V S' w [minC1 s p o]) := by
  obtain ⟨hs, hlen, hp24, hn8, ho8, hpr, hprn⟩ := placed_hyps hok
  have hor : Rng (o : Int) := by unfold Rng; omega
  obtain ⟨ow, how, _⟩ := drop_at ho
  have hmo : minOf s o = ow.min := by simp [minOf, how]
  have hsr := shaped_owner (checkS_ok hs).1 ow (List.mem_of_getElem? how)
  have hplr := placed_rng (s := s) (p := p) (o := o) hlen
  have hV0 : ∀ S, rClause.V S (.agg (flatCells [.int .i64 8, .int .i64 o, .int .i64 0, .int .i64 0]).toArray) ⟨8, o, 0, 0⟩ := fun S => V_clause.2 ⟨by simp [flatCells, Value.cells], by unfold Rng; dsimp only; omega, hor, by unfold Rng; dsimp only; omega, by unfold Rng; dsimp only; omega⟩
  (refine Fn.enter (args := [.pointer (some kp), .iface 123 (.int .i64 o), .int .i64 8]) Tryz.func72 rfl Tryz.ntmps72 rfl ?_; intro w0)
  repeat (refine s72_L8h ?_; intros)
  refine JO.eff rfl rfl rfl (JEff.method rfl rfl (m8_O _) (p8_numO _) rfl ?_); intro S1 hl1
  repeat (refine s72_L8h ?_; intros)
  (refine JO.eff rfl rfl rfl (JEff.alloc rfl ?_); intro cb hcb)
  repeat (refine s72_L8h ?_; intros)
  refine JO.eff rfl rfl rfl (JEff.storeW rfl rfl (hV0 _) nna (List.Perm.refl _) rfl (by intro l hl; cases hl) ?_)
  repeat (refine s72_L8h ?_; intros)
  refine JO.pure rfl rfl rfl (JPure.assertF rfl rfl rfl ?_)
  repeat (refine s72_L8h ?_; intros)
  refine JO.pure rfl rfl rfl (JPure.assertF rfl rfl rfl ?_)
  repeat (refine s72_L8h ?_; intros)
  refine JO.pure rfl rfl rfl (JPure.assertT rfl rfl ?_)
  repeat (refine s72_L8h ?_; intros)
  (refine JO.eff rfl rfl rfl (JEff.alloc rfl ?_); intro ob hob)
  repeat (refine s72_L8h ?_; intros)
  refine JO.eff rfl rfl rfl (JEff.storeW rfl rfl (by exact vta) nna (List.Perm.refl _) rfl (by intro l hl; cases hl) ?_)
  refine JO.freezeV (by exact vta) nna hob (by intro l hl; cases hl) ?_; intro S2 hl2 hpo
  repeat (refine s72_L8h ?_; intros)
  refine JO.eff rfl rfl rfl (JEff.callV rfl (p7_Placed (s := s) (p := p) o (by exact vta) (by exact vta)) rfl ?_); intro S3 hl3
  have hpl : (if (z0 (checkP s p) && (decide ((0 : Int) ≤ o) && decide ((o : Int) < s.owners.length))) = true then placedN s p ((o : Int)).toNat else 0) = placedN s p o := by
    rw [if_pos (by simp [z0, hok, ho])]; rfl
  rw [hpl]
  repeat (refine s72_L8h ?_; intros)
  refine JO.pure rfl rfl rfl (JPure.fieldP rfl rfl ?_)
  refine JO.eff rfl rfl rfl (JEff.storeI (i := 3) (xs := [8, o, 0, 0]) rfl rfl (by unfold Rng; omega) (List.Perm.refl _) (by simp) (by intro l hl; cases hl) ?_)
  have hp1 : [minC1 s p o] = [⟨8, o, 0, max 0 (ow.min - placedN s p o)⟩] := by rw [minC1, hmo]
  repeat (refine s72_L8h ?_; intros)
  refine JO.pure rfl rfl rfl (JPure.loadCl (c := ⟨8, o, 0, max 0 (ow.min - placedN s p o)⟩) rfl (by (first | exact List.mem_cons_self | exact List.mem_cons_of_mem _ List.mem_cons_self | exact List.mem_cons_of_mem _ (List.mem_cons_of_mem _ List.mem_cons_self))) rfl ⟨by unfold Rng; dsimp only; omega, hor, by unfold Rng; dsimp only; omega, by unfold Rng; dsimp only; omega⟩ (.inl rfl) rfl ?_); intro hV
  (refine JO.eff rfl rfl rfl (JEff.buildS (bt := 32) (rep := rClause) (ys := [(⟨8, o, 0, max 0 (ow.min - placedN s p o)⟩ : Clause)]) rfl rfl (⟨⟨hV, nna⟩, trivial⟩) rfl rfl rfl (by decide) rfl ?_); intro S4 a4 hl4 hV4)
  repeat (refine s72_L8h ?_; intros)
  refine JX.ret1 Tryz.results72 (ResV.tmp rfl) (M' := [_]) (List.sublist_cons_self _ _) ?_
  exact ⟨by rw [hp1]; exact hV4, _, rfl, hco.mono (by exact lea)⟩
theorem p8_ofSpread {S : SHeap} {kp : Addr} {s : Snap} {p : List Int} {us : List (List Int)} {mb : Nat} {l : List (ByteArray × Value)} {o : Nat} (hok : checkP s p = 0) (ho : o < s.owners.length)
    (hL : PtrTo S kp rLook ⟨s, p, us, .map (some mb)⟩) (hco : Cache s S l) :
    FnC Tryz.prog 72 #[.pointer (some kp), .iface 123 (.int .i64 o), .int .i64 7] S Value.string mb (Cache s) l (fun w S' => (rSlice 32 rClause).V S' w (spreadC1 s p o)) := by
  obtain ⟨hs, hlen, hp24, hn8, ho8, hpr, hprn⟩ := placed_hyps hok
  have hor : Rng (o : Int) := by unfold Rng; omega
  obtain ⟨ow, how, _⟩ := drop_at ho
  have htp : topoOf s o = ow.topo := by simp [topoOf, how]
  have hsko : skewOf s o = ow.skew := by simp [skewOf, how]
  have hsr := shaped_owner (checkS_ok hs).1 ow (List.mem_of_getElem? how)
  have hspr := spread_rng (s := s) (p := p) (o := o) (by omega) hlen (by omega)
  have hV0 : ∀ S, rClause.V S (.agg (flatCells [.int .i64 7, .int .i64 o, .int .i64 0, .int .i64 0]).toArray) ⟨7, o, 0, 0⟩ := fun S => V_clause.2 ⟨by simp [flatCells, Value.cells], by unfold Rng; dsimp only; omega, hor, by unfold Rng; dsimp only; omega, by unfold Rng; dsimp only; omega⟩
  have hspp : spreadP s p o = spreadL s p o := by unfold spreadP; rw [if_pos (by simp [z0, hok, ho])]; rfl
  (refine Fn.enter (args := [.pointer (some kp), .iface 123 (.int .i64 o), .int .i64 7]) Tryz.func72 rfl Tryz.ntmps72 rfl ?_; intro w0)
  repeat (refine s72_L8h ?_; intros)
  refine JO.eff rfl rfl rfl (JEff.method rfl rfl (m8_O _) (p8_numO _) rfl ?_); intro S1 hl1
  repeat (refine s72_L8h ?_; intros)
  (refine JO.eff rfl rfl rfl (JEff.alloc rfl ?_); intro cb hcb)
  repeat (refine s72_L8h ?_; intros)
  refine JO.eff rfl rfl rfl (JEff.storeW rfl rfl (hV0 _) nna (List.Perm.refl _) rfl (by intro l hl; cases hl) ?_)
  repeat (refine s72_L8h ?_; intros)
  refine JO.pure rfl rfl rfl (JPure.assertF rfl rfl rfl ?_)
  repeat (refine s72_L8h ?_; intros)
  refine JO.pure rfl rfl rfl (JPure.assertF rfl rfl rfl ?_)
  repeat (refine s72_L8h ?_; intros)
  refine JO.pure rfl rfl rfl (JPure.assertT rfl rfl ?_)
  repeat (refine s72_L8h ?_; intros)
  (refine JO.eff rfl rfl rfl (JEff.alloc rfl ?_); intro ob hob)
  repeat (refine s72_L8h ?_; intros)
  refine JO.eff rfl rfl rfl (JEff.storeW rfl rfl (by exact vta) nna (List.Perm.refl _) rfl (by intro l hl; cases hl) ?_)
  refine JO.freezeV (by exact vta) nna hob (by intro l hl; cases hl) ?_; intro S2 hl2 hpo
  repeat (refine s72_L8h ?_; intros)
  refine JC.cond rfl (fun ht => ?_) (fun ht => ?_)
  · have ht : topoOf s o = noS := by rw [htp]; simpa [noS] using ht
    have hp1 : spreadC1 s p o = [] := by rw [spreadC1, if_pos ht]
    repeat (refine s72_L8h ?_; intros)
    refine JX.ret1 Tryz.results72 (ResV.tmp rfl) (M' := [_]) (List.sublist_cons_self _ _) ?_
    exact ⟨by rw [hp1]; exact V_nil, _, rfl, hco.mono (by exact lea)⟩
  · have ht : ¬ topoOf s o = noS := by rw [htp]; simpa [noS] using ht
    repeat (refine s72_L8h ?_; intros)
    have hVs := (by assumption : (rSlice 8 rI64).V _ _ (spreadP s p o))
    rw [hspp] at hVs
    rw [hspp]
    refine JC.cond rfl (fun hle => ?_) (fun hle => ?_)
    · have hne : spreadL s p o ≠ [] := by intro h; rw [h] at hle; simp at hle
      have hne2 : ¬ (spreadL s p o).length = 0 := by intro h; exact hne (List.length_eq_zero_iff.1 h)
      have hsk : skewV s p o = max 0 (maxL (spreadL s p o) - minL (spreadL s p o) - ow.skew) := by rw [skewV, if_neg hne2, hsko]
      obtain ⟨hmx, hmn⟩ := maxmin_rng hne hspr
      repeat (refine s72_L8h ?_; intros)
      refine JO.pure rfl rfl rfl (JPure.fieldP rfl rfl ?_)
      refine JO.eff rfl rfl rfl (JEff.storeI (i := 3) (xs := [7, o, 0, 0]) rfl rfl (by unfold Rng; omega) (List.Perm.refl _) (by simp) (by intro l hl; cases hl) ?_)
      have hp1 : spreadC1 s p o = [⟨7, o, 0, max 0 (maxL (spreadL s p o) - minL (spreadL s p o) - ow.skew)⟩] := by rw [spreadC1, if_neg ht, hsk]
      repeat (refine s72_L8h ?_; intros)
      refine JO.pure rfl rfl rfl (JPure.loadCl (c := ⟨7, o, 0, max 0 (maxL (spreadL s p o) - minL (spreadL s p o) - ow.skew)⟩) rfl (by (first | exact List.mem_cons_self | exact List.mem_cons_of_mem _ List.mem_cons_self | exact List.mem_cons_of_mem _ (List.mem_cons_of_mem _ List.mem_cons_self))) rfl ⟨by unfold Rng; dsimp only; omega, hor, by unfold Rng; dsimp only; omega, by unfold Rng; dsimp only; omega⟩ (.inl rfl) rfl ?_); intro hV
      (refine JO.eff rfl rfl rfl (JEff.buildS (bt := 32) (rep := rClause) (ys := [(⟨7, o, 0, max 0 (maxL (spreadL s p o) - minL (spreadL s p o) - ow.skew)⟩ : Clause)]) rfl rfl (⟨⟨hV, nna⟩, trivial⟩) rfl rfl rfl (by decide) rfl ?_); intro S4 a4 hl4 hV4)
      repeat (refine s72_L8h ?_; intros)
      refine JX.ret1 Tryz.results72 (ResV.tmp rfl) (M' := [_]) (List.sublist_cons_self _ _) ?_
      exact ⟨by rw [hp1]; exact hV4, _, rfl, hco.mono (by exact lea)⟩
    · have hz : (spreadL s p o).length = 0 := by
        have : ¬ (0 : Int) < ((spreadL s p o).length : Int) := by simpa using hle
        omega
      have hsk : skewV s p o = 0 := by rw [skewV, if_pos hz]
      have hp1 : spreadC1 s p o = [⟨7, o, 0, 0⟩] := by rw [spreadC1, if_neg ht, hsk]
      repeat (refine s72_L8h ?_; intros)
      refine JO.pure rfl rfl rfl (JPure.loadCl (c := ⟨7, o, 0, 0⟩) rfl (by (first | exact List.mem_cons_self | exact List.mem_cons_of_mem _ List.mem_cons_self | exact List.mem_cons_of_mem _ (List.mem_cons_of_mem _ List.mem_cons_self))) rfl ⟨by unfold Rng; dsimp only; omega, hor, by unfold Rng; dsimp only; omega, by unfold Rng; dsimp only; omega⟩ (.inl rfl) rfl ?_); intro hV
      (refine JO.eff rfl rfl rfl (JEff.buildS (bt := 32) (rep := rClause) (ys := [(⟨7, o, 0, 0⟩ : Clause)]) rfl rfl (⟨⟨hV, nna⟩, trivial⟩) rfl rfl rfl (by decide) rfl ?_); intro S4 a4 hl4 hV4)
      repeat (refine s72_L8h ?_; intros)
      refine JX.ret1 Tryz.results72 (ResV.tmp rfl) (M' := [_]) (List.sublist_cons_self _ _) ?_
      exact ⟨by rw [hp1]; exact hV4, _, rfl, hco.mono (by exact lea)⟩
end Go.Dr
namespace Go.Dr
open Go.Proofs
set_option maxRecDepth 20000
set_option maxHeartbeats 2000000
set_option linter.unusedSimpArgs false
set_option linter.unusedVariables false
def usedK (s : Snap) (p : List Int) (k : Nat) : List (List Int) := (List.range k).map (fun (n : Nat) => usedV s p n)
theorem usedK_step (s : Snap) (p : List Int) (k : Nat) : usedK s p (k + 1) = usedK s p k ++ [usedV s p k] := by unfold usedK; rw [List.range_succ]; simp
theorem usedK_len (s : Snap) (p : List Int) (k : Nat) : (usedK s p k).length = k := by simp [usedK]
def SeeAns (s : Snap) (p : List Int) (w : Value) (S' : SHeap) (M' : List MEnt) : Prop :=
  (¬ checkP s p = 0 ∧ w = .tuple #[.pointer none, .int .i64 (checkP s p)] ∧ M' = []) ∨
  (checkP s p = 0 ∧ ∃ kp mb, w = .tuple #[.pointer (some kp), .int .i64 0] ∧ PtrTo S' kp rLook ⟨s, p, usedAll s p, .map (some mb)⟩ ∧ M' = [.blk mb (mapK Value.string [])])
theorem s48_L8i {P K : Prop} (k : K) (h : Goal K → P := by
  intro zk
  (first | refine Walk ?_ | refine JC.block ?_ | (refine JO.eff rfl rfl rfl (JEff.callV rfl (p7_Check (by exact vta) (by exact vta)) rfl ?_); intro zqa zqb))
  (repeat (first | revert zqg | revert zqf | revert zqe | revert zqd | revert zqc | revert zqb | revert zqa))
  exact zk.k) : P := h ⟨k⟩
theorem p8_see {S : SHeap} {u v : Value} {s : Snap} {p : List Int} (hu : rSnap.V S u s) (hv : (rSlice 8 rI64).V S v p) : Fn Tryz.prog 48 #[u, v] S [] (SeeAns s p) := by
  haveI : TyR Tryz.prog 117 rVal := ⟨(inferInstance : TyR Tryz.prog 117 (rSlice 40 (rArr 5))).b⟩
  obtain ⟨a, c, rfl, _⟩ := V_slice.1 hv
  (refine Fn.enter (args := [u, .slice a p.length c]) Tryz.func48 rfl Tryz.ntmps48 rfl ?_; intro w0)
  repeat (refine s48_L8i ?_; intros)
  (refine JO.eff rfl rfl rfl (JEff.boxS rfl (by exact vta) nna rfl ?_); intro S0 pa l0 hp0)
  repeat (refine s48_L8i ?_; intros)
  refine JC.cond rfl (fun he => ?_) (fun he => ?_)
  · have he : ¬ checkP s p = 0 := by simpa using he
    repeat (refine s48_L8i ?_; intros)
    refine JX.ret2 Tryz.results48 (ResV.tmp rfl) (ResV.tmp rfl) (List.nil_sublist _) ?_
    exact .inl ⟨he, rfl, rfl⟩
  have hok : checkP s p = 0 := by simpa using he
  obtain ⟨hs, hlen, hp24, hn8, ho8, hpr, hprn⟩ := placed_hyps hok
  repeat (refine s48_L8i ?_; intros)
  obtain ⟨cs, rfl, hcs⟩ := V_agg rfl (by assumption : rSnap.V _ _ s)
  obtain ⟨n1, n2, n3, rfl⟩ : ∃ n1 n2 n3, cs = [n1, n2, n3] := by
    have h3 : cs.length = 3 := rSnap.len hcs
    match cs, h3 with
    | [n1, n2, n3], _ => exact ⟨n1, n2, n3, rfl⟩
  refine JO.eff rfl rfl rfl (JEff.makeMapK Value.string rfl ?_); intro mb hmb
  repeat (refine s48_L8i ?_; intros)
  refine JO.eff rfl rfl rfl (JEff.box rfl rfl ?_); intro kb hkb
  repeat (refine s48_L8i ?_; intros)
  refine JC.newRow 30 (Rp.sz (rArr 5)) ?_
  refine JC.loopF (σ := Nat × Option Addr × Nat × List Value) [(1, _), (2, _), (7, _), (22, _)] (fun q => [(23, .int .i64 q.1)])
    (fun q => [.row w0.heap.size 30 (Rp.sz (rArr 5)) (.slice q.2.1 q.1 q.2.2.1) q.1 (flatCells q.2.2.2), .blk kb (.cells #[n1, n2, n3, .slice a p.length c, .slice q.2.1 q.1 q.2.2.1, .map (some mb)] 119 (0, 0)), .blk mb (mapK Value.string [])])
    (fun Sk q => q.1 ≤ s.nodes.length ∧ allV (rArr 5) Sk q.2.2.2 (usedK s p q.1)) (fun q => s.nodes.length - q.1) (0, none, 0, []) (by exact sba) (by exact sba) (by rfl) ⟨Nat.zero_le _, trivial⟩ ?_
  rintro Sk ⟨k, ra, rc, vs⟩ hlk ⟨hk, hv1⟩
  dsimp only at hk hv1
  dsimp only [List.cons_append, List.nil_append]
  repeat (refine s48_L8i ?_; intros)
  refine JC.cond rfl (fun hc => ?_) (fun hc => ?_)
  · have hk' := dlt hc
    have hst := usedK_step s p k
    obtain ⟨hul, hur⟩ := used_fine hs hlen k
    have hU : ∀ S, (rArr 5).V S (.agg (ints (usedV s p k))) (usedV s p k) := fun S => V_arr.2 ⟨rfl, hul, fun z hz => by have := hur z hz; unfold Qty at this; unfold Rng; omega⟩
    have hup : usedP s p k = usedV s p k := by unfold usedP; rw [if_pos (by simp [z0, hok, hk'])]
    have hkl := usedK_len s p k
    have hvl := hv1.length
    rw [hkl] at hvl
    repeat (refine s48_L8i ?_; intros)
    refine JC.drawTreeF 8 rfl [11, 12] [4] [0, 1, 2, 3, 5, 6, 7] (.alt (ofL [4, 8, 9, 10, 11, 12, 13] .nil) (ofL [8] (.alt (ofL [4, 9, 10, 11, 12, 13] .nil) (ofL [9, 4, 10, 11, 12, 13] .nil)))) Tryz_mixed (by decide +kernel) ?_
    repeat (refine s48_L8i ?_; intros)
    refine JO.pure rfl rfl rfl (JPure.fieldP rfl rfl ?_)
    repeat (refine s48_L8i ?_; intros)
    refine JO.alt ?_ ?_
    · refine JO.eff rfl rfl rfl (JEff.loadE (rVal) (x0 := .slice ra k rc) rfl (by (first | exact List.mem_cons_self | exact List.mem_cons_of_mem _ List.mem_cons_self | exact List.mem_cons_of_mem _ (List.mem_cons_of_mem _ List.mem_cons_self))) rfl ⟨rfl, rfl⟩ inferInstance rfl ?_)
      repeat (refine s48_L8i ?_; intros)
      refine JO.eff rfl rfl rfl (JEff.callV rfl (p7_Used (s := s) (p := p) k (by exact vta) (by exact vta)) rfl ?_); intro S3 hl3
      rw [hup]
      repeat (refine s48_L8i ?_; intros)
      (refine JO.eff rfl rfl rfl (JEff.build (rep := rArr 5) (ys := [usedV s p k]) rfl rfl ⟨⟨hU _, nna⟩, trivial⟩ rfl rfl rfl rfl ?_); intro bb hbb hvv)
      (refine JO.eff rfl rfl rfl (JEff.appendL (rep := rArr 5) rfl rfl rfl rfl (List.Perm.swap _ _ _) (by exact hvv.flat) (by intro c hc; exact flat_one (fun v hv => (hvv.size v hv).2) c hc) (by unfold big; omega) (by unfold big; omega) (by first | exact rowT_ok | (intro l hl; cases hl)) rfl ?_); intro a2 c2; clear hvv hbb)
      repeat (refine s48_L8i ?_; intros)
      refine JO.pure rfl rfl rfl (JPure.fieldP rfl rfl ?_)
      refine JO.eff rfl rfl rfl (JEff.store (rep := rVal) (x0 := .slice a2 (k + 1) c2) rfl rfl (V_val.2 ⟨rfl, rfl⟩) nna (List.Perm.swap _ _ _) (by simp [rVal]) (by intro l hl; cases hl) ?_)
      repeat (refine s48_L8i ?_; intros)
      refine JX.perm (M' := [_, _, _]) (List.Perm.swap _ _ _) ?_
      exact JX.roundF (k + 1, a2, c2, vs ++ [.agg (ints (usedV s p k))]) (by exact lea) ⟨by dsimp only; omega, by (try dsimp only); rw [hst]; exact allV_add (by exact lea) hv1 (hU _) nna⟩ (by (try dsimp only); omega) (by simp [flat_append]; rfl) (by exact sba) (by exact sba)
    · refine JO.eff rfl rfl rfl (JEff.callV rfl (p7_Used (s := s) (p := p) k (by exact vta) (by exact vta)) rfl ?_); intro S3 hl3
      rw [hup]
      repeat (refine s48_L8i ?_; intros)
      refine JO.alt ?_ ?_
      · refine JO.eff rfl rfl rfl (JEff.loadE (rVal) (x0 := .slice ra k rc) rfl (by (first | exact List.mem_cons_self | exact List.mem_cons_of_mem _ List.mem_cons_self | exact List.mem_cons_of_mem _ (List.mem_cons_of_mem _ List.mem_cons_self))) rfl ⟨rfl, rfl⟩ inferInstance rfl ?_)
        (refine JO.eff rfl rfl rfl (JEff.build (rep := rArr 5) (ys := [usedV s p k]) rfl rfl ⟨⟨hU _, nna⟩, trivial⟩ rfl rfl rfl rfl ?_); intro bb hbb hvv)
        (refine JO.eff rfl rfl rfl (JEff.appendL (rep := rArr 5) rfl rfl rfl rfl (List.Perm.swap _ _ _) (by exact hvv.flat) (by intro c hc; exact flat_one (fun v hv => (hvv.size v hv).2) c hc) (by unfold big; omega) (by unfold big; omega) (by first | exact rowT_ok | (intro l hl; cases hl)) rfl ?_); intro a2 c2; clear hvv hbb)
        repeat (refine s48_L8i ?_; intros)
        refine JO.pure rfl rfl rfl (JPure.fieldP rfl rfl ?_)
        refine JO.eff rfl rfl rfl (JEff.store (rep := rVal) (x0 := .slice a2 (k + 1) c2) rfl rfl (V_val.2 ⟨rfl, rfl⟩) nna (List.Perm.swap _ _ _) (by simp [rVal]) (by intro l hl; cases hl) ?_)
        repeat (refine s48_L8i ?_; intros)
        refine JX.perm (M' := [_, _, _]) (List.Perm.swap _ _ _) ?_
        exact JX.roundF (k + 1, a2, c2, vs ++ [.agg (ints (usedV s p k))]) (by exact lea) ⟨by dsimp only; omega, by (try dsimp only); rw [hst]; exact allV_add (by exact lea) hv1 (hU _) nna⟩ (by (try dsimp only); omega) (by simp [flat_append]; rfl) (by exact sba) (by exact sba)
      · (refine JO.eff rfl rfl rfl (JEff.build (rep := rArr 5) (ys := [usedV s p k]) rfl rfl ⟨⟨hU _, nna⟩, trivial⟩ rfl rfl rfl rfl ?_); intro bb hbb hvv)
        refine JO.eff rfl rfl rfl (JEff.loadE (rVal) (x0 := .slice ra k rc) rfl (by (first | exact List.mem_cons_self | exact List.mem_cons_of_mem _ List.mem_cons_self | exact List.mem_cons_of_mem _ (List.mem_cons_of_mem _ List.mem_cons_self))) rfl ⟨rfl, rfl⟩ inferInstance rfl ?_)
        (refine JO.eff rfl rfl rfl (JEff.appendL (rep := rArr 5) rfl rfl rfl rfl (List.Perm.swap _ _ _) (by exact hvv.flat) (by intro c hc; exact flat_one (fun v hv => (hvv.size v hv).2) c hc) (by unfold big; omega) (by unfold big; omega) (by first | exact rowT_ok | (intro l hl; cases hl)) rfl ?_); intro a2 c2; clear hvv hbb)
        repeat (refine s48_L8i ?_; intros)
        refine JO.pure rfl rfl rfl (JPure.fieldP rfl rfl ?_)
        refine JO.eff rfl rfl rfl (JEff.store (rep := rVal) (x0 := .slice a2 (k + 1) c2) rfl rfl (V_val.2 ⟨rfl, rfl⟩) nna (List.Perm.swap _ _ _) (by simp [rVal]) (by intro l hl; cases hl) ?_)
        repeat (refine s48_L8i ?_; intros)
        refine JX.perm (M' := [_, _, _]) (List.Perm.swap _ _ _) ?_
        exact JX.roundF (k + 1, a2, c2, vs ++ [.agg (ints (usedV s p k))]) (by exact lea) ⟨by dsimp only; omega, by (try dsimp only); rw [hst]; exact allV_add (by exact lea) hv1 (hU _) nna⟩ (by (try dsimp only); omega) (by simp [flat_append]; rfl) (by exact sba) (by exact sba)
  · have hk' := dnlt hc
    obtain rfl : k = s.nodes.length := by omega
    have hkl := usedK_len s p s.nodes.length
    refine JC.freezeRow (rep := rArr 5) (bt := 40) hv1 hkl.symm (by unfold big; omega) (by unfold big; omega) (fun S9 hl9 hV9 => ?_)
    refine JC.freeze hkb (fun S10 hl10 hS10 => ?_)
    have hfin : PtrTo S10 ⟨kb, 0, none⟩ rLook ⟨s, p, usedAll s p, .map (some mb)⟩ :=
      cells_ptr (v := .agg #[n1, n2, n3, .slice a p.length c, .slice ra s.nodes.length rc, .map (some mb)]) hS10
        ⟨[n1, n2, n3], _, rfl, rSnap.mono (by exact lea) hcs, [_], _, rfl, Rp.V.one rfl (hv.mono (by exact lea)), [_], [_], rfl, Rp.V.one rfl (hV9.mono (by exact lea)), rfl, rfl⟩
    repeat (refine s48_L8i ?_; intros)
    refine JX.ret2 Tryz.results48 (ResV.tmp rfl) (ResV.tmp rfl) (List.Sublist.refl _) ?_
    exact .inr ⟨hok, _, _, rfl, hfin, rfl⟩
end Go.Dr
namespace Go.Dr
open Go.Proofs
set_option maxRecDepth 20000
set_option maxHeartbeats 2000000
set_option linter.unusedSimpArgs false
set_option linter.unusedVariables false
theorem capTo_next (s : Snap) (p : List Int) (n : Nat) : capTo s p (n + 1) 0 = capTo s p n 0 ++ capsK s p n 5 := by
  unfold capTo capsK
  rw [List.range_succ (n := n)]; simp
def ownTo (s : Snap) (p : List Int) : Nat → Nat → List Clause
  | 0, o => capsC s p ++ kindsTo s p 5 ++ spreadTo s p o
  | 1, o => capsC s p ++ kindsTo s p 5 ++ spreadTo s p s.owners.length ++ minTo s p o
  | _ + 2, _ => capsC s p ++ kindsTo s p 5 ++ spreadTo s p s.owners.length ++ minTo s p s.owners.length
theorem ownTo_next (s : Snap) (p : List Int) (t : Nat) : ownTo s p t s.owners.length = ownTo s p (t + 1) 0 := by
  match t with
  | 0 => simp [ownTo, minTo]
  | 1 => simp [ownTo]
  | t + 2 => simp [ownTo]
theorem ownTo_step (s : Snap) (p : List Int) (t o : Nat) (ht : t < 2) : ownTo s p t (o + 1) = ownTo s p t o ++ ownC1 s p ((t : Int) + 7) o := by
  match t with
  | 0 =>
    have : ¬ ((0 : Nat) : Int) + 7 = 8 := by omega
    unfold ownC1
    rw [if_neg this]
    show capsC s p ++ kindsTo s p 5 ++ spreadTo s p (o + 1) = capsC s p ++ kindsTo s p 5 ++ spreadTo s p o ++ spreadC1 s p o
    rw [spreadTo_step, List.append_assoc (capsC s p ++ kindsTo s p 5)]
  | 1 =>
    have : ((1 : Nat) : Int) + 7 = 8 := by omega
    unfold ownC1
    rw [if_pos this]
    show capsC s p ++ kindsTo s p 5 ++ spreadTo s p s.owners.length ++ minTo s p (o + 1) = capsC s p ++ kindsTo s p 5 ++ spreadTo s p s.owners.length ++ minTo s p o ++ [minC1 s p o]
    rw [minTo_step, List.append_assoc (capsC s p ++ kindsTo s p 5 ++ spreadTo s p s.owners.length)]
theorem ownTo_len (s : Snap) (p : List Int) (hok : checkP s p = 0) (t o : Nat) (ht : t ≤ 2) (ho : o ≤ s.owners.length) : (ownTo s p t o).length ≤ 400 := by
  obtain ⟨hs, hlen, hp24, hn8, ho8, hpr, hprn⟩ := placed_hyps hok
  have hcl : (capsC s p).length ≤ 40 := by unfold capsC; rw [capTo_len]; omega
  have hkl := kindsTo_len s p 5
  have h1 := spreadTo_len s p o
  have h2 := minTo_len s p o
  have h3 := spreadTo_len s p s.owners.length
  have h4 := minTo_len s p s.owners.length
  match t with
  | 0 => simp only [ownTo, List.length_append]; omega
  | 1 => simp only [ownTo, List.length_append]; omega
  | t + 2 => simp only [ownTo, List.length_append]; omega
theorem ownC1_len (s : Snap) (p : List Int) (kind : Int) (o : Nat) : (ownC1 s p kind o).length ≤ 1 := by
  unfold ownC1 spreadC1
  split
  · simp
  · split <;> simp
theorem p8_ofOwner {S : SHeap} {kp : Addr} {s : Snap} {p : List Int} {us : List (List Int)} {mb : Nat} {l : List (ByteArray × Value)} {o t : Nat} (hok : checkP s p = 0) (ho : o < s.owners.length) (ht : t < 2)
    (hL : PtrTo S kp rLook ⟨s, p, us, .map (some mb)⟩) (hco : Cache s S l) :
    FnC Tryz.prog 72 #[.pointer (some kp), .iface 123 (.int .i64 o), .int .i64 ((t : Int) + 7)] S Value.string mb (Cache s) l (fun w S' => (rSlice 32 rClause).V S' w (ownC1 s p ((t : Int) + 7) o)) := by
  match t with
  | 0 => exact p8_ofSpread hok ho hL hco
  | 1 => exact p8_ofMin hok ho hL hco
theorem p8_all {S : SHeap} {kp : Addr} {s : Snap} {p : List Int} {mb : Nat} {l : List (ByteArray × Value)} (hok : checkP s p = 0)
    (hL : PtrTo S kp rLook ⟨s, p, usedAll s p, .map (some mb)⟩) (hco : Cache s S l) :
    FnC Tryz.prog 49 #[.pointer (some kp)] S Value.string mb (Cache s) l (fun w S' => (rSlice 32 rClause).V S' w (allC s p)) := by
  obtain ⟨hs, hlen, hp24, hn8, ho8, hpr, hprn⟩ := placed_hyps hok
  (refine Fn.enter (args := [.pointer (some kp)]) Tryz.func49 rfl Tryz.ntmps49 rfl ?_; intro w0)
  repeat (first | (refine Walk ?_; intros) | refine JC.block ?_)
  (first | refine JC.newRow 35 (Rp.sz rClause) ?_ | refine JO.newRow 35 (Rp.sz rClause) ?_ | refine JX.newRow 35 (Rp.sz rClause) ?_)
  refine JC.loopF (σ := Nat × Option Addr × Nat × List Value × List (ByteArray × Value)) [(0, _), (13, _)] (fun q => [(2, .slice q.2.1 ((fun n => capTo s p n 0) q.1).length q.2.2.1), (14, ((fun n => .int .i64 n) q.1))]) (fun q => [.row w0.heap.size 35 (Rp.sz rClause) (.slice q.2.1 ((fun n => capTo s p n 0) q.1).length q.2.2.1) ((fun n => capTo s p n 0) q.1).length (flatCells q.2.2.2.1), .blk mb (mapK Value.string q.2.2.2.2)]) (fun Sn q => q.1 ≤ s.nodes.length ∧ allV rClause Sn q.2.2.2.1 ((fun n => capTo s p n 0) q.1) ∧ Cache s Sn q.2.2.2.2) (fun q => s.nodes.length - q.1) (0, none, 0, [], l) (by exact sba) (by exact sba) (by first | rfl | simp) (⟨Nat.zero_le _, trivial, hco⟩) ?_; rintro Sn ⟨n, ran, rcn, vsn, lmn⟩ hln ⟨hn, hvn, hcon⟩; (try dsimp only at hn hvn hcon); dsimp only [List.cons_append, List.nil_append]
  have hxl := capTo_len s p n 0
  repeat (first | (refine Walk ?_; intros) | refine JC.block ?_)
  refine JC.cond rfl (fun hc => ?_) (fun hc => ?_)
  · have hn' := dlt hc
    have hst := capTo_next s p n
    have hcl := capsK_len s p n 5
    repeat (first | (refine Walk ?_; intros) | refine JC.block ?_)
    refine JO.pure rfl rfl rfl (JPure.mkIface rfl rfl ?_)
    repeat (first | (refine Walk ?_; intros) | refine JC.block ?_)
    refine JO.eff rfl rfl rfl (JEff.callC (kv := Value.string) rfl (List.Perm.swap _ _ _) (by intro l hl; cases hl) (p8_ofNode hok hn' (by exact pta) (hcon.mono (by exact lea))) rfl ?_); intro w S2 l2 hl2 hw hco2
    obtain ⟨wa, wc, rfl, _⟩ := V_slice.1 hw
    repeat (first | (refine Walk ?_; intros) | refine JC.block ?_)
    refine JO.eff rfl rfl rfl (JEff.appendS (rep := rClause) rfl rfl hw rfl rfl (List.Perm.swap _ _ _) (by unfold big; omega) (by unfold big; omega) (by intro l hl; cases hl) rfl ?_); intro a2 c2 us1 hus1
    repeat (first | (refine Walk ?_; intros) | refine JC.block ?_)
    exact JX.roundF (n + 1, a2, c2, vsn ++ us1, l2) (by exact lea) ⟨by omega, by (try dsimp only); rw [hst]; exact allV.append hus1 (hvn.mono (by exact lea)), hco2.mono (by exact lea)⟩ (by (try dsimp only); omega) (by (try dsimp only); rw [hst]; simp [flat_append]) (by (try dsimp only); rw [hst, List.length_append]; exact sba) (by exact sba)
  · have hn' := dnlt hc
    obtain rfl : n = s.nodes.length := by omega
    have hcl : (capsC s p).length ≤ 40 := by unfold capsC; rw [capTo_len]; omega
    repeat (first | (refine Walk ?_; intros) | refine JC.block ?_)
    have h0 : capTo s p s.nodes.length 0 = capsC s p ++ kindsTo s p 0 := by simp [kindsTo, capsC]
    rw [h0] at hvn
    rw [h0]
    refine JC.loopF (σ := Nat × Option Addr × Nat × List Value × List (ByteArray × Value)) [(0, _)] (fun q => [(2, .slice q.2.1 ((fun j => capsC s p ++ kindsTo s p j) q.1).length q.2.2.1), (4, ((fun j => .int .i64 ((j : Int) + 2)) q.1))]) (fun q => [.row w0.heap.size 35 (Rp.sz rClause) (.slice q.2.1 ((fun j => capsC s p ++ kindsTo s p j) q.1).length q.2.2.1) ((fun j => capsC s p ++ kindsTo s p j) q.1).length (flatCells q.2.2.2.1), .blk mb (mapK Value.string q.2.2.2.2)]) (fun Sj q => q.1 ≤ 5 ∧ allV rClause Sj q.2.2.2.1 ((fun j => capsC s p ++ kindsTo s p j) q.1) ∧ Cache s Sj q.2.2.2.2) (fun q => 5 - q.1) (0, ran, rcn, vsn, lmn) (by exact sba) (by exact sba) (by first | rfl | simp) (⟨Nat.zero_le _, hvn, hcon⟩) ?_; rintro Sj ⟨j, raj, rcj, vsj, lmj⟩ hlj ⟨hj, hvj, hcoj⟩; (try dsimp only at hj hvj hcoj); dsimp only [List.cons_append, List.nil_append]
    have hkl := kindsTo_len s p j
    have hkl2 : j * p.length ≤ 5 * 24 := Nat.mul_le_mul (by omega) (by omega)
    have hXl : (capsC s p ++ kindsTo s p j).length ≤ 200 := by rw [List.length_append]; omega
    repeat (first | (refine Walk ?_; intros) | refine JC.block ?_)
    refine JC.cond rfl (fun hc => ?_) (fun hc => ?_)
    · have hj' : j < 5 := by have := of_decide_eq_true hc; omega
      repeat (first | (refine Walk ?_; intros) | refine JC.block ?_)
      have h1 : capsC s p ++ kindsTo s p j = capsC s p ++ kindsTo s p j ++ podsTo s p ((j : Int) + 2) 0 := by simp [podsTo]
      rw [h1] at hvj
      rw [h1]
      refine JC.loopF (σ := Nat × Option Addr × Nat × List Value × List (ByteArray × Value)) [(0, _), (4, _), (32, _)] (fun q => [(2, .slice q.2.1 ((fun i => capsC s p ++ kindsTo s p j ++ podsTo s p ((j : Int) + 2) i) q.1).length q.2.2.1), (33, ((fun i => .int .i64 i) q.1))]) (fun q => [.row w0.heap.size 35 (Rp.sz rClause) (.slice q.2.1 ((fun i => capsC s p ++ kindsTo s p j ++ podsTo s p ((j : Int) + 2) i) q.1).length q.2.2.1) ((fun i => capsC s p ++ kindsTo s p j ++ podsTo s p ((j : Int) + 2) i) q.1).length (flatCells q.2.2.2.1), .blk mb (mapK Value.string q.2.2.2.2)]) (fun Si q => q.1 ≤ p.length ∧ allV rClause Si q.2.2.2.1 ((fun i => capsC s p ++ kindsTo s p j ++ podsTo s p ((j : Int) + 2) i) q.1) ∧ Cache s Si q.2.2.2.2) (fun q => p.length - q.1) (0, raj, rcj, vsj, lmj) (by exact sba) (by exact sba) (by first | rfl | simp) (⟨Nat.zero_le _, hvj.mono (by exact lea), hcoj.mono (by exact lea)⟩) ?_; rintro Si ⟨i, rai, rci, vsi, lmi⟩ hli ⟨hi, hvi, hcoi⟩; (try dsimp only at hi hvi hcoi); dsimp only [List.cons_append, List.nil_append]
      have hpl := podsTo_len s p ((j : Int) + 2) i
      have hp1 := podC1_len s p ((j : Int) + 2) i
      have hYl : (capsC s p ++ kindsTo s p j ++ podsTo s p ((j : Int) + 2) i).length ≤ 300 := by rw [List.length_append]; omega
      repeat (first | (refine Walk ?_; intros) | refine JC.block ?_)
      refine JC.cond rfl (fun hc2 => ?_) (fun hc2 => ?_)
      · have hi' := dlt hc2
        have hst : capsC s p ++ kindsTo s p j ++ podsTo s p ((j : Int) + 2) (i + 1) = capsC s p ++ kindsTo s p j ++ podsTo s p ((j : Int) + 2) i ++ podC1 s p ((j : Int) + 2) i := by rw [podsTo_step, List.append_assoc (capsC s p ++ kindsTo s p j)]
        repeat (first | (refine Walk ?_; intros) | refine JC.block ?_)
        refine JO.pure rfl rfl rfl (JPure.mkIface rfl rfl ?_)
        repeat (first | (refine Walk ?_; intros) | refine JC.block ?_)
        refine JO.eff rfl rfl rfl (JEff.callC (kv := Value.string) rfl (List.Perm.swap _ _ _) (by intro l hl; cases hl) (p8_ofPod hok hi' (by omega) (by omega) (by exact pta) (hcoi.mono (by exact lea))) rfl ?_); intro w S2 l2 hl2 hw hco2
        obtain ⟨wa, wc, rfl, _⟩ := V_slice.1 hw
        repeat (first | (refine Walk ?_; intros) | refine JC.block ?_)
        refine JO.eff rfl rfl rfl (JEff.appendS (rep := rClause) rfl rfl hw rfl rfl (List.Perm.swap _ _ _) (by unfold big; omega) (by unfold big; omega) (by intro l hl; cases hl) rfl ?_); intro a2 c2 us1 hus1
        repeat (first | (refine Walk ?_; intros) | refine JC.block ?_)
        exact JX.roundF (i + 1, a2, c2, vsi ++ us1, l2) (by exact lea) ⟨by omega, by (try dsimp only); rw [hst]; exact allV.append hus1 (hvi.mono (by exact lea)), hco2.mono (by exact lea)⟩ (by (try dsimp only); omega) (by (try dsimp only); rw [hst]; (simp [flat_append] <;> omega)) (by (try dsimp only); rw [hst, List.length_append (bs := podC1 s p ((j : Int) + 2) i)]; exact sba) (by exact sba)
      · have hi' := dnlt hc2
        obtain rfl : i = p.length := by omega
        have h2 : capsC s p ++ kindsTo s p j ++ podsTo s p ((j : Int) + 2) p.length = capsC s p ++ kindsTo s p (j + 1) := by rw [kindsTo_step, List.append_assoc]
        rw [h2] at hvi
        rw [h2]
        repeat (first | (refine Walk ?_; intros) | refine JC.block ?_)
        exact JX.roundF (j + 1, rai, rci, vsi, lmi) (by exact lea) ⟨by omega, hvi.mono (by exact lea), hcoi.mono (by exact lea)⟩ (by (try dsimp only); omega) rfl (by exact sba) (by exact sba)
    · obtain rfl : j = 5 := by have := of_decide_eq_false hc; omega
      repeat (first | (refine Walk ?_; intros) | refine JC.block ?_)
      have h3 : capsC s p ++ kindsTo s p 5 = ownTo s p 0 0 := by simp [ownTo, spreadTo, minTo]
      rw [h3] at hvj
      rw [h3]
      refine JC.loopF (σ := Nat × Option Addr × Nat × List Value × List (ByteArray × Value)) [(0, _)] (fun q => [(2, .slice q.2.1 ((fun t => ownTo s p t 0) q.1).length q.2.2.1), (6, ((fun t => .int .i64 ((t : Int) + 7)) q.1))]) (fun q => [.row w0.heap.size 35 (Rp.sz rClause) (.slice q.2.1 ((fun t => ownTo s p t 0) q.1).length q.2.2.1) ((fun t => ownTo s p t 0) q.1).length (flatCells q.2.2.2.1), .blk mb (mapK Value.string q.2.2.2.2)]) (fun St q => q.1 ≤ 2 ∧ allV rClause St q.2.2.2.1 ((fun t => ownTo s p t 0) q.1) ∧ Cache s St q.2.2.2.2) (fun q => 2 - q.1) (0, raj, rcj, vsj, lmj) (by exact sba) (by exact sba) (by first | rfl | simp) (⟨Nat.zero_le _, hvj.mono (by exact lea), hcoj.mono (by exact lea)⟩) ?_; rintro St ⟨t, rat, rct, vst, lmt⟩ hlt ⟨ht, hvt, hcot⟩; (try dsimp only at ht hvt hcot); dsimp only [List.cons_append, List.nil_append]
      have hXl := ownTo_len s p hok t 0 (by omega) (by omega)
      repeat (first | (refine Walk ?_; intros) | refine JC.block ?_)
      refine JC.cond rfl (fun hc => ?_) (fun hc => ?_)
      · have ht' : t < 2 := by have := of_decide_eq_true hc; omega
        repeat (first | (refine Walk ?_; intros) | refine JC.block ?_)
        refine JC.loopF (σ := Nat × Option Addr × Nat × List Value × List (ByteArray × Value)) [(0, _), (6, _), (53, _)] (fun q => [(2, .slice q.2.1 ((fun o => ownTo s p t o) q.1).length q.2.2.1), (54, ((fun o => .int .i64 o) q.1))]) (fun q => [.row w0.heap.size 35 (Rp.sz rClause) (.slice q.2.1 ((fun o => ownTo s p t o) q.1).length q.2.2.1) ((fun o => ownTo s p t o) q.1).length (flatCells q.2.2.2.1), .blk mb (mapK Value.string q.2.2.2.2)]) (fun So q => q.1 ≤ s.owners.length ∧ allV rClause So q.2.2.2.1 ((fun o => ownTo s p t o) q.1) ∧ Cache s So q.2.2.2.2) (fun q => s.owners.length - q.1) (0, rat, rct, vst, lmt) (by exact sba) (by exact sba) (by first | rfl | simp) (⟨Nat.zero_le _, hvt.mono (by exact lea), hcot.mono (by exact lea)⟩) ?_; rintro So ⟨o, rao, rco, vso, lmo⟩ hlo ⟨ho, hvo, hcoo⟩; (try dsimp only at ho hvo hcoo); dsimp only [List.cons_append, List.nil_append]
        have hYl := ownTo_len s p hok t o (by omega) (by omega)
        repeat (first | (refine Walk ?_; intros) | refine JC.block ?_)
        refine JC.cond rfl (fun hc2 => ?_) (fun hc2 => ?_)
        · have ho' := dlt hc2
          have hst := ownTo_step s p t o ht'
          have hp1 := ownC1_len s p ((t : Int) + 7) o
          repeat (first | (refine Walk ?_; intros) | refine JC.block ?_)
          refine JO.pure rfl rfl rfl (JPure.mkIface rfl rfl ?_)
          repeat (first | (refine Walk ?_; intros) | refine JC.block ?_)
          refine JO.eff rfl rfl rfl (JEff.callC (kv := Value.string) rfl (List.Perm.swap _ _ _) (by intro l hl; cases hl) (p8_ofOwner hok ho' (by omega) (by exact pta) (hcoo.mono (by exact lea))) rfl ?_); intro w S2 l2 hl2 hw hco2
          obtain ⟨wa, wc, rfl, _⟩ := V_slice.1 hw
          repeat (first | (refine Walk ?_; intros) | refine JC.block ?_)
          refine JO.eff rfl rfl rfl (JEff.appendS (rep := rClause) rfl rfl hw rfl rfl (List.Perm.swap _ _ _) (by unfold big; omega) (by unfold big; omega) (by intro l hl; cases hl) rfl ?_); intro a2 c2 us1 hus1
          repeat (first | (refine Walk ?_; intros) | refine JC.block ?_)
          exact JX.roundF (o + 1, a2, c2, vso ++ us1, l2) (by exact lea) ⟨by omega, by (try dsimp only); rw [hst]; exact allV.append hus1 (hvo.mono (by exact lea)), hco2.mono (by exact lea)⟩ (by (try dsimp only); omega) (by (try dsimp only); rw [hst]; simp [flat_append]) (by (try dsimp only); rw [hst, List.length_append]; exact sba) (by exact sba)
        · have ho' := dnlt hc2
          obtain rfl : o = s.owners.length := by omega
          rw [ownTo_next] at hvo
          rw [ownTo_next]
          repeat (first | (refine Walk ?_; intros) | refine JC.block ?_)
          exact JX.roundF (t + 1, rao, rco, vso, lmo) (by exact lea) ⟨by omega, hvo.mono (by exact lea), hcoo.mono (by exact lea)⟩ (by (try dsimp only); omega) rfl (by exact sba) (by exact sba)
      · obtain rfl : t = 2 := by have := of_decide_eq_false hc; omega
        have hfin : ownTo s p 2 0 = allC s p := by simp [ownTo, allC]
        rw [hfin] at hvt hXl
        rw [hfin]
        repeat (first | (refine Walk ?_; intros) | refine JC.block ?_)
        refine JX.freezeRow (rep := rClause) (bt := 32) hvt rfl (by unfold big; omega) (by unfold big; omega) (fun S9 hl9 hV9 => ?_)
        refine JX.ret1 Tryz.results49 (ResV.tmp rfl) (List.Sublist.refl _) ?_
        exact ⟨hV9, _, rfl, hcot.mono (by exact lea)⟩
end Go.Dr
namespace Go.Dr
open Go.Proofs
set_option maxRecDepth 20000
set_option maxHeartbeats 2000000
set_option linter.unusedSimpArgs false
set_option linter.unusedVariables false
theorem slice_bytes {α : Type} {bt : Nat} {rep : Rp α} {S : SHeap} {v : Value} {xs : List α} (h : (rSlice bt rep).V S v xs) : xs.length * bt ≤ big := by
  obtain ⟨_, _, _, _, h, _⟩ := V_slice.1 h; exact h
theorem slice_at {α : Type} {bt : Nat} {rep : Rp α} {S : SHeap} {v : Value} {xs : List α} (h : (rSlice bt rep).V S v xs) : ∀ x ∈ xs, ∃ q, PtrTo S q rep x := by
  obtain ⟨a, c, rfl, _, _, _, hh⟩ := V_slice.1 h
  intro x hx
  obtain ⟨i, hi⟩ := List.getElem?_of_mem hx
  obtain ⟨ad, _, hp⟩ := hh i x hi
  exact ⟨_, hp⟩
end Go.Dr
