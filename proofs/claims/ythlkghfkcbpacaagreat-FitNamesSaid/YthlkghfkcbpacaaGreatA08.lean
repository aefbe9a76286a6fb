/- Part 9 of the rules and of the walks that the proofs of this seat rest on; no condition. -/
import Derived.Test.YthlkghfkcbpacaaGreatA07
import Derived.Shelf.SlSortCmp.NoneTotal
import Derived.Shelf.Sort.Plain
import Derived.Lib.QuietBelow
import Derived.Shelf.SlicesE.DeleteFunc
import Derived.Shelf.SlicesE.Compact
import Derived.Shelf.SlGeneric
import Derived.Ground.SlgfProg
import Derived.Ground.SlgnProg
import Derived.Shelf.Slices.In.SortNone
import Derived.Ground.SlsfProg
set_option linter.unusedVariables false
set_option linter.unusedSimpArgs false
namespace Go.Dr
theorem checkP_set {s : Snap} {p : List Int} {i : Nat} {v : Int} (h : checkP s p = 0) (hv : oddP s v = false) : checkP s (p.set i v) = 0 := by
  obtain ⟨h1, h2, h3⟩ := checkP_ok h
  unfold checkP
  have e1 : z0 (checkS s) = true := by simp [z0, h1]
  have e2 : (p.set i v).any (oddP s) = false := by
    rw [List.any_eq_false]
    intro x hx
    rcases List.mem_or_eq_of_mem_set hx with hx | rfl
    · rw [h3 x hx]; simp
    · rw [hv]; simp
  rw [e1, e2, List.length_set, h2]
  simp
theorem odd_none (s : Snap) : oddP s (-1) = false := by simp [oddP]; omega
theorem apply_set {s : Snap} {p : List Int} {x : Step} (h : (applyP s p x).2 = 0) : ∃ v, (applyP s p x).1 = p.set x.pod.toNat v ∧ x.pod.toNat < p.length ∧ 0 ≤ x.pod ∧ oddP s v = false ∧ checkP s p = 0 ∧
    ((x.kind = 1 ∧ v = -1 ∧ x.node = 0 ∧ at0 p x.pod.toNat ≠ -1) ∨ (x.kind = 2 ∧ v = x.node ∧ 0 ≤ x.node ∧ x.node < s.nodes.length ∧ lostAt s x.node = false ∧ at0 p x.pod.toNat = -1)) := by
  unfold applyP at h ⊢
  split at h
  · rename_i h1; simp [z0] at h1; exact absurd h h1
  rename_i h1
  rw [if_neg h1]
  have hok : checkP s p = 0 := by simpa [z0] using h1
  split at h
  · cases h
  rename_i h2
  rw [if_neg h2]
  split at h
  · cases h
  rename_i h3
  rw [if_neg h3]
  split at h
  · cases h
  rename_i h4
  rw [if_neg h4]
  simp only [Bool.and_eq_true, Bool.not_eq_true', decide_eq_false_iff_not, not_and, Classical.not_not] at h2
  simp only [Bool.or_eq_true, decide_eq_true_eq, Bool.and_eq_true, Bool.not_eq_true', decide_eq_false_iff_not, not_or, not_and, Classical.not_not] at h3
  obtain ⟨⟨⟨⟨a1, a2⟩, a3⟩, a4⟩, a5⟩ := h3
  have hp : x.pod.toNat < p.length := by omega
  by_cases hk : x.kind = 2
  · have hk1 : ¬ x.kind = 1 := by omega
    simp only [hk, Bool.or_eq_true, Bool.and_eq_true, not_or, not_and, Bool.not_eq_true, decide_true, true_implies] at h4
    obtain ⟨b1, b2⟩ := h4
    have b1 : at0 p x.pod.toNat = -1 := by
      by_cases e : at0 p x.pod.toNat = -1
      · exact e
      · rw [decide_eq_false e] at b1; simp at b1
    refine ⟨x.node, by rw [if_pos hk], hp, by omega, ?_, hok, .inr ⟨hk, rfl, by omega, by have := a4 hk; omega, b2, b1⟩⟩
    unfold oddP
    have := a4 hk
    simp [b2]; omega
  · have hk1 : x.kind = 1 := by
      by_cases e : x.kind = 1
      · exact e
      · exact absurd (h2 e) hk
    have b1 : ¬ at0 p x.pod.toNat = -1 := by
      intro e
      apply h4
      rw [decide_eq_true e, decide_eq_true hk1]; simp
    exact ⟨-1, by rw [if_neg hk], hp, by omega, odd_none s, hok, .inl ⟨hk1, rfl, a5 hk1, b1⟩⟩
theorem apply_check {s : Snap} {p : List Int} {x : Step} (h : (applyP s p x).2 = 0) : checkP s (applyP s p x).1 = 0 ∧ (applyP s p x).1.length = p.length ∧ 0 < p.length := by
  obtain ⟨v, h1, h2, _, h3, h4, _⟩ := apply_set h
  rw [h1]
  exact ⟨checkP_set h4 h3, by simp, by omega⟩
theorem worse_ok {s : Snap} {p q : List Int} (h1 : checkP s p = 0) (h2 : checkP s q = 0) : worseV s p q = ((allL s q).filter (worseF (allL s p)), 0) := by
  unfold worseV; rw [if_neg (by simpa using h1), if_neg (by simpa using h2)]
end Go.Dr
namespace Go.Dr
def left1 (c u : Int) : Int := if 0 < c then (1000 * max 0 (c - u)).tdiv c else 0
def leftTo (cap used : List Int) : Nat → Int
  | 0 => 0
  | k + 1 => leftTo cap used k + left1 (at0 cap k) (at0 used k)
def leftV (s : Snap) (p : List Int) (node : Int) : Int := if checkP s p = 0 ∧ 0 ≤ node ∧ node < s.nodes.length then leftTo (capOf s node.toNat) (usedV s p node) 5 else 0
theorem left1_rng {c u : Int} (hu : 0 ≤ u) : 0 ≤ left1 c u ∧ left1 c u ≤ 1000 := by
  unfold left1
  split
  · rename_i hc
    have hm0 : 0 ≤ 1000 * max 0 (c - u) := by omega
    rw [Int.tdiv_eq_ediv_of_nonneg hm0]
    refine ⟨Int.ediv_nonneg hm0 (by omega), ?_⟩
    have h1 : 1000 * max 0 (c - u) ≤ 1000 * c := by omega
    have h2 := Int.ediv_le_ediv hc h1
    rwa [Int.mul_ediv_cancel _ (by omega)] at h2
  · omega
theorem leftTo_rng {cap used : List Int} (hu : ∀ k, 0 ≤ at0 used k) : ∀ k : Nat, 0 ≤ leftTo cap used k ∧ leftTo cap used k ≤ 1000 * k
  | 0 => by simp [leftTo]
  | k + 1 => by
    have ih := leftTo_rng (cap := cap) hu k
    have := left1_rng (c := at0 cap k) (hu k)
    simp only [leftTo]; omega
def leftAt (s : Snap) (p : List Int) (pod node : Int) : Int := leftV s (p.set pod.toNat node) node
end Go.Dr
namespace Go.Dr
open Go.Sort Go.RowKit Go.Shelf Go.Proofs
set_option linter.unusedSimpArgs false
set_option linter.unusedVariables false
theorem putCells_ints {α : Type} [Inhabited α] (val : α → Int) (d : Array α) (xs : List Int) (tl : List Value) (h : xs.length = d.size) : putCells (fun x => Value.int .i64 (val x)) 0 d (intsT xs tl) = intsT (d.toList.map val) tl := by
  apply Array.ext_getElem?
  intro k
  unfold putCells intsT
  rw [Array.getElem?_mapIdx]
  simp only [List.getElem?_toArray, Nat.zero_le, true_and, Nat.zero_add, Nat.sub_zero]
  by_cases hk : k < d.size
  · rw [List.getElem?_append_left (by simp; omega), List.getElem?_append_left (by simp; omega)]
    simp [hk, List.getElem?_map, getElem!_pos d k hk]
    exact ⟨_, List.getElem?_eq_getElem (by omega)⟩
  · rw [List.getElem?_append_right (by simp; omega), List.getElem?_append_right (by simp; omega)]
    simp [hk, h]
theorem mapBlock_at {w : World} {b : Nat} {cs : Array Value} {E : TypeId} {f : Array Value → Array Value} (hb : w.heap[b]? = some (.cells cs E (0, 0))) : (mapBlock w b f).heap[b]? = some (.cells (f cs) E (0, 0)) := by
  unfold mapBlock
  rw [Array.getElem?_modify, if_pos rfl, hb]; rfl
theorem mapBlock_other {w : World} {b k : Nat} {f : Array Value → Array Value} (h : k ≠ b) : (mapBlock w b f).heap[k]? = w.heap[k]? := by
  unfold mapBlock
  rw [Array.getElem?_modify, if_neg (fun e => h e.symm)]
theorem Wd.sortW {α : Type} [Inhabited α] {S : SHeap} {w : World} {b : Nat} {cs : Array Value} {E : TypeId} (hg : Agree S w) (hSb : S b = none) (hb : w.heap[b]? = some (.cells cs E (0, 0))) (enc : α → Value) (d : Array α) (m : Nat) (os : Array Obj) :
    Wd w [b] S S [.blk b (.cells (putCells enc 0 d cs) E (0, 0))] (sortWorld enc w b 0 m d os) := by
  have hlt := (Array.getElem?_eq_some_iff.1 hb).1
  have hsz : (mapBlock (Sort.ahead w m) b (putCells enc 0 d)).heap.size = w.heap.size := by unfold mapBlock; rw [Array.size_modify]; rfl
  have old : ∀ k, k < w.heap.size → (sortWorld enc w b 0 m d os).heap[k]? = (mapBlock (Sort.ahead w m) b (putCells enc 0 d)).heap[k]? := fun k hk => by
    show ((mapBlock (Sort.ahead w m) b (putCells enc 0 d)).heap ++ os)[k]? = _
    rw [Array.getElem?_append_left (by rw [hsz]; exact hk)]
  exact {
    os := rfl
    tape := rfl
    output := rfl
    size := by
      show w.heap.size ≤ ((mapBlock (Sort.ahead w m) b (putCells enc 0 d)).heap ++ os).size
      rw [Array.size_append, hsz]; omega
    drawn := Nat.le_add_right _ _
    keep := fun k hk hkb => by
      rw [old k hk, mapBlock_other (by simpa using hkb)]; rfl
    le := SHeap.le.refl _
    new := fun k h => .inl h
    agree := fun k o h => by
      have h1 := hg k o h
      have h2 : k ≠ b := fun e => by rw [e, hSb] at h; cases h
      rw [old k (Array.getElem?_eq_some_iff.1 h1).1, mapBlock_other h2]; exact h1
    ok := fun mm hm => by
      rw [List.mem_singleton] at hm; subst hm
      show (sortWorld enc w b 0 m d os).heap[b]? = _
      rw [old b hlt]; exact mapBlock_at (w := Sort.ahead w m) hb
    sep := List.pairwise_singleton _ _
    out := fun mm hm k hk => by
      rw [List.mem_singleton] at hm; subst hm
      simp only [MEnt.own, Option.some.injEq] at hk; subst hk
      exact ⟨hSb, .inr (by simp)⟩ }
theorem Wd.grown {w w' : World} {S S' : SHeap} (h : Wd w [] S S' [] w') : ∃ q os', w' = grow (w.drewN q) os' := by
  obtain ⟨p, hp⟩ := regrown_of_below (w := w) (w' := w') ⟨h.os, h.tape, h.output, h.size, fun k hk => h.keep k hk (by simp)⟩
  have hd := h.drawn
  have hpd : w'.drawn = p.d := by rw [hp]; rfl
  refine ⟨p.d - w.drawn, p.os, ?_⟩
  rw [hp]
  unfold redrawn World.drewN
  rw [show w.drawn + (p.d - w.drawn) = p.d by omega]
theorem frozen_not {w : World} {b j : Nat} {cs : Array Value} {E : TypeId} (hb : w.heap[b]? = some (.cells cs E (0, 0))) : w.frozen? ⟨b, j, none⟩ = false := by
  unfold World.frozen?
  simp [hb]
theorem holds_ints {α : Type} [Inhabited α] {w : World} {b : Nat} {E : TypeId} {val : α → Int} {d : List α} {tl : List Value} (hb : w.heap[b]? = some (.cells (intsT (d.map val) tl) E (0, 0)))   : Sort.Holds (fun x => Value.int .i64 (val x)) w b 0 d.toArray := fun j hj => by
  have hj' : j < d.length := by simpa using hj
  refine ⟨?_, frozen_not hb⟩
  simp only [World.cell?, hb, Nat.zero_add]
  unfold intsT
  simp [List.getElem?_append_left, hj', getElem!_pos]
theorem sortFunc_fn {P : Program} {ρ : Ren} (L : SlLaysF.n6 P ρ) {α : Type} [Inhabited α] (val : α → Int) (cf : α → α → Int) (hO : SWO (ltOf cf)) (hT : ∀ x y, ltOf cf x y = false → ltOf cf y x = false → x = y) (g : Nat) (cb : Array Value)
    (eg : ∀ args w, (callFunc g args).run P w = .ok (.enter g args) w) {S : SHeap} {b cap : Nat} {E : TypeId} {tl : List Value} (d : List α) (hn : d.length < 4611686018427387904)
    (hcmp : ∀ x y : α, FnV P g (#[.int .i64 (val x), .int .i64 (val y)] ++ cb) S (.int .i64 (cf x y))) :
    Fn P (ρ.f 6) #[.slice (some ⟨b, 0, none⟩) d.length cap, .func (.func g) #[] cb] S [.blk b (.cells (intsT (d.map val) tl) E (0, 0))]
      (fun v S' M' => v = .tuple #[] ∧ S' = S ∧ M' = [.blk b (.cells (intsT ((d.mergeSort fun x y => !(ltOf cf) y x).map val) tl) E (0, 0))]) := by
  intro w hg hok hsep hout
  have hb : w.heap[b]? = some (.cells (intsT (d.map val) tl) E (0, 0)) := hok (.blk b _) List.mem_cons_self
  have hSb := hout (.blk b _) List.mem_cons_self b rfl
  have hc : CmpLays1 P g cb (fun x => Value.int .i64 (val x)) cf b 0 d.toArray.size w := fun m os dk hs x y => by
    have hwd := Wd.sortW hg hSb hb (fun x => Value.int .i64 (val x)) dk m os
    refine (hcmp x y _ hwd.agree (by simp) List.Pairwise.nil (by simp)).mono ?_
    rintro e w' ⟨v, S', M', rfl, hw, rfl, rfl⟩
    exact ⟨rfl, hw.grown⟩
  have h := Any.slices_SortFunc_total L (fun x => Value.int .i64 (val x)) (fun _ => rfl) cf hO g cb b 0 cap d.toArray w eg hc (holds_ints hb) (Array.getElem?_eq_some_iff.1 hb).1 (by simpa using hn) hT
  rw [List.size_toArray] at h
  refine h.mono ?_
  rintro e w' ⟨rfl, n, os, rfl⟩
  have hwd := Wd.sortW hg hSb hb (fun x => Value.int .i64 (val x)) (d.mergeSort fun x y => !(ltOf cf) y x).toArray n os
  rw [putCells_ints val _ _ _ (by simp [List.length_mergeSort])] at hwd
  exact ⟨_, S, _, rfl, hwd, rfl, rfl, rfl⟩
theorem sortInt_fn {P : Program} {ρ : Ren} (L : Lays.n189 P ρ) {S : SHeap} {b cap : Nat} {E : TypeId} {tl : List Value} (xs : List Int) (hn : xs.length < 4611686018427387904) :
    Fn P (ρ.f 189) #[.slice (some ⟨b, 0, none⟩) xs.length cap] S [.blk b (.cells (intsT xs tl) E (0, 0))]
      (fun v S' M' => v = .tuple #[] ∧ S' = S ∧ M' = [.blk b (.cells (intsT (xs.mergeSort fun x y => decide (x ≤ y)) tl) E (0, 0))]) := by
  intro w hg hok hsep hout
  have hb : w.heap[b]? = some (.cells (intsT xs tl) E (0, 0)) := hok (.blk b _) List.mem_cons_self
  have hSb := hout (.blk b _) List.mem_cons_self b rfl
  have hH : Sort.Holds (Value.int .i64) w b 0 xs.toArray := holds_ints (val := id) (by simpa using hb)
  refine (Any.slices_Sort_int L b 0 cap xs w hH (Array.getElem?_eq_some_iff.1 hb).1 hn).mono ?_
  rintro e w' ⟨rfl, n, os, rfl⟩
  have hwd := Wd.sortW hg hSb hb (Value.int .i64) (xs.mergeSort fun x y => decide (x ≤ y)).toArray n os
  rw [show (Value.int .i64 : Int → Value) = (fun x => Value.int .i64 (id x)) from rfl, putCells_ints id _ _ _ (by simp [List.length_mergeSort])] at hwd
  rw [List.map_id] at hwd
  exact ⟨_, S, _, rfl, hwd, rfl, rfl, rfl⟩
end Go.Dr
namespace Go.Dr
open Go.Proofs
def cmpI (a b : Int) : Int := if a < b then -1 else if b < a then 1 else 0
def cfBy (key : Int → Int) (a b : Int) : Int := ([cmpI (key a) (key b), cmpI a b].find? (fun x => !decide (x = 0))).getD 0
def ltBy (key : Int → Int) (a b : Int) : Bool := decide (key a < key b) || (decide (key a = key b) && decide (a < b))
def leBy (key : Int → Int) (a b : Int) : Bool := !ltBy key b a
def sortBy (key : Int → Int) (l : List Int) : List Int := l.mergeSort (leBy key)
theorem cmpI_rng (a b : Int) : Rng (cmpI a b) := by unfold cmpI Rng; split <;> (try split) <;> omega
theorem cfBy_lt (key : Int → Int) (a b : Int) : decide (cfBy key a b < 0) = ltBy key a b := by
  unfold cfBy ltBy cmpI
  by_cases h1 : key a < key b
  · simp [h1]
  · by_cases h2 : key b < key a
    · have h3 : ¬ key a = key b := by omega
      simp [h1, h2, h3]
    · have h3 : key a = key b := by omega
      by_cases h4 : a < b
      · simp [h3, h4]
      · by_cases h5 : b < a <;> simp [h3, h4, h5]
theorem ltBy_irr (key : Int → Int) (a : Int) : ltBy key a a = false := by simp [ltBy]
theorem ltBy_trans {key : Int → Int} {a b c : Int} (h1 : ltBy key a b = true) (h2 : ltBy key b c = true) : ltBy key a c = true := by
  simp only [ltBy, Bool.or_eq_true, Bool.and_eq_true, decide_eq_true_eq] at *; omega
theorem ltBy_ntrans {key : Int → Int} {a b c : Int} (h1 : ltBy key a b = false) (h2 : ltBy key b c = false) : ltBy key a c = false := by
  simp only [ltBy, Bool.or_eq_false_iff, Bool.and_eq_false_iff, decide_eq_false_iff_not] at *; omega
theorem ltBy_total {key : Int → Int} {a b : Int} (h1 : ltBy key a b = false) (h2 : ltBy key b a = false) : a = b := by
  simp only [ltBy, Bool.or_eq_false_iff, Bool.and_eq_false_iff, decide_eq_false_iff_not] at *; omega
abbrev NumD (D : Int → Prop) := { x : Int // D x }
theorem swoBy (D : Int → Prop) (key : Int → Int) : Sort.SWO (ltOf (fun x y : NumD D => cfBy key x.1 y.1)) where
  irrefl x := by unfold ltOf; rw [cfBy_lt, ltBy_irr]
  trans x y z h1 h2 := by unfold ltOf at *; rw [cfBy_lt] at *; exact ltBy_trans h1 h2
  ntrans x y z h1 h2 := by unfold ltOf at *; rw [cfBy_lt] at *; exact ltBy_ntrans h1 h2
theorem totBy (D : Int → Prop) (key : Int → Int) : ∀ x y : NumD D, ltOf (fun x y : NumD D => cfBy key x.1 y.1) x y = false → ltOf (fun x y : NumD D => cfBy key x.1 y.1) y x = false → x = y := fun x y h1 h2 => by
  unfold ltOf at h1 h2
  rw [cfBy_lt] at h1 h2
  exact Subtype.ext (ltBy_total h1 h2)
theorem sortBy_map {D : Int → Prop} {key : Int → Int} (d : List (NumD D)) : (d.mergeSort fun x y => !(ltOf (fun x y : NumD D => cfBy key x.1 y.1)) y x).map Subtype.val = sortBy key (d.map Subtype.val) := by
  unfold sortBy
  refine List.map_mergeSort fun a _ b _ => ?_
  unfold ltOf leBy
  rw [cfBy_lt]
theorem sortBy_eq {key : Int → Int} {l m : List Int} (hp : m.Perm l) (hs : m.Pairwise (fun a b => ltBy key b a = false)) : m = sortBy key l := by
  refine List.Perm.eq_of_pairwise (le := fun a b => ltBy key b a = false) (fun a b _ _ h1 h2 => ltBy_total h2 h1) hs ?_ (hp.trans (List.mergeSort_perm l _).symm)
  have h := List.pairwise_mergeSort (le := leBy key) (fun a b c h1 h2 => by
    simp only [leBy, Bool.not_eq_true'] at *; exact ltBy_ntrans h2 h1) (fun a b => by
    simp only [leBy, Bool.or_eq_true, Bool.not_eq_true']
    by_cases h : ltBy key b a = true
    · right
      simp only [ltBy, Bool.or_eq_true, Bool.and_eq_true, decide_eq_true_eq, Bool.or_eq_false_iff, Bool.and_eq_false_iff, decide_eq_false_iff_not] at *; omega
    · left; simpa using h) l
  exact h.imp fun h1 => by simpa [leBy] using h1
end Go.Dr
namespace Go.Dr
open Go.Proofs
set_option maxRecDepth 20000
set_option maxHeartbeats 2000000
set_option linter.unusedSimpArgs false
set_option linter.unusedVariables false
theorem allC_rng {s : Snap} {p : List Int} (hok : checkP s p = 0) : (allC s p).length ≤ 400 ∧ ∀ c ∈ allC s p, 0 ≤ c.by_ ∧ c.by_ ≤ Qty := by
  obtain ⟨hs, hlen, hodd⟩ := checkP_ok hok
  have hsh := (checkS_ok hs).1
  obtain ⟨hn8, hp24, ho8⟩ := shaped_small hsh
  obtain ⟨hwl, htl⟩ := shaped_lists hsh
  have hof := of8_rng (s := s) (p := p) (by omega) hwl htl
  constructor
  · unfold allC
    have h1 : (capsC s p).length ≤ 40 := by unfold capsC; rw [capTo_len]; omega
    have h2 := kindsTo_len s p 5
    have h3 := spreadTo_len s p s.owners.length
    have h4 := minTo_len s p s.owners.length
    simp only [List.length_append]
    omega
  · intro c hc
    unfold allC at hc
    simp only [List.mem_append] at hc
    rcases hc with ((hc | hc) | hc) | hc
    · unfold capsC capTo at hc
      simp only [List.range_zero, List.map_nil, List.append_nil, List.mem_flatMap, List.mem_range, List.mem_map] at hc
      obtain ⟨n, hn, k, hk, rfl⟩ := hc
      obtain ⟨hul, hur⟩ := used_fine hs hlen (n : Int)
      have hu : 0 ≤ at0 (usedV s p n) k ∧ at0 (usedV s p n) k ≤ Qty := by
        have : (usedV s p n)[k]? = some ((usedV s p n)[k]'(by omega)) := List.getElem?_eq_getElem (by omega)
        rw [at0_some this]
        exact hur _ (List.getElem_mem _)
      have hcp : 0 ≤ at0 (capOf s n) k := by
        unfold at0
        rw [List.getD_eq_getElem?_getD]
        cases h : (capOf s n)[k]? with
        | none => simp
        | some y =>
          unfold capOf at h
          obtain ⟨x, hx⟩ : ∃ x, s.nodes[n]? = some x := ⟨_, List.getElem?_eq_getElem hn⟩
          rw [hx] at h
          exact (shaped_cap hsh x (List.mem_of_getElem? hx) y (List.mem_of_getElem? h)).1
      simp only [capN]
      unfold Qty at *
      omega
    · unfold kindsTo podsTo at hc
      simp only [List.mem_flatMap, List.mem_range] at hc
      obtain ⟨t, _, i, _, hc⟩ := hc
      unfold podC1 at hc
      split at hc
      · simp only [List.mem_singleton] at hc
        subst hc
        have := hof ((t : Int) + 2) i
        simp only [Qty]; omega
      · cases hc
    · unfold spreadTo at hc
      simp only [List.mem_flatMap, List.mem_range] at hc
      obtain ⟨o, ho, hc⟩ := hc
      unfold spreadC1 at hc
      split at hc
      · cases hc
      · simp only [List.mem_singleton] at hc
        subst hc
        obtain ⟨ow, how⟩ : ∃ ow, s.owners[o]? = some ow := ⟨_, List.getElem?_eq_getElem ho⟩
        have hsr := shaped_owner hsh ow (List.mem_of_getElem? how)
        have := skewV_rng (o := o) (p := p) (s := s) (by omega) hlen (by omega) (by simp [skewOf, how]; omega)
        simp only [Qty]; omega
    · unfold minTo at hc
      simp only [List.mem_map, List.mem_range] at hc
      obtain ⟨o, ho, rfl⟩ := hc
      obtain ⟨ow, how⟩ : ∃ ow, s.owners[o]? = some ow := ⟨_, List.getElem?_eq_getElem ho⟩
      have hsr := shaped_owner hsh ow (List.mem_of_getElem? how)
      have hplr := placed_rng (s := s) (p := p) (o := o) hlen
      have hmo : minOf s o = ow.min := by simp [minOf, how]
      simp only [minC1, hmo, Qty]; omega
theorem allL_rng (s : Snap) (p : List Int) : (allL s p).length ≤ 400 ∧ ∀ c ∈ allL s p, 0 ≤ c.by_ ∧ c.by_ ≤ Qty := by
  unfold allL
  split
  · rename_i h; exact allC_rng h
  · simp
theorem s143_L9r {P K : Prop} (k : K) (h : Goal K → P := by
  intro zk
  (first | refine Walk ?_ | refine JC.block ?_ | refine JC.drawN 4 rfl [0, 1, 2, 3, 4, 5, 6, 7, 8, 9, 10, 11, 12, 13, 14, 15, 16, 17, 18, 19, 20, 21, 22, 23, 24, 25, 26, 27] [0, 1, 2, 3, 4, 5, 6, 7, 8, 9, 10, 11, 12, 13, 14, 15, 16, 17, 18, 19, 20, 21, 22, 23, 24, 25, 26, 27] Tryz_mixed (by decide +kernel) ?_ | (refine WBox ?_))
  (repeat (first | revert zqg | revert zqf | revert zqe | revert zqd | revert zqc | revert zqb | revert zqa))
  exact zk.k) : P := h ⟨k⟩
theorem r9_find {S : SHeap} {u v : Value} {L : List Clause} {c : Clause} (hu : (rSlice 32 rClause).V S u L) (hv : rClause.V S v c) : FnV Tryz.prog 143 #[u, v] S (.int .i64 (findC L c)) := by
  obtain ⟨a0, c0, rfl, _, _, hb, _⟩ := V_slice.1 hu
  unfold big at hb
  (refine Fn.enter (args := [.slice a0 L.length c0, v]) Tryz.func143 rfl Tryz.ntmps143 rfl ?_; intro w0)
  repeat (refine s143_L9r ?_; intros)
  unfold findC
  refine JC.loopF0 [(0, _), (3, _)] (fun (k : Nat) => [(5, .int .i64 k)]) (fun Sk k => k ≤ L.length ∧ ((L.drop k).find? (isC c.kind c.a c.b) = L.find? (isC c.kind c.a c.b))) (fun k => L.length - k) 0 (by exact sba) (by exact sba) ⟨Nat.zero_le _, rfl⟩ ?_; intro Sk k hlk hik; obtain ⟨hk, hik⟩ := hik; (try dsimp only at hk hik); dsimp only [List.cons_append, List.nil_append]
  repeat (refine s143_L9r ?_; intros)
  refine JC.cond rfl (fun hc => ?_) (fun hc => ?_)
  · have hk' := dlt hc
    obtain ⟨x, hx, hd⟩ := drop_at hk'
    rw [hd, List.find?_cons] at hik
    repeat' (first | (refine s143_L9r ?_; intros) | (refine JO.guard rfl rfl rfl rfl ?_ ?_ <;> intro _) | (refine JC.cond rfl ?_ ?_ <;> intro _))
    all_goals first
      | ((refine JX.ret1 Tryz.results143 (ResV.tmp rfl) (List.nil_sublist _) ?_); have hx : isC c.kind c.a c.b x = true := (by simp [isC, *]); rw [hx] at hik; exact ⟨rfl, by rw [← hik]⟩)
      | (exfalso; simp_all; done)
      | (have hx : isC c.kind c.a c.b x = false := (by simp_all [isC]); rw [hx] at hik; exact JX.roundF (k + 1) (by exact lea) ⟨by omega, hik⟩ (by (try dsimp only); omega) rfl (by exact sba) (by exact sba))
  · have hk' := dnlt hc
    rw [List.drop_eq_nil_of_le hk'] at hik
    repeat (refine s143_L9r ?_; intros)
    (refine JX.ret1 Tryz.results143 (ResV.tmp rfl) (List.nil_sublist _) ?_)
    exact ⟨rfl, by rw [← hik]; rfl⟩
theorem s102_L9r {P K : Prop} (k : K) (h : Goal K → P := by
  intro zk
  (first | refine Walk ?_ | refine JC.block ?_ | refine JC.drawN 11 rfl [0, 1, 2, 3, 4, 5, 6, 7, 8, 9, 10, 11] [5, 6, 7, 8, 9, 11] Tryz_mixed (by decide +kernel) ?_ | (refine JO.eff rfl rfl rfl (JEff.callLE rfl (r8_All (by exact vta) (by exact vta)) rfl ?_); intro zqa zqb zqc zqd zqe zqf) | (refine JO.eff rfl rfl rfl (JEff.callV rfl (r9_find (by exact vta) (by exact vta)) rfl ?_); intro zqa zqb) | (refine WBox ?_))
  (repeat (first | revert zqg | revert zqf | revert zqe | revert zqd | revert zqc | revert zqb | revert zqa))
  exact zk.k) : P := h ⟨k⟩
theorem r9_Worse {S : SHeap} {u v v2 : Value} {s : Snap} {p q : List Int} (hu : rSnap.V S u s) (hv : (rSlice 8 rI64).V S v p) (hv2 : (rSlice 8 rI64).V S v2 q) : FnLE Tryz.prog 102 #[u, v, v2] S 32 rClause (worseV s p q).1 (.int .i64 (worseV s p q).2) := by
  (refine Fn.enter (args := [u, v, v2]) Tryz.func102 rfl Tryz.ntmps102 rfl ?_; intro w0)
  repeat (refine s102_L9r ?_; intros)
  refine JC.cond rfl (fun h1 => ?_) (fun h1 => ?_)
  · have h1 : ¬ checkP s p = 0 := by simpa using h1
    repeat (refine s102_L9r ?_; intros)
    (refine JX.ret2 Tryz.results102 (ResV.tmp rfl) (ResV.tmp rfl) (List.nil_sublist _) ?_)
    unfold worseV
    rw [if_pos h1]
    exact ⟨rfl, _, rfl, V_nil⟩
  have h1 : ¬ ¬ checkP s p = 0 := by simpa using h1
  repeat (refine s102_L9r ?_; intros)
  refine JC.cond rfl (fun h2 => ?_) (fun h2 => ?_)
  · have h2 : ¬ checkP s q = 0 := by simpa using h2
    repeat (refine s102_L9r ?_; intros)
    (refine JX.ret2 Tryz.results102 (ResV.tmp rfl) (ResV.tmp rfl) (List.nil_sublist _) ?_)
    unfold worseV
    rw [if_neg h1, if_pos h2]
    exact ⟨rfl, _, rfl, V_nil⟩
  have h2 : ¬ ¬ checkP s q = 0 := by simpa using h2
  unfold worseV
  rw [if_neg h1, if_neg h2]
  generalize allL s p = LA at *
  generalize hL : allL s q = L at *
  have hb32 := slice_bytes (by assumption : (rSlice 32 rClause).V _ _ L)
  unfold big at hb32
  repeat (refine s102_L9r ?_; intros)
  (first | refine JC.newRow 35 (Rp.sz rClause) ?_ | refine JO.newRow 35 (Rp.sz rClause) ?_ | refine JX.newRow 35 (Rp.sz rClause) ?_)
  refine JC.loopF (σ := Nat × Option Addr × Nat × List Value) [(8, _), (10, _)] (fun q => [(12, .slice q.2.1 ((fun k => (L.take k).filter (worseF LA)) q.1).length q.2.2.1), (13, ((fun k => .int .i64 k) q.1))]) (fun q => [.row w0.heap.size 35 (Rp.sz rClause) (.slice q.2.1 ((fun k => (L.take k).filter (worseF LA)) q.1).length q.2.2.1) ((fun k => (L.take k).filter (worseF LA)) q.1).length (flatCells q.2.2.2)]) (fun Sk q => q.1 ≤ L.length ∧ allV rClause Sk q.2.2.2 ((fun k => (L.take k).filter (worseF LA)) q.1) ∧ ((fun k => True) q.1)) (fun q => L.length - q.1) (0, none, 0, []) (by exact sba) (by exact sba) (by first | rfl | simp) (⟨Nat.zero_le _, trivial, trivial⟩) ?_; rintro Sk ⟨k, rak, rck, vsk⟩ hlk ⟨hk, hvk, hik⟩; (try dsimp only at hk hvk hik); dsimp only [List.cons_append, List.nil_append]
  have hfl := filter_len L (worseF LA) k
  repeat (refine s102_L9r ?_; intros)
  refine JC.cond rfl (fun hc => ?_) (fun hc => ?_)
  · have hk' := dlt hc
    obtain ⟨x, hx, _⟩ := drop_at hk'
    have hst := filter_step (f := worseF LA) hx
    repeat (refine s102_L9r ?_; intros)
    refine JC.cond rfl (fun hf => ?_) (fun hf => ?_)
    · rw [show worseF LA x = true from hf, if_pos rfl] at hst
      repeat (refine s102_L9r ?_; intros)
      (refine JO.eff rfl rfl rfl (JEff.build (rep := rClause) (ys := [x]) rfl rfl ⟨⟨((by exact vta)), nna⟩, trivial⟩ rfl rfl rfl rfl ?_); intro bb hbb hvv); (repeat (first | (refine Walk ?_; intros) | refine JC.block ?_)); (refine JO.eff rfl rfl rfl (JEff.appendL (rep := rClause) rfl rfl rfl rfl (List.Perm.swap _ _ _) (by exact hvv.flat) (by intro c hc; exact flat_one (fun v hv => (hvv.size v hv).2) c hc) (by first | omega | (unfold big; omega)) (by unfold big; omega) (by first | exact rowT_ok | (intro l hl; cases hl)) rfl ?_); intro a2 c2; clear hvv hbb)
      repeat (refine s102_L9r ?_; intros)
      exact JX.roundF (k + 1, a2, c2, vsk ++ [_]) (by exact lea) ⟨by omega, by (try dsimp only); rw [hst]; exact allV_add (by exact lea) hvk (by assumption) nna, trivial⟩ (by (try dsimp only); omega) (by (try dsimp only); rw [hst]; (simp [flat_append] <;> omega)) (by (try dsimp only); rw [hst]; simp only [List.length_append, List.length_cons, List.length_nil]; exact sba) (by exact sba)
    · rw [show worseF LA x = false from hf, if_neg (by simp), List.append_nil] at hst
      repeat (refine s102_L9r ?_; intros)
      exact JX.roundF (k + 1, rak, rck, vsk) (by exact lea) ⟨by omega, by (try dsimp only); rw [hst]; exact hvk.mono (by exact lea), (trivial)⟩ (by (try dsimp only); omega) (by (try dsimp only); rw [hst]) (by (try dsimp only); rw [hst]; exact sba) (by exact sba)
  · have hk' := dnlt hc
    rw [List.take_of_length_le hk'] at hvk hfl ⊢
    repeat (refine s102_L9r ?_; intros)
    refine JX.freezeRow (rep := rClause) (bt := 32) hvk rfl (by unfold big; omega) (by unfold big; omega) (fun S9 hl9 hV9 => ?_)
    (refine JX.ret2 Tryz.results102 (ResV.tmp rfl) (ResV.tmp rfl) (List.nil_sublist _) ?_)
    exact ⟨rfl, _, rfl, hV9⟩
end Go.Dr
namespace Go.Dr
end Go.Dr
namespace Go.Dr
section
variable {s : Snap} {p : List Int} (hp : ∀ x ∈ p, x = -1)
include hp
end
end Go.Dr
namespace Go.Dr
end Go.Dr
namespace Go.Dr
end Go.Dr
namespace Go.Dr
end Go.Dr
namespace Go.Dr
end Go.Dr
namespace Go.Dr
theorem step_ok {s : Snap} {p q : List Int} {x : Step} {c : Clause} (h : stepV s p x = (q, c, 0)) : (applyP s p x).2 = 0 ∧ q = (applyP s p x).1 ∧ (allL s q).filter (worseF (allL s p)) = [] ∧ c = noC ∧ ¬ (x.kind = 2 ∧ cordonAt s x.node = true) := by
  unfold stepV at h
  split at h
  · rename_i h1; exact absurd (congrArg (fun z => z.2.2) h) h1
  · rename_i h1
    have h1 : (applyP s p x).2 = 0 := Classical.not_not.1 h1
    split at h
    · cases h
    · rename_i h2
      obtain ⟨hq, _, _⟩ := apply_check h1
      obtain ⟨_, _, _, _, _, hok, _⟩ := apply_set h1
      rw [worse_ok hok hq] at h
      split at h
      · cases h
      · rename_i h3
        cases h
        exact ⟨h1, rfl, h3, rfl, h2⟩
end Go.Dr
namespace Go.Dr
def rankV (s : Snap) (p : List Int) (pod : Int) : List Int := sortBy (leftAt s p pod) (waysV s p pod)
theorem ways_mem {s : Snap} {p : List Int} {pod n : Int} (h : n ∈ waysV s p pod) : 0 ≤ n ∧ n < s.nodes.length ∧ 0 ≤ pod ∧ pod < p.length ∧ stepV s p ⟨2, pod, n⟩ = (p.set pod.toNat n, noC, 0) := by
  unfold waysV at h
  obtain ⟨m, hm1, rfl⟩ := List.mem_map.1 h
  obtain ⟨hm2, hm3⟩ := List.mem_filter.1 hm1
  have hm3 : (stepV s p ⟨2, pod, m⟩).2.2 = 0 := of_decide_eq_true hm3
  obtain ⟨q, c, e, hs⟩ : ∃ q c e, stepV s p ⟨2, pod, m⟩ = (q, c, e) := ⟨_, _, _, rfl⟩
  rw [hs] at hm3
  obtain rfl : e = 0 := hm3
  obtain ⟨h1, h2, _, rfl, _⟩ := step_ok hs
  obtain ⟨v, e1, hi, hi0, _, _, hst⟩ := apply_set h1
  have := List.mem_range.1 hm2
  dsimp only at e1 hi hi0 hst
  rcases hst with ⟨hk, _⟩ | ⟨_, hv, _⟩
  · simp at hk
  · refine ⟨by omega, by omega, hi0, by omega, ?_⟩
    rw [hs, h2, e1, hv]
theorem rank_perm (s : Snap) (p : List Int) (pod : Int) : (rankV s p pod).Perm (waysV s p pod) := List.mergeSort_perm _ _
theorem rank_len (s : Snap) (p : List Int) (pod : Int) : (rankV s p pod).length = (waysV s p pod).length := (rank_perm s p pod).length_eq
theorem ways_len (s : Snap) (p : List Int) (pod : Int) : (waysV s p pod).length ≤ s.nodes.length := by
  unfold waysV
  rw [List.length_map]
  have := List.length_filter_le (fun (n : Nat) => mayV s p ⟨2, pod, (n : Int)⟩) (List.range s.nodes.length)
  simpa using this
def bestV (s : Snap) (p : List Int) (pod : Int) : Int × Bool := match rankV s p pod with | [] => (0, false) | n :: _ => (n, true)
theorem ways_rise (s : Snap) (p : List Int) (pod : Int) : (waysV s p pod).Pairwise (fun a b => a < b) := by
  unfold waysV
  rw [List.pairwise_map]
  refine List.Pairwise.filter _ ?_
  exact List.pairwise_lt_range.imp fun h => by omega
theorem ins_sorted {key : Int → Int} {out : List Int} {x : Int} {m : Nat} (hs : out.Pairwise (fun a b => ltBy key b a = false)) (hx : ∀ y ∈ out, y < x) (hlow : ∀ j y, j < m → out[j]? = some y → key y ≤ key x) (hhigh : ∀ y, out[m]? = some y → key x < key y) :
    (out.take m ++ [x] ++ out.drop m).Pairwise (fun a b => ltBy key b a = false) := by
  have hhi : ∀ y ∈ out.drop m, key x < key y := by
    intro y hy
    cases hd : out.drop m with
    | nil => rw [hd] at hy; cases hy
    | cons z r =>
      have hz : out[m]? = some z := by rw [← List.head?_drop, hd]; rfl
      have h1 := hhigh z hz
      rw [hd] at hy
      rcases List.mem_cons.1 hy with rfl | hy
      · exact h1
      · have h2 := (hs.sublist (List.drop_sublist m out))
        rw [hd] at h2
        have h3 := (List.pairwise_cons.1 h2).1 y hy
        simp only [ltBy, Bool.or_eq_false_iff, decide_eq_false_iff_not] at h3
        omega
  rw [List.append_assoc]
  refine List.pairwise_append.2 ⟨hs.sublist (List.take_sublist m out), List.pairwise_cons.2 ⟨fun y hy => ?_, hs.sublist (List.drop_sublist m out)⟩, fun a ha b hb => ?_⟩
  · have := hhi y hy
    simp only [ltBy, Bool.or_eq_false_iff, Bool.and_eq_false_iff, decide_eq_false_iff_not]
    omega
  · have ham := List.mem_of_mem_take ha
    obtain ⟨j, hj, hja⟩ := List.getElem_of_mem ha
    have hjm : j < m := by rw [List.length_take] at hj; omega
    have hja2 : out[j]? = some a := by
      rw [List.getElem_take] at hja
      rw [List.getElem?_eq_getElem (by rw [List.length_take] at hj; omega), hja]
    have h1 := hlow j a hjm hja2
    have h2 := hx a ham
    rcases List.mem_cons.1 hb with rfl | hb
    · simp only [ltBy, Bool.or_eq_false_iff, Bool.and_eq_false_iff, decide_eq_false_iff_not]
      omega
    · have := hhi b hb
      simp only [ltBy, Bool.or_eq_false_iff, Bool.and_eq_false_iff, decide_eq_false_iff_not]
      omega
theorem ins_perm {out : List Int} {x : Int} {m : Nat} {l : List Int} (h : out.Perm l) : (out.take m ++ [x] ++ out.drop m).Perm (l ++ [x]) := by
  have h1 : (out.take m ++ [x] ++ out.drop m).Perm (x :: (out.take m ++ out.drop m)) := by
    rw [List.append_assoc]
    exact List.perm_middle
  rw [List.take_append_drop] at h1
  exact h1.trans ((List.Perm.cons x h).trans (List.perm_append_singleton x l).symm)
end Go.Dr
namespace Go.Dr
open Go.Sort Go.RowKit Go.Shelf Go.Proofs Go.Lib
set_option linter.unusedSimpArgs false
set_option linter.unusedVariables false
theorem intsT_app (xs ys : List Int) (tl : List Value) : intsT (xs ++ ys) tl = intsT xs (ys.map (fun x => Value.int .i64 x) ++ tl) := by
  unfold intsT
  rw [List.map_append, List.append_assoc]
theorem putInts {S : SHeap} {w : World} {b : Nat} {E : TypeId} {xs ys : List Int} {tl : List Value} (hg : Agree S w) (hSb : S b = none) (hb : w.heap[b]? = some (.cells (intsT xs tl) E (0, 0))) (hl : xs.length = ys.length) (q : Nat) :
    Wd w [b] S S [.blk b (.cells (intsT ys tl) E (0, 0))] (putRow (Value.int .i64) (Sort.ahead w q) b 0 ys.toArray) := by
  have hwd := Wd.sortW hg hSb hb (Value.int .i64) ys.toArray q #[]
  rw [show (Value.int .i64 : Int → Value) = (fun x => Value.int .i64 (id x)) from rfl, putCells_ints id _ _ _ (by simpa using hl), List.map_id] at hwd
  unfold sortWorld at hwd
  rw [grow_empty] at hwd
  exact hwd
theorem delFunc_fn {P : Program} {ρ : Ren} (L : SlLaysH.n10 P ρ) (p : Int → Bool) (g : Nat) (lb : Array Value) (eg : ∀ args w, (callFunc g args).run P w = .ok (.enter g args) w) (v23 : ∀ w, (zeroValue (ρ.t 23)).run P w = .ok (.int .i64 0) w)
    {S : SHeap} {b cap : Nat} {E : TypeId} {tl : List Value} (xs : List Int) (hn : xs.length ≤ 1000000) (hc : xs.length ≤ cap) (hgive : ∀ W, Agree S W → ∀ x : Int, FnGives P g lb #[.int .i64 x] (.bool (p x)) W) :
    Fn P (ρ.f 10) #[.slice (some ⟨b, 0, none⟩) xs.length cap, .func (.func g) #[] lb] S [.blk b (.cells (intsT xs tl) E (0, 0))]
      (fun v S' M' => v = .slice (some ⟨b, 0, none⟩) (xs.filter fun x => !p x).length cap ∧ S' = S ∧ ∃ tl', M' = [.blk b (.cells (intsT (xs.filter fun x => !p x) tl') E (0, 0))]) := by
  intro w hg hok hsep hout
  have hb : w.heap[b]? = some (.cells (intsT xs tl) E (0, 0)) := hok (.blk b _) List.mem_cons_self
  have hSb := hout (.blk b _) List.mem_cons_self b rfl
  have hH : Sort.Holds (Value.int .i64) w b 0 xs.toArray := holds_ints (val := id) (by simpa using hb)
  have hpa : PredAt P g lb (Value.int .i64) p w := fun W x hbl => hgive W (fun k o h => by
    have h1 := hg k o h
    rw [hbl.block k (Array.getElem?_eq_some_iff.1 h1).1]; exact h1) x
  have hpo : PredOver P g lb (Value.int .i64) p b 0 xs.toArray.size w := fun n os dk x hs => hgive _ (Wd.sortW hg hSb hb (Value.int .i64) dk n os).agree x
  have h := AnyE.slices_DeleteFunc L (Value.int .i64) (fun _ => rfl) p g lb eg 0 v23 b 0 cap xs.toArray w hpa hpo hH (by simp; omega) (by simpa using hc)
  rw [List.size_toArray] at h
  refine h.mono ?_
  rintro e w' ⟨rfl, q, rfl⟩
  have hfl := List.length_filter_le (fun x => !p x) xs
  have hwd := putInts (ys := (xs.filter fun x => !p x) ++ List.replicate (xs.length - (xs.filter fun x => !p x).length) 0) hg hSb hb (by simp; omega) q
  rw [intsT_app] at hwd
  exact ⟨_, S, _, rfl, hwd, rfl, rfl, _, rfl⟩
theorem compact_fn {P : Program} {ρ : Ren} (L : SlLaysE.n43 P ρ) (heq : EqlAt P (ρ.t 23) (Value.int .i64) (fun x y : Int => decide (x = y))) (hne : NeqAt P (ρ.t 23) (Value.int .i64) (fun x y : Int => decide (x = y))) (v23 : ∀ w, (zeroValue (ρ.t 23)).run P w = .ok (.int .i64 0) w)
    {S : SHeap} {b cap : Nat} {E : TypeId} {tl : List Value} (xs : List Int) (hn : xs.length ≤ 1000000) (hc : xs.length ≤ cap) :
    Fn P (ρ.f 43) #[.slice (some ⟨b, 0, none⟩) xs.length cap] S [.blk b (.cells (intsT xs tl) E (0, 0))]
      (fun v S' M' => v = .slice (some ⟨b, 0, none⟩) (Lib.compact xs).length cap ∧ S' = S ∧ ∃ tl', M' = [.blk b (.cells (intsT (Lib.compact xs) tl') E (0, 0))]) := by
  intro w hg hok hsep hout
  have hb : w.heap[b]? = some (.cells (intsT xs tl) E (0, 0)) := hok (.blk b _) List.mem_cons_self
  have hSb := hout (.blk b _) List.mem_cons_self b rfl
  have hH : Sort.Holds (Value.int .i64) w b 0 xs.toArray := holds_ints (val := id) (by simpa using hb)
  have h := AnyE.slices_Compact L (Value.int .i64) (fun _ => rfl) heq hne 0 v23 b 0 cap xs.toArray w hH (by simp; omega) (by simpa using hc)
  rw [List.size_toArray] at h
  refine h.mono ?_
  rintro e w' ⟨rfl, q, rfl⟩
  have hcl : (Lib.compact xs).length ≤ xs.length := by
    unfold Lib.compact compactUpTo
    rw [List.length_map]
    have := List.length_filter_le (keeps xs.toArray) (List.range xs.length)
    simpa using this
  have hwd := putInts (ys := Lib.compact xs ++ List.replicate (xs.length - (Lib.compact xs).length) 0) hg hSb hb (by simp; omega) q
  rw [intsT_app] at hwd
  exact ⟨_, S, _, rfl, hwd, rfl, rfl, _, rfl⟩
end Go.Dr
namespace Go.Dr
open Go.Lib
def mostTo (s : Snap) (k : Nat) : Nat → Int
  | 0 => 0
  | i + 1 => max (mostTo s k i) (at0 (capOf s i) k)
def mostV (s : Snap) (k : Nat) : Int := mostTo s k s.nodes.length
def reqOf (s : Snap) (i : Nat) : List Int := match s.pods[i]? with | some x => x.req | none => []
def size1 (most req : Int) : Int := if 0 < most then (1000 * req).tdiv most else 0
def sizeTo (s : Snap) (pod : Int) : Nat → Int
  | 0 => 0
  | k + 1 => max (sizeTo s pod k) (size1 (mostV s k) (at0 (reqOf s pod.toNat) k))
def sizeV (s : Snap) (pod : Int) : Int := sizeTo s pod 5
def inPods (n : Nat) (pods : List Int) : List Int := ((List.range n).filter (fun (i : Nat) => decide ((i : Int) ∈ pods))).map (fun (i : Nat) => (i : Int))
def orderV (s : Snap) (pods : List Int) : List Int := if checkS s = 0 then sortBy (fun i => -sizeV s i) (inPods s.pods.length pods) else []
theorem in_rise (n : Nat) (pods : List Int) : (inPods n pods).Pairwise (fun a b => a < b) := by
  unfold inPods
  rw [List.pairwise_map]
  exact (List.pairwise_lt_range.filter _).imp fun h => by omega
theorem in_mem {n : Nat} {pods : List Int} {x : Int} : x ∈ inPods n pods ↔ 0 ≤ x ∧ x < n ∧ x ∈ pods := by
  unfold inPods
  simp only [List.mem_map, List.mem_filter, List.mem_range, decide_eq_true_eq]
  constructor
  · rintro ⟨i, ⟨h1, h2⟩, rfl⟩
    exact ⟨by omega, by omega, h2⟩
  · rintro ⟨h1, h2, h3⟩
    exact ⟨x.toNat, ⟨by omega, by rwa [Int.toNat_of_nonneg h1]⟩, Int.toNat_of_nonneg h1⟩
theorem rise_eq_of {l m : List Int} (hl : l.Pairwise (fun a b => a < b)) (hm : m.Pairwise (fun a b => a < b)) (h : ∀ x, x ∈ l ↔ x ∈ m) : l = m := by
  have n1 : l.Nodup := hl.imp fun h => by omega
  have n2 : m.Nodup := hm.imp fun h => by omega
  exact List.Perm.eq_of_pairwise (le := fun a b => a < b) (fun a b _ _ h1 h2 => by omega) hl hm ((List.perm_ext_iff_of_nodup n1 n2).2 h)
theorem compact_rise {xs : List Int} (hs : xs.Pairwise (fun a b => a ≤ b)) : (Lib.compact xs).Pairwise (fun a b => a < b) := by
  unfold Lib.compact compactUpTo
  rw [List.pairwise_map, List.pairwise_filter]
  refine List.pairwise_lt_range.imp_of_mem fun {i j} hi hj hij hki hkj => ?_
  have hi := List.mem_range.1 hi
  have hj := List.mem_range.1 hj
  unfold keeps at hkj
  have hj1 : xs.toArray[j]! = xs[j] := by rw [getElem!_pos xs.toArray j (by simpa using hj)]; simp
  have hj2 : xs.toArray[j - 1]! = xs[j - 1] := by rw [getElem!_pos xs.toArray (j - 1) (by simp; omega)]; simp
  have hi1 : xs.toArray[i]! = xs[i] := by rw [getElem!_pos xs.toArray i (by simpa using hi)]; simp
  rw [hj1, hj2] at hkj
  rw [hi1, hj1]
  have h1 : xs[j - 1] ≤ xs[j] := List.pairwise_iff_getElem.1 hs (j - 1) j (by omega) hj (by omega)
  have h2 : xs[i] ≤ xs[j - 1] := by
    by_cases e : i = j - 1
    · subst e; exact Int.le_refl _
    · exact List.pairwise_iff_getElem.1 hs i (j - 1) hi (by omega) (by omega)
  have h3 : ¬ xs[j] = xs[j - 1] := by
    intro e
    simp [e] at hkj
    omega
  omega
theorem compact_mem {xs : List Int} {x : Int} : x ∈ Lib.compact xs ↔ x ∈ xs := by
  unfold Lib.compact compactUpTo
  simp only [List.mem_map, List.mem_filter, List.mem_range]
  constructor
  · rintro ⟨j, ⟨hj, _⟩, rfl⟩
    rw [getElem!_pos xs.toArray j (by simpa using hj)]; simp
  · intro hx
    have hex : ∃ j, j < xs.length ∧ xs.toArray[j]! = x := by
      obtain ⟨j, hj, rfl⟩ := List.getElem_of_mem hx
      exact ⟨j, hj, by rw [getElem!_pos xs.toArray j (by simpa using hj)]; simp⟩
    have key : ∀ j : Nat, xs.toArray[j]! = x → ∃ i, i ≤ j ∧ keeps xs.toArray i = true ∧ xs.toArray[i]! = x := by
      intro j
      induction j with
      | zero => exact fun h => ⟨0, Nat.le_refl _, by simp [keeps], h⟩
      | succ j ih =>
        intro h
        by_cases e : xs.toArray[j]! = x
        · obtain ⟨i, h1, h2, h3⟩ := ih e
          exact ⟨i, by omega, h2, h3⟩
        · refine ⟨j + 1, Nat.le_refl _, ?_, h⟩
          unfold keeps
          rw [h]
          simp only [Nat.add_sub_cancel, decide_eq_true_eq]
          exact .inr fun e2 => e e2.symm
    obtain ⟨j, hj, hjx⟩ := hex
    obtain ⟨i, h1, h2, h3⟩ := key j hjx
    exact ⟨i, ⟨by omega, h2⟩, h3⟩
theorem order_in (n : Nat) (pods : List Int) : Lib.compact ((pods.filter fun x => !(decide (x < 0) || decide ((n : Int) ≤ x))).mergeSort fun x y => decide (x ≤ y)) = inPods n pods := by
  refine rise_eq_of (compact_rise ?_) (in_rise n pods) fun x => ?_
  · have h := List.pairwise_mergeSort (le := fun x y : Int => decide (x ≤ y)) (fun a b c h1 h2 => by simp only [decide_eq_true_eq] at *; omega) (fun a b => by simp only [Bool.or_eq_true, decide_eq_true_eq]; omega) (pods.filter fun x => !(decide (x < 0) || decide ((n : Int) ≤ x)))
    exact h.imp fun h => by simpa using h
  · rw [compact_mem, List.mem_mergeSort, List.mem_filter, in_mem]
    simp only [Bool.not_eq_true', Bool.or_eq_false_iff, decide_eq_false_iff_not]
    constructor
    · rintro ⟨h1, h2, h3⟩; exact ⟨by omega, by omega, h1⟩
    · rintro ⟨h1, h2, h3⟩; exact ⟨h3, by omega, by omega⟩
end Go.Dr
namespace Go.Dr
def packGo (s : Snap) : List Int → List Int → List Int → List Int × List Int
  | q, ws, [] => (q, ws)
  | q, ws, i :: l => if ¬ at0 q i.toNat = -1 then packGo s q ws l else if (bestV s q i).2 = true then packGo s (q.set i.toNat (bestV s q i).1) ws l else packGo s q (ws ++ [i]) l
def packV (s : Snap) (p pods : List Int) : List Int × List Int × Int := if ¬ checkP s p = 0 then ([], [], checkP s p) else ((packGo s p [] (orderV s pods)).1, (packGo s p [] (orderV s pods)).2.mergeSort (fun x y => decide (x ≤ y)), 0)
theorem best_rng {s : Snap} {p : List Int} {pod n : Int} (h : bestV s p pod = (n, true)) : 0 ≤ n ∧ n < s.nodes.length := by
  unfold bestV at h
  split at h
  · simp at h
  · rename_i m l hr
    have hm : m ∈ waysV s p pod := (rank_perm s p pod).mem_iff.1 (by rw [hr]; simp)
    have := ways_mem hm
    cases h
    exact ⟨this.1, this.2.1⟩
theorem order_mem {s : Snap} {pods : List Int} {i : Int} (h : i ∈ orderV s pods) : 0 ≤ i ∧ i < s.pods.length ∧ i ∈ pods := by
  unfold orderV at h
  split at h
  · have hp : (sortBy (fun i => -sizeV s i) (inPods s.pods.length pods)).Perm (inPods s.pods.length pods) := List.mergeSort_perm _ _
    exact in_mem.1 (hp.mem_iff.1 h)
  · cases h
theorem order_len (s : Snap) (pods : List Int) : (orderV s pods).length ≤ s.pods.length := by
  unfold orderV
  split
  · have hp : (sortBy (fun i => -sizeV s i) (inPods s.pods.length pods)).Perm (inPods s.pods.length pods) := List.mergeSort_perm _ _
    rw [hp.length_eq]
    unfold inPods
    rw [List.length_map]
    have := List.length_filter_le (fun (i : Nat) => decide ((i : Int) ∈ pods)) (List.range s.pods.length)
    simpa using this
  · simp
end Go.Dr
namespace Go.Dr
def nd14 (n : UInt8) (c : Int) : Node := ⟨⟨#[n]⟩, [c, 0, 0, 0, 0], [], [], false, false⟩
def pd14 (x : UInt8) (r : Int) : Pod := ⟨⟨#[x]⟩, ⟨#[]⟩, [r, 0, 0, 0, 0], [], [], [], noNear, noNear, ⟨#[]⟩⟩
def nodes14 : List Node := [nd14 97 100, nd14 98 60]
def pods14 (r : Int) : List Pod := [pd14 112 50, pd14 113 30, pd14 114 40, pd14 116 r]
def chap14 (r : Int) : Snap := ⟨nodes14, pods14 r, []⟩
def insBy (key : Int → Int) (x : Int) : List Int → List Int
  | [] => [x]
  | y :: l => if ltBy key y x = true then y :: insBy key x l else x :: y :: l
def iSort (key : Int → Int) : List Int → List Int
  | [] => []
  | x :: l => insBy key x (iSort key l)
theorem insBy_perm (key : Int → Int) (x : Int) : ∀ l, (insBy key x l).Perm (x :: l)
  | [] => List.Perm.refl _
  | y :: l => by
    rw [insBy]
    split
    · exact ((insBy_perm key x l).cons y).trans (List.Perm.swap _ _ _)
    · exact List.Perm.refl _
theorem iSort_perm (key : Int → Int) : ∀ l, (iSort key l).Perm l
  | [] => List.Perm.refl _
  | x :: l => (insBy_perm key x _).trans ((iSort_perm key l).cons x)
theorem insBy_sorted (key : Int → Int) (x : Int) : ∀ l : List Int, l.Pairwise (fun a b => ltBy key b a = false) → (insBy key x l).Pairwise (fun a b => ltBy key b a = false)
  | [], _ => by simp [insBy]
  | y :: l, h => by
    obtain ⟨h1, h2⟩ := List.pairwise_cons.1 h
    rw [insBy]
    split
    · rename_i hc
      refine List.pairwise_cons.2 ⟨fun z hz => ?_, insBy_sorted key x l h2⟩
      rcases List.mem_cons.1 ((insBy_perm key x l).mem_iff.1 hz) with rfl | hz
      · simp only [ltBy, Bool.or_eq_true, Bool.and_eq_true, decide_eq_true_eq, Bool.or_eq_false_iff, Bool.and_eq_false_iff, decide_eq_false_iff_not] at *; omega
      · exact h1 z hz
    · rename_i hc
      have hc : ltBy key y x = false := by simpa using hc
      refine List.pairwise_cons.2 ⟨fun z hz => ?_, h⟩
      rcases List.mem_cons.1 hz with rfl | hz
      · exact hc
      · exact ltBy_ntrans (h1 z hz) hc
theorem iSort_sorted (key : Int → Int) : ∀ l, (iSort key l).Pairwise (fun a b => ltBy key b a = false)
  | [] => List.Pairwise.nil
  | x :: l => insBy_sorted key x _ (iSort_sorted key l)
theorem sortBy_i (key : Int → Int) (l : List Int) : sortBy key l = iSort key l := (sortBy_eq (iSort_perm key l) (iSort_sorted key l)).symm
theorem rank_i (s : Snap) (p : List Int) (pod : Int) : rankV s p pod = iSort (leftAt s p pod) (waysV s p pod) := sortBy_i _ _
def bestC (s : Snap) (p : List Int) (pod : Int) : Int × Bool := match iSort (leftAt s p pod) (waysV s p pod) with | [] => (0, false) | n :: _ => (n, true)
theorem best_i (s : Snap) (p : List Int) (pod : Int) : bestV s p pod = bestC s p pod := by (unfold bestV bestC; rw [rank_i]) <;> rfl
def orderC (s : Snap) (pods : List Int) : List Int := if checkS s = 0 then iSort (fun i => -sizeV s i) (inPods s.pods.length pods) else []
theorem order_i (s : Snap) (pods : List Int) : orderV s pods = orderC s pods := by unfold orderV orderC; rw [sortBy_i]
def packGoC (s : Snap) : List Int → List Int → List Int → List Int × List Int
  | q, ws, [] => (q, ws)
  | q, ws, i :: l => if ¬ at0 q i.toNat = -1 then packGoC s q ws l else if (bestC s q i).2 = true then packGoC s (q.set i.toNat (bestC s q i).1) ws l else packGoC s q (ws ++ [i]) l
theorem packGo_i (s : Snap) : ∀ (l q ws : List Int), packGo s q ws l = packGoC s q ws l
  | [], _, _ => by rw [packGo, packGoC]
  | i :: l, q, ws => by rw [packGo, packGoC, best_i]; split; · exact packGo_i s l _ _
                        · split <;> exact packGo_i s l _ _
theorem pack_i (s : Snap) (p pods q ws : List Int) (hc : checkP s p = 0) (h : packGoC s p [] (orderC s pods) = (q, ws)) : packV s p pods = (q, ws.mergeSort (fun x y => decide (x ≤ y)), 0) := by
  unfold packV
  rw [if_neg (by simpa using hc), order_i, packGo_i, h]
theorem f14_1 : leftV (chap14 20) [0, 1, -1, -1] 0 = 500 := by decide +kernel
theorem f14_2 : leftV (chap14 20) [0, 1, -1, -1] 1 = 500 := by decide +kernel
theorem f14_3 : rankV (chap14 20) [0, 1, -1, -1] 3 = [1, 0] := by rw [rank_i]; decide +kernel
theorem f14_4 : rankV (chap14 20) [0, 1, -1, -1] 2 = [0] := by rw [rank_i]; decide +kernel
theorem f14_5 : bestV (chap14 20) [0, 0, 1, -1] 3 = (0, true) := by rw [best_i]; decide +kernel
theorem f14_6 : orderV (chap14 20) [3, 2, 1, 0, 1] = [0, 2, 1, 3] := by rw [order_i]; decide +kernel
theorem f14_7 : packV (chap14 20) [-1, -1, -1, -1] [0, 1, 2, 3] = ([1, 0, 0, 0], [], 0) := (pack_i _ _ _ [1, 0, 0, 0] [] (by decide +kernel) (by decide +kernel)).trans (by simp)
theorem g14_1 : bestV (chap14 20) [0, 1, -1, -1] 0 = (0, false) := by rw [best_i]; decide +kernel
theorem g14_2 : bestV (chap14 20) [0, 1, -1, -1] 4 = (0, false) := by rw [best_i]; decide +kernel
theorem g14_3 : packV (chap14 20) [0, 0, 1, -1] [3, 3, -1, 9, 0] = ([0, 0, 1, 0], [], 0) := (pack_i _ _ _ [0, 0, 1, 0] [] (by decide +kernel) (by decide +kernel)).trans (by simp)
theorem g14_4 : packV (chap14 200) [0, 1, -1, -1] [3, 2] = ([0, 1, 0, -1], [3], 0) := (pack_i _ _ _ [0, 1, 0, -1] [3] (by decide +kernel) (by decide +kernel)).trans (by simp)
theorem g14_5 : packV (chap14 200) [0] [] = ([], [], 2) := by decide +kernel
theorem g14_6 : leftV (chap14 200) [1, 1, -1, -1] 1 = 0 := by decide +kernel
theorem g14_7 : leftV (chap14 200) [0, 1, -1, -1] 2 = 0 := by decide +kernel
theorem g14_8 : leftV (chap14 200) [0, 1, -1, -1] (-1) = 0 := by decide +kernel
theorem g14_9 : leftV (chap14 200) [0] 0 = 0 := by decide +kernel
theorem g14_10 : rankV (chap14 200) [0, 1, -1, -1] (-1) = [] := by rw [rank_i]; decide +kernel
theorem g14_11 : orderV (chap14 200) [] = [] := by rw [order_i]; decide +kernel
theorem g14_12 : orderV (chap14 200) [-1, 4] = [] := by rw [order_i]; decide +kernel
end Go.Dr
namespace Go.Dr
open Go.Proofs
set_option maxRecDepth 20000
set_option maxHeartbeats 2000000
set_option linter.unusedSimpArgs false
set_option linter.unusedVariables false
theorem s27_L14j {P K : Prop} (k : K) (h : Goal K → P := by
  intro zk
  (first | refine Walk ?_ | refine JC.block ?_ | refine JC.drawN 1 rfl [0, 1, 2, 3, 4, 5, 6, 7, 8, 9, 10, 11, 12, 13, 14, 15, 16, 17, 18, 19, 20, 21, 22] [0, 1, 2, 3, 4, 5, 6, 7, 8, 9, 10, 11, 12, 13, 14, 15, 16, 17, 18, 19, 20, 21] Tryz_mixed (by decide +kernel) ?_ | (refine WBox ?_))
  (repeat (first | revert zqg | revert zqf | revert zqe | revert zqd | revert zqc | revert zqb | revert zqa))
  exact zk.k) : P := h ⟨k⟩
theorem q14_cut {S : SHeap} {u : Value} {s : Snap} (hu : rSnap.V S u s) : FnR Tryz.prog 27 #[u] S (fun w S' => rSnap.V S' w (cutS s)) := by
  (refine Fn.enter (args := [u]) Tryz.func27 rfl Tryz.ntmps27 rfl ?_; intro w0)
  repeat (refine s27_L14j ?_; intros)
  (refine JO.eff rfl rfl rfl (JEff.alloc rfl ?_); intro cb hcb)
  repeat (refine s27_L14j ?_; intros)
  refine JO.pure rfl rfl rfl (JPure.sliceS (xs := s.nodes) (rep := rNode) (bt := 112) rfl (by exact vta) rfl rfl rfl (by omega) (by omega) (by omega) ?_); intro a1 c1 y1 hy1 hV1 hyl1 hyb1
  repeat (refine s27_L14j ?_; intros)
  refine JO.pure rfl rfl rfl (JPure.sliceS (xs := s.pods) (rep := rPod) (bt := 240) rfl (by exact vta) rfl rfl rfl (by omega) (by omega) (by omega) ?_); intro a2 c2 y2 hy2 hV2 hyl2 hyb2
  repeat (refine s27_L14j ?_; intros)
  refine JO.pure rfl rfl rfl (JPure.sliceS (xs := s.owners) (rep := rOwner) (bt := 56) rfl (by exact vta) rfl rfl rfl (by omega) (by omega) (by omega) ?_); intro a3 c3 y3 hy3 hV3 hyl3 hyb3
  repeat (refine s27_L14j ?_; intros)
  have e1 : y1 = s.nodes.take 12 := hy1.trans (cut_len s.nodes 12)
  have e2 : y2 = s.pods.take 30 := hy2.trans (cut_len s.pods 30)
  have e3 : y3 = s.owners.take 12 := hy3.trans (cut_len s.owners 12)
  subst e1; subst e2; subst e3
  have hV := V_snap (x := cutS s) hV1 hV2 hV3
  refine JO.eff rfl rfl rfl (JEff.storeW rfl rfl hV nna (List.Perm.refl _) rfl (by intro l hl; cases hl) ?_)
  refine JO.freezeV hV nna hcb (by intro l hl; cases hl) ?_; intro S2 hl2 hpo
  repeat (refine s27_L14j ?_; intros)
  exact JX.retCell Tryz.results27 rfl hpo (List.nil_sublist _) (fun w hw => ⟨rfl, hw⟩)
theorem s40_L14j {P K : Prop} (k : K) (h : Goal K → P := by
  intro zk
  (first | refine Walk ?_ | refine JC.block ?_ | refine JC.drawN 7 rfl [0, 1, 2, 3, 4, 5, 6, 7, 8, 9, 10] [0, 1, 2, 3, 4, 5, 6, 7, 9, 10] Tryz_mixed (by decide +kernel) ?_ | (refine JO.eff rfl rfl rfl (JEff.callV rfl (r0_Bring _ _ (by omega) (by omega) (by assumption)) rfl ?_); intro zqa zqb) | (refine WBox ?_))
  (repeat (first | revert zqg | revert zqf | revert zqe | revert zqd | revert zqc | revert zqb | revert zqa))
  exact zk.k) : P := h ⟨k⟩
theorem q14_fitted {S : SHeap} {u v : Value} {s : Snap} {l : List Int} (hu : rSnap.V S u s) (hv : (rSlice 8 rI64).V S v l) (hn : s.nodes.length ≤ 1000) (hpd : s.pods.length ≤ 1000) : FnL Tryz.prog 40 #[u, v] S 8 rI64 (fitV s l) := by
  obtain ⟨a0, c0, rfl, _, _, hlb, _⟩ := V_slice.1 hv
  unfold big at hlb
  have hlr : ∀ z ∈ l, Rng z := fun z hz => by
    obtain ⟨q, cs, h, _⟩ := slice_at hv z hz
    exact h.2
  (refine Fn.enter (args := [u, .slice a0 l.length c0]) Tryz.func40 rfl Tryz.ntmps40 rfl ?_; intro w0)
  repeat (refine s40_L14j ?_; intros)
  (first | refine JC.newRow 3 1 ?_ | refine JO.newRow 3 1 ?_ | refine JX.newRow 3 1 ?_)
  refine JC.loopF (σ := Nat × Option Addr × Nat × List Value) [(1, _), (2, _)] (fun q => [(5, .slice q.2.1 ((fun k => fitK s l k) q.1).length q.2.2.1), (6, ((fun k => .int .i64 k) q.1))]) (fun q => [.row w0.heap.size 3 (Rp.sz rI64) (.slice q.2.1 ((fun k => fitK s l k) q.1).length q.2.2.1) ((fun k => fitK s l k) q.1).length (flatCells q.2.2.2)]) (fun Sk q => q.1 ≤ s.pods.length ∧ allV rI64 Sk q.2.2.2 ((fun k => fitK s l k) q.1) ∧ ((fun k => True) q.1)) (fun q => s.pods.length - q.1) (0, none, 0, []) (by exact sba) (by exact sba) (by first | rfl | simp) (⟨Nat.zero_le _, trivial, trivial⟩) ?_; rintro Sk ⟨k, rak, rck, vsk⟩ hlk ⟨hk, hvk, hik⟩; (try dsimp only at hk hvk hik); dsimp only [List.cons_append, List.nil_append]
  have hfl := fitK_len s l k
  have hnr := fitN_rng s l k
  have hst := fitK_step s l k
  repeat (refine s40_L14j ?_; intros)
  refine JC.cond rfl (fun hc => ?_) (fun hc => ?_)
  · have hk' := dlt hc
    repeat (refine s40_L14j ?_; intros)
    refine JC.cond rfl (fun hc2 => ?_) (fun hc2 => ?_)
    · have hk2 := dlt hc2
      obtain ⟨x, hx, _⟩ := drop_at hk2
      have hxr := hlr x (List.mem_of_getElem? hx)
      have hfn : fitN s l k = bring x ((s.nodes.length : Int) + 1) - 1 := by simp [fitN, hx]
      repeat (refine s40_L14j ?_; intros)
      rw [← hfn]
      repeat (refine s40_L14j ?_; intros)
      refine JO.guard rfl rfl rfl rfl (fun g1 => ?_) (fun g1 => ?_)
      · have g1' := of_decide_eq_true g1
        obtain ⟨nd, hnd, _⟩ := drop_at (l := s.nodes) (show (fitN s l k).toNat < s.nodes.length by omega)
        have hlo : lostAt s (fitN s l k) = nd.lost := by simp [lostAt, hnd]
        repeat (refine s40_L14j ?_; intros)
        refine JC.cond rfl (fun g2 => ?_) (fun g2 => ?_)
        · have hfa : fitAt s l k = -1 := by rw [fitAt, if_pos ⟨by omega, by rw [hlo]; exact g2⟩]
          rw [hfa] at hst
          repeat (refine s40_L14j ?_; intros)
          (refine JO.eff rfl rfl rfl (JEff.build (rep := rI64) (ys := [(-1 : Int)]) rfl rfl ⟨⟨(V_i64.2 ⟨rfl, by unfold Rng; omega⟩), nna⟩, trivial⟩ rfl rfl rfl rfl ?_); intro bb hbb hvv); (repeat (first | (refine Walk ?_; intros) | refine JC.block ?_)); (refine JO.eff rfl rfl rfl (JEff.appendL (rep := rI64) rfl rfl rfl rfl (List.Perm.swap _ _ _) (by exact hvv.flat) (by intro c hc; exact flat_one (fun v hv => (hvv.size v hv).2) c hc) (by first | omega | (unfold big; omega)) (by unfold big; omega) (by first | exact rowT_ok | (intro l hl; cases hl)) rfl ?_); intro a2 c2; clear hvv hbb)
          repeat (refine s40_L14j ?_; intros)
          exact JX.roundF (k + 1, a2, c2, vsk ++ [(.int .i64 ((-1 : Int)))]) (by exact lea) ⟨by omega, by (try dsimp only); rw [hst]; exact allV_add (by exact lea) hvk (V_i64.2 ⟨rfl, by unfold Rng; omega⟩) nna, (trivial)⟩ (by (try dsimp only); omega) (by (try dsimp only); rw [hst]; (simp [flat_append] <;> omega)) (by (try dsimp only); rw [hst]; simp only [List.length_append, List.length_cons, List.length_nil]; exact sba) (by exact sba)
        · have hfa : fitAt s l k = fitN s l k := by rw [fitAt, if_neg (fun h => by rw [hlo, g2] at h; exact absurd h.2 (by simp))]
          rw [hfa] at hst
          repeat (refine s40_L14j ?_; intros)
          (refine JO.eff rfl rfl rfl (JEff.build (rep := rI64) (ys := [fitN s l k]) rfl rfl ⟨⟨(V_i64.2 ⟨rfl, by unfold Rng; omega⟩), nna⟩, trivial⟩ rfl rfl rfl rfl ?_); intro bb hbb hvv); (repeat (first | (refine Walk ?_; intros) | refine JC.block ?_)); (refine JO.eff rfl rfl rfl (JEff.appendL (rep := rI64) rfl rfl rfl rfl (List.Perm.swap _ _ _) (by exact hvv.flat) (by intro c hc; exact flat_one (fun v hv => (hvv.size v hv).2) c hc) (by first | omega | (unfold big; omega)) (by unfold big; omega) (by first | exact rowT_ok | (intro l hl; cases hl)) rfl ?_); intro a2 c2; clear hvv hbb)
          repeat (refine s40_L14j ?_; intros)
          exact JX.roundF (k + 1, a2, c2, vsk ++ [(.int .i64 (fitN s l k))]) (by exact lea) ⟨by omega, by (try dsimp only); rw [hst]; exact allV_add (by exact lea) hvk (V_i64.2 ⟨rfl, by unfold Rng; omega⟩) nna, (trivial)⟩ (by (try dsimp only); omega) (by (try dsimp only); rw [hst]; (simp [flat_append] <;> omega)) (by (try dsimp only); rw [hst]; simp only [List.length_append, List.length_cons, List.length_nil]; exact sba) (by exact sba)
      · have g1' := of_decide_eq_false g1
        have hfa : fitAt s l k = fitN s l k := by rw [fitAt, if_neg (fun h => absurd h.1 (by omega))]
        rw [hfa] at hst
        repeat (refine s40_L14j ?_; intros)
        (refine JO.eff rfl rfl rfl (JEff.build (rep := rI64) (ys := [fitN s l k]) rfl rfl ⟨⟨(V_i64.2 ⟨rfl, by unfold Rng; omega⟩), nna⟩, trivial⟩ rfl rfl rfl rfl ?_); intro bb hbb hvv); (repeat (first | (refine Walk ?_; intros) | refine JC.block ?_)); (refine JO.eff rfl rfl rfl (JEff.appendL (rep := rI64) rfl rfl rfl rfl (List.Perm.swap _ _ _) (by exact hvv.flat) (by intro c hc; exact flat_one (fun v hv => (hvv.size v hv).2) c hc) (by first | omega | (unfold big; omega)) (by unfold big; omega) (by first | exact rowT_ok | (intro l hl; cases hl)) rfl ?_); intro a2 c2; clear hvv hbb)
        repeat (refine s40_L14j ?_; intros)
        exact JX.roundF (k + 1, a2, c2, vsk ++ [(.int .i64 (fitN s l k))]) (by exact lea) ⟨by omega, by (try dsimp only); rw [hst]; exact allV_add (by exact lea) hvk (V_i64.2 ⟨rfl, by unfold Rng; omega⟩) nna, (trivial)⟩ (by (try dsimp only); omega) (by (try dsimp only); rw [hst]; (simp [flat_append] <;> omega)) (by (try dsimp only); rw [hst]; simp only [List.length_append, List.length_cons, List.length_nil]; exact sba) (by exact sba)
    · have hk2 := dnlt hc2
      have hfn : fitN s l k = -1 := by unfold fitN; rw [List.getElem?_eq_none (by omega)]
      have hfa : fitAt s l k = -1 := by rw [fitAt, hfn, if_neg (fun h => absurd h.1 (by omega))]
      rw [hfa] at hst
      repeat (refine s40_L14j ?_; intros)
      (refine JO.eff rfl rfl rfl (JEff.build (rep := rI64) (ys := [(-1 : Int)]) rfl rfl ⟨⟨(V_i64.2 ⟨rfl, by unfold Rng; omega⟩), nna⟩, trivial⟩ rfl rfl rfl rfl ?_); intro bb hbb hvv); (repeat (first | (refine Walk ?_; intros) | refine JC.block ?_)); (refine JO.eff rfl rfl rfl (JEff.appendL (rep := rI64) rfl rfl rfl rfl (List.Perm.swap _ _ _) (by exact hvv.flat) (by intro c hc; exact flat_one (fun v hv => (hvv.size v hv).2) c hc) (by first | omega | (unfold big; omega)) (by unfold big; omega) (by first | exact rowT_ok | (intro l hl; cases hl)) rfl ?_); intro a2 c2; clear hvv hbb)
      repeat (refine s40_L14j ?_; intros)
      exact JX.roundF (k + 1, a2, c2, vsk ++ [(.int .i64 ((-1 : Int)))]) (by exact lea) ⟨by omega, by (try dsimp only); rw [hst]; exact allV_add (by exact lea) hvk (V_i64.2 ⟨rfl, by unfold Rng; omega⟩) nna, (trivial)⟩ (by (try dsimp only); omega) (by (try dsimp only); rw [hst]; (simp [flat_append] <;> omega)) (by (try dsimp only); rw [hst]; simp only [List.length_append, List.length_cons, List.length_nil]; exact sba) (by exact sba)
  · have hk' := dnlt hc
    obtain rfl : k = s.pods.length := by omega
    repeat (refine s40_L14j ?_; intros)
    refine JX.freezeRow (rep := rI64) (bt := 8) hvk rfl (by unfold big; omega) (by unfold big; omega) (fun S9 hl9 hV9 => ?_)
    (refine JX.ret1 Tryz.results40 (ResV.tmp rfl) (List.nil_sublist _) ?_)
    exact ⟨rfl, hV9⟩
theorem q14_in {S : SHeap} {v : Value} (l : List Int) (n : Int) (hv : (rSlice 8 rI64).V S v l) : FnV Tryz.prog 42 #[v, .int .i64 n] S (.bool (decide (n ∈ l))) := by
  have hv0 := hv
  obtain ⟨va, vc, rfl, _, hb8, hb, hpr⟩ := V_slice.1 hv0
  unfold big at hb8 hb
  (refine Fn.enter (args := [.slice va l.length vc, .int .i64 n]) Tryz.func42 rfl Tryz.ntmps42 rfl ?_; intro w0)
  repeat (first | (refine Walk ?_; intros) | refine JC.block ?_)
  refine JC.loopF0 (σ := Nat) [(0, _), (1, _)] (fun q => [(5, .int .i64 q)]) (fun Si q => q ≤ l.length ∧ n ∉ l.take q) (fun q => l.length - q) (0) (by exact sba) (by exact sba) (⟨Nat.zero_le _, by simp⟩) ?_; rintro Si k hli hii; (try dsimp only at hii); dsimp only [List.cons_append, List.nil_append]
  obtain ⟨hk, hno⟩ := hii
  try dsimp only at hk hno
  repeat (first | (refine Walk ?_; intros) | refine JC.block ?_)
  refine JC.cond rfl (fun hc => ?_) (fun hc => ?_)
  · have hk' := dlt hc
    obtain ⟨x, hx, _⟩ := drop_at hk'
    have hst : l.take (k + 1) = l.take k ++ [x] := by rw [List.take_add_one, hx]; rfl
    repeat (first | (refine Walk ?_; intros) | refine JC.block ?_)
    refine JC.cond rfl (fun hf => ?_) (fun hf => ?_)
    · have hf := of_decide_eq_true hf
      have hm : n ∈ l := hf ▸ List.mem_of_getElem? hx
      rw [decide_eq_true hm]
      repeat (first | (refine Walk ?_; intros) | refine JC.block ?_)
      (refine JX.ret1 Tryz.results42 (ResV.tmp rfl) (List.nil_sublist _) ?_)
      exact ⟨rfl, rfl⟩
    · have hf := of_decide_eq_false hf
      repeat (first | (refine Walk ?_; intros) | refine JC.block ?_)
      exact JX.roundF (k + 1) (by exact lea) (⟨by omega, by (try dsimp only); rw [hst]; simp only [List.mem_append, List.mem_singleton, not_or]; exact ⟨hno, fun e => hf e.symm⟩⟩) (by (try dsimp only); omega) rfl (by exact sba) (by exact sba)
  · have hk' := dnlt hc
    rw [List.take_of_length_le hk'] at hno
    rw [decide_eq_false hno]
    repeat (first | (refine Walk ?_; intros) | refine JC.block ?_)
    (refine JX.ret1 Tryz.results42 (ResV.tmp rfl) (List.nil_sublist _) ?_)
    exact ⟨rfl, rfl⟩
end Go.Dr
namespace Go.Dr
open Go.Proofs
set_option maxRecDepth 20000
set_option maxHeartbeats 2000000
set_option linter.unusedSimpArgs false
set_option linter.unusedVariables false
def podW (x : UInt8) (r : Int) : Value := .agg (flatCells [.string ⟨#[x]⟩, .string ⟨#[]⟩, .agg (flatCells [.int .i64 r, .int .i64 0, .int .i64 0, .int .i64 0, .int .i64 0]).toArray, .slice none 0 0, .slice none 0 0, .slice none 0 0, .agg #[.string ⟨#[]⟩, .slice none 0 0], .agg #[.string ⟨#[]⟩, .slice none 0 0], .string ⟨#[]⟩]).toArray
def podWs (r : Int) : List Value := [podW 112 50, podW 113 30, podW 114 40, podW 116 r]
theorem V_node14 {S : SHeap} {n : UInt8} {c : Int} (hc : Rng c) : rNode.V S (.agg (flatCells [.string ⟨#[n]⟩, .agg (flatCells [.int .i64 c, .int .i64 0, .int .i64 0, .int .i64 0, .int .i64 0]).toArray, .slice none 0 0, .slice none 0 0, .bool false, .bool false]).toArray) (nd14 n c) :=
  ⟨[_, _, _, _, _, _, _, _, _, _], map_R (seq1 (R_str (sz1 _)) (seq5 (R_vec (by simp [Rng]; exact hc)) (seq1 (V_nil.one rfl) (seq1 (V_nil.one rfl) (seq1 R_bool R_bool))))), rfl⟩
theorem V_pod14 {S : SHeap} {n : ByteArray} {x : UInt8} {r : Int} (hr : Rng r) (h : n = ⟨#[x]⟩) : rPod.V S (.agg (flatCells [.string n, .string ⟨#[]⟩, .agg (flatCells [.int .i64 r, .int .i64 0, .int .i64 0, .int .i64 0, .int .i64 0]).toArray, .slice none 0 0, .slice none 0 0, .slice none 0 0, .agg #[.string ⟨#[]⟩, .slice none 0 0], .agg #[.string ⟨#[]⟩, .slice none 0 0], .string ⟨#[]⟩]).toArray) (pd14 x r) := by
  subst h
  exact ⟨[_, _, _, _, _, _, _, _, _, _, _, _, _, _, _], map_R (seq1 (R_str (sz1 _)) (seq1 (R_str sz0) (seq5 (R_vec (by simp [Rng]; exact hr)) (seq1 (V_nil.one rfl) (seq1 (V_nil.one rfl) (seq1 (V_nil.one rfl)
    (seq2 (map_R (seq1 (R_str sz0) (V_nil.one rfl))) (seq2 (map_R (seq1 (R_str sz0) (V_nil.one rfl))) (R_str sz0))))))))), rfl⟩
theorem V_podsW {S : SHeap} {r : Int} (hr : Rng r) : allV rPod S (podWs r) (pods14 r) := ⟨⟨V_pod14 (by simp [Rng]) rfl, nna⟩, ⟨V_pod14 (by simp [Rng]) rfl, nna⟩, ⟨V_pod14 (by simp [Rng]) rfl, nna⟩, ⟨V_pod14 hr rfl, nna⟩, trivial⟩
def dat14 : List (UInt8 × Int) := [(112, 50), (113, 30), (114, 40), (116, 20)]
theorem pqrt_at {k : Nat} {x : UInt8} {y : Int} (h : dat14[k]? = some (x, y)) : (⟨#[112, 113, 114, 116]⟩ : ByteArray).extract ((k : Int)).toNat (((k : Int) + 1)).toNat = ⟨#[x]⟩ := by
  match k with
  | 0 => cases h; decide +kernel
  | 1 => cases h; decide +kernel
  | 2 => cases h; decide +kernel
  | 3 => cases h; decide +kernel
  | k + 4 => simp [dat14] at h
theorem take60 {a b c d : Value} {tl : List Value} (h : (flatCells [a, b, c, d]).length = 60) : (cellsR [a, b, c, d] tl).toList.take 60 = flatCells [a, b, c, d] := by
  show (flatCells [a, b, c, d] ++ tl).take 60 = _
  rw [List.take_append_of_le_length (by omega), List.take_of_length_le (by omega)]
def Chap14 (TP : TypeId) (w : Value) (S' : SHeap) (M' : List MEnt) : Prop :=
  ∃ na pb cap tl, w = .agg #[.slice na 2 2, .slice (some ⟨pb, 0, none⟩) 4 cap, .slice none 0 0] ∧
    M' = [.blk pb (.cells (cellsR (podWs 20) tl) TP (0, 0))] ∧ 4 ≤ cap ∧ (rSlice 112 rNode).V S' (.slice na 2 2) nodes14
theorem q14_chapterM {S : SHeap} : Fn Tryz.prog 43 #[] S [] (Chap14 79) := by
  haveI : TyR Tryz.prog 23 rVal := ⟨(inferInstance : TyR Tryz.prog 23 (rSlice 240 rPod)).b⟩
  have hRaw : TyR Tryz.prog 26 rRaw3 := ⟨(inferInstance : TyR Tryz.prog 26 rSnap).b⟩
  (refine Fn.enter (args := []) Tryz.func43 rfl Tryz.ntmps43 rfl ?_; intro w0)
  repeat (first | (refine Walk ?_; intros) | refine JC.block ?_)
  (refine JO.eff rfl rfl rfl (JEff.alloc rfl ?_); intro rb hrb)
  repeat (first | (refine Walk ?_; intros) | refine JC.block ?_)
  (refine JO.eff rfl rfl rfl (JEff.buildS (bt := 112) (rep := rNode) (ys := nodes14) rfl rfl ⟨⟨V_node14 (by simp [Rng]), nna⟩, ⟨V_node14 (by simp [Rng]), nna⟩, trivial⟩ rfl rfl rfl (by decide) rfl ?_); intro S4 a4 hl4 hV4)
  repeat (first | (refine Walk ?_; intros) | refine JC.block ?_)
  (refine JO.eff rfl rfl rfl (JEff.alloc rfl ?_); intro sb hsb)
  repeat (first | (refine Walk ?_; intros) | refine JC.block ?_)
  refine JO.eff rfl rfl rfl (JEff.storeW (ht := hRaw) rfl rfl V_raw3 nna (List.Perm.refl _) rfl (by intro l hl; cases hl) ?_)
  repeat (first | (refine Walk ?_; intros) | refine JC.block ?_)
  (refine JO.eff rfl rfl rfl (JEff.buildS (bt := 8) (rep := rI64) (ys := [(50 : Int), 30, 40, 20]) rfl rfl (⟨⟨V_num, nna⟩, ⟨V_num, nna⟩, ⟨V_num, nna⟩, ⟨V_num, nna⟩, trivial⟩) rfl rfl rfl (by decide) rfl ?_); intro S5 a5 hl5 hV5)
  repeat (first | (refine Walk ?_; intros) | refine JC.block ?_)
  refine JC.newRow 79 (Rp.sz rPod) ?_
  refine JC.loopF (σ := Nat × Option Addr × Nat × List Value) [(0, _), (1, _), (2, _)] (fun q => [(3, .int .i64 q.1)])
    (fun q => [.row w0.heap.size 79 (Rp.sz rPod) (.slice q.2.1 q.1 q.2.2.1) q.1 (flatCells q.2.2.2), .blk sb (.cells #[.slice a4 2 2, .slice q.2.1 q.1 q.2.2.1, .slice none 0 0] 26 (0, 0)), .blk rb (.cells #[.slice none 0 0, .slice none 0 0, .slice none 0 0] 26 (0, 0))])
    (fun Sk q => q.1 ≤ 4 ∧ allV rPod Sk q.2.2.2 ((pods14 20).take q.1) ∧ q.2.2.2 = (podWs 20).take q.1) (fun q => 4 - q.1) (0, none, 0, []) (by exact sba) (by exact sba) (by rfl) ⟨Nat.zero_le _, trivial, rfl⟩ ?_
  rintro Sk ⟨k, ra, rc, vs⟩ hlk ⟨hk, hv1, hve⟩
  dsimp only at hk hv1 hve
  dsimp only [List.cons_append, List.nil_append]
  repeat (first | (refine Walk ?_; intros) | refine JC.block ?_)
  refine JC.cond rfl (fun hc => ?_) (fun hc => ?_)
  · have hk' : k < 4 := by have := of_decide_eq_true hc; omega
    obtain ⟨⟨x, y⟩, hx⟩ : ∃ x, dat14[k]? = some x := ⟨_, List.getElem?_eq_getElem (by simpa [dat14] using hk')⟩
    have hst : (pods14 20).take (k + 1) = (pods14 20).take k ++ [pd14 x y] := by
      match k with
      | 0 => cases hx; rfl
      | 1 => cases hx; rfl
      | 2 => cases hx; rfl
      | 3 => cases hx; rfl
      | k + 4 => omega
    have hst2 : (podWs 20).take (k + 1) = (podWs 20).take k ++ [podW x y] := by
      match k with
      | 0 => cases hx; rfl
      | 1 => cases hx; rfl
      | 2 => cases hx; rfl
      | 3 => cases hx; rfl
      | k + 4 => omega
    have hy : ([(50 : Int), 30, 40, 20])[k]? = some y ∧ Rng y := by
      match k with
      | 0 => cases hx; exact ⟨rfl, by simp [Rng]⟩
      | 1 => cases hx; exact ⟨rfl, by simp [Rng]⟩
      | 2 => cases hx; exact ⟨rfl, by simp [Rng]⟩
      | 3 => cases hx; exact ⟨rfl, by simp [Rng]⟩
      | k + 4 => omega
    obtain ⟨hy1, hyr⟩ := hy
    have hP := fun S => V_pod14 (S := S) hyr (pqrt_at hx)
    have hvl := hv1.length
    have hpl : ((pods14 20).take k).length = k := by rw [List.length_take]; show min k 4 = k; omega
    rw [hpl] at hvl
    repeat (first | (refine Walk ?_; intros) | refine JC.block ?_)
    refine JC.drawTreeF 6 rfl [14] [1] [0, 2, 3, 4, 5, 6, 7, 8, 9, 10, 11] (.alt (ofL [1, 12, 13, 14, 15] .nil) (ofL [12, 1, 13, 14, 15] .nil)) Tryz_mixed (by decide +kernel) ?_
    refine JO.pure rfl rfl rfl (JPure.fieldP rfl rfl ?_)
    repeat (first | (refine Walk ?_; intros) | refine JC.block ?_)
    refine JO.pure rfl rfl rfl (JPure.sliceT rfl rfl rfl rfl (by omega) (by omega) (by show (k : Int) + 1 ≤ 4; omega) ?_)
    repeat (first | (refine Walk ?_; intros) | refine JC.block ?_)
    refine JO.alt ?_ ?_
    · refine JO.eff rfl rfl rfl (JEff.loadE (rVal) (x0 := .slice ra k rc) rfl (by (first | exact List.mem_cons_self | exact List.mem_cons_of_mem _ List.mem_cons_self | exact List.mem_cons_of_mem _ (List.mem_cons_of_mem _ List.mem_cons_self))) rfl ⟨rfl, rfl⟩ inferInstance rfl ?_)
      repeat (first | (refine Walk ?_; intros) | refine JC.block ?_)
      (refine JO.eff rfl rfl rfl (JEff.build (rep := rPod) (ys := [pd14 x y]) rfl rfl ⟨⟨hP _, nna⟩, trivial⟩ rfl rfl rfl rfl ?_); intro bb hbb hvv)
      repeat (first | (refine Walk ?_; intros) | refine JC.block ?_)
      (refine JO.eff rfl rfl rfl (JEff.appendL (rep := rPod) rfl rfl rfl rfl (List.Perm.swap _ _ _) (by exact hvv.flat) (by intro c hc; exact flat_one (fun v hv => (hvv.size v hv).2) c hc) (by unfold big; omega) (by unfold big; omega) (by first | exact rowT_ok | (intro l hl; cases hl)) rfl ?_); intro a2 c2; clear hvv hbb)
      repeat (first | (refine Walk ?_; intros) | refine JC.block ?_)
      refine JO.pure rfl rfl rfl (JPure.fieldP rfl rfl ?_)
      refine JO.eff rfl rfl rfl (JEff.store (rep := rVal) (x0 := .slice a2 (k + 1) c2) rfl rfl (V_val.2 ⟨rfl, rfl⟩) nna (List.Perm.swap _ _ _) (by simp [rVal]) (by intro l hl; cases hl) ?_)
      repeat (first | (refine Walk ?_; intros) | refine JC.block ?_)
      refine JX.perm (M' := [_, _, _]) (List.Perm.trans (List.Perm.swap _ _ _) (List.Perm.refl _)) ?_
      exact JX.roundF (k + 1, a2, c2, vs ++ [_]) (by exact lea) ⟨by dsimp only; omega, by (try dsimp only); rw [hst]; exact allV_add (by exact lea) hv1 (hP _) nna, by (try dsimp only); rw [hst2, hve]; unfold podW; rw [pqrt_at hx]⟩ (by (try dsimp only); omega) (by simp [flat_append]; rfl) (by exact sba) (by exact sba)
    · (refine JO.eff rfl rfl rfl (JEff.build (rep := rPod) (ys := [pd14 x y]) rfl rfl ⟨⟨hP _, nna⟩, trivial⟩ rfl rfl rfl rfl ?_); intro bb hbb hvv)
      repeat (first | (refine Walk ?_; intros) | refine JC.block ?_)
      refine JO.eff rfl rfl rfl (JEff.loadE (rVal) (x0 := .slice ra k rc) rfl (by (first | exact List.mem_cons_self | exact List.mem_cons_of_mem _ List.mem_cons_self | exact List.mem_cons_of_mem _ (List.mem_cons_of_mem _ List.mem_cons_self))) rfl ⟨rfl, rfl⟩ inferInstance rfl ?_)
      repeat (first | (refine Walk ?_; intros) | refine JC.block ?_)
      (refine JO.eff rfl rfl rfl (JEff.appendL (rep := rPod) rfl rfl rfl rfl (List.Perm.swap _ _ _) (by exact hvv.flat) (by intro c hc; exact flat_one (fun v hv => (hvv.size v hv).2) c hc) (by unfold big; omega) (by unfold big; omega) (by first | exact rowT_ok | (intro l hl; cases hl)) rfl ?_); intro a2 c2; clear hvv hbb)
      repeat (first | (refine Walk ?_; intros) | refine JC.block ?_)
      refine JO.pure rfl rfl rfl (JPure.fieldP rfl rfl ?_)
      refine JO.eff rfl rfl rfl (JEff.store (rep := rVal) (x0 := .slice a2 (k + 1) c2) rfl rfl (V_val.2 ⟨rfl, rfl⟩) nna (List.Perm.swap _ _ _) (by simp [rVal]) (by intro l hl; cases hl) ?_)
      repeat (first | (refine Walk ?_; intros) | refine JC.block ?_)
      refine JX.perm (M' := [_, _, _]) (List.Perm.trans (List.Perm.swap _ _ _) (List.Perm.refl _)) ?_
      exact JX.roundF (k + 1, a2, c2, vs ++ [_]) (by exact lea) ⟨by dsimp only; omega, by (try dsimp only); rw [hst]; exact allV_add (by exact lea) hv1 (hP _) nna, by (try dsimp only); rw [hst2, hve]; unfold podW; rw [pqrt_at hx]⟩ (by (try dsimp only); omega) (by simp [flat_append]; rfl) (by exact sba) (by exact sba)
  · obtain rfl : k = 4 := by have := of_decide_eq_false hc; omega
    obtain rfl : vs = podWs 20 := hve
    refine JC.rowBlkB (by decide) (fun pb tl ha hcap hsz => ?_)
    subst ha
    refine JC.blkNew rfl (fun hp0 hpb => ?_)
    refine JC.out (fun hout3 => ?_)
    have hpk := hout3 (.blk pb _) List.mem_cons_self pb rfl
    refine JC.freeze hpb (fun S9 hl9 hS9 => ?_)
    refine JC.freeze hsb (fun S10 hl10 hS10 => ?_)
    have hfin : PtrTo S10 ⟨sb, 0, none⟩ rRaw3 (.slice a4 2 2, .slice (some ⟨pb, 0, none⟩) 4 rc, .slice none 0 0) :=
      cells_ptr (v := .agg #[.slice a4 2 2, .slice (some ⟨pb, 0, none⟩) 4 rc, .slice none 0 0]) hS10 ⟨[_], [_, _], rfl, ⟨rfl, rfl⟩, [_], [_], rfl, ⟨rfl, rfl⟩, rfl, rfl⟩
    repeat (first | (refine Walk ?_; intros) | refine JC.block ?_)
    have hwv := (by assumption : rRaw3.V S10 _ (.slice a4 2 2, _, _))
    obtain ⟨cs, ⟨_, _, rfl, ⟨rfl, _⟩, _, _, rfl, ⟨rfl, _⟩, ⟨rfl, _⟩⟩, rfl⟩ := hwv
    refine JO.eff rfl rfl rfl (JEff.storeW (ht := hRaw) rfl rfl V_raw3 nna (List.Perm.refl _) rfl (by intro l hl; cases hl) ?_)
    refine JO.out (fun hout4 => ?_)
    have hrk := hout4 (.blk rb _) List.mem_cons_self rb rfl
    refine JO.freeze hrb (by intro l hl; cases hl) (fun S11 hl11 hS11 => ?_)
    repeat (first | (refine Walk ?_; intros) | refine JC.block ?_)
    have r2 := ne_none hrk ((show SHeap.le S9 S10 by exact lea) _ _ hS9)
    have h3 : SHeap.le S4 (S11.del pb) := SHeap.le_del (show SHeap.le S4 S11 by exact lea) (none_le (show SHeap.le S4 Sk by exact lea) hpk)
    have hrf := (SHeap.del_other r2.symm).trans hS11
    refine JX.thaw hp0 hpb ((show SHeap.le S9 S11 by exact lea) _ _ hS9) ?_
    refine JX.retCell (ht := hRaw) (x := (.slice a4 2 2, .slice (some ⟨pb, 0, none⟩) 4 rc, .slice none 0 0)) Tryz.results43 rfl (cells_ptr (rep := rRaw3) (v := .agg #[.slice a4 2 2, .slice (some ⟨pb, 0, none⟩) 4 rc, .slice none 0 0]) hrf ⟨[_], [_, _], rfl, ⟨rfl, rfl⟩, [_], [_], rfl, ⟨rfl, rfl⟩, rfl, rfl⟩) (List.Sublist.refl _) (fun w hw => ?_)
    obtain ⟨cs, ⟨_, _, rfl, ⟨rfl, _⟩, _, _, rfl, ⟨rfl, _⟩, ⟨rfl, _⟩⟩, rfl⟩ := hw
    exact ⟨_, pb, rc, tl, rfl, rfl, hcap, hV4.mono h3⟩
theorem chap14_V {S : SHeap} {na : Option Addr} {pb cap : Nat} {tl : List Value} {r : Int} {TP : TypeId} (hr : Rng r) (hcap : 4 ≤ cap) (hn : (rSlice 112 rNode).V S (.slice na 2 2) nodes14) (hp : S pb = some (.cells (cellsR (podWs r) tl) TP (0, 0))) : rSnap.V S (.agg #[.slice na 2 2, .slice (some ⟨pb, 0, none⟩) 4 cap, .slice none 0 0]) (chap14 r) :=
  V_snap (x := chap14 r) hn (slice_of_block (SHeap.le.refl _) hp (rep := rPod) (bt := 240) (xs := (chap14 r).pods) (vs := podWs r) (V_podsW hr) rfl hcap (by show 4 * 240 ≤ big; decide) (by show 4 ≤ big; decide) (take60 rfl)) V_nil
theorem q14_chapter {S : SHeap} : FnR Tryz.prog 43 #[] S (fun w S' => rSnap.V S' w (chap14 20)) := by
  refine Fn.frozen q14_chapterM fun w S' M' hw => ?_
  obtain ⟨na, pb, cap, tl, rfl, rfl, hcap, hn⟩ := hw
  exact .inr ⟨pb, _, rfl, fun S'' hl hS => chap14_V (by simp [Rng]) hcap (hn.mono hl) hS⟩
end Go.Dr
namespace Go.Dr
section
variable {C : Cx} {R : Rg} {Q : Post} {S : SHeap} {M : List MEnt} {e : Env} {rest : List Nat}
variable {d : Nat} {ty : TypeId} {pos : String} {aft : Array Edge} {g : Option (Nat × Bool)} {an : Bool}
theorem JPure.quo {t t' : TypeId} {x y : Operand} {a b : Int} (hx : ev e x = some (.int .i64 a)) (hy : ev e y = some (.int .i64 b)) (hb : b ≠ 0) (hr : Rng (a.tdiv b)) (hdN : Nat.blt d C.N = true) (k : JO C R rest Q S M ((d, .int .i64 (a.tdiv b)) :: e)) :
    JPure C R an ⟨some d, .binOp .quo t x y t', ty, pos, aft, g⟩ rest Q S M e :=
  JPure.of rfl hdN (fun a' w' h => by
    have hwr : IntKind.i64.wrap (a.tdiv b) = a.tdiv b := by rw [IntKind.wrap_i64]; unfold Rng at hr; omega
    simp [execOp, h.eval hx, h.eval hy, eqGuard, binOp, Op.intDiv, hb, Sem.run_bind, Sem.run_pure, Result.andThen, hwr]) k
theorem JPure.neg {t : TypeId} {x : Operand} {a : Int} (hx : ev e x = some (.int .i64 a)) (hr : Rng (-a)) (hdN : Nat.blt d C.N = true) (k : JO C R rest Q S M ((d, .int .i64 (-a)) :: e)) : JPure C R an ⟨some d, .unOp .neg t x, ty, pos, aft, g⟩ rest Q S M e :=
  JPure.of rfl hdN (fun a' w' h => by
    have hwr : IntKind.i64.wrap (-a) = -a := by rw [IntKind.wrap_i64]; unfold Rng at hr; omega
    have e1 : (Op.intArith .sub .i64 0 a).run C.P w' = .ok (.int .i64 (-a)) w' := by
      unfold Op.intArith
      rw [Int.zero_sub, hwr]; rfl
    simp [execOp, h.eval hx, Op.unary, e1, Result.andThen]) k
end
end Go.Dr
namespace Go.Dr
open Go.Proofs
set_option maxRecDepth 20000
set_option maxHeartbeats 2000000
set_option linter.unusedSimpArgs false
set_option linter.unusedVariables false
theorem used_nn {s : Snap} (h : checkS s = 0) {p : List Int} (hlen : p.length = s.pods.length) (n : Int) (k : Nat) : 0 ≤ at0 (usedV s p n) k := by
  obtain ⟨_, h2⟩ := used_fine h hlen n
  unfold at0
  rw [List.getD_eq_getElem?_getD]
  cases hz : (usedV s p n)[k]? with
  | none => simp
  | some z => exact (h2 z (List.mem_of_getElem? hz)).1
theorem leftV_rng (s : Snap) (p : List Int) (node : Int) : 0 ≤ leftV s p node ∧ leftV s p node ≤ 5000 := by
  unfold leftV
  split
  · rename_i h
    obtain ⟨hs, hlen, _⟩ := checkP_ok h.1
    have := leftTo_rng (cap := capOf s node.toNat) (used_nn hs hlen node) 5
    omega
  · omega
theorem left_no {s : Snap} {p : List Int} {node : Int} (h : ¬ (checkP s p = 0 ∧ 0 ≤ node ∧ node < s.nodes.length)) : leftV s p node = 0 := by unfold leftV; rw [if_neg h]
theorem p7_Used_eq {S : SHeap} {u v : Value} {s : Snap} {p l : List Int} {node : Int} (h : usedP s p node = l) (hu : rSnap.V S u s) (hv : (rSlice 8 rI64).V S v p) : FnV Tryz.prog 54 #[u, v, .int .i64 node] S (.agg (ints l)) := by
  have hh := p7_Used node hu hv
  rw [h] at hh; exact hh
theorem s31_L14a {P K : Prop} (k : K) (h : Goal K → P := by
  intro zk
  (first | refine Walk ?_ | refine JC.block ?_ | (refine JO.eff rfl rfl rfl (JEff.callV rfl (p7_Check (by exact vta) (by exact vta)) rfl ?_); intro zqa zqb) | (refine WBox ?_) | (refine WNew ?_) | (refine WPut ?_))
  (repeat (first | revert zqg | revert zqf | revert zqe | revert zqd | revert zqc | revert zqb | revert zqa))
  exact zk.k) : P := h ⟨k⟩
theorem p14_Left {S : SHeap} {u v : Value} {s : Snap} {p : List Int} (node : Int) (hu : rSnap.V S u s) (hv : (rSlice 8 rI64).V S v p) : FnV Tryz.prog 31 #[u, v, .int .i64 node] S (.int .i64 (leftV s p node)) := by
  (refine Fn.enter (args := [u, v, .int .i64 node]) Tryz.func31 rfl Tryz.ntmps31 rfl ?_; intro w0)
  repeat (refine s31_L14a ?_; intros)
  by_cases hc : checkP s p = 0
  · rw [decide_eq_true hc]
    repeat (refine s31_L14a ?_; intros)
    by_cases h0 : node < 0
    · rw [decide_eq_true h0, left_no (by omega)]
      repeat (refine s31_L14a ?_; intros)
      (refine JX.ret1 Tryz.results31 (ResV.tmp rfl) (List.nil_sublist _) ?_)
      exact ⟨rfl, rfl⟩
    rw [decide_eq_false h0]
    repeat (refine s31_L14a ?_; intros)
    by_cases h1 : (s.nodes.length : Int) ≤ node
    · rw [decide_eq_true h1, left_no (by omega)]
      repeat (refine s31_L14a ?_; intros)
      (refine JX.ret1 Tryz.results31 (ResV.tmp rfl) (List.nil_sublist _) ?_)
      exact ⟨rfl, rfl⟩
    rw [decide_eq_false h1]
    obtain ⟨hs, hlen, _⟩ := checkP_ok hc
    obtain ⟨x, hx⟩ : ∃ x, s.nodes[node.toNat]? = some x := ⟨_, List.getElem?_eq_getElem (by omega)⟩
    have hxm := List.mem_of_getElem? hx
    have hxr := shaped_cap (checkS_ok hs).1 x hxm
    obtain ⟨hul, hur⟩ := used_fine hs hlen node
    have hU : (rArr 5).V S (.agg (ints (usedV s p node))) (usedV s p node) := V_arr.2 ⟨rfl, hul, fun z hz => by have := hur z hz; unfold Qty at this; unfold Rng; omega⟩
    have hcap : capOf s node.toNat = x.cap := by simp [capOf, hx]
    have hlv : leftV s p node = leftTo x.cap (usedV s p node) 5 := by unfold leftV; rw [if_pos ⟨hc, by omega, by omega⟩, hcap]
    have hlr := leftTo_rng (cap := x.cap) (used_nn hs hlen node)
    have hcl := (snap_caps (by assumption : PtrTo _ _ rSnap s) x hxm).1
    have hus : usedP s p node = usedV s p node := by unfold usedP; rw [if_pos (by simp [z0, hc]; omega)]
    rw [hlv]
    repeat (first | (refine Walk ?_; intros) | refine JC.block ?_ | (refine JO.eff rfl rfl rfl (JEff.callV rfl (p7_Used_eq hus (by exact vta) (by exact vta)) rfl ?_); intro _ _) | (refine JO.eff rfl rfl rfl (JEff.callV rfl (p7_Check (by exact vta) (by exact vta)) rfl ?_); intro _ _) | (refine WBox ?_; intros) | (refine WNew ?_; intros) | (refine WPut ?_; intros))
    obtain ⟨rfl, _, _⟩ := V_arr.1 (by assumption : (rArr 5).V _ _ x.cap)
    refine JC.loopF0 (σ := Nat) [(7, _), (34, _)] (fun q => [(6, .int .i64 (leftTo x.cap (usedV s p node) q)), (35, .int .i64 q)]) (fun Si q => q ≤ 5) (fun q => 5 - q) (0) (by exact sba) (by exact sba) (by omega) ?_; rintro Si k hli hii; (try dsimp only at hii); dsimp only [List.cons_append, List.nil_append]
    repeat (refine s31_L14a ?_; intros)
    refine JC.cond rfl (fun hc2 => ?_) (fun hc2 => ?_)
    · have hk' := dlt5 hc2
      obtain ⟨z, hz⟩ : ∃ z, (usedV s p node)[k]? = some z := ⟨_, List.getElem?_eq_getElem (by omega)⟩
      obtain ⟨y, hy⟩ : ∃ y, x.cap[k]? = some y := ⟨_, List.getElem?_eq_getElem (by omega)⟩
      have hzr := hur z (List.mem_of_getElem? hz)
      have hyr := hxr y (List.mem_of_getElem? hy)
      have hz0 := at0_some hz
      have hy0 := at0_some hy
      have h5 := hlr k
      have hst : leftTo x.cap (usedV s p node) (k + 1) = leftTo x.cap (usedV s p node) k + left1 y z := by simp only [leftTo, hz0, hy0]
      have hl2 := left1_rng (c := y) (u := z) (by omega)
      unfold Qty at hzr hyr
      repeat (refine s31_L14a ?_; intros)
      refine JO.pure rfl rfl rfl (JPure.indexV rfl rfl rfl (by omega) (by omega) (by simpa using hy) ?_)
      repeat (refine s31_L14a ?_; intros)
      by_cases hy1 : 0 < y
      · rw [decide_eq_true hy1]
        have hl1 : left1 y z = (1000 * max 0 (y - z)).tdiv y := if_pos hy1
        repeat (refine s31_L14a ?_; intros)
        refine JO.pure rfl rfl rfl (JPure.quo rfl rfl (by omega) (by rw [← hl1]; unfold Rng; omega) rfl ?_)
        rw [← hl1]
        repeat (refine s31_L14a ?_; intros)
        exact JX.roundF (k + 1) (by exact lea) (by omega) (by (try dsimp only); omega) rfl (by (try dsimp only); rw [hst]; exact sba) (by exact sba)
      · rw [decide_eq_false hy1]
        have hl1 : left1 y z = 0 := if_neg hy1
        rw [hl1, Int.add_zero] at hst
        repeat (refine s31_L14a ?_; intros)
        exact JX.roundF (k + 1) (by exact lea) (by omega) (by (try dsimp only); omega) rfl (by (try dsimp only); rw [hst]; exact sba) (by exact sba)
    · have hk' := dnlt5 hc2
      obtain rfl : k = 5 := by omega
      repeat (refine s31_L14a ?_; intros)
      (refine JX.ret1 Tryz.results31 (ResV.tmp rfl) (List.nil_sublist _) ?_)
      exact ⟨rfl, rfl⟩
  · rw [decide_eq_false hc, left_no (fun h => hc h.1)]
    repeat (refine s31_L14a ?_; intros)
    (refine JX.ret1 Tryz.results31 (ResV.tmp rfl) (List.nil_sublist _) ?_)
    exact ⟨rfl, rfl⟩
end Go.Dr
namespace Go.Dr
open Go.Proofs
set_option maxRecDepth 20000
set_option maxHeartbeats 2000000
set_option linter.unusedSimpArgs false
set_option linter.unusedVariables false
def rSizes : Rp (Snap × List Int) := rSeq rSnap (rArr 5)
instance : Fld rSizes 0 rSnap Prod.fst := ⟨Part.first⟩
instance : Fld rSizes 3 (rArr 5) Prod.snd := ⟨Part.last rfl⟩
instance : TyR Tryz.prog 104 rSizes := ⟨by kernel_rfl⟩
def mostL (s : Snap) : List Int := (List.range 5).map (mostV s)
theorem mostL_at (s : Snap) {k : Nat} (h : k < 5) : (mostL s)[k]? = some (mostV s k) := by
  unfold mostL
  rw [List.getElem?_map, List.getElem?_range h]; rfl
theorem mostTo_rng {s : Snap} (h : checkS s = 0) (k : Nat) : ∀ i : Nat, 0 ≤ mostTo s k i ∧ mostTo s k i ≤ Qty
  | 0 => by simp [mostTo, Qty]
  | i + 1 => by
    have ih := mostTo_rng h k i
    have h1 : 0 ≤ at0 (capOf s i) k ∧ at0 (capOf s i) k ≤ Qty := by
      unfold capOf at0
      cases hn : s.nodes[i]? with
      | none => simp [Qty]
      | some x =>
        have hx := shaped_cap (checkS_ok h).1 x (List.mem_of_getElem? hn)
        rw [List.getD_eq_getElem?_getD]
        cases hz : x.cap[k]? with
        | none => simp [Qty, hz]
        | some z => simpa [hz] using hx z (List.mem_of_getElem? hz)
    simp only [mostTo]; omega
theorem size1_rng {m r : Int} (hr : 0 ≤ r ∧ r ≤ Qty) : 0 ≤ size1 m r ∧ size1 m r ≤ 1000 * Qty := by
  unfold size1
  split
  · rename_i h
    have h0 : 0 ≤ 1000 * r := by omega
    rw [Int.tdiv_eq_ediv_of_nonneg h0]
    refine ⟨Int.ediv_nonneg h0 (by omega), ?_⟩
    have := Int.ediv_le_self m h0
    omega
  · unfold Qty; omega
theorem shaped_req2 {s : Snap} (h : shapedB s = true) : ∀ x ∈ s.pods, ∀ z ∈ x.req, 0 ≤ z ∧ z ≤ Qty := by
  intro x hx
  unfold shapedB at h
  simp only [Bool.and_eq_true, List.all_eq_true] at h
  have h1 := h.2.1.2 x hx
  unfold podB at h1
  simp only [Bool.and_eq_true] at h1
  exact check_vec h1.1.1.2.1.1.1
theorem req_rng {s : Snap} (h : checkS s = 0) (i k : Nat) : 0 ≤ at0 (reqOf s i) k ∧ at0 (reqOf s i) k ≤ Qty := by
  unfold reqOf at0
  cases hn : s.pods[i]? with
  | none => simp [Qty]
  | some x =>
    have hx := shaped_req2 (checkS_ok h).1 x (List.mem_of_getElem? hn)
    rw [List.getD_eq_getElem?_getD]
    cases hz : x.req[k]? with
    | none => simp [Qty, hz]
    | some z => simpa [hz] using hx z (List.mem_of_getElem? hz)
theorem sizeTo_rng {s : Snap} (h : checkS s = 0) (pod : Int) : ∀ k : Nat, 0 ≤ sizeTo s pod k ∧ sizeTo s pod k ≤ 1000 * Qty
  | 0 => by simp [sizeTo, Qty]
  | k + 1 => by
    have ih := sizeTo_rng h pod k
    have := size1_rng (m := mostV s k) (req_rng h pod.toNat k)
    simp only [sizeTo]; omega
theorem p14_small {S : SHeap} {xv : Value} {s : Snap} {pod : Int} (hx0 : rSizes.V S xv (s, mostL s)) (hs : checkS s = 0) (h0 : 0 ≤ pod) (h1 : pod < s.pods.length) (hrl : ∀ x ∈ s.pods, x.req.length = 5) : FnV Tryz.prog 65 #[xv, .int .i64 pod] S (.int .i64 (-sizeV s pod)) := by
  obtain ⟨x, hx⟩ : ∃ x, s.pods[pod.toNat]? = some x := ⟨_, List.getElem?_eq_getElem (by omega)⟩
  have hxl := hrl x (List.mem_of_getElem? hx)
  (refine Fn.enter (args := [xv, .int .i64 pod]) Tryz.func65 rfl Tryz.ntmps65 rfl ?_; intro w0)
  repeat (first | (refine Walk ?_; intros) | refine JC.block ?_ | (refine WBox ?_; intros))
  obtain ⟨rfl, hml, _⟩ := V_arr.1 (by assumption : (rArr 5).V _ _ (s, mostL s).2)
  refine JC.loopF0 (σ := Nat) [(1, _), (2, _), (8, _)] (fun q => [(4, .int .i64 (sizeTo s pod q)), (9, .int .i64 q)]) (fun Si q => q ≤ 5) (fun q => 5 - q) (0) (by exact sba) (by exact sba) (by omega) ?_; rintro Si k hli hii; (try dsimp only at hii); dsimp only [List.cons_append, List.nil_append]
  repeat (first | (refine Walk ?_; intros) | refine JC.block ?_ | (refine WBox ?_; intros))
  refine JC.cond rfl (fun hc2 => ?_) (fun hc2 => ?_)
  · have hk' := dlt5 hc2
    obtain ⟨y, hy⟩ : ∃ y, x.req[k]? = some y := ⟨_, List.getElem?_eq_getElem (by omega)⟩
    have hm := mostL_at s hk'
    have hmr := mostTo_rng hs k s.nodes.length
    have hy0 := at0_some hy
    have hrr := req_rng hs pod.toNat k
    have hrq : reqOf s pod.toNat = x.req := by simp [reqOf, hx]
    rw [hrq, hy0] at hrr
    have h5 := sizeTo_rng hs pod k
    have hst : sizeTo s pod (k + 1) = max (sizeTo s pod k) (size1 (mostV s k) y) := by simp only [sizeTo, hrq, hy0]
    have hs1 := size1_rng (m := mostV s k) hrr
    have hmv : mostV s k = mostTo s k s.nodes.length := rfl
    unfold Qty at hmr hrr h5 hs1
    repeat (first | (refine Walk ?_; intros) | refine JC.block ?_ | (refine WBox ?_; intros))
    refine JO.pure rfl rfl rfl (JPure.indexV rfl rfl rfl (by omega) (by omega) (by simpa using hm) ?_)
    repeat (first | (refine Walk ?_; intros) | refine JC.block ?_ | (refine WBox ?_; intros))
    by_cases hy1 : 0 < mostV s k
    · rw [decide_eq_true hy1]
      have hl1 : size1 (mostV s k) y = (1000 * y).tdiv (mostV s k) := if_pos hy1
      repeat (first | (refine Walk ?_; intros) | refine JC.block ?_ | (refine WBox ?_; intros))
      refine JO.pure rfl rfl rfl (JPure.quo rfl rfl (by omega) (by rw [← hl1]; unfold Rng; omega) rfl ?_)
      rw [← hl1]
      repeat (first | (refine Walk ?_; intros) | refine JC.block ?_ | (refine WBox ?_; intros))
      exact JX.roundF (k + 1) (by exact lea) (by omega) (by (try dsimp only); omega) rfl (by (try dsimp only); rw [hst]; exact sba) (by exact sba)
    · rw [decide_eq_false hy1]
      have hl1 : size1 (mostV s k) y = 0 := if_neg hy1
      rw [hl1, show max (sizeTo s pod k) 0 = sizeTo s pod k by omega] at hst
      repeat (first | (refine Walk ?_; intros) | refine JC.block ?_ | (refine WBox ?_; intros))
      exact JX.roundF (k + 1) (by exact lea) (by omega) (by (try dsimp only); omega) rfl (by (try dsimp only); rw [hst]; exact sba) (by exact sba)
  · have hk' := dnlt5 hc2
    obtain rfl : k = 5 := by omega
    have h5 := sizeTo_rng hs pod 5
    unfold Qty at h5
    repeat (first | (refine Walk ?_; intros) | refine JC.block ?_ | (refine WBox ?_; intros))
    refine JO.pure rfl rfl rfl (JPure.neg rfl (by unfold Rng; omega) rfl ?_)
    repeat (first | (refine Walk ?_; intros) | refine JC.block ?_ | (refine WBox ?_; intros))
    (refine JX.ret1 Tryz.results65 (ResV.tmp rfl) (List.nil_sublist _) ?_)
    exact ⟨rfl, rfl⟩
end Go.Dr
namespace Go.Proofs
open Go.Shelf
def Tryz.layDF_ren : Go.Shelf.Ren := ⟨fun | 10 => 62 | 6 => 93 | n => n, fun | 22 => 28 | 23 => 3 | 25 => 93 | 3 => 3 | 4 => 4 | 0 => 0 | n => n, fun | n => n⟩
theorem Tryz.layDF : Go.Proofs.SlLaysH.n10 Tryz.prog Tryz.layDF_ren := {
  mixed := by kernel_rfl
  f6 := ⟨Tryz.f93.name, by decide, Tryz.func93.trans (congrArg some (by kernel_rfl))⟩
  f10 := ⟨Tryz.f62.name, by decide, Tryz.func62.trans (congrArg some (by kernel_rfl))⟩
  t0 := Tryz.underlying0
  a0 := Tryz.isAgg0
  z0 := Tryz.sizeOf0
  v0 := Tryz.zeroValue0
  t3 := Tryz.underlying3
  a3 := Tryz.isAgg3
  z3 := Tryz.sizeOf3
  v3 := Tryz.zeroValue3
  t4 := Tryz.underlying4
  a4 := Tryz.isAgg4
  z4 := Tryz.sizeOf4
  v4 := Tryz.zeroValue4
  t22 := Tryz.underlying28
  a22 := Tryz.isAgg28
  z22 := Tryz.sizeOf28
  v22 := Tryz.zeroValue28
  a23 := Tryz.isAgg3
  z23 := Tryz.sizeOf3
  t25 := Tryz.underlying93
  a25 := Tryz.isAgg93
  z25 := Tryz.sizeOf93
  v25 := Tryz.zeroValue93 }
def Tryz.layCP_ren : Go.Shelf.Ren := ⟨fun | 43 => 64 | n => n, fun | 22 => 28 | 23 => 3 | 3 => 3 | 4 => 4 | 0 => 0 | n => n, fun | n => n⟩
theorem Tryz.layCP : Go.Proofs.SlLaysE.n43 Tryz.prog Tryz.layCP_ren := {
  mixed := by kernel_rfl
  f43 := ⟨Tryz.f64.name, by decide, Tryz.func64.trans (congrArg some (by kernel_rfl))⟩
  t0 := Tryz.underlying0
  a0 := Tryz.isAgg0
  z0 := Tryz.sizeOf0
  v0 := Tryz.zeroValue0
  t3 := Tryz.underlying3
  a3 := Tryz.isAgg3
  z3 := Tryz.sizeOf3
  v3 := Tryz.zeroValue3
  t4 := Tryz.underlying4
  a4 := Tryz.isAgg4
  z4 := Tryz.sizeOf4
  v4 := Tryz.zeroValue4
  t22 := Tryz.underlying28
  a22 := Tryz.isAgg28
  z22 := Tryz.sizeOf28
  v22 := Tryz.zeroValue28
  a23 := Tryz.isAgg3
  z23 := Tryz.sizeOf3 }
end Go.Proofs
namespace Go.Dr
open Go.Proofs
theorem zeroInt : ∀ w, (zeroValue 3).run Tryz.prog w = .ok (.int .i64 0) w := fun w => by
  have hz : Zero Tryz.prog 3 (.int .i64 0) := inferInstance
  obtain ⟨i, hi, hz'⟩ := Option.map_eq_some_iff.1 hz.h
  simp [zeroValue, typeInfo, hi, hz']
theorem p_DeleteFunc {S : SHeap} {b cap n : Nat} {E : TypeId} {tl : List Value} (xs : List Int) (p : Int → Bool) (g : Nat) (lb : Array Value) (eg : ∀ args w, (callFunc g args).run Tryz.prog w = .ok (.enter g args) w) (hn : n = xs.length) (hb : n ≤ 1000000) (hc : n ≤ cap)
    (hgive : ∀ W, Agree S W → ∀ x : Int, FnGives Tryz.prog g lb #[.int .i64 x] (.bool (p x)) W) :
    Fn Tryz.prog 62 #[.slice (some ⟨b, 0, none⟩) n cap, .func (.func g) #[] lb] S [.blk b (.cells (intsT xs tl) E (0, 0))]
      (fun v S' M' => v = .slice (some ⟨b, 0, none⟩) (xs.filter fun x => !p x).length cap ∧ S' = S ∧ ∃ tl', M' = [.blk b (.cells (intsT (xs.filter fun x => !p x) tl') E (0, 0))]) := by
  subst hn
  exact delFunc_fn Tryz.layDF p g lb eg zeroInt xs hb hc hgive
theorem p_CompactI {S : SHeap} {b cap n : Nat} {E : TypeId} {tl : List Value} (xs : List Int) (hn : n = xs.length) (hb : n ≤ 1000000) (hc : n ≤ cap) :
    Fn Tryz.prog 64 #[.slice (some ⟨b, 0, none⟩) n cap] S [.blk b (.cells (intsT xs tl) E (0, 0))]
      (fun v S' M' => v = .slice (some ⟨b, 0, none⟩) (Lib.compact xs).length cap ∧ S' = S ∧ ∃ tl', M' = [.blk b (.cells (intsT (Lib.compact xs) tl') E (0, 0))]) := by
  subst hn
  exact compact_fn Tryz.layCP (EqlAt.intD _ _ _) (NeqAt.intD _ _ _) zeroInt xs hb hc
end Go.Dr
namespace Go.Dr
open Go.Proofs Go.RowKit Go.Lib
set_option maxRecDepth 20000
set_option maxHeartbeats 2000000
set_option linter.unusedSimpArgs false
set_option linter.unusedVariables false
theorem pods_cell {S : SHeap} {q : Addr} {s : Snap} (hq : PtrTo S q rSnap s) : ∃ a c, S.cell? (q.add 1) = some (.slice a s.pods.length c) := by
  obtain ⟨cs, hR, hcs⟩ := hq
  obtain ⟨c1, r1, rfl, h1, c2, r2, rfl, h2, h3⟩ := hR
  obtain ⟨a1, n1, k1, rfl, _⟩ := h1
  obtain ⟨a2, n2, k2, rfl, hl, _⟩ := h2
  subst hl
  exact ⟨a2, k2, hcs 1 _ rfl⟩
theorem p14_in {S : SHeap} {q : Addr} {s : Snap} (hq : PtrTo S q rSnap s) : ∀ W, Agree S W → ∀ x : Int, FnGives Tryz.prog 63 #[.pointer (some q)] #[.int .i64 x] (.bool (decide (x < 0) || decide ((s.pods.length : Int) ≤ x))) W := by
  intro W hg x
  obtain ⟨pa, pc, hc⟩ := pods_cell hq
  have e : q.add 1 = ⟨q.block, q.off + 1, none⟩ := by simp [Addr.add]
  have hc := hg.cell hc
  rw [e] at hc
  show Calls Tryz.prog 63 #[.int .i64 x, .pointer (some q)] W _
  generalize s.pods.length = n at hc ⊢
  go_enter Tryz.func63, Tryz.ntmps63
  go_wp2
  all_goals (go_ret; exact ⟨by simp_all, 0, rfl⟩)
theorem p_CompactI0 {S : SHeap} (a : Option Addr) (c : Nat) : FnV Tryz.prog 64 #[.slice a 0 c] S (.slice a 0 c) := by
  (refine Fn.enter (args := [.slice a 0 c]) Tryz.func64 rfl Tryz.ntmps64 rfl ?_; intro w0)
  repeat (first | (refine Walk ?_; intros) | refine JC.block ?_ | refine JC.drawN 6 rfl [0, 1, 2, 3, 4, 5, 6, 7, 8, 9] [0, 1, 2, 3, 4, 5, 6, 7, 8, 9] Tryz_mixed (by decide +kernel) ?_ | refine JC.drawN 11 rfl [0, 1, 2, 3, 4, 5, 6, 7, 8, 9] [0, 1, 2, 3, 4, 5, 6, 7, 8, 9] Tryz_mixed (by decide +kernel) ?_)
  (refine JX.ret1 Tryz.results64 (ResV.tmp rfl) (List.nil_sublist _) ?_)
  exact ⟨rfl, rfl⟩
theorem p_IndexFunc0 {S : SHeap} (a : Option Addr) (c : Nat) (f : Value) : FnV Tryz.prog 93 #[.slice a 0 c, f] S (.int .i64 (-1)) := by
  (refine Fn.enter (args := [.slice a 0 c, f]) Tryz.func93 rfl Tryz.ntmps93 rfl ?_; intro w0)
  repeat (first | (refine Walk ?_; intros) | refine JC.block ?_)
  refine JC.loopF0 (σ := Unit) [(0, _), (1, _), (7, _)] (fun q => [(8, .int .i64 0)]) (fun Si q => True) (fun q => 0) (()) (by exact sba) (by exact sba) (trivial) ?_; rintro Si k hli hii; (try dsimp only at hii); dsimp only [List.cons_append, List.nil_append]
  repeat (first | (refine Walk ?_; intros) | refine JC.block ?_)
  (refine JX.ret1 Tryz.results93 (ResV.tmp rfl) (List.nil_sublist _) ?_)
  exact ⟨rfl, rfl⟩
theorem p_DeleteFuncI0 {S : SHeap} (a : Option Addr) (c : Nat) (f : Value) : FnV Tryz.prog 62 #[.slice a 0 c, f] S (.slice a 0 c) := by
  (refine Fn.enter (args := [.slice a 0 c, f]) Tryz.func62 rfl Tryz.ntmps62 rfl ?_; intro w0)
  repeat (first | (refine Walk ?_; intros) | refine JC.block ?_ | (refine JO.eff rfl rfl rfl (JEff.callV rfl (p_IndexFunc0 _ _ _) rfl ?_); intro _ _))
  (refine JX.ret1 Tryz.results62 (ResV.tmp rfl) (List.nil_sublist _) ?_)
  exact ⟨rfl, rfl⟩
end Go.Dr
namespace Go.Proofs
open Go.Shelf
def Tryz.lays189_ren : Go.Shelf.Ren := ⟨fun | 189 => 61 | 125 => 104 | 257 => 103 | 128 => 153 | 129 => 154 | 294 => 144 | 295 => 145 | 296 => 146 | 297 => 147 | 298 => 148 | 299 => 149 | 216 => 150 | 300 => 151 | 301 => 152 | 328 => 206 | 329 => 207 | 330 => 208 | 331 => 209 | 332 => 210 | 215 => 141 | 343 => 246 | n => n, fun | 28 => 28 | 3 => 3 | 46 => 150 | 0 => 0 | 51 => 192 | 53 => 194 | 4 => 4 | 183 => 186 | 182 => 185 | 131 => 65 | 5 => 5 | 9 => 9 | 218 => 229 | 222 => 233 | 228 => 253 | 229 => 254 | n => n, fun | n => n⟩
theorem Tryz.lays189 : Go.Proofs.Lays.n189 Tryz.prog Tryz.lays189_ren := {
  mixed := by kernel_rfl
  f125 := Tryz.func104.trans (congrArg some (by kernel_rfl))
  f128 := Tryz.func153.trans (congrArg some (by kernel_rfl))
  f129 := Tryz.func154.trans (congrArg some (by kernel_rfl))
  f189 := Tryz.func61.trans (congrArg some (by kernel_rfl))
  f215 := Tryz.func141.trans (congrArg some (by kernel_rfl))
  f216 := Tryz.func150.trans (congrArg some (by kernel_rfl))
  f257 := Tryz.func103.trans (congrArg some (by kernel_rfl))
  f294 := Tryz.func144.trans (congrArg some (by kernel_rfl))
  f295 := Tryz.func145.trans (congrArg some (by kernel_rfl))
  f296 := Tryz.func146.trans (congrArg some (by kernel_rfl))
  f297 := Tryz.func147.trans (congrArg some (by kernel_rfl))
  f298 := Tryz.func148.trans (congrArg some (by kernel_rfl))
  f299 := Tryz.func149.trans (congrArg some (by kernel_rfl))
  f300 := Tryz.func151.trans (congrArg some (by kernel_rfl))
  f301 := Tryz.func152.trans (congrArg some (by kernel_rfl))
  f328 := Tryz.func206.trans (congrArg some (by kernel_rfl))
  f329 := Tryz.func207.trans (congrArg some (by kernel_rfl))
  f330 := Tryz.func208.trans (congrArg some (by kernel_rfl))
  f331 := Tryz.func209.trans (congrArg some (by kernel_rfl))
  f332 := Tryz.func210.trans (congrArg some (by kernel_rfl))
  f343 := Tryz.func246.trans (congrArg some (by kernel_rfl))
  t0 := Tryz.underlying0
  a0 := Tryz.isAgg0
  z0 := Tryz.sizeOf0
  v0 := Tryz.zeroValue0
  t3 := Tryz.underlying3
  a3 := Tryz.isAgg3
  z3 := Tryz.sizeOf3
  v3 := Tryz.zeroValue3
  t4 := Tryz.underlying4
  a4 := Tryz.isAgg4
  z4 := Tryz.sizeOf4
  v4 := Tryz.zeroValue4
  t5 := Tryz.underlying5
  a5 := Tryz.isAgg5
  z5 := Tryz.sizeOf5
  v5 := Tryz.zeroValue5
  t9 := Tryz.underlying9
  a9 := Tryz.isAgg9
  z9 := Tryz.sizeOf9
  v9 := Tryz.zeroValue9
  t28 := Tryz.underlying28
  a28 := Tryz.isAgg28
  z28 := Tryz.sizeOf28
  v28 := Tryz.zeroValue28
  t46 := Tryz.underlying150
  a46 := Tryz.isAgg150
  z46 := Tryz.sizeOf150
  v46 := Tryz.zeroValue150
  t51 := Tryz.underlying192
  a51 := Tryz.isAgg192
  z51 := Tryz.sizeOf192
  v51 := Tryz.zeroValue192
  t53 := Tryz.underlying194
  a53 := Tryz.isAgg194
  z53 := Tryz.sizeOf194
  v53 := Tryz.zeroValue194
  t131 := Tryz.underlying65
  a131 := Tryz.isAgg65
  z131 := Tryz.sizeOf65
  v131 := Tryz.zeroValue65
  t182 := Tryz.underlying185
  a182 := Tryz.isAgg185
  z182 := Tryz.sizeOf185
  v182 := Tryz.zeroValue185
  t183 := Tryz.underlying186
  a183 := Tryz.isAgg186
  z183 := Tryz.sizeOf186
  v183 := Tryz.zeroValue186
  t218 := Tryz.underlying229
  a218 := Tryz.isAgg229
  z218 := Tryz.sizeOf229
  v218 := Tryz.zeroValue229
  t222 := Tryz.underlying233
  a222 := Tryz.isAgg233
  z222 := Tryz.sizeOf233
  v222 := Tryz.zeroValue233
  t228 := Tryz.underlying253
  a228 := Tryz.isAgg253
  z228 := Tryz.sizeOf253
  v228 := Tryz.zeroValue253
  t229 := Tryz.underlying254
  a229 := Tryz.isAgg254
  z229 := Tryz.sizeOf254
  v229 := Tryz.zeroValue254 }
def Tryz.laySF_ren : Go.Shelf.Ren := ⟨fun | 6 => 96 | 15 => 104 | 14 => 140 | 28 => 153 | 29 => 154 | 20 => 194 | 21 => 195 | 22 => 196 | 23 => 197 | 24 => 198 | 25 => 199 | 26 => 200 | 27 => 201 | 46 => 236 | 47 => 207 | 48 => 208 | 49 => 237 | 50 => 238 | 57 => 258 | n => n, fun | 22 => 28 | 24 => 3 | 25 => 87 | 3 => 3 | 39 => 150 | 0 => 0 | 53 => 192 | 55 => 194 | 4 => 4 | 46 => 186 | 45 => 185 | 50 => 65 | 5 => 5 | 9 => 9 | 66 => 229 | 70 => 233 | 76 => 253 | 77 => 254 | n => n, fun | n => n⟩
theorem Tryz.laySF : Go.Proofs.SlLaysF.n6 Tryz.prog Tryz.laySF_ren := {
  mixed := by kernel_rfl
  f6 := ⟨Tryz.f96.name, by decide, Tryz.func96.trans (congrArg some (by kernel_rfl))⟩
  f14 := ⟨Tryz.f140.name, by decide, Tryz.func140.trans (congrArg some (by kernel_rfl))⟩
  f15 := Tryz.func104.trans (congrArg some (by kernel_rfl))
  f20 := ⟨Tryz.f194.name, by decide, Tryz.func194.trans (congrArg some (by kernel_rfl))⟩
  f21 := ⟨Tryz.f195.name, by decide, Tryz.func195.trans (congrArg some (by kernel_rfl))⟩
  f22 := ⟨Tryz.f196.name, by decide, Tryz.func196.trans (congrArg some (by kernel_rfl))⟩
  f23 := ⟨Tryz.f197.name, by decide, Tryz.func197.trans (congrArg some (by kernel_rfl))⟩
  f24 := ⟨Tryz.f198.name, by decide, Tryz.func198.trans (congrArg some (by kernel_rfl))⟩
  f25 := ⟨Tryz.f199.name, by decide, Tryz.func199.trans (congrArg some (by kernel_rfl))⟩
  f26 := ⟨Tryz.f200.name, by decide, Tryz.func200.trans (congrArg some (by kernel_rfl))⟩
  f27 := ⟨Tryz.f201.name, by decide, Tryz.func201.trans (congrArg some (by kernel_rfl))⟩
  f28 := Tryz.func153.trans (congrArg some (by kernel_rfl))
  f29 := Tryz.func154.trans (congrArg some (by kernel_rfl))
  f46 := ⟨Tryz.f236.name, by decide, Tryz.func236.trans (congrArg some (by kernel_rfl))⟩
  f47 := Tryz.func207.trans (congrArg some (by kernel_rfl))
  f48 := Tryz.func208.trans (congrArg some (by kernel_rfl))
  f49 := ⟨Tryz.f237.name, by decide, Tryz.func237.trans (congrArg some (by kernel_rfl))⟩
  f50 := ⟨Tryz.f238.name, by decide, Tryz.func238.trans (congrArg some (by kernel_rfl))⟩
  f57 := ⟨Tryz.f258.name, by decide, Tryz.func258.trans (congrArg some (by kernel_rfl))⟩
  t0 := Tryz.underlying0
  a0 := Tryz.isAgg0
  z0 := Tryz.sizeOf0
  v0 := Tryz.zeroValue0
  t3 := Tryz.underlying3
  a3 := Tryz.isAgg3
  z3 := Tryz.sizeOf3
  v3 := Tryz.zeroValue3
  t4 := Tryz.underlying4
  a4 := Tryz.isAgg4
  z4 := Tryz.sizeOf4
  v4 := Tryz.zeroValue4
  t5 := Tryz.underlying5
  a5 := Tryz.isAgg5
  z5 := Tryz.sizeOf5
  v5 := Tryz.zeroValue5
  t9 := Tryz.underlying9
  a9 := Tryz.isAgg9
  z9 := Tryz.sizeOf9
  v9 := Tryz.zeroValue9
  t22 := Tryz.underlying28
  a22 := Tryz.isAgg28
  z22 := Tryz.sizeOf28
  v22 := Tryz.zeroValue28
  a24 := Tryz.isAgg3
  z24 := Tryz.sizeOf3
  t25 := Tryz.underlying87
  a25 := Tryz.isAgg87
  z25 := Tryz.sizeOf87
  v25 := Tryz.zeroValue87
  t39 := Tryz.underlying150
  a39 := Tryz.isAgg150
  z39 := Tryz.sizeOf150
  v39 := Tryz.zeroValue150
  t45 := Tryz.underlying185
  a45 := Tryz.isAgg185
  z45 := Tryz.sizeOf185
  v45 := Tryz.zeroValue185
  t46 := Tryz.underlying186
  a46 := Tryz.isAgg186
  z46 := Tryz.sizeOf186
  v46 := Tryz.zeroValue186
  t50 := Tryz.underlying65
  a50 := Tryz.isAgg65
  z50 := Tryz.sizeOf65
  v50 := Tryz.zeroValue65
  t53 := Tryz.underlying192
  a53 := Tryz.isAgg192
  z53 := Tryz.sizeOf192
  v53 := Tryz.zeroValue192
  t55 := Tryz.underlying194
  a55 := Tryz.isAgg194
  z55 := Tryz.sizeOf194
  v55 := Tryz.zeroValue194
  t66 := Tryz.underlying229
  a66 := Tryz.isAgg229
  z66 := Tryz.sizeOf229
  v66 := Tryz.zeroValue229
  t70 := Tryz.underlying233
  a70 := Tryz.isAgg233
  z70 := Tryz.sizeOf233
  v70 := Tryz.zeroValue233
  t76 := Tryz.underlying253
  a76 := Tryz.isAgg253
  z76 := Tryz.sizeOf253
  v76 := Tryz.zeroValue253
  t77 := Tryz.underlying254
  a77 := Tryz.isAgg254
  z77 := Tryz.sizeOf254
  v77 := Tryz.zeroValue254 }
end Go.Proofs
namespace Go.Dr
open Go.Proofs
theorem p_SortInts {S : SHeap} {b cap n : Nat} {E : TypeId} {tl : List Value} (xs : List Int) (hn : n = xs.length) (hb : n ≤ 1000000) :
    Fn Tryz.prog 61 #[.slice (some ⟨b, 0, none⟩) n cap] S [.blk b (.cells (intsT xs tl) E (0, 0))]
      (fun v S' M' => v = .tuple #[] ∧ S' = S ∧ M' = [.blk b (.cells (intsT (xs.mergeSort fun x y => decide (x ≤ y)) tl) E (0, 0))]) := by
  subst hn
  exact sortInt_fn Tryz.lays189 xs (by omega)
theorem p_SortFunc {α : Type} [Inhabited α] (val : α → Int) (cf : α → α → Int) (hO : Sort.SWO (ltOf cf)) (hT : ∀ x y, ltOf cf x y = false → ltOf cf y x = false → x = y) (g : Nat) (cb : Array Value)
    (eg : ∀ args w, (callFunc g args).run Tryz.prog w = .ok (.enter g args) w) {S : SHeap} {b cap n : Nat} {E : TypeId} {tl : List Value} (d : List α) (hn : n = d.length) (hb : n ≤ 1000000)
    (hcmp : ∀ x y : α, FnV Tryz.prog g (#[.int .i64 (val x), .int .i64 (val y)] ++ cb) S (.int .i64 (cf x y))) :
    Fn Tryz.prog 96 #[.slice (some ⟨b, 0, none⟩) n cap, .func (.func g) #[] cb] S [.blk b (.cells (intsT (d.map val) tl) E (0, 0))]
      (fun v S' M' => v = .tuple #[] ∧ S' = S ∧ M' = [.blk b (.cells (intsT ((d.mergeSort fun x y => !(ltOf cf) y x).map val) tl) E (0, 0))]) := by
  subst hn
  exact sortFunc_fn Tryz.laySF val cf hO hT g cb eg d (by omega) hcmp
theorem p_SortFunc0 {S : SHeap} (p : Option Addr) (cap : Nat) (fv : Value) : FnV Tryz.prog 96 #[.slice p 0 cap, fv] S (.tuple #[]) := by
  intro w hg _ _ _
  refine (AnyF.slices_SortFunc_none { Tryz.laySF with } p cap fv w).mono ?_
  rintro e w' ⟨rfl, rfl⟩
  exact ⟨_, S, [], rfl, Wd.start0 hg, rfl, rfl⟩
theorem p_SortInts0 {S : SHeap} (p : Option Addr) (cap : Nat) : FnV Tryz.prog 61 #[.slice p 0 cap] S (.tuple #[]) := by
  intro w hg _ _ _
  refine (Any.slices_Sort_int_none Tryz.lays189 p cap w).mono ?_
  rintro e w' ⟨rfl, rfl⟩
  exact ⟨_, S, [], rfl, Wd.start0 hg, rfl, rfl⟩
end Go.Dr
namespace Go.Dr
open Go.Proofs
set_option maxRecDepth 20000
set_option maxHeartbeats 2000000
set_option linter.unusedSimpArgs false
set_option linter.unusedVariables false
theorem p_isNaNi {S : SHeap} (a : Int) : FnV Tryz.prog 141 #[.int .i64 a] S (.bool false) := by
  (refine Fn.enter (args := [.int .i64 a]) Tryz.func141 rfl Tryz.ntmps141 rfl ?_; intro w0)
  repeat (first | (refine Walk ?_; intros) | refine JC.block ?_)
  rw [decide_eq_true (rfl : a = a)]
  (refine JX.ret1 Tryz.results141 (ResV.tmp rfl) (List.nil_sublist _) ?_)
  exact ⟨rfl, rfl⟩
theorem p_CompareI {S : SHeap} (a b : Int) : FnV Tryz.prog 99 #[.int .i64 a, .int .i64 b] S (.int .i64 (cmpI a b)) := by
  (refine Fn.enter (args := [.int .i64 a, .int .i64 b]) Tryz.func99 rfl Tryz.ntmps99 rfl ?_; intro w0)
  repeat (first | (refine Walk ?_; intros) | refine JC.block ?_ | (refine JO.eff rfl rfl rfl (JEff.callV rfl (p_isNaNi _) rfl ?_); intro _ _))
  by_cases h1 : a < b
  · rw [decide_eq_true h1, show cmpI a b = -1 from if_pos h1]
    repeat (first | (refine Walk ?_; intros) | refine JC.block ?_ | (refine JO.eff rfl rfl rfl (JEff.callV rfl (p_isNaNi _) rfl ?_); intro _ _))
    (refine JX.ret1 Tryz.results99 (ResV.tmp rfl) (List.nil_sublist _) ?_)
    exact ⟨rfl, rfl⟩
  · rw [decide_eq_false h1]
    repeat (first | (refine Walk ?_; intros) | refine JC.block ?_ | (refine JO.eff rfl rfl rfl (JEff.callV rfl (p_isNaNi _) rfl ?_); intro _ _))
    by_cases h2 : b < a
    · rw [decide_eq_true h2, show cmpI a b = 1 by unfold cmpI; rw [if_neg h1, if_pos h2]]
      repeat (first | (refine Walk ?_; intros) | refine JC.block ?_ | (refine JO.eff rfl rfl rfl (JEff.callV rfl (p_isNaNi _) rfl ?_); intro _ _))
      (refine JX.ret1 Tryz.results99 (ResV.tmp rfl) (List.nil_sublist _) ?_)
      exact ⟨rfl, rfl⟩
    · rw [decide_eq_false h2, show cmpI a b = 0 by unfold cmpI; rw [if_neg h1, if_neg h2]]
      repeat (first | (refine Walk ?_; intros) | refine JC.block ?_ | (refine JO.eff rfl rfl rfl (JEff.callV rfl (p_isNaNi _) rfl ?_); intro _ _))
      (refine JX.ret1 Tryz.results99 (ResV.tmp rfl) (List.nil_sublist _) ?_)
      exact ⟨rfl, rfl⟩
theorem p14_by1 {S : SHeap} {q : Addr} {fs cs : Array Value} {g : FuncId} {key : Int → Int} (hp : PtrTo S q rVal (.func (.func g) fs cs)) (hE : Ent Tryz.prog g) (a b : Int)
    (ha : ∀ S', S.le S' → FnV Tryz.prog g (fs.toList ++ [Value.int .i64 a] ++ cs.toList).toArray S' (.int .i64 (key a))) (hb : ∀ S', S.le S' → FnV Tryz.prog g (fs.toList ++ [Value.int .i64 b] ++ cs.toList).toArray S' (.int .i64 (key b))) :
    FnV Tryz.prog 97 #[.int .i64 a, .int .i64 b, .pointer (some q)] S (.int .i64 (cfBy key a b)) := by
  haveI : TyR Tryz.prog 99 rVal := ⟨by kernel_rfl⟩
  (refine Fn.enter (args := [.int .i64 a, .int .i64 b, .pointer (some q)]) Tryz.func97 rfl Tryz.ntmps97 rfl ?_; intro w0)
  repeat (first | (refine Walk ?_; intros) | refine JC.block ?_ | refine JC.drawN 1 rfl [0, 1, 3, 4, 7, 8, 2, 5, 6, 9, 10, 11, 12] [0, 1, 12] Tryz_mixed (by decide +kernel) ?_ | (refine JO.eff rfl rfl rfl (JEff.dynV rfl hE rfl (ha _ (by exact lea)) rfl ?_); intro _ _) | (refine JO.eff rfl rfl rfl (JEff.dynV rfl hE rfl (hb _ (by exact lea)) rfl ?_); intro _ _) | (refine JO.eff rfl rfl rfl (JEff.callV rfl (p_CompareI _ _) rfl ?_); intro _ _))
  (refine JO.eff rfl rfl rfl (JEff.buildS (bt := 8) (rep := rI64) (ys := [cmpI (key a) (key b), cmpI a b]) rfl rfl (⟨⟨V_i64.2 ⟨rfl, cmpI_rng _ _⟩, nna⟩, ⟨V_i64.2 ⟨rfl, cmpI_rng _ _⟩, nna⟩, trivial⟩) rfl rfl rfl (by decide) rfl ?_); intro S9 a9 hl9 hV9)
  repeat (first | (refine Walk ?_; intros) | refine JC.block ?_ | refine JC.drawN 1 rfl [0, 1, 3, 4, 7, 8, 2, 5, 6, 9, 10, 11, 12] [0, 1, 12] Tryz_mixed (by decide +kernel) ?_ | (refine JO.eff rfl rfl rfl (JEff.callV rfl (p_Or2 hV9) rfl ?_); intro _ _) | (refine JO.eff rfl rfl rfl (JEff.callV rfl (p_CompareI _ _) rfl ?_); intro _ _))
  (refine JX.ret1 Tryz.results97 (ResV.tmp rfl) (List.nil_sublist _) ?_)
  exact ⟨rfl, rfl⟩
theorem p14_by {S : SHeap} {b cap n : Nat} {E : TypeId} {tl : List Value} {xs : List Int} {D : Int → Prop} {fs cs : Array Value} {g : FuncId} {key : Int → Int} (hE : Ent Tryz.prog g) (hn : n = xs.length) (hb : n ≤ 1000000) (h0 : xs ≠ []) (hD : ∀ x ∈ xs, D x)
    (hk : ∀ x, D x → ∀ S', S.le S' → FnV Tryz.prog g (fs.toList ++ [Value.int .i64 x] ++ cs.toList).toArray S' (.int .i64 (key x))) :
    Fn Tryz.prog 57 #[.slice (some ⟨b, 0, none⟩) n cap, .func (.func g) fs cs] S [.blk b (.cells (intsT xs tl) E (0, 0))]
      (fun v S' M' => v = .slice (some ⟨b, 0, none⟩) n cap ∧ M' = [.blk b (.cells (intsT (sortBy key xs) tl) E (0, 0))]) := by
  haveI : TyR Tryz.prog 99 rVal := ⟨by kernel_rfl⟩
  obtain ⟨d, rfl⟩ : ∃ d : List (NumD D), d.map Subtype.val = xs := ⟨xs.pmap Subtype.mk hD, by rw [List.map_pmap]; simp⟩
  obtain ⟨x0, _⟩ := List.exists_mem_of_ne_nil d (fun h => h0 (by rw [h]; rfl))
  haveI : Inhabited (NumD D) := ⟨x0⟩
  have hnd : n = d.length := by rw [hn, List.length_map]
  (refine Fn.enter (args := [.slice (some ⟨b, 0, none⟩) n cap, .func (.func g) fs cs]) Tryz.func57 rfl Tryz.ntmps57 rfl ?_; intro w0)
  repeat (first | (refine Walk ?_; intros) | refine JC.block ?_ | (refine WBox ?_; intros))
  have hq := (by assumption : PtrTo _ _ rVal (.func (.func g) fs cs))
  have hle := (by assumption : SHeap.le S _)
  refine JO.eff rfl rfl rfl (JEff.callM (Mc := [.blk b (.cells (intsT (d.map Subtype.val) tl) E (0, 0))]) (Mr := []) rfl (List.Perm.refl _) (mayAll rfl) (p_SortFunc (α := NumD D) Subtype.val (fun x y => cfBy key x.1 y.1) (swoBy D key) (totBy D key) 97 #[.pointer (some _)] (enters_of Tryz.func97 (by kernel_rfl) rfl) d hnd hb (fun x y => p14_by1 hq hE x.1 y.1 (fun S' h => hk x.1 x.2 S' (hle.trans h)) (fun S' h => hk y.1 y.2 S' (hle.trans h)))) rfl ?_)
  intro v S3 M3 hl3 hw
  obtain ⟨rfl, rfl, rfl⟩ := hw
  dsimp only [List.cons_append, List.nil_append]
  repeat (first | (refine Walk ?_; intros) | refine JC.block ?_ | (refine WBox ?_; intros))
  refine JX.ret1 Tryz.results57 (ResV.tmp rfl) (List.Sublist.refl _) ?_
  exact ⟨rfl, by rw [sortBy_map]⟩
theorem p14_by0 {S : SHeap} {a : Option Addr} {c : Nat} {fs cs : Array Value} {g : FuncId} : FnV Tryz.prog 57 #[.slice a 0 c, .func (.func g) fs cs] S (.slice a 0 c) := by
  haveI : TyR Tryz.prog 99 rVal := ⟨by kernel_rfl⟩
  (refine Fn.enter (args := [.slice a 0 c, .func (.func g) fs cs]) Tryz.func57 rfl Tryz.ntmps57 rfl ?_; intro w0)
  repeat (first | (refine Walk ?_; intros) | refine JC.block ?_ | (refine JO.eff rfl rfl rfl (JEff.callV rfl (p_SortFunc0 _ _ _) rfl ?_); intro _ _) | (refine WBox ?_; intros))
  (refine JX.ret1 Tryz.results57 (ResV.tmp rfl) (List.nil_sublist _) ?_)
  exact ⟨rfl, rfl⟩
end Go.Dr
namespace Go.Dr
set_option linter.unusedSimpArgs false
set_option linter.unusedVariables false
theorem run_forIn_unit {P : Program} {α : Type} {g : α → PUnit → Sem (ForInStep PUnit)} {w : World} : ∀ (l : List α), (∀ x ∈ l, (g x ⟨⟩).run P w = .ok (.yield ⟨⟩) w) → (forIn l PUnit.unit g).run P w = .ok ⟨⟩ w
  | [], _ => by simp [Sem.run_pure]
  | x :: l, h => by
    simp only [List.forIn_cons, Sem.run_bind, h x (by simp), Result.andThen_ok]
    exact run_forIn_unit l (fun y hy => h y (by simp [hy]))
theorem flat_field {P : Program} {w : World} : ∀ (fs : List Field) (ks : List Kd) (pre xs : List Value), flatB P pre.length fs ks = true → fits ks xs = true →
    ∀ f ∈ fs, ∃ d v, P.underlying f.type = some d ∧ MapKept.IsKey d v ∧ (part f.type (pre ++ xs).toArray f.offset).run P w = .ok v w
  | [], _, _, _, _, _ => by intro f hf; cases hf
  | _ :: _, [], _, _, h, _ => by cases h
  | f0 :: fs, k :: ks, pre, xs, h, h1 => by
    simp only [flatB, Bool.and_eq_true, Bool.not_eq_true'] at h
    obtain ⟨⟨⟨hn, ho⟩, hk⟩, hr⟩ := h
    have ho := Nat.eq_of_beq_eq_true ho
    have hd := kd_desc hk
    have ha : isAggD (kdD k) = false := by cases k <;> rfl
    obtain ⟨x, xs', rfl, hx, h1'⟩ : ∃ x xs', xs = x :: xs' ∧ MapKept.IsKey (kdD k) x ∧ fits ks xs' = true := by
      cases k with
      | int => match xs, h1 with | .int .i64 a :: xs', h1 => exact ⟨_, _, rfl, by simp [kdD, MapKept.IsKey], h1⟩
      | str => match xs, h1 with | .string a :: xs', h1 => exact ⟨_, _, rfl, by simp [kdD, MapKept.IsKey], h1⟩
      | bool => match xs, h1 with | .bool a :: xs', h1 => exact ⟨_, _, rfl, by simp [kdD, MapKept.IsKey], h1⟩
    intro f hf
    rcases List.mem_cons.1 hf with rfl | hf
    · exact ⟨_, x, hd, hx, by rw [ho]; exact run_part1 hd ha pre x xs' w⟩
    · have := flat_field (w := w) fs ks (pre ++ [x]) xs' (by simpa using hr) h1' f hf
      simpa using this
theorem check_flat {P : Program} {T : TypeId} {ks : List Kd} (h : FlatS P T ks) {xs : List Value} (hx : fits ks xs = true) (e : Bool) (w : World) : (Instr.checkKey e 10000 T (.agg xs.toArray)).run P w = .ok () w := by
  have hb := h.b
  unfold flatT at hb
  split at hb
  · rename_i fs hu
    have hfl := flat_field (w := w) fs.toList ks [] xs hb hx
    unfold Instr.checkKey
    simp only [Sem.run_bind, run_underlying hu, Result.andThen_ok]
    rw [← Array.forIn_toList]
    have := run_forIn_unit (P := P) (w := w) (g := fun (f : Field) (r : PUnit) => (do
      if f.name ≠ "_" then Instr.checkKey e 9999 f.type (← part f.type xs.toArray f.offset)
      pure (ForInStep.yield PUnit.unit) : Sem (ForInStep PUnit))) fs.toList (fun f hf => by
        obtain ⟨d, v, hd, hv, hp⟩ := hfl f hf
        simp only [List.nil_append] at hp
        by_cases hn : f.name ≠ "_"
        · simp only [if_pos hn, Sem.run_bind, hp, Result.andThen_ok, MapKept.run_checkKey hd hv, Sem.run_pure]
        · simp only [if_neg hn, Sem.run_bind, Result.andThen_ok, Sem.run_pure])
    simp [Sem.run_bind, Sem.run_pure, Result.andThen_ok] at this ⊢
    rw [this]
    rfl
  · cases hb
theorem find_asking {κ : Type} [DecidableEq κ] {P : Program} {T : TypeId} {ks : List Kd} (h : FlatS P T ks) {ls : κ → List Value} (hf : ∀ k, fits ks (ls k) = true) (hc : ∀ a b, ceqs (ls a) (ls b) = decide (a = b)) (s : κ) (w : World) : ∀ (l : List (κ × Value)) (n i : Nat),
    ((Instr.findAsking T (.agg (ls s).toArray) (esK (fun k => .agg (ls k).toArray) n l) i).run P w = .ok none w ∧ ∀ p ∈ l, p.1 ≠ s) ∨
    ∃ j p, (Instr.findAsking T (.agg (ls s).toArray) (esK (fun k => .agg (ls k).toArray) n l) i).run P w = .ok (some (i + j, p.2)) w ∧ l[j]? = some p ∧ p.1 = s
  | [], n, i => .inl ⟨by simp [Instr.findAsking, esK, Sem.run_pure], by intro p hp; cases hp⟩
  | (k, v) :: l, n, i => by
    have heq : (Op.equal T (.agg (ls s).toArray) (.agg (ls k).toArray)).run P w = .ok (decide (s = k)) w := by
      have := run_eq_flat h (hf s) (hf k) w
      rw [hc] at this
      exact this
    by_cases hs : s = k
    · refine .inr ⟨0, (k, v), ?_, rfl, hs.symm⟩
      simp only [esK, Instr.findAsking, Sem.run_bind, heq, Result.andThen_ok, decide_eq_true hs, if_true, Sem.run_pure]
      rfl
    · have hstep : (Instr.findAsking T (.agg (ls s).toArray) (esK (fun k => .agg (ls k).toArray) n ((k, v) :: l)) i).run P w = (Instr.findAsking T (.agg (ls s).toArray) (esK (fun k => .agg (ls k).toArray) (n + 1) l) (i + 1)).run P w := by
        simp only [esK, Instr.findAsking, Sem.run_bind, heq, Result.andThen_ok, decide_eq_false hs, Bool.false_eq_true, if_false]
      rw [hstep]
      rcases find_asking h hf hc s w l (n + 1) (i + 1) with ⟨h1, h2⟩ | ⟨j, p, h1, h2, h3⟩
      · refine .inl ⟨h1, fun p hp => ?_⟩
        rcases List.mem_cons.1 hp with rfl | hp
        · exact fun e => hs e.symm
        · exact h2 p hp
      · exact .inr ⟨j + 1, p, by rw [h1]; congr 3; omega, by simpa using h2, h3⟩
theorem sameBits_flat : ∀ (ks : List Kd) (xs : List Value), fits ks xs = true → (xs.zip xs).all (fun (x, y) => Instr.sameBits 9999 x y) = true
  | [], [], _ => rfl
  | .int :: ks, .int .i64 a :: vs, h => by simp only [List.zip_cons_cons, List.all_cons, sameBits_flat ks vs h, Bool.and_true]; simp [Instr.sameBits]
  | .str :: ks, .string a :: vs, h => by simp only [List.zip_cons_cons, List.all_cons, sameBits_flat ks vs h, Bool.and_true]; simp [Instr.sameBits, MapKept.bytes_beq]
  | .bool :: ks, .bool a :: vs, h => by simp only [List.zip_cons_cons, List.all_cons, sameBits_flat ks vs h, Bool.and_true]; simp [Instr.sameBits]
theorem key_flat {κ : Type} [DecidableEq κ] {P : Program} {T : TypeId} {ks : List Kd} (h : FlatS P T ks) {ls : κ → List Value} (hf : ∀ k, fits ks (ls k) = true) (hc : ∀ a b, ceqs (ls a) (ls b) = decide (a = b)) : Key P T (fun k => .agg (ls k).toArray) where
  check e k w := check_flat h (hf k) e w
  find k l w := by
    have hb := h.b
    unfold flatT at hb
    split at hb
    · rename_i fs hu
      have hask : (Instr.findKey T (.agg (ls k).toArray) (esK (fun k => .agg (ls k).toArray) 0 l)).run P w = (Instr.findAsking T (.agg (ls k).toArray) (esK (fun k => .agg (ls k).toArray) 0 l) 0).run P w := by
        cases l with
        | nil => simp [Instr.findKey, run_underlying hu, Result.andThen, esK, Instr.findNow, Instr.findAsking, Sem.run_pure]
        | cons p l => simp [Instr.findKey, run_underlying hu, Result.andThen, esK, Instr.findNow, Instr.sameNow]
      rw [hask]
      rcases find_asking h hf hc k w l 0 0 with h1 | ⟨j, p, h1, h2⟩
      · exact .inl h1
      · exact .inr ⟨j, p, by rw [h1]; simp, h2⟩
    · cases hb
  stays k w := by
    have : Instr.sameBits 10000 (.agg (ls k).toArray) (.agg (ls k).toArray) = true := by
      simp only [Instr.sameBits, sameBits_flat ks _ (hf k)]
      simp
    simp [Instr.keyThatStays, this, Sem.run_pure]
section
variable {C : Cx} {R : Rg} {Q : Post} {S S' S1 : SHeap} {M M' : List MEnt} {e e' : Env} {rest : List Nat}
variable {d : Nat} {ty : TypeId} {pos : String} {aft : Array Edge} {g : Option (Nat × Bool)} {an : Bool}
end
end Go.Dr
namespace Go.Dr
open Go.Proofs
set_option maxRecDepth 20000
set_option maxHeartbeats 2000000
set_option linter.unusedSimpArgs false
set_option linter.unusedVariables false
def nm (c : Clause) : Step := ⟨c.kind, c.a, c.b⟩
def kvN (x : Step) : Value := .agg [Value.int .i64 x.kind, .int .i64 x.pod, .int .i64 x.node].toArray
instance : TyR Tryz.prog 113 rStep := ⟨by kernel_rfl⟩
instance : FlatS Tryz.prog 113 [.int, .int, .int] := ⟨by kernel_rfl, by kernel_rfl, by kernel_rfl⟩
instance : Key Tryz.prog 113 kvN := key_flat (κ := Step) (ls := fun x => [Value.int .i64 x.kind, .int .i64 x.pod, .int .i64 x.node]) (inferInstance : FlatS Tryz.prog 113 [.int, .int, .int]) (fun _ => rfl) (fun a b => by cases a; cases b; rw [Bool.eq_iff_iff]; simp [ceqs])
theorem nm_eq {c d : Clause} : nm c = nm d ↔ nameC c = nameC d := by cases c; cases d; simp [nm, nameC]
theorem p9_of {S : SHeap} {u : Value} {x : Clause} (hu : rClause.V S u x) : FnV Tryz.prog 71 #[u] S (kvN (nm x)) := by
  obtain ⟨rfl, h1, h2, h3, h4⟩ := V_clause.1 hu
  (refine Fn.enter (args := [.agg #[.int .i64 x.kind, .int .i64 x.a, .int .i64 x.b, .int .i64 x.by_]]) Tryz.func71 rfl Tryz.ntmps71 rfl ?_; intro w0)
  repeat (first | (refine Walk ?_; intros) | refine JC.block ?_ | (refine WBox ?_; intros))
  (refine JO.eff rfl rfl rfl (JEff.alloc rfl ?_); intro cb hcb)
  repeat (first | (refine Walk ?_; intros) | refine JC.block ?_ | (refine WBox ?_; intros))
  have hV : ∀ S, rStep.V S (kvN (nm x)) (nm x) := fun S => V_step.2 ⟨rfl, h1, h2, h3⟩
  refine JO.eff rfl rfl rfl (JEff.storeW rfl rfl (hV _) nna (List.Perm.refl _) rfl (by intro l hl; cases hl) ?_)
  refine JO.freezeV (hV _) nna hcb (by intro l hl; cases hl) ?_; intro S2 hl2 hpo
  repeat (first | (refine Walk ?_; intros) | refine JC.block ?_ | (refine WBox ?_; intros))
  exact JX.retCell Tryz.results71 rfl hpo (List.nil_sublist _) (fun w hw => ⟨rfl, by obtain ⟨rfl, _⟩ := V_step.1 hw; rfl⟩)
def bys (l : List Clause) : List (Step × Value) := l.map (fun c => (nm c, Value.int .i64 c.by_))
theorem bys_step {l : List Clause} {k : Nat} {x : Clause} (hx : l[k]? = some x) : bys (l.take (k + 1)) = bys (l.take k) ++ [(nm x, Value.int .i64 x.by_)] := by
  unfold bys
  rw [List.take_add_one, hx]; simp
theorem bys_new {l : List Clause} (h : l.Pairwise (fun c d => nameC c ≠ nameC d)) {k : Nat} {x : Clause} (hx : l[k]? = some x) : ∀ p ∈ bys (l.take k), p.1 ≠ nm x := by
  intro p hp e
  obtain ⟨c, hc, rfl⟩ := List.mem_map.1 hp
  obtain ⟨i, hi, hci⟩ := List.mem_take_iff_getElem.1 hc
  obtain ⟨hk, rfl⟩ := List.getElem?_eq_some_iff.1 hx
  exact List.pairwise_iff_getElem.1 h i k (by omega) hk (by omega) (by rw [hci]; exact nm_eq.1 e)
theorem bys_distinct {l : List Clause} (h : l.Pairwise (fun c d => nameC c ≠ nameC d)) : DistinctK (bys l) := by
  intro i j p q hi hj hpq
  unfold bys at hi hj
  rw [List.getElem?_map] at hi hj
  obtain ⟨c, hc, rfl⟩ := Option.map_eq_some_iff.1 hi
  obtain ⟨d, hd, rfl⟩ := Option.map_eq_some_iff.1 hj
  obtain ⟨h1, rfl⟩ := List.getElem?_eq_some_iff.1 hc
  obtain ⟨h2, rfl⟩ := List.getElem?_eq_some_iff.1 hd
  have hpq := nm_eq.1 hpq
  rcases Nat.lt_trichotomy i j with a | a | a
  · exact absurd hpq (List.pairwise_iff_getElem.1 h i j h1 h2 a)
  · exact a
  · exact absurd hpq.symm (List.pairwise_iff_getElem.1 h j i h2 h1 a)
def LookAns (s : Snap) (p : List Int) (w : Value) (S' : SHeap) : Prop :=
  (¬ checkP s p = 0 ∧ w = .tuple #[.map none, .slice none 0 0, .int .i64 (checkP s p)]) ∨
  (checkP s p = 0 ∧ ∃ b a c, w = .tuple #[.map (some b), .slice a (allL s p).length c, .int .i64 0] ∧ S' b = some (mapK kvN (bys (allL s p))) ∧ (rSlice 32 rClause).V S' (.slice a (allL s p).length c) (allL s p))
theorem s69_L9a {P K : Prop} (k : K) (h : Goal K → P := by
  intro zk
  (first | refine Walk ?_ | refine JC.block ?_ | refine JC.drawN 8 rfl [0, 1, 3, 4, 2, 5] [1] Tryz_mixed (by decide +kernel) ?_ | (refine JO.eff rfl rfl rfl (JEff.callLE rfl (p8_All (by exact vta) (by exact vta)) rfl ?_); intro zqa zqb zqc zqd zqe zqf) | (refine JO.eff rfl rfl rfl (JEff.callV rfl (p9_of (by exact vta)) rfl ?_); intro zqa zqb) | (refine WBox ?_) | (refine WNew ?_) | (refine WPut ?_))
  (repeat (first | revert zqg | revert zqf | revert zqe | revert zqd | revert zqc | revert zqb | revert zqa))
  exact zk.k) : P := h ⟨k⟩
theorem p9_look {S : SHeap} {u v : Value} {s : Snap} {p : List Int} (hu : rSnap.V S u s) (hv : (rSlice 8 rI64).V S v p) : FnR Tryz.prog 69 #[u, v] S (LookAns s p) := by
  (refine Fn.enter (args := [u, v]) Tryz.func69 rfl Tryz.ntmps69 rfl ?_; intro w0)
  repeat (refine s69_L9a ?_; intros)
  refine JC.cond rfl (fun h1 => ?_) (fun h1 => ?_)
  · have h1 : ¬ checkP s p = 0 := by simpa using h1
    repeat (refine s69_L9a ?_; intros)
    (refine JX.ret3 Tryz.results69 (ResV.tmp rfl) (ResV.tmp rfl) (ResV.tmp rfl) (List.nil_sublist _) ?_)
    exact ⟨rfl, .inl ⟨h1, rfl⟩⟩
  have hok : checkP s p = 0 := by simpa using h1
  have hnames := allL_names s p
  obtain ⟨hLl, hLr⟩ := allL_rng s p
  generalize hL : allL s p = L at *
  have hb32 := slice_bytes (by assumption : (rSlice 32 rClause).V _ _ L)
  unfold big at hb32
  repeat (refine s69_L9a ?_; intros)
  refine JO.eff rfl rfl rfl (JEff.makeMapK kvN rfl ?_); intro mb hmb
  repeat (refine s69_L9a ?_; intros)
  refine JC.loopF (σ := Nat) [(7, _), (9, _), (22, _), (23, _)] (fun q => [(24, .int .i64 (q : Int))]) (fun q => [.blk mb (mapK kvN (bys (L.take q)))]) (fun Si q => q ≤ L.length) (fun q => L.length - q) (0) (by exact sba) (by exact sba) rfl (Nat.zero_le _) ?_; rintro Si k hli hii; (try dsimp only at hii); dsimp only [List.cons_append, List.nil_append]
  repeat (refine s69_L9a ?_; intros)
  refine JC.cond rfl (fun hc => ?_) (fun hc => ?_)
  · have hk' := dlt hc
    obtain ⟨x, hx, _⟩ := drop_at hk'
    have hst := bys_step hx
    have hnew := bys_new hnames hx
    repeat (refine s69_L9a ?_; intros)
    refine JO.eff rfl rfl rfl (JEff.putK (kv := kvN) (s := nm x) rfl rfl rfl (List.Perm.refl _) (by intro l hl; cases hl) (fun _ => ?_) (fun j q hj hq => absurd hq (hnew q (List.mem_of_getElem? hj))))
    rw [← hst]
    repeat (refine s69_L9a ?_; intros)
    exact JX.roundF (k + 1) (by exact lea) (by omega) (by (try dsimp only); omega) rfl (by exact sba) (by exact sba)
  · have hk' := dnlt hc
    obtain rfl : k = L.length := by omega
    rw [List.take_length]
    refine JC.freeze hmb (fun S10 hl10 hS10 => ?_)
    repeat (refine s69_L9a ?_; intros)
    (refine JX.ret3 Tryz.results69 (ResV.tmp rfl) (ResV.tmp rfl) (ResV.tmp rfl) (List.nil_sublist _) ?_)
    subst hL
    exact ⟨rfl, .inr ⟨hok, _, _, _, rfl, hS10, by exact vta⟩⟩
theorem bys_none {L : List Clause} {x : Clause} (h : ∀ p ∈ bys L, p.1 ≠ nm x) : findC L x = 0 := by
  unfold findC
  rw [List.find?_eq_none.2]
  intro c hc
  rw [isC_name]
  have := h (nm c, Value.int .i64 c.by_) (List.mem_map.2 ⟨c, hc, rfl⟩)
  intro e
  exact this (nm_eq.2 (of_decide_eq_true e))
theorem bys_some {L : List Clause} (hn : L.Pairwise (fun c d => nameC c ≠ nameC d)) {x : Clause} {j : Nat} {q : Step × Value} (hj : (bys L)[j]? = some q) (hq : q.1 = nm x) : q.2 = .int .i64 (findC L x) := by
  unfold bys at hj
  rw [List.getElem?_map] at hj
  obtain ⟨c, hc, rfl⟩ := Option.map_eq_some_iff.1 hj
  have he := nm_eq.1 hq
  have hf := find_self hn (List.mem_of_getElem? hc)
  simp only [nameC, Prod.mk.injEq] at he
  unfold findC
  rw [← he.1, ← he.2.1, ← he.2.2, hf]
theorem s70_L9a {P K : Prop} (k : K) (h : Goal K → P := by
  intro zk
  (first | refine Walk ?_ | refine JC.block ?_ | refine JC.drawN 1 rfl [0, 1, 2, 3, 4, 5, 6, 7] [3, 5, 6, 7] Tryz_mixed (by decide +kernel) ?_ | (refine JO.eff rfl rfl rfl (JEff.callV rfl (p9_of (by exact vta)) rfl ?_); intro zqa zqb) | (refine WBox ?_))
  (repeat (first | revert zqg | revert zqf | revert zqe | revert zqd | revert zqc | revert zqb | revert zqa))
  exact zk.k) : P := h ⟨k⟩
theorem p9_Worse1 {S : SHeap} {u : Value} {x : Clause} {L : List Clause} {q : Addr} {b : Nat} (hn : L.Pairwise (fun c d => nameC c ≠ nameC d)) (hu : rClause.V S u x) (hq : PtrTo S q rVal (.map (some b))) (hS : S b = some (mapK kvN (bys L))) : FnV Tryz.prog 70 #[u, .pointer (some q)] S (.bool (worseF L x)) := by
  (refine Fn.enter (args := [u, .pointer (some q)]) Tryz.func70 rfl Tryz.ntmps70 rfl ?_; intro w0)
  repeat (refine s70_L9a ?_; intros)
  refine JO.pure rfl rfl rfl (JPure.lookS (kv := kvN) (s := nm x) rfl rfl (by first | exact hS | exact (by assumption : SHeap.le _ _) _ _ hS | exact SHeap.le.trans (by assumption) (by assumption) _ _ hS) (bys_distinct hn) rfl (fun hno => ?_) (fun j q hj hq => ?_))
  · have hf := bys_none hno
    repeat (refine s70_L9a ?_; intros)
    (refine JX.ret1 Tryz.results70 (ResV.tmp rfl) (List.nil_sublist _) ?_)
    exact ⟨rfl, by simp [worseF, hf]⟩
  · have hf := bys_some hn hj hq
    rw [hf]
    repeat (refine s70_L9a ?_; intros)
    (refine JX.ret1 Tryz.results70 (ResV.tmp rfl) (List.nil_sublist _) ?_)
    exact ⟨rfl, by simp [worseF]⟩
theorem p9_Worse {S : SHeap} {u v v2 : Value} {s : Snap} {p q : List Int} (hu : rSnap.V S u s) (hv : (rSlice 8 rI64).V S v p) (hv2 : (rSlice 8 rI64).V S v2 q) : FnLE Tryz.prog 44 #[u, v, v2] S 32 rClause (worseV s p q).1 (.int .i64 (worseV s p q).2) := by
  (refine Fn.enter (args := [u, v, v2]) Tryz.func44 rfl Tryz.ntmps44 rfl ?_; intro w0)
  repeat (first | (refine Walk ?_; intros) | refine JC.block ?_ | (refine WBox ?_; intros) | (refine WNew ?_; intros) | (refine WPut ?_; intros))
  (refine JO.eff rfl rfl rfl (JEff.callR rfl (p9_look (s := s) (p := p) (by exact vta) (by exact vta)) rfl ?_); intro w S2 hl2 hw)
  rcases hw with ⟨he, rfl⟩ | ⟨hok, b, a, c, rfl, hSb, hVb⟩
  · repeat (first | (refine Walk ?_; intros) | refine JC.block ?_ | (refine WBox ?_; intros) | (refine WNew ?_; intros) | (refine WPut ?_; intros))
    refine JC.cond rfl (fun h1 => ?_) (fun h1 => ?_)
    · repeat (first | (refine Walk ?_; intros) | refine JC.block ?_ | (refine WBox ?_; intros) | (refine WNew ?_; intros) | (refine WPut ?_; intros))
      (refine JX.ret2 Tryz.results44 (ResV.tmp rfl) (ResV.tmp rfl) (List.nil_sublist _) ?_)
      unfold worseV
      rw [if_pos he]
      exact ⟨rfl, _, rfl, V_nil⟩
    · (exfalso; first | (simp only [decide_eq_true_eq, decide_eq_false_iff_not, Bool.not_eq_true', Bool.not_eq_false', Bool.and_eq_true, Bool.or_eq_true, Bool.and_eq_false_iff, Bool.or_eq_false_iff] at *; omega) | (simp_all; done) | (simp_all; omega))
  · repeat (first | (refine Walk ?_; intros) | refine JC.block ?_ | (refine WBox ?_; intros) | (refine WNew ?_; intros) | (refine WPut ?_; intros))
    (refine JO.eff rfl rfl rfl (JEff.callR rfl (p9_look (s := s) (p := q) (by exact vta) (by exact vta)) rfl ?_); intro w S3 hl3 hw)
    obtain ⟨m, a3, c3, rfl, hV3⟩ : ∃ m a c, w = .tuple #[m, .slice a (allL s q).length c, .int .i64 (checkP s q)] ∧ (rSlice 32 rClause).V S3 (.slice a (allL s q).length c) (allL s q) := by
      rcases hw with ⟨he, rfl⟩ | ⟨hokq, b3, a3, c3, rfl, _, hV3⟩
      · have : allL s q = [] := by unfold allL; rw [if_neg he]
        rw [this]
        exact ⟨_, _, _, rfl, V_nil⟩
      · exact ⟨_, _, _, by rw [hokq], hV3⟩
    have hwv : worseV s p q = ((allL s q).filter (worseF (allL s p)), checkP s q) := by
      unfold worseV
      rw [if_neg (by simpa using hok)]
      split
      · rename_i he
        have : allL s q = [] := by unfold allL; rw [if_neg he]
        rw [this]; rfl
      · rename_i he
        have he : checkP s q = 0 := Classical.not_not.1 he
        rw [he]
    rw [hwv]
    have hnames := allL_names s p
    generalize allL s p = LA at *
    generalize hL : allL s q = L at *
    have hb32 := slice_bytes hV3
    unfold big at hb32
    repeat (first | (refine Walk ?_; intros) | refine JC.block ?_ | (refine WBox ?_; intros) | (refine WNew ?_; intros) | (refine WPut ?_; intros))
    (first | refine JC.newRow 35 (Rp.sz rClause) ?_ | refine JO.newRow 35 (Rp.sz rClause) ?_ | refine JX.newRow 35 (Rp.sz rClause) ?_)
    refine JC.loopF (σ := Nat × Option Addr × Nat × List Value) [(7, _), (10, _), (33, _), (34, _)] (fun q => [(6, .slice q.2.1 ((fun k => (L.take k).filter (worseF LA)) q.1).length q.2.2.1), (35, ((fun k => .int .i64 k) q.1))]) (fun q => [.row w0.heap.size 35 (Rp.sz rClause) (.slice q.2.1 ((fun k => (L.take k).filter (worseF LA)) q.1).length q.2.2.1) ((fun k => (L.take k).filter (worseF LA)) q.1).length (flatCells q.2.2.2)]) (fun Sk q => q.1 ≤ L.length ∧ allV rClause Sk q.2.2.2 ((fun k => (L.take k).filter (worseF LA)) q.1) ∧ ((fun k => True) q.1)) (fun q => L.length - q.1) (0, none, 0, []) (by exact sba) (by exact sba) (by first | rfl | simp) (⟨Nat.zero_le _, trivial, trivial⟩) ?_; rintro Sk ⟨k, rak, rck, vsk⟩ hlk ⟨hk, hvk, hik⟩; (try dsimp only at hk hvk hik); dsimp only [List.cons_append, List.nil_append]
    have hfl := filter_len L (worseF LA) k
    repeat (first | (refine Walk ?_; intros) | refine JC.block ?_ | (refine WBox ?_; intros) | (refine WNew ?_; intros) | (refine WPut ?_; intros))
    refine JC.cond rfl (fun hc => ?_) (fun hc => ?_)
    · have hk' := dlt hc
      obtain ⟨x, hx, _⟩ := drop_at hk'
      have hst := filter_step (f := worseF LA) hx
      repeat (first | (refine Walk ?_; intros) | refine JC.block ?_ | (refine WBox ?_; intros) | (refine WNew ?_; intros) | (refine WPut ?_; intros))
      (refine JO.eff rfl rfl rfl (JEff.dynV rfl inferInstance rfl (p9_Worse1 (x := x) hnames (by exact vta) (by exact pta) ((show S2.le _ by exact lea) _ _ hSb)) rfl ?_); intro _ _)
      repeat (first | (refine Walk ?_; intros) | refine JC.block ?_ | (refine WBox ?_; intros) | (refine WNew ?_; intros) | (refine WPut ?_; intros))
      refine JC.cond rfl (fun hq => ?_) (fun hq => ?_)
      · rw [hq, if_pos rfl] at hst
        repeat (first | (refine Walk ?_; intros) | refine JC.block ?_ | (refine WBox ?_; intros) | (refine WNew ?_; intros) | (refine WPut ?_; intros))
        have hvx := (by assumption : rClause.V _ _ x)
        (refine JO.eff rfl rfl rfl (JEff.build (rep := rClause) (ys := [x]) rfl rfl ⟨⟨(hvx.mono (by exact lea)), nna⟩, trivial⟩ rfl rfl rfl rfl ?_); intro bb hbb hvv); (repeat (first | (refine Walk ?_; intros) | refine JC.block ?_)); (refine JO.eff rfl rfl rfl (JEff.appendL (rep := rClause) rfl rfl rfl rfl (List.Perm.swap _ _ _) (by exact hvv.flat) (by intro c hc; exact flat_one (fun v hv => (hvv.size v hv).2) c hc) (by first | omega | (unfold big; omega)) (by unfold big; omega) (by first | exact rowT_ok | (intro l hl; cases hl)) rfl ?_); intro a2 c2; clear hvv hbb)
        repeat (first | (refine Walk ?_; intros) | refine JC.block ?_ | (refine WBox ?_; intros) | (refine WNew ?_; intros) | (refine WPut ?_; intros))
        exact JX.roundF (k + 1, a2, c2, vsk ++ [(_)]) (by exact lea) ⟨by omega, by (try dsimp only); rw [hst]; exact allV_add (by exact lea) hvk (hvx.mono (by exact lea)) nna, (trivial)⟩ (by (try dsimp only); omega) (by (try dsimp only); rw [hst]; (simp [flat_append] <;> omega)) (by (try dsimp only); rw [hst]; simp only [List.length_append, List.length_cons, List.length_nil]; exact sba) (by exact sba)
      · rw [hq, if_neg (by simp), List.append_nil] at hst
        repeat (first | (refine Walk ?_; intros) | refine JC.block ?_ | (refine WBox ?_; intros) | (refine WNew ?_; intros) | (refine WPut ?_; intros))
        exact JX.roundF (k + 1, rak, rck, vsk) (by exact lea) ⟨by omega, by (try dsimp only); rw [hst]; exact hvk.mono (by exact lea), (trivial)⟩ (by (try dsimp only); omega) (by (try dsimp only); rw [hst]) (by (try dsimp only); rw [hst]; exact sba) (by exact sba)
    · have hk' := dnlt hc
      obtain rfl : k = L.length := by omega
      rw [List.take_length] at hvk hfl ⊢
      repeat (first | (refine Walk ?_; intros) | refine JC.block ?_ | (refine WBox ?_; intros) | (refine WNew ?_; intros) | (refine WPut ?_; intros))
      refine JX.freezeRow (rep := rClause) (bt := 32) hvk rfl (by unfold big; omega) (by unfold big; omega) (fun S9 hl9 hV9 => ?_)
      (refine JX.ret2 Tryz.results44 (ResV.tmp rfl) (ResV.tmp rfl) (List.nil_sublist _) ?_)
      exact ⟨rfl, _, rfl, hV9⟩
end Go.Dr
namespace Go.Dr
open Go.Proofs
set_option maxRecDepth 20000
set_option maxHeartbeats 2000000
set_option linter.unusedSimpArgs false
set_option linter.unusedVariables false
theorem step_rng {S : SHeap} {v : Value} {x : Step} (h : rStep.V S v x) : Rng x.kind ∧ Rng x.pod ∧ Rng x.node := (V_step.1 h).2
theorem s101_L7x {P K : Prop} (k : K) (h : Goal K → P := by
  intro zk
  (first | refine Walk ?_ | refine JC.block ?_ | refine JC.drawN 8 rfl [0, 1, 2, 3, 4, 5, 6, 7, 8, 9, 10, 11, 12, 13, 14, 15, 16, 17, 18, 19, 20, 21, 22, 23] [0, 1, 2, 3, 4, 5, 6, 7, 8, 9, 10, 11, 12, 13, 14, 15, 16, 17, 18, 19, 20, 21, 22, 23] Tryz_mixed (by decide +kernel) ?_ | (refine JO.eff rfl rfl rfl (JEff.callV rfl (r7_Check (by exact vta) (by exact vta)) rfl ?_); intro zqa zqb) | (refine WBox ?_))
  (repeat (first | revert zqg | revert zqf | revert zqe | revert zqd | revert zqc | revert zqb | revert zqa))
  exact zk.k) : P := h ⟨k⟩
theorem r7_Apply {S : SHeap} {u v xv : Value} {s : Snap} {p : List Int} {x : Step} (hu : rSnap.V S u s) (hv : (rSlice 8 rI64).V S v p) (hx : rStep.V S xv x) : FnLE Tryz.prog 101 #[u, v, xv] S 8 rI64 (applyP s p x).1 (.int .i64 (applyP s p x).2) := by
  have hv0 := hv
  obtain ⟨a, c, rfl, _, hb8, hb, hpr⟩ := V_slice.1 hv
  unfold big at hb8 hb
  have hprn : ∀ z ∈ p, Rng z := fun z hz => by
    obtain ⟨q, cs, h, _⟩ := slice_at hv z hz
    exact h.2
  obtain ⟨hxr1, hxr2, hxr3⟩ := step_rng hx
  (refine Fn.enter (args := [u, .slice a p.length c, xv]) Tryz.func101 rfl Tryz.ntmps101 rfl ?_; intro w0)
  repeat (refine s101_L7x ?_; intros)
  refine JC.cond rfl (fun he => ?_) (fun he => ?_)
  · have he : z0 (checkP s p) = false := by simpa [z0] using he
    repeat (refine s101_L7x ?_; intros)
    (refine JX.ret2 Tryz.results101 (ResV.tmp rfl) (ResV.tmp rfl) (List.nil_sublist _) ?_)
    exact ⟨rfl, _, by rw [applyP, he]; rfl, by rw [applyP, he]; exact V_nil⟩
  have he : z0 (checkP s p) = true := by simpa [z0] using he
  have hok : checkP s p = 0 := by simpa [z0] using he
  obtain ⟨hs, hlen, hodd⟩ := checkP_ok hok
  obtain ⟨hn8, hp24, ho8⟩ := shaped_small (checkS_ok hs).1
  obtain ⟨kd, pd, nd⟩ := x
  dsimp only at hxr1 hxr2 hxr3
  unfold Rng at hxr2 hxr3
  have hap0 : applyP s p ⟨kd, pd, nd⟩ = (if !decide (kd = 1) && !decide (kd = 2) then ([], 2)
    else if decide (pd < 0) || decide ((p.length : Int) ≤ pd) || decide (nd < 0) || (decide (kd = 2) && decide ((s.nodes.length : Int) ≤ nd)) || (decide (kd = 1) && !decide (nd = 0)) then ([], 9)
    else if (decide (at0 p pd.toNat = -1) == decide (kd = 1)) || (decide (kd = 2) && lostAt s nd) then ([], 110)
    else (p.set pd.toNat (if kd = 2 then nd else -1), 0)) := by rw [applyP, he]; rfl
  by_cases hk1 : kd = 1
  · subst hk1
    by_cases hbad : pd < 0 ∨ (p.length : Int) ≤ pd ∨ nd < 0 ∨ ¬ nd = 0
    · have hap : applyP s p ⟨1, pd, nd⟩ = ([], 9) := by rw [hap0]; simp; intro h1 h2 h3 h4; omega
      rw [hap]
      repeat' (first | (refine s101_L7x ?_; intros) | (refine JO.guard rfl rfl rfl rfl ?_ ?_ <;> intro _) | (refine JC.cond rfl ?_ ?_ <;> intro _))
      all_goals first
        | ((refine JX.ret2 Tryz.results101 (ResV.tmp rfl) (ResV.tmp rfl) (List.nil_sublist _) ?_); exact ⟨rfl, _, rfl, V_nil⟩)
        | (clear hap hap0; (exfalso; first | (simp only [decide_eq_true_eq, decide_eq_false_iff_not, Bool.not_eq_true', Bool.not_eq_false', Bool.and_eq_true, Bool.or_eq_true, Bool.and_eq_false_iff, Bool.or_eq_false_iff] at *; omega) | (simp_all; done) | (simp_all; omega)))
    · obtain ⟨i, rfl⟩ : ∃ i : Nat, pd = i := ⟨pd.toNat, by omega⟩
      obtain rfl : nd = 0 := by omega
      have hi : i < p.length := by omega
      obtain ⟨z, hz, _⟩ := drop_at hi
      have ecast : ((i : Int)).toNat = i := by omega
      have hz0 := at0_some hz
      have hz' : p[((i : Int)).toNat]? = some z := by rw [ecast]; exact hz
      have e1 : decide ((i : Int) < 0) = false := by simp
      have e2 : decide ((p.length : Int) ≤ (i : Int)) = false := by simp; omega
      have hap : applyP s p ⟨1, i, 0⟩ = (if z = -1 then ([], 110) else (p.set i (-1), 0)) := by rw [hap0]; simp only [e1, e2, ecast, hz0]; by_cases h : z = -1 <;> simp [h]
      have hzr := hprn z (List.mem_of_getElem? hz)
      by_cases hz1 : z = -1
      · rw [hap, if_pos hz1]
        repeat' (first | (refine s101_L7x ?_; intros) | (refine JO.guard rfl rfl rfl rfl ?_ ?_ <;> intro _) | (refine JC.cond rfl ?_ ?_ <;> intro _))
        all_goals first
          | ((refine JX.ret2 Tryz.results101 (ResV.tmp rfl) (ResV.tmp rfl) (List.nil_sublist _) ?_); exact ⟨rfl, _, rfl, V_nil⟩)
          | (clear hap hap0; (exfalso; first | (simp only [decide_eq_true_eq, decide_eq_false_iff_not, Bool.not_eq_true', Bool.not_eq_false', Bool.and_eq_true, Bool.or_eq_true, Bool.and_eq_false_iff, Bool.or_eq_false_iff] at *; omega) | (simp_all; done) | (simp_all; omega)))
      rw [hap, if_neg hz1]
      repeat' (first | (refine s101_L7x ?_; intros) | (refine JO.guard rfl rfl rfl rfl ?_ ?_ <;> intro _) | (refine JC.cond rfl ?_ ?_ <;> intro _))
      all_goals first
        | (clear hap hap0; (exfalso; first | (simp only [decide_eq_true_eq, decide_eq_false_iff_not, Bool.not_eq_true', Bool.not_eq_false', Bool.and_eq_true, Bool.or_eq_true, Bool.and_eq_false_iff, Bool.or_eq_false_iff] at *; omega) | (simp_all; done) | (simp_all; omega)))
        | skip
      repeat (refine s101_L7x ?_; intros)
      refine JO.eff rfl rfl rfl (JEff.build0 rI64 rfl ?_); intro b0
      repeat (refine s101_L7x ?_; intros)
      (refine JO.eff rfl rfl rfl (JEff.appendS (rep := rI64) rfl rfl (hv0.mono (by exact lea)) rfl rfl (List.Perm.refl _) (by unfold big; omega) (by unfold big; omega) (by intro l hl; cases hl) rfl ?_); intro a2 c2 us1 hus1)
      rw [List.nil_append, flat_int hus1, Nat.zero_add]
      refine JO.rowBlk (by omega) (fun b tl hab hbb hnc => ?_)
      subst hab
      repeat (refine s101_L7x ?_; intros)
      refine JO.pure rfl rfl rfl (JPure.indexRI rfl rfl rfl (by dsimp only; omega) (by dsimp only; omega) ?_)
      refine JO.eff rfl rfl rfl (JEff.storeIT (i := i) rfl rfl (by unfold Rng; omega) (List.Perm.refl _) (by omega) (by intro l hl; cases hl) ?_)
      repeat (refine s101_L7x ?_; intros)
      refine JX.freezeIT (by simp) hnc (by unfold big; omega) (fun y hy => by rcases List.mem_or_eq_of_mem_set hy with hy | rfl; exact hprn y hy; unfold Rng; omega) hbb (fun S9 hl9 hV9 => ?_)
      (refine JX.ret2 Tryz.results101 (ResV.tmp rfl) (ResV.tmp rfl) (List.nil_sublist _) ?_)
      exact ⟨rfl, _, rfl, hV9⟩
  · by_cases hk2 : kd = 2
    · subst hk2
      by_cases hbad : pd < 0 ∨ (p.length : Int) ≤ pd ∨ nd < 0 ∨ (s.nodes.length : Int) ≤ nd
      · have hap : applyP s p ⟨2, pd, nd⟩ = ([], 9) := by rw [hap0]; simp; intro h1 h2 h3 h4; omega
        rw [hap]
        repeat' (first | (refine s101_L7x ?_; intros) | (refine JO.guard rfl rfl rfl rfl ?_ ?_ <;> intro _) | (refine JC.cond rfl ?_ ?_ <;> intro _))
        all_goals first
          | ((refine JX.ret2 Tryz.results101 (ResV.tmp rfl) (ResV.tmp rfl) (List.nil_sublist _) ?_); exact ⟨rfl, _, rfl, V_nil⟩)
          | (clear hap hap0; (exfalso; first | (simp only [decide_eq_true_eq, decide_eq_false_iff_not, Bool.not_eq_true', Bool.not_eq_false', Bool.and_eq_true, Bool.or_eq_true, Bool.and_eq_false_iff, Bool.or_eq_false_iff] at *; omega) | (simp_all; done) | (simp_all; omega)))
      · obtain ⟨i, rfl⟩ : ∃ i : Nat, pd = i := ⟨pd.toNat, by omega⟩
        obtain ⟨m, rfl⟩ : ∃ m : Nat, nd = m := ⟨nd.toNat, by omega⟩
        have hi : i < p.length := by omega
        obtain ⟨z, hz, _⟩ := drop_at hi
        obtain ⟨nn, hnn, _⟩ := drop_at (l := s.nodes) (show m < s.nodes.length by omega)
        have ecast : ((i : Int)).toNat = i := by omega
        have ecast2 : ((m : Int)).toNat = m := by omega
        have hz0 := at0_some hz
        have hz' : p[((i : Int)).toNat]? = some z := by rw [ecast]; exact hz
        have hnn' : s.nodes[((m : Int)).toNat]? = some nn := by rw [ecast2]; exact hnn
        have hlo : lostAt s m = nn.lost := by simp [lostAt, hnn]
        have e1 : decide ((i : Int) < 0) = false := by simp
        have e2 : decide ((p.length : Int) ≤ (i : Int)) = false := by simp; omega
        have e3 : decide ((m : Int) < 0) = false := by simp
        have e4 : decide ((s.nodes.length : Int) ≤ (m : Int)) = false := by simp; omega
        have hap : applyP s p ⟨2, i, m⟩ = (if ¬ z = -1 ∨ nn.lost = true then ([], 110) else (p.set i m, 0)) := by rw [hap0]; simp only [e1, e2, e3, e4, ecast, hz0, hlo]; by_cases h : z = -1 <;> simp [h]
        have hzr := hprn z (List.mem_of_getElem? hz)
        by_cases hst : ¬ z = -1 ∨ nn.lost = true
        · rw [hap, if_pos hst]
          repeat' (first | (refine s101_L7x ?_; intros) | (refine JO.guard rfl rfl rfl rfl ?_ ?_ <;> intro _) | (refine JC.cond rfl ?_ ?_ <;> intro _))
          all_goals first
            | ((refine JX.ret2 Tryz.results101 (ResV.tmp rfl) (ResV.tmp rfl) (List.nil_sublist _) ?_); exact ⟨rfl, _, rfl, V_nil⟩)
            | (clear hap hap0; (exfalso; first | (simp only [decide_eq_true_eq, decide_eq_false_iff_not, Bool.not_eq_true', Bool.not_eq_false', Bool.and_eq_true, Bool.or_eq_true, Bool.and_eq_false_iff, Bool.or_eq_false_iff] at *; omega) | (simp_all; done) | (simp_all; omega)))
        rw [hap, if_neg hst]
        repeat' (first | (refine s101_L7x ?_; intros) | (refine JO.guard rfl rfl rfl rfl ?_ ?_ <;> intro _) | (refine JC.cond rfl ?_ ?_ <;> intro _))
        all_goals first
          | (clear hap hap0; (exfalso; first | (simp only [decide_eq_true_eq, decide_eq_false_iff_not, Bool.not_eq_true', Bool.not_eq_false', Bool.and_eq_true, Bool.or_eq_true, Bool.and_eq_false_iff, Bool.or_eq_false_iff] at *; omega) | (simp_all; done) | (simp_all; omega)))
          | skip
        repeat (refine s101_L7x ?_; intros)
        refine JO.eff rfl rfl rfl (JEff.build0 rI64 rfl ?_); intro b0
        repeat (refine s101_L7x ?_; intros)
        (refine JO.eff rfl rfl rfl (JEff.appendS (rep := rI64) rfl rfl (hv0.mono (by exact lea)) rfl rfl (List.Perm.refl _) (by unfold big; omega) (by unfold big; omega) (by intro l hl; cases hl) rfl ?_); intro a2 c2 us1 hus1)
        rw [List.nil_append, flat_int hus1, Nat.zero_add]
        refine JO.rowBlk (by omega) (fun b tl hab hbb hnc => ?_)
        subst hab
        repeat (refine s101_L7x ?_; intros)
        refine JO.pure rfl rfl rfl (JPure.indexRI rfl rfl rfl (by dsimp only; omega) (by dsimp only; omega) ?_)
        refine JO.eff rfl rfl rfl (JEff.storeIT (i := i) rfl rfl (by unfold Rng; omega) (List.Perm.refl _) (by omega) (by intro l hl; cases hl) ?_)
        repeat (refine s101_L7x ?_; intros)
        refine JO.pure rfl rfl rfl (JPure.indexRI rfl rfl rfl (by dsimp only; omega) (by dsimp only; omega) ?_)
        refine JO.eff rfl rfl rfl (JEff.storeIT (i := i) rfl rfl (by unfold Rng; omega) (List.Perm.refl _) (by rw [List.length_set]; omega) (by intro l hl; cases hl) ?_)
        repeat (refine s101_L7x ?_; intros)
        rw [List.set_set]
        refine JX.freezeIT (by simp) hnc (by unfold big; omega) (fun y hy => by rcases List.mem_or_eq_of_mem_set hy with hy | rfl; exact hprn y hy; unfold Rng; omega) hbb (fun S9 hl9 hV9 => ?_)
        (refine JX.ret2 Tryz.results101 (ResV.tmp rfl) (ResV.tmp rfl) (List.nil_sublist _) ?_)
        exact ⟨rfl, _, rfl, hV9⟩
    · have hap : applyP s p ⟨kd, pd, nd⟩ = ([], 2) := by rw [hap0]; simp [hk1, hk2]
      rw [hap]
      repeat' (first | (refine s101_L7x ?_; intros) | (refine JO.guard rfl rfl rfl rfl ?_ ?_ <;> intro _) | (refine JC.cond rfl ?_ ?_ <;> intro _))
      all_goals first
        | ((refine JX.ret2 Tryz.results101 (ResV.tmp rfl) (ResV.tmp rfl) (List.nil_sublist _) ?_); exact ⟨rfl, _, rfl, V_nil⟩)
        | (clear hap hap0; (exfalso; first | (simp only [decide_eq_true_eq, decide_eq_false_iff_not, Bool.not_eq_true', Bool.not_eq_false', Bool.and_eq_true, Bool.or_eq_true, Bool.and_eq_false_iff, Bool.or_eq_false_iff] at *; omega) | (simp_all; done) | (simp_all; omega)))
end Go.Dr
