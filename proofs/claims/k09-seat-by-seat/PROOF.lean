import PyProof.Rows.All
import Wide.All
import OpenK.AllK
import Wide.FinOn
import PyProof.EqAt
import PyProof.EqKinds
import PyProof.TupleCall
import HandS.ForMost
import HandS.Conv
import HandS.TupAny
import HandS.TupMul
import HandS.TupSets
import HandS.SortInts
import HandS.Deep
import HandS.IsInst
import HandS.Exc
import HandS.TryOnly
import HandS.ExcInit
import HandS.ExcIs
import HandS.ExcField
import HandS.WordsExc
import HandS.Evl
import HandS.Small
import HandS.Steps
import PySem.Challenge.RW_dividedseats_k09_whole_seat_by_seat
set_option Elab.async false
set_option linter.all false
set_option maxRecDepth 100000
set_option maxHeartbeats 16000000
/-! The plain law: divisor methods, validity of seats, all giving orders. No program here. -/
namespace Dm

/-- the item at an index (0 where there is none) -/
def ix (xs : List Int) (i : Int) : Int := xs.getD i.toNat 0
theorem ix_nat (xs : List Int) (i : Nat) : ix xs (i : Int) = xs.getD i 0 := rfl
theorem ix_get {xs : List Int} {i : Nat} (h : i < xs.length) : xs[i]? = some (ix xs (i : Int)) := by
  rw [ix_nat, List.getD_eq_getElem?_getD, List.getElem?_eq_getElem h]; rfl
theorem ix_mem {xs : List Int} {i : Nat} (h : i < xs.length) : ix xs (i : Int) ∈ xs := by
  have := ix_get h
  exact List.mem_of_getElem? this
theorem ix_set {xs : List Int} {p i : Nat} {x : Int} (hp : p < xs.length) : ix (xs.set p x) (i : Int) = if i = p then x else ix xs (i : Int) := by
  rw [ix_nat, ix_nat, List.getD_eq_getElem?_getD, List.getD_eq_getElem?_getD, List.getElem?_set]
  by_cases h : p = i
  · subst h; simp [hp]
  · rw [if_neg h, if_neg (fun e => h e.symm)]
theorem sum_setI : ∀ {xs : List Int} {p : Nat} {x : Int}, p < xs.length → (xs.set p x).sum = xs.sum - ix xs (p : Int) + x
  | [], p, x, h => by simp at h
  | a :: r, 0, x, h => by
    show List.sum (x :: r) = List.sum (a :: r) - a + x
    rw [List.sum_cons, List.sum_cons]; omega
  | a :: r, p + 1, x, h => by
    have ih := sum_setI (xs := r) (p := p) (x := x) (by simpa using h)
    have e : ix (a :: r) ((p + 1 : Nat) : Int) = ix r (p : Int) := rfl
    show (a :: r.set p x).sum = (a :: r).sum - ix (a :: r) ((p + 1 : Nat) : Int) + x
    rw [e, List.sum_cons, List.sum_cons, ih]; omega
theorem sum_nonneg : ∀ {xs : List Int}, (∀ x ∈ xs, 0 ≤ x) → 0 ≤ xs.sum
  | [], _ => by simp
  | a :: r, h => by
    have h1 := h a (by simp)
    have h2 := sum_nonneg (xs := r) (fun x hx => h x (by simp [hx]))
    rw [List.sum_cons]; omega
theorem le_sum : ∀ {xs : List Int}, (∀ x ∈ xs, 0 ≤ x) → ∀ x ∈ xs, x ≤ xs.sum
  | [], _, x, hx => by simp at hx
  | a :: r, h, x, hx => by
    have h1 := h a (by simp)
    have h2 := sum_nonneg (xs := r) (fun x hx => h x (by simp [hx]))
    rw [List.sum_cons]
    rcases List.mem_cons.mp hx with e | e
    · omega
    · have := le_sum (xs := r) (fun x hx => h x (by simp [hx])) x e
      omega

/-! ### the words of the document -/
def wrongB (d v s : List Int) (i j : Int) : Bool := if ix s i = 0 then false else decide (ix v j * ix d (ix s i - 1) > ix v i * ix d (ix s j))
def validB (d v s : List Int) : Bool := (List.range v.length).all fun i => (List.range v.length).all fun j => decide (i = j) || !wrongB d v s i j
def aheadB (d v s : List Int) (i j : Int) : Bool := decide (ix v i * ix d (ix s j) > ix v j * ix d (ix s i))
def nextB (d v s : List Int) (p : Nat) : Bool := !((List.range v.length).any fun q => aheadB d v s q p)
def toI (l : List Nat) : List Int := l.map fun k : Nat => (k : Int)
def nextL (d v s : List Int) : List Int := toI ((List.range v.length).filter (nextB d v s))
def givenS (s : List Int) (p : Int) : List Int := s.set p.toNat (ix s p + 1)
def lessS (s : List Int) (p : Nat) : List Int := s.set p (ix s (p : Int) - 1)
def lastB (d v s : List Int) (p : Nat) : Bool := decide (ix s (p : Int) > 0) && (validB d v (lessS s p) && nextB d v (lessS s p) p)
def lastL (d v s : List Int) : List Int := toI ((List.range v.length).filter (lastB d v s))

/-! ### all seats -/
def grow (h : Int) (r : List Int) : List (List Int) := (List.range (h - r.sum + 1).toNat).map fun less : Nat => r ++ [h - r.sum - (less : Int)]
def allRows : Nat → Int → List (List Int)
  | 0, _ => [[]]
  | n + 1, h => (allRows n h).flatMap (grow h)
def allSeats (n : Nat) (h : Int) : List (List Int) := (allRows n h).filter fun r => decide (r.sum = h)
theorem mem_grow {h : Int} {r t : List Int} (hr : r.sum ≤ h) : t ∈ grow h r ↔ ∃ x : Int, 0 ≤ x ∧ r.sum + x ≤ h ∧ t = r ++ [x] := by
  unfold grow
  rw [List.mem_map]
  constructor
  · rintro ⟨k, hk, rfl⟩
    rw [List.mem_range] at hk
    exact ⟨h - r.sum - (k : Int), by omega, by omega, rfl⟩
  · rintro ⟨x, h0, h1, rfl⟩
    refine ⟨(h - r.sum - x).toNat, ?_, ?_⟩
    · rw [List.mem_range]; omega
    · have : h - r.sum - ((h - r.sum - x).toNat : Int) = x := by omega
      rw [this]
theorem sum_snoc (r : List Int) (x : Int) : (r ++ [x]).sum = r.sum + x := by
  rw [List.sum_append, List.sum_singleton]
theorem mem_allRows : ∀ {n : Nat} {h : Int} {r : List Int}, 0 ≤ h → (r ∈ allRows n h ↔ r.length = n ∧ (∀ x ∈ r, 0 ≤ x) ∧ r.sum ≤ h)
  | 0, h, r, h0 => by
    unfold allRows
    rw [List.mem_singleton]
    constructor
    · rintro rfl; exact ⟨rfl, by simp, by simpa using h0⟩
    · rintro ⟨e, _⟩; exact List.length_eq_zero_iff.mp e
  | n + 1, h, r, h0 => by
    unfold allRows
    rw [List.mem_flatMap]
    constructor
    · rintro ⟨t, ht, hr⟩
      obtain ⟨e1, e2, e3⟩ := (mem_allRows h0).mp ht
      obtain ⟨x, x0, x1, rfl⟩ := (mem_grow e3).mp hr
      refine ⟨by simp [e1], fun y hy => ?_, by rw [sum_snoc]; exact x1⟩
      rcases List.mem_append.mp hy with q | q
      · exact e2 y q
      · rw [List.mem_singleton] at q; subst q; exact x0
    · rintro ⟨e1, e2, e3⟩
      have hne : r ≠ [] := fun z => by rw [z] at e1; simp at e1
      have es : r = r.dropLast ++ [r.getLast hne] := (List.dropLast_concat_getLast hne).symm
      have x0 : 0 ≤ r.getLast hne := e2 _ (List.getLast_mem hne)
      have s1 : r.sum = r.dropLast.sum + r.getLast hne := by
        conv => lhs; rw [es]
        exact sum_snoc _ _
      have d0 : ∀ x ∈ r.dropLast, 0 ≤ x := fun x hx => e2 x (List.dropLast_subset r hx)
      have q : r.dropLast ∈ allRows n h := (mem_allRows h0).mpr ⟨by rw [List.length_dropLast]; omega, d0, by omega⟩
      exact ⟨_, q, (mem_grow (by omega)).mpr ⟨_, x0, by omega, es⟩⟩
theorem mem_allSeats {n : Nat} {h : Int} {r : List Int} (h0 : 0 ≤ h) : r ∈ allSeats n h ↔ r.length = n ∧ (∀ x ∈ r, 0 ≤ x) ∧ r.sum = h := by
  unfold allSeats
  rw [List.mem_filter, mem_allRows h0, decide_eq_true_eq]
  constructor
  · rintro ⟨⟨a, b, c⟩, e⟩; exact ⟨a, b, e⟩
  · rintro ⟨a, b, c⟩; exact ⟨⟨a, b, by omega⟩, c⟩
theorem nodup_grow (h : Int) (r : List Int) : (grow h r).Nodup := by
  unfold grow
  refine List.pairwise_map.mpr (List.nodup_range.imp fun {a b} hab e => hab ?_)
  have q := List.append_cancel_left e
  have := List.head_eq_of_cons_eq q
  omega
theorem nodup_allRows : ∀ {n : Nat} {h : Int}, (allRows n h).Nodup
  | 0, h => by unfold allRows; simp
  | n + 1, h => by
    unfold allRows
    refine List.pairwise_flatMap.mpr ⟨fun r _ => nodup_grow h r, nodup_allRows.imp fun {a b} hab x hx y hy e => hab ?_⟩
    unfold grow at hx hy
    obtain ⟨i, _, rfl⟩ := List.mem_map.mp hx
    obtain ⟨j, _, rfl⟩ := List.mem_map.mp hy
    have := congrArg List.dropLast e
    simpa using this
theorem nodup_allSeats {n : Nat} {h : Int} : (allSeats n h).Nodup := nodup_allRows.sublist List.filter_sublist

/-! ### divisors and votes -/
structure Div (d : List Int) : Prop where
  pos : ∀ k : Int, 0 ≤ k → k ≤ 8 → 0 < ix d k
  mono : ∀ a b : Int, 0 ≤ a → a ≤ b → b ≤ 8 → ix d a ≤ ix d b
structure Vot (v : List Int) : Prop where
  pos : ∀ x ∈ v, 0 < x
theorem Vot.at {v : List Int} (V : Vot v) {i : Nat} (h : i < v.length) : 0 < ix v (i : Int) := V.pos _ (ix_mem h)

theorem validB_iff {d v s : List Int} : validB d v s = true ↔ ∀ i j : Nat, i < v.length → j < v.length → i ≠ j → ix s (i : Int) ≠ 0 → ix v (j : Int) * ix d (ix s (i : Int) - 1) ≤ ix v (i : Int) * ix d (ix s (j : Int)) := by
  unfold validB wrongB
  rw [List.all_eq_true]
  constructor
  · intro h i j hi hj hne h0
    have h1 := h i (List.mem_range.mpr hi)
    rw [List.all_eq_true] at h1
    have h2 := h1 j (List.mem_range.mpr hj)
    rw [decide_eq_false hne, Bool.false_or, if_neg h0] at h2
    have h3 : ¬ (ix v (j : Int) * ix d (ix s (i : Int) - 1) > ix v (i : Int) * ix d (ix s (j : Int))) := by simpa using h2
    omega
  · intro h i hi
    rw [List.all_eq_true]
    intro j hj
    by_cases e : i = j
    · simp [e]
    · by_cases h0 : ix s (i : Int) = 0
      · rw [if_pos h0]; simp
      · have := h i j (List.mem_range.mp hi) (List.mem_range.mp hj) e h0
        rw [if_neg h0, decide_eq_false (Int.not_lt.mpr this)]; simp
theorem nextB_iff {d v s : List Int} {p : Nat} : nextB d v s p = true ↔ ∀ q : Nat, q < v.length → ix v (q : Int) * ix d (ix s (p : Int)) ≤ ix v (p : Int) * ix d (ix s (q : Int)) := by
  unfold nextB aheadB
  rw [Bool.not_eq_true', List.any_eq_false]
  constructor
  · intro h q hq
    have := h q (List.mem_range.mpr hq)
    simp at this
    exact this
  · intro h q hq
    have := h q (List.mem_range.mp hq)
    simpa using this
theorem mem_toI {l : List Nat} {x : Int} : x ∈ toI l ↔ ∃ k ∈ l, x = (k : Int) := by
  unfold toI
  rw [List.mem_map]
  exact ⟨fun ⟨k, a, b⟩ => ⟨k, a, b.symm⟩, fun ⟨k, a, b⟩ => ⟨k, a, b.symm⟩⟩
theorem mem_nextL {d v s : List Int} {x : Int} : x ∈ nextL d v s ↔ ∃ p : Nat, p < v.length ∧ nextB d v s p = true ∧ x = (p : Int) := by
  unfold nextL
  rw [mem_toI]
  constructor
  · rintro ⟨k, hk, e⟩
    rw [List.mem_filter, List.mem_range] at hk
    exact ⟨k, hk.1, hk.2, e⟩
  · rintro ⟨k, a, b, e⟩
    exact ⟨k, List.mem_filter.mpr ⟨List.mem_range.mpr a, b⟩, e⟩
theorem nodup_toI {l : List Nat} (h : l.Nodup) : (toI l).Nodup := List.pairwise_map.mpr (h.imp fun {a b} hab e => hab (by omega))
theorem nodup_nextL {d v s : List Int} : (nextL d v s).Nodup := nodup_toI (List.nodup_range.sublist List.filter_sublist)
theorem sorted_toI {l : List Nat} (h : l.Pairwise (· < ·)) : (toI l).Pairwise (· ≤ ·) := List.pairwise_map.mpr (h.imp fun {a b} hab => by omega)

/-- one of a list has the least quotient a / b -/
theorem exists_min (a b : Nat → Int) : ∀ l : List Nat, l ≠ [] → (∀ i ∈ l, 0 < b i) → ∃ p ∈ l, ∀ i ∈ l, a p * b i ≤ a i * b p
  | [], h, _ => absurd rfl h
  | [x], _, _ => ⟨x, by simp, fun i hi => by rw [List.mem_singleton] at hi; subst hi; exact Int.le_refl _⟩
  | x :: y :: r, _, hb => by
    obtain ⟨p, hp, hm⟩ := exists_min a b (y :: r) (by simp) fun i hi => hb i (by simp [List.mem_cons.mp hi])
    have bx : 0 < b x := hb x (by simp)
    have bp : 0 < b p := hb p (List.mem_cons_of_mem _ hp)
    by_cases h : a x * b p ≤ a p * b x
    · refine ⟨x, by simp, fun i hi => ?_⟩
      rcases List.mem_cons.mp hi with e | e
      · subst e; exact Int.le_refl _
      · have bi : 0 < b i := hb i hi
        have h2 := hm i e
        have fin : ∀ m n c : Int, 0 < c → m * c ≤ n * c → m ≤ n := fun m n c hc q => Int.le_of_mul_le_mul_right q hc
        refine fin _ _ (b p) bp ?_
        have e1 : a x * b i * b p = a x * b p * b i := by rw [Int.mul_assoc, Int.mul_comm (b i), ← Int.mul_assoc]
        have e2 : a i * b x * b p = a i * b p * b x := by rw [Int.mul_assoc, Int.mul_comm (b x), ← Int.mul_assoc]
        have e3 : a p * b x * b i = a p * b i * b x := by rw [Int.mul_assoc, Int.mul_comm (b x), ← Int.mul_assoc]
        have s1 : a x * b p * b i ≤ a p * b x * b i := Int.mul_le_mul_of_nonneg_right h (Int.le_of_lt bi)
        have s2 : a p * b i * b x ≤ a i * b p * b x := Int.mul_le_mul_of_nonneg_right h2 (Int.le_of_lt bx)
        rw [e1, e2]
        omega
    · refine ⟨p, List.mem_cons_of_mem _ hp, fun i hi => ?_⟩
      rcases List.mem_cons.mp hi with e | e
      · subst e; omega
      · exact hm i e

section
variable {d v s : List Int} {n : Nat} {k : Int}
/-- seats of a house within the divisors' reach -/
structure Sea (n : Nat) (k : Int) (s : List Int) : Prop where
  len : s.length = n
  nn : ∀ x ∈ s, 0 ≤ x
  sum : s.sum = k
theorem Sea.at (S : Sea n k s) {i : Nat} (h : i < n) : 0 ≤ ix s (i : Int) ∧ ix s (i : Int) ≤ k := by
  have hi : i < s.length := by rw [S.len]; exact h
  have m := ix_mem hi
  refine ⟨S.nn _ m, ?_⟩
  have := le_sum S.nn _ m
  rw [S.sum] at this
  exact this
theorem Sea.of (h0 : 0 ≤ k) : s ∈ allSeats n k ↔ Sea n k s := by
  rw [mem_allSeats h0]
  exact ⟨fun ⟨a, b, c⟩ => ⟨a, b, c⟩, fun ⟨a, b, c⟩ => ⟨a, b, c⟩⟩
theorem Sea.set (S : Sea n k s) {p : Nat} (hp : p < n) {x : Int} (hx : 0 ≤ ix s (p : Int) + x) : Sea n (k + x) (s.set p (ix s (p : Int) + x)) := by
  refine ⟨by rw [List.length_set]; exact S.len, fun y hy => ?_, ?_⟩
  · rcases List.mem_or_eq_of_mem_set hy with q | q
    · exact S.nn y q
    · rw [q]; exact hx
  · rw [sum_setI (by rw [S.len]; exact hp), S.sum]; omega
theorem set_back {p : Nat} {x : Int} (hp : p < s.length) : (s.set p x).set p (ix (s.set p x) (p : Int) + (ix s (p : Int) - x)) = s := by
  rw [ix_set hp, if_pos rfl, List.set_set]
  have : x + (ix s (p : Int) - x) = ix s (p : Int) := by omega
  rw [this]
  apply List.ext_getElem?
  intro i
  rw [List.getElem?_set]
  by_cases e : p = i
  · subst e; rw [if_pos rfl, if_pos hp, ix_get hp]
  · rw [if_neg e]
theorem given_less {p : Nat} (hp : p < s.length) : givenS (lessS s p) (p : Int) = s := by
  have := set_back (s := s) (p := p) (x := ix s (p : Int) - 1) hp
  rw [show ix s (p : Int) - (ix s (p : Int) - 1) = 1 by omega] at this
  exact this
theorem less_given {p : Nat} (hp : p < s.length) : lessS (givenS s (p : Int)) p = s := by
  have := set_back (s := s) (p := p) (x := ix s (p : Int) + 1) hp
  rw [show ix s (p : Int) - (ix s (p : Int) + 1) = -1 by omega] at this
  exact this
theorem ix_given {p i : Nat} (hp : p < s.length) : ix (givenS s (p : Int)) (i : Int) = if i = p then ix s (p : Int) + 1 else ix s (i : Int) := ix_set (x := ix s (p : Int) + 1) hp
theorem ix_less {p i : Nat} (hp : p < s.length) : ix (lessS s p) (i : Int) = if i = p then ix s (p : Int) - 1 else ix s (i : Int) := ix_set (x := ix s (p : Int) - 1) hp

/-- a seat more for a next party: valid (point 22) -/
theorem step_up (D : Div d) (V : Vot v) (hk : 0 ≤ k ∧ k < 8) (S : Sea v.length k s) (hv : validB d v s = true) {p : Nat} (hp : p < v.length) (hn : nextB d v s p = true) : validB d v (givenS s (p : Int)) = true := by
  have hps : p < s.length := by rw [S.len]; exact hp
  rw [validB_iff] at hv ⊢
  rw [nextB_iff] at hn
  intro i j hi hj hne h0
  have ai := S.at hi
  have aj := S.at hj
  have ap := S.at hp
  rw [ix_given hps] at h0 ⊢
  rw [ix_given hps]
  by_cases e : i = p
  · subst e
    rw [if_pos rfl, if_neg (fun z => hne z.symm), show ix s (i : Int) + 1 - 1 = ix s (i : Int) by omega]
    exact hn j hj
  · rw [if_neg e] at h0 ⊢
    have h1 := hv i j hi hj hne h0
    by_cases e2 : j = p
    · subst e2
      rw [if_pos rfl]
      have m := D.mono (ix s (j : Int)) (ix s (j : Int) + 1) (by omega) (by omega) (by omega)
      have := Int.mul_le_mul_of_nonneg_left m (Int.le_of_lt (V.at hi))
      omega
    · rw [if_neg e2]; exact h1

/-- every valid seats of a greater house come so (point 22) -/
theorem step_down (D : Div d) (V : Vot v) (hk : 0 < k ∧ k ≤ 8) (S : Sea v.length k s) (hv : validB d v s = true) :
    ∃ p : Nat, p < v.length ∧ 0 < ix s (p : Int) ∧ validB d v (lessS s p) = true ∧ nextB d v (lessS s p) p = true := by
  have hvi := validB_iff.mp hv
  obtain ⟨p, hp, hm⟩ := exists_min (fun i => ix v (i : Int)) (fun i => ix d (ix s (i : Int) - 1)) ((List.range v.length).filter fun i => decide (0 < ix s (i : Int))) (by
    intro z
    have all0 : ∀ x ∈ s, x = 0 := fun x hx => by
      obtain ⟨i, hi, rfl⟩ := List.mem_iff_getElem.mp hx
      have hi' : i < v.length := by rw [← S.len]; exact hi
      have e : s[i] = ix s (i : Int) := by
        have := ix_get hi
        rw [List.getElem?_eq_getElem hi] at this
        exact Option.some.inj this
      have a := S.at hi'
      have : ¬ 0 < ix s (i : Int) := fun q => by
        have : i ∈ ([] : List Nat) := by rw [← z]; exact List.mem_filter.mpr ⟨List.mem_range.mpr hi', decide_eq_true q⟩
        simp at this
      omega
    have s0 : ∀ {l : List Int}, (∀ x ∈ l, x = 0) → l.sum = 0 := by
      intro l
      induction l with
      | nil => intro _; rfl
      | cons a r ih =>
        intro h
        rw [List.sum_cons, h a (by simp), ih fun x hx => h x (by simp [hx])]; rfl
    have := s0 all0
    rw [S.sum] at this
    omega) (fun i hi => by
      rw [List.mem_filter, List.mem_range, decide_eq_true_eq] at hi
      have a := S.at hi.1
      exact D.pos _ (by omega) (by omega))
  rw [List.mem_filter, List.mem_range, decide_eq_true_eq] at hp
  obtain ⟨hp, hpos⟩ := hp
  have hps : p < s.length := by rw [S.len]; exact hp
  have ap := S.at hp
  refine ⟨p, hp, hpos, validB_iff.mpr fun i j hi hj hne h0 => ?_, nextB_iff.mpr fun q hq => ?_⟩
  · have ai := S.at hi
    have aj := S.at hj
    rw [ix_less hps] at h0 ⊢
    rw [ix_less hps]
    by_cases e : i = p
    · subst e
      rw [if_pos rfl] at h0 ⊢
      rw [if_neg (fun z => hne z.symm)]
      have h1 := hvi i j hi hj hne (by omega)
      have m := D.mono (ix s (i : Int) - 1 - 1) (ix s (i : Int) - 1) (by omega) (by omega) (by omega)
      have := Int.mul_le_mul_of_nonneg_left m (Int.le_of_lt (V.at hj))
      omega
    · rw [if_neg e] at h0 ⊢
      by_cases e2 : j = p
      · subst e2
        rw [if_pos rfl]
        exact hm i (List.mem_filter.mpr ⟨List.mem_range.mpr hi, decide_eq_true (by omega)⟩)
      · rw [if_neg e2]
        exact hvi i j hi hj hne h0
  · rw [ix_less hps, ix_less hps, if_pos rfl]
    by_cases e : q = p
    · subst e; rw [if_pos rfl]; exact Int.le_refl _
    · rw [if_neg e]
      exact hvi p q hp hq (fun z => e z.symm) (by omega)

/-- there is a next party (point 21) -/
theorem next_some (D : Div d) (hk : 0 ≤ k ∧ k ≤ 8) (S : Sea v.length k s) (h0 : 0 < v.length) : nextL d v s ≠ [] := by
  obtain ⟨p, hp, hm⟩ := exists_min (fun i => -ix v (i : Int)) (fun i => ix d (ix s (i : Int))) (List.range v.length) (by
    intro z
    have := congrArg List.length z
    rw [List.length_range, List.length_nil] at this
    omega) (fun i hi => by
      have a := S.at (List.mem_range.mp hi)
      exact D.pos _ (by omega) (by omega))
  intro z
  have : (p : Int) ∈ nextL d v s := mem_nextL.mpr ⟨p, List.mem_range.mp hp, nextB_iff.mpr fun q hq => by
    have := hm q (List.mem_range.mpr hq)
    rw [Int.neg_mul, Int.neg_mul] at this
    omega, rfl⟩
  rw [z] at this
  simp at this
end

/-! ### all giving orders, followed -/
def addG {α : Type} [DecidableEq α] (l : List α) (g : α) : List α := if g ∈ l then l else l ++ [g]
theorem mem_addG {α : Type} [DecidableEq α] {l : List α} {g x : α} : x ∈ addG l g ↔ x ∈ l ∨ x = g := by
  unfold addG
  by_cases h : g ∈ l
  · rw [if_pos h]
    exact ⟨.inl, fun q => q.elim id fun e => by rw [e]; exact h⟩
  · rw [if_neg h, List.mem_append, List.mem_singleton]
theorem nodup_addG {α : Type} [DecidableEq α] {l : List α} {g : α} (h : l.Nodup) : (addG l g).Nodup := by
  unfold addG
  by_cases hg : g ∈ l
  · rw [if_pos hg]; exact h
  · rw [if_neg hg, List.nodup_append]
    exact ⟨h, by simp, fun a ha b hb => by rw [List.mem_singleton] at hb; subst hb; exact fun e => hg (e ▸ ha)⟩
theorem mem_foldG {α : Type} [DecidableEq α] : ∀ {l acc : List α} {x : α}, x ∈ l.foldl addG acc ↔ x ∈ acc ∨ x ∈ l
  | [], acc, x => by simp
  | g :: r, acc, x => by
    rw [List.foldl_cons, mem_foldG, mem_addG, List.mem_cons, or_assoc]
theorem nodup_foldG {α : Type} [DecidableEq α] : ∀ {l acc : List α}, acc.Nodup → (l.foldl addG acc).Nodup
  | [], acc, h => h
  | g :: r, acc, h => by rw [List.foldl_cons]; exact nodup_foldG (nodup_addG h)
/-- the turns of the two inner loops -/
def pairsG (d v : List Int) (rows : List (List Int)) : List (List Int × Int) := rows.flatMap fun s => (nextL d v s).map fun p => (s, p)
def gv (sp : List Int × Int) : List Int := givenS sp.1 sp.2
def laterOf (ps : List (List Int × Int)) : List (List Int) := (ps.map gv).foldl addG []
def lastsOf (ps : List (List Int × Int)) (g : List Int) : List Int := (ps.filter fun sp => decide (gv sp = g)).map (·.2)
def bfs (d v : List Int) : Nat → List (List Int)
  | 0 => [List.replicate v.length 0]
  | k + 1 => laterOf (pairsG d v (bfs d v k))
theorem mem_pairsG {d v : List Int} {rows : List (List Int)} {s : List Int} {x : Int} : (s, x) ∈ pairsG d v rows ↔ s ∈ rows ∧ ∃ p : Nat, p < v.length ∧ nextB d v s p = true ∧ x = (p : Int) := by
  unfold pairsG
  rw [List.mem_flatMap]
  constructor
  · rintro ⟨t, ht, h⟩
    obtain ⟨q, hq, e⟩ := List.mem_map.mp h
    cases e
    exact ⟨ht, mem_nextL.mp hq⟩
  · rintro ⟨h1, h2⟩
    exact ⟨s, h1, List.mem_map.mpr ⟨x, mem_nextL.mpr h2, rfl⟩⟩
theorem nodup_pairsG {d v : List Int} {rows : List (List Int)} (h : rows.Nodup) : (pairsG d v rows).Nodup := by
  unfold pairsG
  refine List.pairwise_flatMap.mpr ⟨fun s _ => List.pairwise_map.mpr (nodup_nextL.imp fun {a b} hab e => hab (congrArg Prod.snd e)), h.imp fun {a b} hab x hx y hy e => hab ?_⟩
  obtain ⟨i, _, rfl⟩ := List.mem_map.mp hx
  obtain ⟨j, _, rfl⟩ := List.mem_map.mp hy
  exact congrArg Prod.fst e
theorem nodup_bfs {d v : List Int} : ∀ {k : Nat}, (bfs d v k).Nodup
  | 0 => by unfold bfs; simp
  | k + 1 => by unfold bfs; exact nodup_foldG List.nodup_nil
theorem mem_laterOf {ps : List (List Int × Int)} {g : List Int} : g ∈ laterOf ps ↔ ∃ sp ∈ ps, gv sp = g := by
  unfold laterOf
  rw [mem_foldG, List.mem_map]
  constructor
  · rintro (h | h)
    · simp at h
    · exact h
  · exact .inr
theorem sum_zeros : ∀ n : Nat, (List.replicate n (0 : Int)).sum = 0
  | 0 => rfl
  | n + 1 => by rw [List.replicate_succ, List.sum_cons, sum_zeros n]; rfl
theorem all_zero {s : List Int} (h : ∀ x ∈ s, 0 ≤ x) (h0 : s.sum = 0) : s = List.replicate s.length 0 := by
  refine List.eq_replicate_iff.mpr ⟨rfl, fun y hy => ?_⟩
  have a := h y hy
  have b := le_sum h y hy
  omega
theorem mem_bfs {d v : List Int} (D : Div d) (V : Vot v) : ∀ {k : Nat} {r : List Int}, k ≤ 8 → (r ∈ bfs d v k ↔ Sea v.length (k : Int) r ∧ validB d v r = true)
  | 0, r, hk => by
    unfold bfs
    rw [List.mem_singleton]
    constructor
    · rintro rfl
      refine ⟨⟨by simp, fun x hx => by rw [(List.mem_replicate.mp hx).2]; exact Int.le_refl 0, sum_zeros _⟩, validB_iff.mpr fun i j hi hj _ h0 => absurd ?_ h0⟩
      rw [ix_nat, List.getD_eq_getElem?_getD, List.getElem?_replicate]
      split <;> rfl
    · rintro ⟨S, _⟩
      have := all_zero S.nn S.sum
      rw [S.len] at this
      exact this
  | k + 1, r, hk => by
    unfold bfs
    rw [mem_laterOf]
    have ck : ((k + 1 : Nat) : Int) = (k : Int) + 1 := by omega
    constructor
    · rintro ⟨⟨s, x⟩, hm, rfl⟩
      obtain ⟨hs, p, hp, hn, rfl⟩ := mem_pairsG.mp hm
      obtain ⟨S, hv⟩ := (mem_bfs D V (by omega)).mp hs
      refine ⟨?_, step_up D V (by omega) S hv hp hn⟩
      rw [ck]
      exact S.set hp (x := 1) (by have := S.at hp; omega)
    · rintro ⟨S, hv⟩
      obtain ⟨p, hp, h0, h1, h2⟩ := step_down D V (by omega) S hv
      have hpr : p < r.length := by rw [S.len]; exact hp
      refine ⟨(lessS r p, (p : Int)), mem_pairsG.mpr ⟨(mem_bfs D V (by omega)).mpr ⟨?_, h1⟩, p, hp, h2, rfl⟩, given_less hpr⟩
      have := S.set hp (x := -1) (by omega)
      rw [show ((k + 1 : Nat) : Int) + -1 = (k : Int) by omega] at this
      exact this

/-- the seats that all giving orders give are the valid ones -/
theorem bfs_perm {d v : List Int} (D : Div d) (V : Vot v) {k : Nat} (hk : k ≤ 8) : (bfs d v k).Perm ((allSeats v.length (k : Int)).filter (validB d v)) := by
  refine (List.perm_ext_iff_of_nodup nodup_bfs (nodup_allSeats.sublist List.filter_sublist)).mpr fun r => ?_
  rw [mem_bfs D V hk, List.mem_filter, Sea.of (by omega)]
theorem bfs_ne {d v : List Int} (D : Div d) (h0 : 0 < v.length) (V : Vot v) : ∀ {k : Nat}, k ≤ 8 → bfs d v k ≠ []
  | 0, _ => by unfold bfs; simp
  | k + 1, hk => by
    have ih := bfs_ne D h0 V (k := k) (by omega)
    obtain ⟨s, hs⟩ := List.exists_mem_of_ne_nil _ ih
    obtain ⟨S, hv⟩ := (mem_bfs D V (by omega)).mp hs
    obtain ⟨x, hx⟩ := List.exists_mem_of_ne_nil _ (next_some D (by omega) S h0)
    intro z
    have : gv (s, x) ∈ bfs d v (k + 1) := by
      unfold bfs
      exact mem_laterOf.mpr ⟨(s, x), mem_pairsG.mpr ⟨hs, mem_nextL.mp hx⟩, rfl⟩
    rw [z] at this
    simp at this
/-- last parties: those whose seat can have been the last one of all -/
theorem lasts_perm {d v : List Int} (D : Div d) (V : Vot v) {k : Nat} (hk : k + 1 ≤ 8) {g : List Int} (hg : Sea v.length ((k + 1 : Nat) : Int) g) : (lastsOf (pairsG d v (bfs d v k)) g).Perm (lastL d v g) := by
  have nd : (lastsOf (pairsG d v (bfs d v k)) g).Nodup := by
    unfold lastsOf
    refine List.pairwise_map.mpr (List.Pairwise.imp_of_mem (R := fun a b => a ≠ b) (fun {a b} ha hb hab e => hab ?_) ((nodup_pairsG nodup_bfs).sublist List.filter_sublist))
    obtain ⟨a1, a2⟩ := List.mem_filter.mp ha
    obtain ⟨b1, b2⟩ := List.mem_filter.mp hb
    obtain ⟨s, x⟩ := a
    obtain ⟨t, y⟩ := b
    obtain ⟨hs, p, hp, _, rfl⟩ := mem_pairsG.mp a1
    obtain ⟨ht, q, hq, _, rfl⟩ := mem_pairsG.mp b1
    have S := ((mem_bfs D V (by omega)).mp hs).1
    have T := ((mem_bfs D V (by omega)).mp ht).1
    have epq : p = q := by
      have : (p : Int) = (q : Int) := e
      omega
    subst epq
    have e1 : givenS s (p : Int) = g := of_decide_eq_true a2
    have e2 : givenS t (p : Int) = g := of_decide_eq_true b2
    have := less_given (s := s) (p := p) (by rw [S.len]; exact hp)
    have h2 := less_given (s := t) (p := p) (by rw [T.len]; exact hp)
    rw [e1] at this
    rw [e2] at h2
    rw [← this, h2]
  have nl : (lastL d v g).Nodup := nodup_toI (List.nodup_range.sublist List.filter_sublist)
  refine (List.perm_ext_iff_of_nodup nd nl).mpr fun x => ?_
  unfold lastsOf lastL lastB
  rw [List.mem_map, mem_toI]
  constructor
  · rintro ⟨⟨s, y⟩, hm, rfl⟩
    obtain ⟨h1, h2⟩ := List.mem_filter.mp hm
    obtain ⟨hs, p, hp, hn, rfl⟩ := mem_pairsG.mp h1
    obtain ⟨S, hv⟩ := (mem_bfs D V (by omega)).mp hs
    have hps : p < s.length := by rw [S.len]; exact hp
    have e : givenS s (p : Int) = g := of_decide_eq_true h2
    have el := less_given hps
    rw [e] at el
    refine ⟨p, List.mem_filter.mpr ⟨List.mem_range.mpr hp, ?_⟩, rfl⟩
    rw [el, hv, hn]
    have a := S.at hp
    have : ix g (p : Int) > 0 := by rw [← e, ix_given hps, if_pos rfl]; omega
    rw [decide_eq_true this]; rfl
  · rintro ⟨p, hm, rfl⟩
    obtain ⟨h1, h2⟩ := List.mem_filter.mp hm
    rw [List.mem_range] at h1
    rw [Bool.and_eq_true, Bool.and_eq_true, decide_eq_true_eq] at h2
    obtain ⟨h0, hv, hn⟩ := h2
    have hpg : p < g.length := by rw [hg.len]; exact h1
    refine ⟨(lessS g p, (p : Int)), List.mem_filter.mpr ⟨mem_pairsG.mpr ⟨(mem_bfs D V (by omega)).mpr ⟨?_, hv⟩, p, h1, hn, rfl⟩, decide_eq_true (given_less hpg)⟩, rfl⟩
    have := hg.set h1 (x := -1) (by omega)
    rw [show ((k + 1 : Nat) : Int) + -1 = (k : Int) by omega] at this
    exact this
theorem perm_sorted {l m : List Int} (h : l.Perm m) (h1 : l.Pairwise (· ≤ ·)) (h2 : m.Pairwise (· ≤ ·)) : l = m :=
  h.eq_of_pairwise (fun a b _ _ x y => Int.le_antisymm x y) h1 h2
theorem sorted_lastL {d v s : List Int} : (lastL d v s).Pairwise (· ≤ ·) := sorted_toI (List.Pairwise.sublist List.filter_sublist List.pairwise_lt_range)
theorem sorted_nextL {d v s : List Int} : (nextL d v s).Pairwise (· ≤ ·) := sorted_toI (List.Pairwise.sublist List.filter_sublist List.pairwise_lt_range)
theorem lastL_zero {d v s : List Int} (S : Sea v.length 0 s) : lastL d v s = [] := by
  have no : (List.range v.length).filter (lastB d v s) = [] := List.filter_eq_nil_iff.mpr fun p hp => by
    have a := S.at (List.mem_range.mp hp)
    unfold lastB
    rw [decide_eq_false (show ¬ ix s (p : Int) > 0 by omega)]
    simp
  unfold lastL
  rw [no]; rfl
end Dm

namespace Dm
theorem sum_le_mul : ∀ {l : List Nat} {k : Nat}, (∀ x ∈ l, x ≤ k) → l.sum ≤ k * l.length
  | [], k, _ => by simp
  | a :: r, k, h => by
    have h1 := h a (by simp)
    have h2 := sum_le_mul (l := r) (k := k) fun x hx => h x (by simp [hx])
    rw [List.sum_cons, List.length_cons, Nat.mul_succ]
    omega
theorem len_grow {h : Int} {r : List Int} (hr : ∀ x ∈ r, 0 ≤ x) (hh : h ≤ 5) : (grow h r).length ≤ 6 := by
  unfold grow
  simp only [List.length_range, List.length_map]
  have := sum_nonneg hr
  omega
theorem len_flat {h : Int} {l : List (List Int)} (hl : ∀ r ∈ l, ∀ x ∈ r, 0 ≤ x) (hh : h ≤ 5) : (l.flatMap (grow h)).length ≤ 6 * l.length := by
  rw [List.length_flatMap]
  have := sum_le_mul (l := l.map fun r => (grow h r).length) (k := 6) fun x hx => by
    obtain ⟨r, hr, rfl⟩ := List.mem_map.mp hx
    exact len_grow (hl r hr) hh
  rw [List.length_map] at this
  exact this
theorem len_allRows : ∀ {n : Nat} {h : Int}, 0 ≤ h → h ≤ 5 → (allRows n h).length ≤ 6 ^ n
  | 0, h, _, _ => by unfold allRows; simp
  | n + 1, h, h0, h5 => by
    have ih := len_allRows (n := n) h0 h5
    unfold allRows
    have := len_flat (l := allRows n h) (fun r hr => ((mem_allRows h0).mp hr).2.1) h5
    rw [Nat.pow_succ]
    omega
theorem len_allRows4 {n : Nat} {h : Int} (hn : n ≤ 4) (h0 : 0 ≤ h) (h5 : h ≤ 5) : (allRows n h).length ≤ 1296 := by
  have := len_allRows (n := n) h0 h5
  have q : 6 ^ n ≤ 6 ^ 4 := Nat.pow_le_pow_right (by decide) hn
  omega
theorem len_take_flat {n j : Nat} {h : Int} (hn : n ≤ 4) (h0 : 0 ≤ h) (h5 : h ≤ 5) : (((allRows n h).take j).flatMap (grow h)).length ≤ 7776 := by
  have h1 := len_allRows4 hn h0 h5
  have h2 := len_flat (l := (allRows n h).take j) (fun r hr => ((mem_allRows h0).mp (List.mem_of_mem_take hr)).2.1) h5
  have h3 : ((allRows n h).take j).length ≤ (allRows n h).length := by rw [List.length_take]; omega
  omega
theorem len_allSeats {n : Nat} {h : Int} (hn : n ≤ 4) (h0 : 0 ≤ h) (h5 : h ≤ 5) : (allSeats n h).length ≤ 1296 := by
  have := len_allRows4 hn h0 h5
  have q := List.length_filter_le (fun r : List Int => decide (r.sum = h)) (allRows n h)
  unfold allSeats
  omega
theorem take_flat_snoc {n j : Nat} {h : Int} {r : List Int} (hr : (allRows n h)[j]? = some r) : ((allRows n h).take (j + 1)).flatMap (grow h) = ((allRows n h).take j).flatMap (grow h) ++ grow h r := by
  rw [List.take_add_one, hr, List.flatMap_append]
  simp
theorem getD_of {α : Type} {l : List α} {i : Nat} {r d : α} (h : l[i]? = some r) : l.getD i d = r := by
  rw [List.getD_eq_getElem?_getD, h]; rfl
theorem mem_of_get {α : Type} {l : List α} {i : Nat} {r : α} (h : l[i]? = some r) : r ∈ l := List.mem_of_getElem? h
theorem allSeats_filter {n : Nat} {h : Int} : (allRows n h).filter (fun r => decide (h - r.sum = 0)) = allSeats n h := by
  unfold allSeats
  refine List.filter_congr fun r _ => decide_eq_decide.mpr ?_
  omega
end Dm

/-! The text by its places, what the top has written. -/
namespace Ds
open PySem PySem.Spec PyProof.Rows L2
def topS (i : Nat) : Stmt := PySem.Challenge.pw_dividedseats_k09_whole_seat_by_seat.main.body.getD i (.Pass ⟨0, 0, 0, 0⟩)
structure Dfn (K : PySem.W.Frag) (mg : Str → Option Value) (x : Str) (st : Stmt) (ps : List Str) where
  a : Addr
  d : FuncData
  g : mg x = some (.ref a)
  F : Fun K x x st a d
  b : Binds K d ps []

abbrev s_is_whole : Stmt := topS 7
abbrev N_is_whole : List Str := ["value", "low", "high"]
theorem sc_is_whole : FnScope N_is_whole ["value", "low", "high"] (defScope s_is_whole) := ⟨rfl, rfl, rfl, by decide +kernel, rfl, by decide +kernel, by decide +kernel⟩
abbrev s_is_method : Stmt := topS 8
abbrev N_is_method : List Str := ["value", "one", "at"]
theorem sc_is_method : FnScope N_is_method ["value"] (defScope s_is_method) := ⟨rfl, rfl, rfl, by decide +kernel, rfl, by decide +kernel, by decide +kernel⟩
abbrev s_divisor_at : Stmt := topS 9
abbrev N_divisor_at : List Str := ["method", "index", "firsts", "step"]
theorem sc_divisor_at : FnScope N_divisor_at ["method", "index"] (defScope s_divisor_at) := ⟨rfl, rfl, rfl, by decide +kernel, rfl, by decide +kernel, by decide +kernel⟩
abbrev s_divisors_to : Stmt := topS 10
abbrev N_divisors_to : List Str := ["method", "many", "index"]
theorem sc_divisors_to : FnScope N_divisors_to ["method", "many"] (defScope s_divisors_to) := ⟨rfl, rfl, rfl, by decide +kernel, rfl, by decide +kernel, by decide +kernel⟩
abbrev s_check_method : Stmt := topS 11
abbrev N_check_method : List Str := ["method", "name"]
theorem sc_check_method : FnScope N_check_method ["method", "name"] (defScope s_check_method) := ⟨rfl, rfl, rfl, by decide +kernel, rfl, by decide +kernel, by decide +kernel⟩
abbrev s_is_votes : Stmt := topS 16
abbrev N_is_votes : List Str := ["value", "one"]
theorem sc_is_votes : FnScope N_is_votes ["value"] (defScope s_is_votes) := ⟨rfl, rfl, rfl, by decide +kernel, rfl, by decide +kernel, by decide +kernel⟩
abbrev s_is_seats : Stmt := topS 17
abbrev N_is_seats : List Str := ["value", "votes", "one"]
theorem sc_is_seats : FnScope N_is_seats ["value", "votes"] (defScope s_is_seats) := ⟨rfl, rfl, rfl, by decide +kernel, rfl, by decide +kernel, by decide +kernel⟩
abbrev s_is_wrong : Stmt := topS 18
abbrev N_is_wrong : List Str := ["divisors", "votes", "seats", "pair", "one", "other"]
theorem sc_is_wrong : FnScope N_is_wrong ["divisors", "votes", "seats", "pair"] (defScope s_is_wrong) := ⟨rfl, rfl, rfl, by decide +kernel, rfl, by decide +kernel, by decide +kernel⟩
abbrev s_first_wrong : Stmt := topS 19
abbrev N_first_wrong : List Str := ["divisors", "votes", "seats", "one", "other"]
theorem sc_first_wrong : FnScope N_first_wrong ["divisors", "votes", "seats"] (defScope s_first_wrong) := ⟨rfl, rfl, rfl, by decide +kernel, rfl, by decide +kernel, by decide +kernel⟩
abbrev s_valid_by : Stmt := topS 20
abbrev N_valid_by : List Str := ["divisors", "votes", "seats"]
theorem sc_valid_by : FnScope N_valid_by ["divisors", "votes", "seats"] (defScope s_valid_by) := ⟨rfl, rfl, rfl, by decide +kernel, rfl, by decide +kernel, by decide +kernel⟩
abbrev s_all_seats : Stmt := topS 21
abbrev N_all_seats : List Str := ["many", "house", "rows", "party", "longer", "row", "left", "less"]
theorem sc_all_seats : FnScope N_all_seats ["many", "house"] (defScope s_all_seats) := ⟨rfl, rfl, rfl, by decide +kernel, rfl, by decide +kernel, by decide +kernel⟩
abbrev s_all_shares : Stmt := topS 22
abbrev N_all_shares : List Str := ["divisors", "votes", "house", "seats"]
theorem sc_all_shares : FnScope N_all_shares ["divisors", "votes", "house"] (defScope s_all_shares) := ⟨rfl, rfl, rfl, by decide +kernel, rfl, by decide +kernel, by decide +kernel⟩
abbrev s_check_votes : Stmt := topS 23
abbrev N_check_votes : List Str := ["method", "votes"]
theorem sc_check_votes : FnScope N_check_votes ["method", "votes"] (defScope s_check_votes) := ⟨rfl, rfl, rfl, by decide +kernel, rfl, by decide +kernel, by decide +kernel⟩
abbrev s_check_seats : Stmt := topS 24
abbrev N_check_seats : List Str := ["method", "votes", "seats"]
theorem sc_check_seats : FnScope N_check_seats ["method", "votes", "seats"] (defScope s_check_seats) := ⟨rfl, rfl, rfl, by decide +kernel, rfl, by decide +kernel, by decide +kernel⟩
abbrev s_check_house : Stmt := topS 25
abbrev N_check_house : List Str := ["method", "votes", "house"]
theorem sc_check_house : FnScope N_check_house ["method", "votes", "house"] (defScope s_check_house) := ⟨rfl, rfl, rfl, by decide +kernel, rfl, by decide +kernel, by decide +kernel⟩
abbrev s_shares_of : Stmt := topS 26
abbrev N_shares_of : List Str := ["method", "votes", "house"]
theorem sc_shares_of : FnScope N_shares_of ["method", "votes", "house"] (defScope s_shares_of) := ⟨rfl, rfl, rfl, by decide +kernel, rfl, by decide +kernel, by decide +kernel⟩
abbrev s_is_valid : Stmt := topS 27
abbrev N_is_valid : List Str := ["method", "votes", "seats"]
theorem sc_is_valid : FnScope N_is_valid ["method", "votes", "seats"] (defScope s_is_valid) := ⟨rfl, rfl, rfl, by decide +kernel, rfl, by decide +kernel, by decide +kernel⟩
abbrev s_count_valid : Stmt := topS 28
abbrev N_count_valid : List Str := ["method", "votes", "house"]
theorem sc_count_valid : FnScope N_count_valid ["method", "votes", "house"] (defScope s_count_valid) := ⟨rfl, rfl, rfl, by decide +kernel, rfl, by decide +kernel, by decide +kernel⟩
abbrev s_is_ahead : Stmt := topS 30
abbrev N_is_ahead : List Str := ["divisors", "votes", "seats", "pair", "one", "other"]
theorem sc_is_ahead : FnScope N_is_ahead ["divisors", "votes", "seats", "pair"] (defScope s_is_ahead) := ⟨rfl, rfl, rfl, by decide +kernel, rfl, by decide +kernel, by decide +kernel⟩
abbrev s_next_in : Stmt := topS 31
abbrev N_next_in : List Str := ["divisors", "votes", "seats", "found", "party", "other"]
theorem sc_next_in : FnScope N_next_in ["divisors", "votes", "seats"] (defScope s_next_in) := ⟨rfl, rfl, rfl, by decide +kernel, rfl, by decide +kernel, by decide +kernel⟩
abbrev s_last_in : Stmt := topS 32
abbrev N_last_in : List Str := ["divisors", "votes", "seats", "found", "party", "fewer"]
theorem sc_last_in : FnScope N_last_in ["divisors", "votes", "seats"] (defScope s_last_in) := ⟨rfl, rfl, rfl, by decide +kernel, rfl, by decide +kernel, by decide +kernel⟩
abbrev s_next_parties : Stmt := topS 33
abbrev N_next_parties : List Str := ["method", "votes", "seats"]
theorem sc_next_parties : FnScope N_next_parties ["method", "votes", "seats"] (defScope s_next_parties) := ⟨rfl, rfl, rfl, by decide +kernel, rfl, by decide +kernel, by decide +kernel⟩
abbrev s_last_parties : Stmt := topS 34
abbrev N_last_parties : List Str := ["method", "votes", "seats", "divisors"]
theorem sc_last_parties : FnScope N_last_parties ["method", "votes", "seats"] (defScope s_last_parties) := ⟨rfl, rfl, rfl, by decide +kernel, rfl, by decide +kernel, by decide +kernel⟩
abbrev s_told_order : Stmt := topS 35
abbrev N_told_order : List Str := ["method", "votes", "house", "divisors", "seats", "found", "turn", "party"]
theorem sc_told_order : FnScope N_told_order ["method", "votes", "house"] (defScope s_told_order) := ⟨rfl, rfl, rfl, by decide +kernel, rfl, by decide +kernel, by decide +kernel⟩
abbrev s_law_stream : Stmt := topS 37
abbrev N_law_stream : List Str := ["_law_script"]
theorem sc_law_stream : FnScope N_law_stream ["_law_script"] (defScope s_law_stream) := ⟨rfl, rfl, rfl, by decide +kernel, rfl, by decide +kernel, by decide +kernel⟩
abbrev s_law_next : Stmt := topS 38
abbrev N_law_next : List Str := ["_law_stream_here", "_law_many", "_law_k", "_law_cell", "_law_digit"]
theorem sc_law_next : FnScope N_law_next ["_law_stream_here", "_law_many"] (defScope s_law_next) := ⟨rfl, rfl, rfl, by decide +kernel, rfl, by decide +kernel, by decide +kernel⟩
abbrev s_law_is_integer : Stmt := topS 39
abbrev N_law_is_integer : List Str := ["_law_actual"]
theorem sc_law_is_integer : FnScope N_law_is_integer ["_law_actual"] (defScope s_law_is_integer) := ⟨rfl, rfl, rfl, by decide +kernel, rfl, by decide +kernel, by decide +kernel⟩
abbrev s_law_equal : Stmt := topS 40
abbrev N_law_equal : List Str := ["_law_actual", "_law_due", "_law_at"]
theorem sc_law_equal : FnScope N_law_equal ["_law_actual", "_law_due"] (defScope s_law_equal) := ⟨rfl, rfl, rfl, by decide +kernel, rfl, by decide +kernel, by decide +kernel⟩
abbrev s_law_pick : Stmt := topS 41
abbrev N_law_pick : List Str := ["_law_stream_here", "_law_rows"]
theorem sc_law_pick : FnScope N_law_pick ["_law_stream_here", "_law_rows"] (defScope s_law_pick) := ⟨rfl, rfl, rfl, by decide +kernel, rfl, by decide +kernel, by decide +kernel⟩
abbrev s_law_method : Stmt := topS 42
abbrev N_law_method : List Str := ["_law_stream_here", "_law_far", "_law_firsts", "_law_step", "_law_k"]
theorem sc_law_method : FnScope N_law_method ["_law_stream_here"] (defScope s_law_method) := ⟨rfl, rfl, rfl, by decide +kernel, rfl, by decide +kernel, by decide +kernel⟩
abbrev s_law_divisors : Stmt := topS 43
abbrev N_law_divisors : List Str := ["_law_method_here", "_law_many", "_law_found", "_law_k"]
theorem sc_law_divisors : FnScope N_law_divisors ["_law_method_here", "_law_many"] (defScope s_law_divisors) := ⟨rfl, rfl, rfl, by decide +kernel, rfl, by decide +kernel, by decide +kernel⟩
abbrev s_law_votes : Stmt := topS 44
abbrev N_law_votes : List Str := ["_law_stream_here", "_law_most", "_law_far", "_law_k"]
theorem sc_law_votes : FnScope N_law_votes ["_law_stream_here", "_law_most"] (defScope s_law_votes) := ⟨rfl, rfl, rfl, by decide +kernel, rfl, by decide +kernel, by decide +kernel⟩
abbrev s_law_all_seats : Stmt := topS 45
abbrev N_law_all_seats : List Str := ["_law_many", "_law_house", "_law_rows", "_law_party", "_law_longer", "_law_row", "_law_less"]
theorem sc_law_all_seats : FnScope N_law_all_seats ["_law_many", "_law_house"] (defScope s_law_all_seats) := ⟨rfl, rfl, rfl, by decide +kernel, rfl, by decide +kernel, by decide +kernel⟩
abbrev s_law_shows : Stmt := topS 46
abbrev N_law_shows : List Str := ["_law_divisors_here", "_law_votes_here", "_law_seats", "_law_one", "_law_other"]
theorem sc_law_shows : FnScope N_law_shows ["_law_divisors_here", "_law_votes_here", "_law_seats", "_law_one", "_law_other"] (defScope s_law_shows) := ⟨rfl, rfl, rfl, by decide +kernel, rfl, by decide +kernel, by decide +kernel⟩
abbrev s_law_wrong_pairs : Stmt := topS 47
abbrev N_law_wrong_pairs : List Str := ["_law_divisors_here", "_law_votes_here", "_law_seats", "_law_found", "_law_one", "_law_other"]
theorem sc_law_wrong_pairs : FnScope N_law_wrong_pairs ["_law_divisors_here", "_law_votes_here", "_law_seats"] (defScope s_law_wrong_pairs) := ⟨rfl, rfl, rfl, by decide +kernel, rfl, by decide +kernel, by decide +kernel⟩
abbrev s_law_valid : Stmt := topS 48
abbrev N_law_valid : List Str := ["_law_divisors_here", "_law_votes_here", "_law_house", "_law_seats"]
theorem sc_law_valid : FnScope N_law_valid ["_law_divisors_here", "_law_votes_here", "_law_house"] (defScope s_law_valid) := ⟨rfl, rfl, rfl, by decide +kernel, rfl, by decide +kernel, by decide +kernel⟩
abbrev s_law_next_ones : Stmt := topS 49
abbrev N_law_next_ones : List Str := ["_law_divisors_here", "_law_votes_here", "_law_seats", "_law_found", "_law_one", "_law_other"]
theorem sc_law_next_ones : FnScope N_law_next_ones ["_law_divisors_here", "_law_votes_here", "_law_seats"] (defScope s_law_next_ones) := ⟨rfl, rfl, rfl, by decide +kernel, rfl, by decide +kernel, by decide +kernel⟩
abbrev s_law_given : Stmt := topS 50
abbrev N_law_given : List Str := ["_law_seats", "_law_party"]
theorem sc_law_given : FnScope N_law_given ["_law_seats", "_law_party"] (defScope s_law_given) := ⟨rfl, rfl, rfl, by decide +kernel, rfl, by decide +kernel, by decide +kernel⟩
abbrev s_law_told : Stmt := topS 51
abbrev N_law_told : List Str := ["_law_method_here", "_law_votes_here", "_law_seats", "problem"]
theorem sc_law_told : FnScope N_law_told ["_law_method_here", "_law_votes_here", "_law_seats"] (defScope s_law_told) := ⟨rfl, rfl, rfl, by decide +kernel, rfl, by decide +kernel, by decide +kernel⟩
abbrev s_law : Stmt := topS 52
abbrev N_law : List Str := ["_law_script", "_law_stream_here", "_law_method_here", "_law_votes_here", "_law_house", "_law_divisors_here", "_law_rows", "_law_lasts", "_law_order", "_law_here", "_law_turn", "_law_party", "_law_later", "_law_seats", "_law_one", "_law_given_here", "_law_due"]
theorem sc_law : FnScope N_law ["_law_script"] (defScope s_law) := ⟨rfl, rfl, rfl, by decide +kernel, rfl, by decide +kernel, by decide +kernel⟩
/-- the names of the module, as the top has left them -/
structure Top (K : PySem.W.Frag) (mg : Str → Option Value) where
  len : mg "len" = none
  range : mg "range" = none
  isinstance : mg "isinstance" = none
  all : mg "all" = none
  any : mg "any" = none
  sum : mg "sum" = none
  tuple : mg "tuple" = none
  list : mg "list" = none
  sorted : mg "sorted" = none
  abs : mg "abs" = none
  int : mg "int" = none
  min : mg "min" = none
  bool : mg "bool" = none
  str : mg "str" = none
  k_MOST_DIVISOR : Tok
  MOST_DIVISOR : mg "MOST_DIVISOR" = some (.int 1000 k_MOST_DIVISOR)
  k_MOST_FIRSTS : Tok
  MOST_FIRSTS : mg "MOST_FIRSTS" = some (.int 6 k_MOST_FIRSTS)
  k_MOST_PARTIES : Tok
  MOST_PARTIES : mg "MOST_PARTIES" = some (.int 5 k_MOST_PARTIES)
  k_MOST_VOTES : Tok
  MOST_VOTES : mg "MOST_VOTES" = some (.int 1000000 k_MOST_VOTES)
  k_MOST_SEATS : Tok
  MOST_SEATS : mg "MOST_SEATS" = some (.int 8 k_MOST_SEATS)
  is_whole : Dfn K mg "is_whole" s_is_whole ["value", "low", "high"]
  is_method : Dfn K mg "is_method" s_is_method ["value"]
  divisor_at : Dfn K mg "divisor_at" s_divisor_at ["method", "index"]
  divisors_to : Dfn K mg "divisors_to" s_divisors_to ["method", "many"]
  check_method : Dfn K mg "check_method" s_check_method ["method", "name"]
  is_votes : Dfn K mg "is_votes" s_is_votes ["value"]
  is_seats : Dfn K mg "is_seats" s_is_seats ["value", "votes"]
  is_wrong : Dfn K mg "is_wrong" s_is_wrong ["divisors", "votes", "seats", "pair"]
  first_wrong : Dfn K mg "first_wrong" s_first_wrong ["divisors", "votes", "seats"]
  valid_by : Dfn K mg "valid_by" s_valid_by ["divisors", "votes", "seats"]
  all_seats : Dfn K mg "all_seats" s_all_seats ["many", "house"]
  all_shares : Dfn K mg "all_shares" s_all_shares ["divisors", "votes", "house"]
  check_votes : Dfn K mg "check_votes" s_check_votes ["method", "votes"]
  check_seats : Dfn K mg "check_seats" s_check_seats ["method", "votes", "seats"]
  check_house : Dfn K mg "check_house" s_check_house ["method", "votes", "house"]
  shares_of : Dfn K mg "shares_of" s_shares_of ["method", "votes", "house"]
  is_valid : Dfn K mg "is_valid" s_is_valid ["method", "votes", "seats"]
  count_valid : Dfn K mg "count_valid" s_count_valid ["method", "votes", "house"]
  is_ahead : Dfn K mg "is_ahead" s_is_ahead ["divisors", "votes", "seats", "pair"]
  next_in : Dfn K mg "next_in" s_next_in ["divisors", "votes", "seats"]
  last_in : Dfn K mg "last_in" s_last_in ["divisors", "votes", "seats"]
  next_parties : Dfn K mg "next_parties" s_next_parties ["method", "votes", "seats"]
  last_parties : Dfn K mg "last_parties" s_last_parties ["method", "votes", "seats"]
  told_order : Dfn K mg "told_order" s_told_order ["method", "votes", "house"]
  law_stream : Dfn K mg "_law_stream" s_law_stream ["_law_script"]
  law_next : Dfn K mg "_law_next" s_law_next ["_law_stream_here", "_law_many"]
  law_is_integer : Dfn K mg "_law_is_integer" s_law_is_integer ["_law_actual"]
  law_equal : Dfn K mg "_law_equal" s_law_equal ["_law_actual", "_law_due"]
  law_pick : Dfn K mg "_law_pick" s_law_pick ["_law_stream_here", "_law_rows"]
  law_method : Dfn K mg "_law_method" s_law_method ["_law_stream_here"]
  law_divisors : Dfn K mg "_law_divisors" s_law_divisors ["_law_method_here", "_law_many"]
  law_votes : Dfn K mg "_law_votes" s_law_votes ["_law_stream_here", "_law_most"]
  law_all_seats : Dfn K mg "_law_all_seats" s_law_all_seats ["_law_many", "_law_house"]
  law_shows : Dfn K mg "_law_shows" s_law_shows ["_law_divisors_here", "_law_votes_here", "_law_seats", "_law_one", "_law_other"]
  law_wrong_pairs : Dfn K mg "_law_wrong_pairs" s_law_wrong_pairs ["_law_divisors_here", "_law_votes_here", "_law_seats"]
  law_valid : Dfn K mg "_law_valid" s_law_valid ["_law_divisors_here", "_law_votes_here", "_law_house"]
  law_next_ones : Dfn K mg "_law_next_ones" s_law_next_ones ["_law_divisors_here", "_law_votes_here", "_law_seats"]
  law_given : Dfn K mg "_law_given" s_law_given ["_law_seats", "_law_party"]
  law_told : Dfn K mg "_law_told" s_law_told ["_law_method_here", "_law_votes_here", "_law_seats"]
  law : Dfn K mg "law" s_law ["_law_script"]
end Ds

/-! What a reading evaluates to: values known outright (Ev) or by what is true of them (EvP). -/
namespace Ds
open PySem PySem.Spec PyProof.Rows L2 Evl Dm

/-! ### what stands in the heap -/
/-- a tuple of ints -/
def IsT (ns : List Int) (x : V) (H : Hp) : Prop := ∃ p, x = .ref p ∧ H p = some (.tup (ns.map V.int))
/-- a list of ints -/
def IsI (ns : List Int) (x : V) (H : Hp) : Prop := ∃ p, x = .ref p ∧ H p = some (.lst (ns.map V.int))
/-- the items are tuples of ints -/
def Rows (H : Hp) (xs : List V) (rs : List (List Int)) : Prop := Paired (fun x r => IsT r x H) xs rs
/-- a list of tuples of ints -/
def IsR (rs : List (List Int)) (x : V) (H : Hp) : Prop := ∃ p xs, x = .ref p ∧ H p = some (.lst xs) ∧ Rows H xs rs
theorem IsT.ex {ns x} {H H' : Hp} (e : Ex H H') : IsT ns x H → IsT ns x H' := fun ⟨p, a, b⟩ => ⟨p, a, e _ _ b⟩
theorem IsI.ex {ns x} {H H' : Hp} (e : Ex H H') : IsI ns x H → IsI ns x H' := fun ⟨p, a, b⟩ => ⟨p, a, e _ _ b⟩
theorem paired_imp {α β : Type} {R S : α → β → Prop} (h : ∀ a b, R a b → S a b) : ∀ {l : List α} {m : List β}, Paired R l m → Paired S l m
  | _, _, .nil => .nil
  | _, _, .cons r t => .cons (h _ _ r) (paired_imp h t)
theorem paired_get {α β : Type} {R : α → β → Prop} : ∀ {l : List α} {m : List β} {i : Nat} {x : α}, Paired R l m → l[i]? = some x → ∃ y, m[i]? = some y ∧ R x y
  | _, _, _, _, .nil, h => by simp at h
  | _, _, 0, _, .cons r _, h => by simp at h; subst h; exact ⟨_, rfl, r⟩
  | _, _, i + 1, x, .cons _ t, h => by
    obtain ⟨y, a, b⟩ := paired_get (i := i) (x := x) t (by simpa using h)
    exact ⟨y, by simpa using a, b⟩
theorem paired_get' {α β : Type} {R : α → β → Prop} : ∀ {l : List α} {m : List β} {i : Nat} {y : β}, Paired R l m → m[i]? = some y → ∃ x, l[i]? = some x ∧ R x y
  | _, _, _, _, .nil, h => by simp at h
  | _, _, 0, _, .cons r _, h => by simp at h; subst h; exact ⟨_, rfl, r⟩
  | _, _, i + 1, y, .cons _ t, h => by
    obtain ⟨x, a, b⟩ := paired_get' (i := i) (y := y) t (by simpa using h)
    exact ⟨x, by simpa using a, b⟩
theorem paired_len {α β : Type} {R : α → β → Prop} {l : List α} {m : List β} (h : Paired R l m) : l.length = m.length := Paired.length h
theorem paired_snoc {α β : Type} {R : α → β → Prop} {x : α} {y : β} (r : R x y) : ∀ {l : List α} {m : List β}, Paired R l m → Paired R (l ++ [x]) (m ++ [y])
  | _, _, .nil => .cons r .nil
  | _, _, .cons q t => .cons q (paired_snoc r t)
theorem paired_append {α β : Type} {R : α → β → Prop} : ∀ {l l' : List α} {m m' : List β}, Paired R l m → Paired R l' m' → Paired R (l ++ l') (m ++ m')
  | _, _, _, _, .nil, h => h
  | _, _, _, _, .cons q t, h => .cons q (paired_append t h)
theorem Rows.ex {H H' : Hp} {xs rs} (e : Ex H H') (h : Rows H xs rs) : Rows H' xs rs := paired_imp (fun _ _ => IsT.ex e) h
theorem IsR.ex {rs x} {H H' : Hp} (e : Ex H H') : IsR rs x H → IsR rs x H' := fun ⟨p, xs, a, b, c⟩ => ⟨p, xs, a, e _ _ b, c.ex e⟩
theorem ex_upd {H H' : Hp} {p : Addr} {o : HO} (e : Ex H H') (h : H' p = none) : Ex H (upd H' p o) := e.trans (Ex.new h)

/-! ### evaluation -/
def EvP (te : TE) (σ : L2.St) (H : Hp) (P : V → Hp → Prop) : Prop := ∀ H1, Ex H H1 → ∀ Q : VK, (∀ v H2, Ex H1 H2 → P v H2 → Q v H2) → te σ H1 Q
def EvAP (ta : TA) (σ : L2.St) (H : Hp) (P : List V → Hp → Prop) : Prop := ∀ H1, Ex H H1 → ∀ Q : List V → Hp → Prop, (∀ v H2, Ex H1 H2 → P v H2 → Q v H2) → ta σ H1 Q
/-- what stays true as the heap grows -/
def Mo {α : Type} (P : α → Hp → Prop) : Prop := ∀ v H H', Ex H H' → P v H → P v H'
theorem mo_T {ns} : Mo (IsT ns) := fun _ _ _ e h => h.ex e
theorem mo_I {ns} : Mo (IsI ns) := fun _ _ _ e h => h.ex e
theorem mo_R {rs} : Mo (IsR rs) := fun _ _ _ e h => h.ex e
theorem mo_is {v : V} : Mo (fun x (_ : Hp) => x = v) := fun _ _ _ _ h => h
/-- what a promise gives back -/
def Ret (P : V → Hp → Prop) (H : Hp) (Q : VK) : Prop := ∀ v H2, Ex H H2 → P v H2 → Q v H2

section
variable {K : PySem.W.Frag} {σ : L2.St} {H H' : Hp} {ta tb te tc : TE} {t u : TT} {x y z v : V} {P P' P1 P2 : V → Hp → Prop} {i j : Int} {b c : Bool} {ns ms : List Int} {p : Addr}
theorem EvP.mono (e : Ex H H') (h : EvP te σ H P) : EvP te σ H' P := fun H1 a Q q => h H1 (e.trans a) Q q
theorem EvP.imp (h : EvP te σ H P) (hi : ∀ v H2, Ex H H2 → P v H2 → P' v H2) : EvP te σ H P' := fun H1 e Q q => h H1 e Q fun v H2 e2 hp => q v H2 e2 (hi v H2 (e.trans e2) hp)
theorem ep_of (h : Ev te σ H v) : EvP te σ H (fun x _ => x = v) := fun H1 e Q q => h H1 e Q fun H2 e2 => q v H2 e2 rfl
theorem ev_of (h : EvP te σ H (fun x _ => x = v)) : Ev te σ H v := fun H1 e Q q => h H1 e Q fun w H2 e2 hw => by rw [hw]; exact q H2 e2
theorem ep_var {i : Nat} (h : σ[i]? = some (some v)) (hp : P v H) (mo : Mo P) : EvP (tVar i) σ H P := fun H1 e Q q => ⟨v, h, q v H1 (Ex.refl H1) (mo _ _ _ e hp)⟩
/-- a two-place operation by values -/
theorem ep_op {r : R2} (ha : EvP ta σ H P1) (mo : Mo P1) (hb : EvP tb σ H P2) (hr : ∀ x y H1, Ex H H1 → P1 x H1 → P2 y H1 → ∀ Q : VK, (∀ v H2, Ex H1 H2 → P v H2 → Q v H2) → r x y H1 Q) : EvP (tOp r ta tb) σ H P := fun H1 e Q q =>
  ha H1 e _ fun x H2 e2 hx => hb H2 (e.trans e2) _ fun y H3 e3 hy => hr x y H3 ((e.trans e2).trans e3) (mo _ _ _ e3 hx) hy Q fun v H4 e4 hv => q v H4 ((e2.trans e3).trans e4) hv
theorem ev_add (ha : Ev ta σ H (.int i)) (hb : Ev tb σ H (.int j)) : Ev (tOp (rI0 fun i j => .int (i + j)) ta tb) σ H (.int (i + j)) := ev_op ha hb (rv_I0 (g := fun i j => .int (i + j)))
theorem ev_sub (ha : Ev ta σ H (.int i)) (hb : Ev tb σ H (.int j)) : Ev (tOp (rI0 fun i j => .int (i - j)) ta tb) σ H (.int (i - j)) := ev_op ha hb (rv_I0 (g := fun i j => .int (i - j)))
theorem ev_mul (ha : Ev ta σ H (.int i)) (hb : Ev tb σ H (.int j)) (hc : CMul i j) : Ev (tOp (rI CMul fun i j => .int (i * j)) ta tb) σ H (.int (i * j)) := ev_op ha hb (rv_I (g := fun i j => .int (i * j)) hc)
theorem ev_lt (ha : Ev ta σ H (.int i)) (hb : Ev tb σ H (.int j)) : Ev (tOp (rI0 fun i j => .bl (decide (i < j))) ta tb) σ H (.bl (decide (i < j))) := ev_op ha hb (rv_I0 (g := fun i j => .bl (decide (i < j))))
theorem ev_le (ha : Ev ta σ H (.int i)) (hb : Ev tb σ H (.int j)) : Ev (tOp (rI0 fun i j => .bl (decide (i ≤ j))) ta tb) σ H (.bl (decide (i ≤ j))) := ev_op ha hb (rv_I0 (g := fun i j => .bl (decide (i ≤ j))))
theorem ev_gt (ha : Ev ta σ H (.int i)) (hb : Ev tb σ H (.int j)) : Ev (tOp (rI0 fun i j => .bl (decide (j < i))) ta tb) σ H (.bl (decide (j < i))) := ev_op ha hb (rv_I0 (g := fun i j => .bl (decide (j < i))))
theorem ev_ge (ha : Ev ta σ H (.int i)) (hb : Ev tb σ H (.int j)) : Ev (tOp (rI0 fun i j => .bl (decide (j ≤ i))) ta tb) σ H (.bl (decide (j ≤ i))) := ev_op ha hb (rv_I0 (g := fun i j => .bl (decide (j ≤ i))))
theorem ev_eqI (ha : Ev ta σ H (.int i)) (hb : Ev tb σ H (.int j)) : Ev (tOp rEq ta tb) σ H (.bl (decide (i = j))) := ev_is (ev_op ha hb (rv_eq rfl)) (by
  congr 1
  exact decide_eq_decide.mpr ⟨fun q => V.int.inj q, fun q => by rw [q]⟩)
theorem ev_neI (ha : Ev ta σ H (.int i)) (hb : Ev tb σ H (.int j)) : Ev (tOp rNe ta tb) σ H (.bl (!decide (i = j))) := ev_is (ev_op ha hb (rv_ne rfl)) (by
  congr 2
  exact decide_eq_decide.mpr ⟨fun q => V.int.inj q, fun q => by rw [q]⟩)
theorem ev_isN (ha : Ev ta σ H x) : Ev (tOp (fun x y H Q => y = .non ∧ Q (.bl (decide (x = .non))) H) ta (tC .non)) σ H (.bl (decide (x = .non))) := fun H1 e Q q => ha H1 e _ fun H2 e2 => ⟨rfl, q H2 e2⟩
/-- t[i] of a tuple of ints, a list of ints -/
theorem at_ix (h0 : 0 ≤ i) (h1 : i < (ns.length : Int)) : atI (ns.map V.int) i = some (.int (ix ns i)) := by
  have e : i = ((i.toNat : Nat) : Int) := by omega
  have q := ix_get (xs := ns) (i := i.toNat) (by omega)
  rw [e]
  refine atI_nat ?_
  rw [List.getElem?_map, q]; rfl
theorem ev_ixT (ha : EvP ta σ H (IsT ns)) (hb : Ev tb σ H (.int i)) (h0 : 0 ≤ i) (h1 : i < (ns.length : Int)) : Ev (tOp (rIxT K) ta tb) σ H (.int (ix ns i)) := fun H1 e Q q =>
  ha H1 e _ fun x H2 e2 ⟨p, hx, hp⟩ => hb H2 (e.trans e2) _ fun H3 e3 => ⟨p, ns.map V.int, i, _, hx, rfl, st_of (e3 _ _ hp), at_ix h0 h1, q H3 (e2.trans e3)⟩
theorem ev_ixL (ha : EvP ta σ H (IsI ns)) (hb : Ev tb σ H (.int i)) (h0 : 0 ≤ i) (h1 : i < (ns.length : Int)) : Ev (tOp (rIxL K) ta tb) σ H (.int (ix ns i)) := fun H1 e Q q =>
  ha H1 e _ fun x H2 e2 ⟨p, hx, hp⟩ => hb H2 (e.trans e2) _ fun H3 e3 => ⟨p, ns.map V.int, i, _, hx, rfl, sq_of (e3 _ _ hp), at_ix h0 h1, q H3 (e2.trans e3)⟩
/-- an item of any tuple -/
theorem ep_ixT {xs : List V} (ha : EvP ta σ H (fun x H => ∃ p, x = .ref p ∧ H p = some (.tup xs))) (hb : Ev tb σ H (.int i)) (hv : atI xs i = some v) : Ev (tOp (rIxT K) ta tb) σ H v := fun H1 e Q q =>
  ha H1 e _ fun x H2 e2 ⟨p, hx, hp⟩ => hb H2 (e.trans e2) _ fun H3 e3 => ⟨p, xs, i, _, hx, rfl, st_of (e3 _ _ hp), hv, q H3 (e2.trans e3)⟩
abbrev IsTV (xs : List V) : V → Hp → Prop := fun x H => ∃ p, x = .ref p ∧ H p = some (.tup xs)
abbrev IsLV (xs : List V) : V → Hp → Prop := fun x H => ∃ p, x = .ref p ∧ H p = some (.lst xs)
theorem mo_TV {xs} : Mo (IsTV xs) := fun _ _ _ e ⟨p, a, b⟩ => ⟨p, a, e _ _ b⟩
theorem mo_LV {xs} : Mo (IsLV xs) := fun _ _ _ e ⟨p, a, b⟩ => ⟨p, a, e _ _ b⟩
/-- len -/
theorem ev_lenT {xs : List V} (ha : EvP ta σ H (IsTV xs)) : Ev (tCB (rLenS K) (tCons ta tNil)) σ H (.int (xs.length : Int)) := fun H1 e Q q =>
  ha H1 e _ fun x H2 e2 ⟨p, hx, hp⟩ => ⟨p, xs, by rw [hx], .inr (st_of hp), q H2 e2⟩
theorem ev_lenL {xs : List V} (ha : EvP ta σ H (IsLV xs)) : Ev (tCB (rLenS K) (tCons ta tNil)) σ H (.int (xs.length : Int)) := fun H1 e Q q =>
  ha H1 e _ fun x H2 e2 ⟨p, hx, hp⟩ => ⟨p, xs, by rw [hx], .inl (sq_of hp), q H2 e2⟩
theorem ev_lenTI (ha : EvP ta σ H (IsT ns)) : Ev (tCB (rLenS K) (tCons ta tNil)) σ H (.int (ns.length : Int)) := by
  have := ev_lenT (K := K) (xs := ns.map V.int) ha
  rw [List.length_map] at this
  exact this
theorem ev_lenR {rs : List (List Int)} (ha : EvP ta σ H (IsR rs)) : Ev (tCB (rLenS K) (tCons ta tNil)) σ H (.int (rs.length : Int)) := fun H1 e Q q =>
  ha H1 e _ fun x H2 e2 ⟨p, xs, hx, hp, hr⟩ => ⟨p, xs, by rw [hx], .inl (sq_of hp), by rw [paired_len hr]; exact q H2 e2⟩
/-- isinstance of a written class -/
theorem ev_isiTy {n : String} {t : Value} {b : Bool} (ha : EvP ta σ H P) (ht : ∀ x H1, Ex H H1 → P x H1 → TyX K H1 x t) (hk : PySem.W.kitOne K t (.type n) = some b) : Ev (tCB (rIsi K) (tCons ta (tCons (tC (.ty n)) tNil))) σ H (.bl b) := fun H1 e Q q =>
  ha H1 e _ fun x H2 e2 hx => ⟨x, .ty n, t, .type n, b, rfl, .ty n, ht x H2 (e.trans e2) hx, hk, q H2 e2⟩
theorem ty_int {H : Hp} {i : Int} : TyX K H (.int i) (.type "int") := .base (.int i)
theorem ty_bl {H : Hp} {b : Bool} : TyX K H (.bl b) (.type "bool") := .base (.bl b)
theorem ty_str {H : Hp} {b : Str} : TyX K H (.str b) (.type "str") := .base (.str b)
theorem ty_tup {H : Hp} {p : Addr} {xs : List V} (h : H p = some (.tup xs)) : TyX K H (.ref p) (.type "tuple") := .base (.tup h)
theorem ty_lst {H : Hp} {p : Addr} {xs : List V} (h : H p = some (.lst xs)) : TyX K H (.ref p) (.type "list") := .base (.lst h)
theorem ev_chain {r r' : R2} (ha : Ev ta σ H x) (hb : Ev tb σ H y) (hr : RV r x y H (.bl b)) (hc : b = true → Ev tc σ H z) (hr' : b = true → RV r' y z H (.bl c)) : Ev (tChain r r' ta tb tc) σ H (.bl (b && c)) := fun H1 e Q q =>
  ha H1 e _ fun H2 e2 => hb H2 (e.trans e2) _ fun H3 e3 => hr H3 ((e.trans e2).trans e3) _ fun H4 e4 => ⟨b, rfl, by
    cases b with
    | false => exact q H4 ((e2.trans e3).trans e4)
    | true => exact hc rfl H4 (((e.trans e2).trans e3).trans e4) _ fun H5 e5 => hr' rfl H5 ((((e.trans e2).trans e3).trans e4).trans e5) Q fun H6 e6 => q H6 ((((e2.trans e3).trans e4).trans e5).trans e6)⟩
/-- arguments -/
theorem ea_of {vs : List V} {ta : TA} (h : EvA ta σ H vs) : EvAP ta σ H (fun x _ => x = vs) := fun H1 e Q q => h H1 e Q fun H2 e2 => q vs H2 e2 rfl
theorem eap_nil : EvAP tNil σ H (fun x _ => x = []) := fun H1 _ _ q => q [] H1 (Ex.refl H1) rfl
theorem eap_cons {tr : TA} {PA : List V → Hp → Prop} (h : EvP te σ H P) (mo : Mo P) (hr : EvAP tr σ H PA) : EvAP (tCons te tr) σ H (fun vs H => ∃ x r, vs = x :: r ∧ P x H ∧ PA r H) := fun H1 e _ q =>
  h H1 e _ fun x H2 e2 hx => hr H2 (e.trans e2) _ fun r H3 e3 hr' => q _ H3 (e2.trans e3) ⟨x, r, rfl, mo _ _ _ e3 hx, hr'⟩
/-- a call of a def that makes new objects alone -/
theorem ep_call {sp : Sp} {dvs : List V} {E : XK} {ta : TA} {PA : List V → Hp → Prop} (h : EvAP ta σ H PA) (hs : ∀ vs H1, Ex H H1 → PA vs H1 → ∀ Q : VK, Ret P H1 Q → sp (vs ++ dvs) H1 Q E) : EvP (tCall sp dvs E ta) σ H P := fun H1 e Q q =>
  h H1 e _ fun vs H2 e2 ha => hs vs H2 (e.trans e2) ha Q fun v H3 e3 hv => q v H3 (e2.trans e3) hv
theorem ep_cb {r : List V → Hp → VK → Prop} {ta : TA} {PA : List V → Hp → Prop} (h : EvAP ta σ H PA) (hs : ∀ vs H1, Ex H H1 → PA vs H1 → ∀ Q : VK, Ret P H1 Q → r vs H1 Q) : EvP (tCB r ta) σ H P := fun H1 e Q q =>
  h H1 e _ fun vs H2 e2 ha => hs vs H2 (e.trans e2) ha Q fun v H3 e3 hv => q v H3 (e2.trans e3) hv
/-- a new tuple -/
theorem ep_tup {ta : TA} {PA : List V → Hp → Prop} (h : EvAP ta σ H PA) (mo : Mo PA) (hl : ∀ vs H1, PA vs H1 → vs.length ≤ 100000) (hp : ∀ vs p H1, PA vs H1 → H1 p = some (.tup vs) → P (.ref p) H1) : EvP (tTup ta) σ H P := fun H1 e Q q =>
  h H1 e _ fun vs H2 e2 ha => ⟨sz_of (hl vs H2 ha), fun p np => q _ _ (e2.trans (Ex.new np)) (hp vs p _ (mo _ _ _ (Ex.new np) ha) upd_same)⟩
/-- a tuple of known values -/
theorem ep_tupV {ta : TA} {vs : List V} (h : EvA ta σ H vs) (hl : vs.length ≤ 100000) : EvP (tTup ta) σ H (IsTV vs) := fun H1 e Q q =>
  h H1 e _ fun H2 e2 => ⟨sz_of hl, fun p np => q _ _ (e2.trans (Ex.new np)) ⟨p, rfl, upd_same⟩⟩
/-- all, any, sum of what is given -/
theorem ev_all {bs : List Bool} (ha : EvP ta σ H (IsLV (bs.map V.bl))) : Ev (tCB (rAll K) (tCons ta tNil)) σ H (.bl (bs.all id)) := fun H1 e Q q =>
  ha H1 e _ fun x H2 e2 ⟨p, hx, hp⟩ => ⟨p, bs, by rw [hx], sq_of hp, q H2 e2⟩
theorem ev_any {bs : List Bool} (ha : EvP ta σ H (IsLV (bs.map V.bl))) : Ev (tCB (rAny K) (tCons ta tNil)) σ H (.bl (bs.any id)) := fun H1 e Q q =>
  ha H1 e _ fun x H2 e2 ⟨p, hx, hp⟩ => ⟨p, bs, by rw [hx], sq_of hp, q H2 e2⟩
/-- tuple(list) -/
def rTupS (K : PySem.W.Frag) : List V → Hp → VK → Prop := fun xs H Q => ∃ p ys, xs = [.ref p] ∧ ((SqL K H p ys ∧ ∀ l, H l = none → Q (.ref l) (upd H l (.tup ys))) ∨ (SqT K H p ys ∧ Q (.ref p) H))
theorem ep_tupOf (ha : EvP ta σ H (IsI ns)) : EvP (tCB (rTupS K) (tCons ta tNil)) σ H (IsT ns) := fun H1 e Q q =>
  ha H1 e _ fun x H2 e2 ⟨p, hx, hp⟩ => ⟨p, ns.map V.int, by rw [hx], .inl ⟨sq_of hp, fun l nl => q _ _ (e2.trans (Ex.new nl)) ⟨l, rfl, upd_same⟩⟩⟩

/-! ### comprehensions -/
/-- what the new list holds after i turns -/
def CwP (H : Hp) (f : Nat → Bool) (P : Nat → V → Hp → Prop) (Dl : Addr) (i : Nat) (H' : Hp) : Prop :=
  H Dl = none ∧ Ex H H' ∧ ∃ xs, H' Dl = some (.lst xs) ∧ Paired (fun x k => P k x H') xs ((List.range i).filter f)
theorem cwp_turn {f : Nat → Bool} {P : Nat → V → Hp → Prop} {Dl : Addr} {i : Nat} {σ2 : L2.St} (mo : ∀ k, Mo (P k)) (hmut : ∀ k x H1 xs, P k x H1 → H1 Dl = some (.lst xs) → H Dl = none → ∀ ys, P k x (upd H1 Dl (.lst ys))) (p : CwP H f P Dl i H') (hi : i < 50000) (ht : EvT t σ2 H (f i)) (he : f i = true → EvP te σ2 H (P i)) :
    t σ2 H' fun b H3 => if b = true then te σ2 H3 fun y H4 => ∃ acc, H4 Dl = some (.lst acc) ∧ acc.length < sizeLine ∧ CwP H f P Dl (i + 1) (upd H4 Dl (.lst (acc ++ [y]))) else CwP H f P Dl (i + 1) H3 := by
  obtain ⟨p1, p2, xs, p3, p4⟩ := p
  apply ht H' p2
  intro H3 e3
  have hl : xs.length ≤ i := by
    rw [paired_len p4]
    have := List.length_filter_le f (List.range i)
    rw [List.length_range] at this
    exact this
  cases hf : f i with
  | true =>
    show te σ2 H3 fun y H4 => ∃ acc, H4 Dl = some (.lst acc) ∧ acc.length < sizeLine ∧ CwP H f P Dl (i + 1) (upd H4 Dl (.lst (acc ++ [y])))
    refine he hf H3 (p2.trans e3) _ fun y H4 e4 hy => ⟨xs, e4 Dl _ (e3 Dl _ p3), sz_lt (by omega), p1, Ex.mut ((p2.trans e3).trans e4) p1, xs ++ [y], upd_same, ?_⟩
    have hd4 : H4 Dl = some (.lst xs) := e4 Dl _ (e3 Dl _ p3)
    rw [List.range_succ, List.filter_append, List.filter_cons, if_pos hf]
    refine paired_append (paired_imp (fun x k hk => hmut k x H4 xs (mo k _ _ _ (e3.trans e4) hk) hd4 p1 _) p4) (.cons (hmut i y H4 xs hy hd4 p1 _) .nil)
  | false =>
    show CwP H f P Dl (i + 1) H3
    refine ⟨p1, p2.trans e3, xs, e3 Dl _ p3, ?_⟩
    rw [List.range_succ, List.filter_append, List.filter_cons, if_neg (by rw [hf]; decide)]
    show Paired _ xs (_ ++ [])
    rw [List.append_nil]
    exact paired_imp (fun x k hk => mo k _ _ _ e3 hk) p4
end
end Ds

/-! Two rules that the layer has not: sum of a tuple of ints, a tuple times a number from 1 on. -/
namespace Ds
open PySem PySem.Spec PyProof.Rows L2 Evl Dm
section
variable {X : Cx}
/-- sum(t), t a list or a tuple of ints -/
def rSumS (K : PySem.W.Frag) : List V → Hp → VK → Prop := fun vs H Q => ∃ (a : Addr) (ns : List Int), vs = [V.ref a] ∧ SqT K H a (ns.map V.int) ∧ Q (.int ns.sum) H
theorem cr_sumT (hc : X.calm = true) : CallR X (.builtin "sum") (rSumS X.K) := by
  intro pins s sg Hh vs us Q I rr hh
  obtain ⟨a, ns, rfl, ht, q⟩ := hh
  obtain ⟨its, rv, hT, _⟩ := I.tuple ht
  have hT' : s.heap.IsTuple a its.toArray := hT
  rw [Vals.ref1 rr]
  obtain ⟨ys, ey⟩ := rv.ints.allInts.items
  have en : numsOf (intItems ys).toList = ns := by
    rw [← ey]
    exact rv.ints.numsOf
  rw [nums_intItems] at en
  rw [ey] at hT'
  refine PySem.W.ktm_sumG (I.ok.hd hc) hT' fun h2 tk2 t2 hk2 => ?_
  rw [preSum_eq, List.take_of_length_le (by simp), en]
  exact ⟨.int _, Hh, I.kept hk2, ⟨_, rfl⟩, q⟩
theorem ev_sumS {K : PySem.W.Frag} {σ : L2.St} {H : Hp} {ta : TE} {ns : List Int} (ha : EvP ta σ H (IsT ns)) : Ev (tCB (rSumS K) (tCons ta tNil)) σ H (.int ns.sum) := fun H1 e Q q =>
  ha H1 e _ fun x H2 e2 ⟨p, hx, hp⟩ => ⟨p, ns, by rw [hx], st_of hp, q H2 e2⟩
/-- a tuple times 1 is the tuple itself -/
theorem tup_mul_one (l : Addr) (zs : Array Value) (m : Nat) (dc : Option Addr) (sl : Array (Option Value)) (u : Tok) :
    Meets (Builtin.«tuple.__mul__» ⟨[.ref l, .int 1 u], []⟩) (fun _ R s => s.heap.get? l = some { cls := .type "tuple", dict := dc, data := .seq zs m, slots := sl } ∧ R (.ok (.ret (Value.ref l))) s) :=
  .of_wp fun prog w A R s hh => by
    obtain ⟨hp, g, d, tk, os⟩ := s; obtain ⟨hl, q⟩ := hh
    have f1 := AutoSeq1.idx_int; wp_walk using wpAny_loadPart' hl
    have c1 : (zs.isEmpty || (1 : Int) == 1) = true := by rw [Bool.or_eq_true]; exact .inr rfl
    repeat (first
      | (refine wpAny_ite_true (decide_eq_true c1) ?_; wp_walk using wpAny_loadPart' hl)
      | (refine wpAny_ite_false (decide_eq_false (by decide)) ?_; wp_walk using wpAny_loadPart' hl))
    exact ⟨_, rfl, q⟩
/-- a tuple times k, k from 1 on -/
def rRepS (K : PySem.W.Frag) : R2 := fun x y H Q => ∃ l k xs, x = .ref l ∧ y = .int k ∧ SqT K H l xs ∧ xs ≠ [] ∧ 1 ≤ k ∧ k ≤ 1000 ∧ xs.length ≤ 1000 ∧ (k = 1 → Q (.ref l) H) ∧ (2 ≤ k → ∀ p, H p = none → Q (.ref p) (upd H p (.tup (List.replicate k.toNat xs).flatten)))
theorem op_repS : OpR X (binaryOp .Mult) (rRepS X.K) := by
  intro pins s sg Hh x y v u Q I rx ry hh
  obtain ⟨l, k, xs, ex, ey, hT, hne, h1, h2, hz, q1, q2⟩ := hh
  by_cases hk : k = 1
  · subst ex ey hk; cases rx
    obtain ⟨t, rfl⟩ := ry
    obtain ⟨zs, r, ⟨⟨cl, dc, da, sl⟩, ho, hc, m, hd⟩, hs⟩ := I.tuple hT
    simp only at hc hd; subst hc hd
    refine wpAny_binaryOp_repeat_ref (T := "tuple") (U := "int") (by decide) ⟨_, ho, rfl⟩ (fun s' => typeIs_int s' 1 t) noFill_tuple_mul F.fills_int_mul F.slot_int_rmul repeat_tuple F.slot_int_index.lookup
      (call_meets F.slot_int_rmul (typeIs_int s 1 t) F.entry_int_rmul (F.args_int_rmul_2 _ _) (int_rmul_tuple 1 t l zs.toArray m dc sl)
        ⟨ho, rfl, ⟨_, ho, rfl⟩, call_meets F.slot_tuple_mul ⟨_, ho, rfl⟩ F.entry_tuple_mul (F.args_tuple_mul_2 _ _) (tup_mul_one l zs.toArray m dc sl t) ⟨ho, ?_⟩⟩)
    exact ⟨.ref l, Hh, I, rfl, q1 rfl⟩
  · exact op_repT pins s sg Hh x y v u Q I rx ry ⟨l, k, xs, ex, ey, hT, hne, by omega, h2, hz, q2 (by omega)⟩
end
end Ds

/-! List comprehensions and loops, told by what their items are. -/
namespace Ds
open PySem PySem.Spec PyProof.Rows L2 Evl Dm
/-- what stands though a list is stored to -/
def Mu (P : V → Hp → Prop) : Prop := ∀ x H D (xs ys : List V), P x H → H D = some (.lst xs) → P x (upd H D (.lst ys))
theorem mu_T {ns} : Mu (IsT ns) := fun x H D xs ys ⟨p, a, b⟩ hd => ⟨p, a, by rw [upd_ne (ne_of b hd (by intro z; cases z))]; exact b⟩
theorem mu_TV {xs} : Mu (IsTV xs) := fun x H D _ ys ⟨p, a, b⟩ hd => ⟨p, a, by rw [upd_ne (ne_of b hd (by intro z; cases z))]; exact b⟩
theorem mu_is {v : V} : Mu (fun x (_ : Hp) => x = v) := fun _ _ _ _ _ h _ => h
/-- a list whose items are told by places -/
def IsLP (P : Nat → V → Hp → Prop) (ks : List Nat) (x : V) (H : Hp) : Prop := ∃ p xs, x = .ref p ∧ H p = some (.lst xs) ∧ Paired (fun x k => P k x H) xs ks
theorem paired_eq {v : Nat → V} : ∀ {xs : List V} {ks : List Nat}, Paired (fun x k => x = v k) xs ks → xs = ks.map v
  | _, _, .nil => rfl
  | _, _, .cons r t => by rw [List.map_cons, ← paired_eq t, r]
theorem lp_V {v : Nat → V} {ks x H} (h : IsLP (fun k x _ => x = v k) ks x H) : IsLV (ks.map v) x H := by
  obtain ⟨p, xs, a, b, c⟩ := h
  exact ⟨p, a, by rw [← paired_eq c]; exact b⟩
theorem paired_map {α β γ : Type} {R : α → γ → Prop} {f : β → γ} : ∀ {l : List α} {m : List β}, Paired (fun a b => R a (f b)) l m → Paired R l (m.map f)
  | _, _, .nil => .nil
  | _, _, .cons r t => .cons r (paired_map t)
theorem lp_R {rs : Nat → List Int} {ks x H} (h : IsLP (fun k => IsT (rs k)) ks x H) : IsR (ks.map rs) x H := by
  obtain ⟨p, xs, a, b, c⟩ := h
  exact ⟨p, xs, a, b, paired_map (R := fun x r => IsT r x H) c⟩
section
variable {K : PySem.W.Frag} {σ : L2.St} {H H' : Hp} {ta tb te tc tl : TE} {t u : TT} {P : Nat → V → Hp → Prop} {j : Nat} {vs : List Nat} {f : Nat → Bool}
theorem ep_lcR {ta : TA} {n : Int} (f : Nat → Bool) (P : Nat → V → Hp → Prop) (h : EvA ta σ H [.int n]) (hn : -40000 ≤ n ∧ n ≤ 40000) (hw : ∀ x, wipe ((wipe σ vs).set j (some x)) vs = wipe σ vs) (mo : ∀ k, Mo (P k)) (mu : ∀ k, Mu (P k))
    (ht : ∀ (i : Nat) H1, Ex H H1 → (i : Int) < n → EvT t ((wipe σ vs).set j (some (.int (i : Int)))) H1 (f i)) (he : ∀ (i : Nat) H1, Ex H H1 → (i : Int) < n → f i = true → EvP te ((wipe σ vs).set j (some (.int (i : Int)))) H1 (P i)) :
    EvP (tLc (iRng1 ta) (gName j) t te vs) σ H (IsLP P ((List.range n.toNat).filter f)) := fun H0 e Q q => h H0 e _ fun H1 e1 => ⟨n, rfl, by omega, by omega, fun Dl hD =>
  lc_range (lo := 0) (n := n.toNat) (CwP H1 f P Dl) ⟨hD, Ex.new hD, [], upd_same, .nil⟩ (fun i H' hi p => by
    have ez := Int.zero_add (i : Int)
    show wipe ((wipe σ vs).set j (some (.int ((0 : Int) + (i : Int))))) vs = wipe σ vs ∧ t ((wipe σ vs).set j (some (.int ((0 : Int) + (i : Int))))) H' fun b H3 => if b = true then te ((wipe σ vs).set j (some (.int ((0 : Int) + (i : Int))))) H3 fun y H4 => ∃ acc, H4 Dl = some (.lst acc) ∧ acc.length < sizeLine ∧ CwP H1 f P Dl (i + 1) (upd H4 Dl (.lst (acc ++ [y]))) else CwP H1 f P Dl (i + 1) H3
    rw [ez]
    exact ⟨hw _, cwp_turn mo (fun k x H1 xs hk hd _ ys => mu k x H1 Dl xs ys hk hd) p (by omega) (ht i H1 (e.trans e1) (by omega)) (fun hf => he i H1 (e.trans e1) (by omega) hf)⟩) (fun H' p => q _ H' (e1.trans p.2.1) (by
      obtain ⟨xs, a, b⟩ := p.2.2
      exact ⟨Dl, xs, rfl, a, b⟩))⟩
/-- over a tuple -/
theorem ep_lcT {xs : List V} (f : Nat → Bool) (P : Nat → V → Hp → Prop) (h : EvP tl σ H (IsTV xs)) (hz : xs.length ≤ 40000) (hw : ∀ x, wipe ((wipe σ vs).set j (some x)) vs = wipe σ vs) (mo : ∀ k, Mo (P k)) (mu : ∀ k, Mu (P k))
    (ht : ∀ (i : Nat) x H1, Ex H H1 → xs[i]? = some x → EvT t ((wipe σ vs).set j (some x)) H1 (f i)) (he : ∀ (i : Nat) x H1, Ex H H1 → xs[i]? = some x → f i = true → EvP te ((wipe σ vs).set j (some x)) H1 (P i)) :
    EvP (tLc (iTup K tl) (gName j) t te vs) σ H (IsLP P ((List.range xs.length).filter f)) := fun H0 e Q q => h H0 e _ fun v H1 e1 ⟨a, hv, ha⟩ => ⟨a, hv, ⟨xs, st_of ha⟩, fun Dl hD =>
  lc_tup (xs := xs) (CwP H1 f P Dl) ⟨hD, Ex.new hD, [], upd_same, .nil⟩ (fun i H' _ p => st_of (p.2.1 _ _ ha)) (fun i x H' hi p => ⟨hw x, cwp_turn mo (fun k x H1 xs hk hd _ ys => mu k x H1 Dl xs ys hk hd) p (by have := (List.getElem?_eq_some_iff.mp hi).1; omega) (ht i x H1 (e.trans e1) hi) (fun hf => he i x H1 (e.trans e1) hi hf)⟩)
    (fun H' p => q _ H' (e1.trans p.2.1) (by
      obtain ⟨xs, a, b⟩ := p.2.2
      exact ⟨Dl, xs, rfl, a, b⟩))⟩
/-- over a list of rows (a new one as a rule) -/
theorem ep_lcL {rs : List (List Int)} (f : Nat → Bool) (P : Nat → V → Hp → Prop) (h : EvP tl σ H (IsR rs)) (hz : rs.length ≤ 40000) (hw : ∀ x, wipe ((wipe σ vs).set j (some x)) vs = wipe σ vs) (mo : ∀ k, Mo (P k)) (mu : ∀ k, Mu (P k))
    (ht : ∀ (i : Nat) r x H1, Ex H H1 → rs[i]? = some r → IsT r x H1 → EvT t ((wipe σ vs).set j (some x)) H1 (f i)) (he : ∀ (i : Nat) r x H1, Ex H H1 → rs[i]? = some r → IsT r x H1 → f i = true → EvP te ((wipe σ vs).set j (some x)) H1 (P i)) :
    EvP (tLc (iList K tl) (gName j) t te vs) σ H (IsLP P ((List.range rs.length).filter f)) := fun H0 e Q q => h H0 e _ fun v H1 e1 ⟨a, xs, hv, ha, hr⟩ => ⟨a, hv, ⟨xs, sq_of ha⟩, fun Dl hD => by
  have el : xs.length = rs.length := paired_len hr
  refine lc_list (xs := xs) (CwP H1 f P Dl) ⟨hD, Ex.new hD, [], upd_same, .nil⟩ (fun i H' _ p => sq_of (p.2.1 _ _ ha)) (fun i x H' hi p => ⟨hw x, ?_⟩) (fun H' p => q _ H' (e1.trans p.2.1) ?_)
  · obtain ⟨r, h1, h2⟩ := paired_get hr hi
    exact cwp_turn mo (fun k x H1 xs hk hd _ ys => mu k x H1 Dl xs ys hk hd) p (by have := (List.getElem?_eq_some_iff.mp hi).1; omega) (ht i r x H1 (e.trans e1) h1 h2) (fun hf => he i r x H1 (e.trans e1) h1 h2 hf)
  · obtain ⟨_, _, ys, a, b⟩ := p
    rw [el] at b
    exact ⟨Dl, ys, rfl, a, b⟩⟩
end
/-- places that pass, and what stands there -/
theorem range_filter_map {α : Type} (l : List α) (d : α) (g : α → Bool) : ((List.range l.length).filter fun k => g (l.getD k d)).map (fun k => l.getD k d) = l.filter g := by
  have key : ∀ l : List α, (List.range l.length).map (fun k => l.getD k d) = l := fun l => by
    apply List.ext_getElem?
    intro i
    rw [List.getElem?_map]
    by_cases h : i < l.length
    · rw [List.getElem?_range h, List.getElem?_eq_getElem h]
      simp [h]
    · rw [List.getElem?_eq_none (by rw [List.length_range]; omega), List.getElem?_eq_none (by omega)]; rfl
  have := congrArg (List.filter g) (key l)
  rw [List.filter_map] at this
  exact this
theorem filter_true (n : Nat) : (List.range n).filter (fun _ => true) = List.range n := List.filter_eq_self.mpr fun _ _ => rfl
theorem all_range {n : Nat} {f : Nat → Bool} : ((List.range n).map f).all id = (List.range n).all f := by
  rw [List.all_map]; rfl
theorem any_range {n : Nat} {f : Nat → Bool} : ((List.range n).map f).any id = (List.range n).any f := by
  rw [List.any_map]; rfl
section
variable {K : PySem.W.Frag} {σ : L2.St} {H : Hp} {te : TE} {g : Nat → Bool} {ks : List Nat}
theorem ev_allC (h : EvP te σ H (IsLP (fun k x _ => x = .bl (g k)) ks)) : Ev (tCB (rAll K) (tCons te tNil)) σ H (.bl (ks.all g)) := by
  have := ev_all (K := K) (bs := ks.map g) (h.imp fun v H2 _ hv => by rw [List.map_map]; exact lp_V (v := fun k => V.bl (g k)) hv)
  rw [List.all_map] at this
  exact this
theorem ev_anyC (h : EvP te σ H (IsLP (fun k x _ => x = .bl (g k)) ks)) : Ev (tCB (rAny K) (tCons te tNil)) σ H (.bl (ks.any g)) := by
  have := ev_any (K := K) (bs := ks.map g) (h.imp fun v H2 _ hv => by rw [List.map_map]; exact lp_V (v := fun k => V.bl (g k)) hv)
  rw [List.any_map] at this
  exact this
theorem et_yes {σ : L2.St} {H : Hp} : EvT tYes σ H true := fun H1 _ _ q => q H1 (Ex.refl H1)
theorem ep_is {v w : V} (h : Ev te σ H v) (e : v = w) : EvP te σ H (fun x _ => x = w) := ep_of (ev_is h e)
theorem map_int_get {ns : List Int} {i : Nat} {x : V} (h : (ns.map V.int)[i]? = some x) : i < ns.length ∧ x = .int (ix ns (i : Int)) := by
  rw [List.getElem?_map] at h
  by_cases hi : i < ns.length
  · rw [ix_get hi] at h
    exact ⟨hi, (Option.some.inj h).symm⟩
  · rw [List.getElem?_eq_none (by omega)] at h
    cases h
end
section
variable {K : PySem.W.Frag} {σ : L2.St} {H : Hp} {te ta tb : TE} {D : Ends} {tz : TS} {i j : Nat} {a b v : V} {P : V → Hp → Prop} {ns : List Int}
/-- x, y = t -/
theorem q_unp (h : EvP te σ H (IsTV [a, b])) (k : ∀ H1, Ex H H1 → tz D ((σ.set i (some a)).set j (some b)) H1) : tSeq (tAsg te (gTup K 2 (gCons (gName i) (gCons (gName j) gNil)))) tz D σ H :=
  h H (Ex.refl H) _ fun x H1 e1 ⟨p, hx, hp⟩ => ⟨p, [a, b], hx, st_of hp, rfl, a, [b], rfl, b, [], rfl, rfl, k H1 e1⟩
theorem at_lastI (h : 0 < ns.length) : atI (ns.map V.int) (-1) = some (.int (ix ns ((ns.length : Int) - 1))) := by
  have hne : ns ≠ [] := fun z => by rw [z] at h; simp at h
  have es : ns = ns.dropLast ++ [ns.getLast hne] := (List.dropLast_concat_getLast hne).symm
  have e1 : ix ns ((ns.length : Int) - 1) = ns.getLast hne := by
    have e : ((ns.length : Int) - 1) = ((ns.length - 1 : Nat) : Int) := by omega
    have q := ix_get (xs := ns) (i := ns.length - 1) (by omega)
    rw [e]
    rw [List.getElem?_eq_getElem (by omega)] at q
    rw [← Option.some.inj q, List.getLast_eq_getElem]
  rw [e1]
  conv => lhs; rw [es]
  rw [List.map_append]
  exact atI_last _ _
theorem ev_lastT (ha : EvP ta σ H (IsT ns)) (hb : Ev tb σ H (.int (-1))) (h : 0 < ns.length) : Ev (tOp (rIxT K) ta tb) σ H (.int (ix ns ((ns.length : Int) - 1))) := ep_ixT ha hb (at_lastI h)
theorem ev_lastL (ha : EvP ta σ H (IsI ns)) (hb : Ev tb σ H (.int (-1))) (h : 0 < ns.length) : Ev (tOp (rIxL K) ta tb) σ H (.int (ix ns ((ns.length : Int) - 1))) := fun H1 e Q q =>
  ha H1 e _ fun x H2 e2 ⟨p, hx, hp⟩ => hb H2 (e.trans e2) _ fun H3 e3 => ⟨p, ns.map V.int, -1, _, hx, rfl, sq_of (e3 _ _ hp), at_lastI h, q H3 (e2.trans e3)⟩
/-- statements by what is true of the value -/
theorem qp_asg {tz : TS} (h : EvP te σ H P) (k : ∀ x H1, Ex H H1 → P x H1 → tz D (σ.set i (some x)) H1) : tSeq (tAsg te (gName i)) tz D σ H := h H (Ex.refl H) _ fun x H1 e hx => k x H1 e hx
theorem sp_asg (h : EvP te σ H P) (k : ∀ x H1, Ex H H1 → P x H1 → D.nx (σ.set i (some x)) H1) : tAsg te (gName i) D σ H := h H (Ex.refl H) _ fun x H1 e hx => k x H1 e hx
theorem sp_ret (h : EvP te σ H P) (k : ∀ x H1, Ex H H1 → P x H1 → D.rt x H1) : tRet te D σ H := h H (Ex.refl H) _ k
theorem ep_v {i : Nat} {x : V} (h : σ[i]? = some (some x)) (hp : P x H) (mo : Mo P) : EvP (tVar i) σ H P := ep_var h hp mo
theorem spv_of {sp : Sp} {vs : List V} {z : V} (h : ∀ H1, Ex H H1 → ∀ Q E, Ret (fun v _ => v = z) H1 Q → sp vs H1 Q E) : SpV sp vs H z := fun H1 e Q q E => h H1 e Q E fun v H2 e2 hv => by rw [hv]; exact q H2 e2
end
end Ds

/-! Tuples joined, cut, one place changed; lists extended; rows told with what is left. -/
namespace Ds
open PySem PySem.Spec PyProof.Rows L2 Evl Dm
section
variable {K : PySem.W.Frag} {σ : L2.St} {H H' : Hp} {ta tb te tc ts tp tl : TE} {ns ms : List Int} {D : Ends} {tz : TS} {x y v : V} {i : Int} {b : Bool} {P : V → Hp → Prop}
theorem map_ne {ns : List Int} (h : ns ≠ []) : ns.map V.int ≠ [] := fun z => h (List.map_eq_nil_iff.mp z)
/-- t + u -/
theorem ep_cat (ha : EvP ta σ H (IsT ns)) (hb : EvP tb σ H (IsT ms)) (hl : ns.length + ms.length ≤ 100000) : EvP (tOp (rCatA K) ta tb) σ H (IsT (ns ++ ms)) := fun H1 e Q q =>
  ha H1 e _ fun x H2 e2 ⟨p, hx, hp⟩ => hb H2 (e.trans e2) _ fun y H3 e3 ⟨r, hy, hr⟩ => ⟨p, r, ns.map V.int, ms.map V.int, hx, hy, st_of (e3 _ _ hp), st_of hr, by rw [List.length_map, List.length_map]; exact sz_of hl,
    fun z => q _ H3 (e2.trans e3) ⟨r, rfl, by rw [List.map_eq_nil_iff.mp z]; exact hr⟩, fun _ z => q _ H3 (e2.trans e3) ⟨p, rfl, by rw [List.map_eq_nil_iff.mp z, List.append_nil]; exact e3 _ _ hp⟩,
    fun _ _ t nt => q _ _ ((e2.trans e3).trans (Ex.new nt)) ⟨t, rfl, by rw [List.map_append]; exact upd_same⟩⟩
theorem ep_tup1 (h : Ev te σ H (.int i)) : EvP (tTup (tCons te tNil)) σ H (IsT [i]) := ep_tupV (vs := [.int i]) (ea_cons h ea_nil) (by show 1 ≤ 100000; omega)
theorem ep_tup0 : EvP (tTup tNil) σ H (IsT []) := ep_tupV (vs := []) ea_nil (Nat.zero_le _)
/-- t[:k], t[k:] -/
theorem ep_slA {lo hi : Option Int} {tl th : TO} {ks : List Int} (ha : EvP ts σ H (IsT ns)) (hl : EvO tl σ H lo) (hh : EvO th σ H hi) (hc : cutV (ns.map V.int) lo hi = ks.map V.int) (hw : HT.sIx ns.length 0 lo = 0 ∧ HT.sIx ns.length ns.length hi = ns.length → ks = ns) :
    EvP (tSl (rSlA K) ts tl th) σ H (IsT ks) := fun H1 e Q q =>
  ha H1 e _ fun x H2 e2 ⟨p, hx, hp⟩ => hl H2 (e.trans e2) _ fun H3 e3 => hh H3 ((e.trans e2).trans e3) _ fun H4 e4 => ⟨p, ns.map V.int, hx, st_of (e4 _ _ (e3 _ _ hp)), fun z => q _ H4 ((e2.trans e3).trans e4) ⟨p, rfl, by
    rw [List.length_map] at z
    rw [hw z]; exact e4 _ _ (e3 _ _ hp)⟩, fun _ t nt => q _ _ (((e2.trans e3).trans e4).trans (Ex.new nt)) ⟨t, rfl, by rw [hc] at *; exact upd_same⟩⟩
theorem ep_take {k : Nat} (ha : EvP ts σ H (IsT ns)) (hk : Ev te σ H (.int (k : Int))) (h : k ≤ ns.length) : EvP (tSl (rSlA K) ts tNoPart (tPart te)) σ H (IsT (ns.take k)) := by
  refine ep_slA ha eo_none (eo_some hk) ?_ fun z => ?_
  · unfold cutV
    rw [HT.sIx_none, HT.sIx_nat, List.length_map, Nat.min_eq_left h, List.drop_zero, List.map_take]; rfl
  · rw [HT.sIx_nat, Nat.min_eq_left h] at z
    rw [z.2, List.take_length]
theorem ep_drop {k : Nat} (ha : EvP ts σ H (IsT ns)) (hk : Ev te σ H (.int (k : Int))) (h : k ≤ ns.length) : EvP (tSl (rSlA K) ts (tPart te) tNoPart) σ H (IsT (ns.drop k)) := by
  refine ep_slA ha (eo_some hk) eo_none ?_ fun z => ?_
  · unfold cutV
    rw [HT.sIx_none, HT.sIx_nat, List.length_map, Nat.min_eq_left h, List.map_drop, ← List.length_map (f := V.int) (as := ns), ← List.length_drop, List.take_length]
  · rw [HT.sIx_nat, Nat.min_eq_left h] at z
    rw [z.1, List.drop_zero]
/-- t[:p] + (e,) + t[p + 1:] -/
theorem ep_place {p : Nat} {x : Int} (ha : EvP ts σ H (IsT ns)) (hp : Ev tp σ H (.int (p : Int))) (he : Ev te σ H (.int x)) (hp1 : Ev tc σ H (.int ((p : Int) + 1))) (h : p < ns.length) (hz : ns.length ≤ 1000) :
    EvP (tOp (rCatA K) (tOp (rCatA K) (tSl (rSlA K) ts tNoPart (tPart tp)) (tTup (tCons te tNil))) (tSl (rSlA K) ts (tPart tc) tNoPart)) σ H (IsT (ns.set p x)) := by
  have h1 : (ns.take p).length = p := by rw [List.length_take]; omega
  have q := ep_cat (K := K) (ep_cat (K := K) (ep_take (K := K) ha hp (by omega)) (ep_tup1 he) (by rw [h1, List.length_singleton]; omega)) (ep_drop (K := K) (k := p + 1) ha hp1 (by omega)) (by rw [List.length_append, h1, List.length_singleton, List.length_drop]; omega)
  have e : ns.set p x = ns.take p ++ [x] ++ ns.drop (p + 1) := by
    rw [List.append_assoc, List.singleton_append]
    exact List.set_eq_take_append_cons_drop.trans (if_pos h)
  rw [e]
  exact q
/-- l.extend(new list) -/
theorem s_ext {l : Addr} {xs : List V} {R : List V → Hp → Prop} (hl : H l = some (.lst xs)) (ha : Ev ta σ H (.ref l)) (h : EvP te σ H (fun x H' => ∃ p zs, x = .ref p ∧ H' p = some (.lst zs) ∧ R zs H')) (hz : ∀ zs H', R zs H' → xs.length + zs.length ≤ 100000)
    (k : ∀ zs H1, Ex H H1 → R zs H1 → D.nx σ (upd H1 l (.lst (xs ++ zs)))) : tDrop (tBM K "list" rExtend ta (tCons te tNil)) D σ H := ha H (Ex.refl H) _ fun H1 e1 =>
  ⟨Or.inl ⟨rfl, xs, sq_of (e1 l _ hl)⟩, h H1 e1 _ fun x H2 e2 ⟨p, zs, hx, hp, hr⟩ => ⟨l, p, xs, zs, rfl, by rw [hx], e2 l _ (e1 l _ hl), hp, sz_of (hz zs H2 hr), k zs H2 (e1.trans e2) hr⟩⟩
/-- l.append(e) -/
theorem s_appP {l : Addr} {xs : List V} (hl : H l = some (.lst xs)) (ha : Ev ta σ H (.ref l)) (h : EvP te σ H P) (hz : xs.length < 100000) (k : ∀ x H1, Ex H H1 → P x H1 → D.nx σ (upd H1 l (.lst (xs ++ [x])))) : tDrop (tBM K "list" rAppend ta (tCons te tNil)) D σ H := ha H (Ex.refl H) _ fun H1 e1 =>
  ⟨Or.inl ⟨rfl, xs, sq_of (e1 l _ hl)⟩, h H1 e1 _ fun x H2 e2 hx => ⟨l, xs, x, rfl, rfl, e2 l _ (e1 l _ hl), sz_lt hz, k x H2 (e1.trans e2) hx⟩⟩
/-- x is None -/
theorem ev_isNP (ha : EvP ta σ H (fun x _ => decide (x = .non) = b)) : Ev (tOp (fun x y H Q => y = .non ∧ Q (.bl (decide (x = .non))) H) ta (tC .non)) σ H (.bl b) := fun H1 e Q q =>
  ha H1 e _ fun x H2 e2 hx => ⟨rfl, by rw [hx]; exact q H2 e2⟩
/-- an int in a tuple of ints -/
theorem inV_int (i : Int) (ns : List Int) : inV (.int i) (ns.map V.int) = decide (i ∈ ns) := by
  unfold inV
  rw [List.any_map, Bool.eq_iff_iff, decide_eq_true_eq, List.any_eq_true]
  constructor
  · rintro ⟨y, hy, e⟩
    have : y = i := by simpa [eqV] using e
    rw [← this]; exact hy
  · intro h
    exact ⟨i, h, by simp [eqV]⟩
theorem ev_inT (ha : Ev ta σ H (.int i)) (hb : EvP tb σ H (IsT ns)) : Ev (tOp (rIn K false) ta tb) σ H (.bl (decide (i ∈ ns))) := fun H1 e Q q =>
  ha H1 e _ fun H2 e2 => hb H2 (e.trans e2) _ fun y H3 e3 ⟨p, hy, hp⟩ => ⟨p, ns.map V.int, hy, .inr (st_of hp), rfl, by rw [List.all_map]; exact List.all_eq_true.mpr fun _ _ => rfl, by
    have e0 := inV_int i ns
    rw [e0]; exact q H3 (e2.trans e3)⟩

/-! ### rows with what is left -/
def PairAt (h : Int) (r : List Int) (x : V) (H : Hp) : Prop := ∃ t y, x = .ref t ∧ H t = some (.tup [y, .int (h - r.sum)]) ∧ IsT r y H
def PairsAt (h : Int) (H : Hp) (xs : List V) (rs : List (List Int)) : Prop := Paired (fun x r => PairAt h r x H) xs rs
def IsPR (h : Int) (rs : List (List Int)) (x : V) (H : Hp) : Prop := ∃ p xs, x = .ref p ∧ H p = some (.lst xs) ∧ PairsAt h H xs rs
theorem mo_PA {h r} : Mo (PairAt h r) := fun _ _ _ e ⟨t, y, a, b, c⟩ => ⟨t, y, a, e _ _ b, c.ex e⟩
theorem mu_PA {h r} : Mu (PairAt h r) := fun x H D xs ys ⟨t, y, a, b, c⟩ hd => ⟨t, y, a, by rw [upd_ne (ne_of b hd (by intro z; cases z))]; exact b, mu_T _ _ _ _ _ c hd⟩
theorem mo_PR {h rs} : Mo (IsPR h rs) := fun _ _ _ e ⟨p, xs, a, b, c⟩ => ⟨p, xs, a, e _ _ b, paired_imp (fun _ _ q => mo_PA _ _ _ e q) c⟩
/-- [.. for row, left in rows if ..] -/
theorem ep_lcP {h : Int} {rs : List (List Int)} {j1 j2 : Nat} {vs : List Nat} {t : TT} (f : Nat → Bool) (P : Nat → V → Hp → Prop) (hl : EvP tl σ H (IsPR h rs)) (hz : rs.length ≤ 40000) (hw : ∀ x y, wipe (((wipe σ vs).set j1 (some x)).set j2 (some y)) vs = wipe σ vs) (mo : ∀ k, Mo (P k)) (mu : ∀ k, Mu (P k))
    (ht : ∀ (i : Nat) r x H1, Ex H H1 → rs[i]? = some r → IsT r x H1 → EvT t (((wipe σ vs).set j1 (some x)).set j2 (some (.int (h - r.sum)))) H1 (f i))
    (he : ∀ (i : Nat) r x H1, Ex H H1 → rs[i]? = some r → IsT r x H1 → f i = true → EvP te (((wipe σ vs).set j1 (some x)).set j2 (some (.int (h - r.sum)))) H1 (P i)) :
    EvP (tLc (iList K tl) (gTup K 2 (gCons (gName j1) (gCons (gName j2) gNil))) t te vs) σ H (IsLP P ((List.range rs.length).filter f)) := fun H0 e Q q => hl H0 e _ fun v H1 e1 ⟨a, xs, hv, ha, hr⟩ => ⟨a, hv, ⟨xs, sq_of ha⟩, fun Dl hD => by
  have el : xs.length = rs.length := paired_len hr
  refine lc_list (xs := xs) (CwP H1 f P Dl) ⟨hD, Ex.new hD, [], upd_same, .nil⟩ (fun i H' _ p => sq_of (p.2.1 _ _ ha)) (fun i x H' hi p => ?_) (fun H' p => q _ H' (e1.trans p.2.1) ?_)
  · obtain ⟨r, h1, t, y, rfl, ht2, hy⟩ := paired_get hr hi
    refine ⟨t, [y, .int (h - r.sum)], rfl, st_of (p.2.1 _ _ ht2), rfl, y, [.int (h - r.sum)], rfl, .int (h - r.sum), [], rfl, rfl, hw _ _, ?_⟩
    exact cwp_turn mo (fun k x H1 xs hk hd _ ys => mu k x H1 Dl xs ys hk hd) p (by have := (List.getElem?_eq_some_iff.mp hi).1; omega) (ht i r y H1 (e.trans e1) h1 hy) (fun hf => he i r y H1 (e.trans e1) h1 hy hf)
  · obtain ⟨_, _, ys, a, b⟩ := p
    rw [el] at b
    exact ⟨Dl, ys, rfl, a, b⟩⟩
end
end Ds

namespace Ds
open PySem PySem.Spec PyProof.Rows L2 Evl Dm
section
variable {K : PySem.W.Frag} {σ : L2.St} {H H' : Hp} {ta : TA} {te : TE} {PA : List V → Hp → Prop} {P : V → Hp → Prop}
theorem mo_nil : Mo (fun (x : List V) (_ : Hp) => x = []) := fun _ _ _ _ h => h
theorem mo_cons (mp : Mo P) (ma : Mo PA) : Mo (fun vs H => ∃ x r, vs = x :: r ∧ P x H ∧ PA r H) := fun _ _ _ e ⟨x, r, a, b, c⟩ => ⟨x, r, a, mp _ _ _ e b, ma _ _ _ e c⟩
theorem ep_tupP (h : EvAP ta σ H PA) (mo : Mo PA) (hl : ∀ vs H1, PA vs H1 → vs.length ≤ 100000) : EvP (tTup ta) σ H (fun x H => ∃ p vs, x = .ref p ∧ H p = some (.tup vs) ∧ PA vs H) := fun H1 e Q q =>
  h H1 e _ fun vs H2 e2 ha => ⟨sz_of (hl vs H2 ha), fun p np => q _ _ (e2.trans (Ex.new np)) ⟨p, vs, rfl, upd_same, mo _ _ _ (Ex.new np) ha⟩⟩
theorem ep_lstP (h : EvAP ta σ H PA) (mo : Mo PA) (hl : ∀ vs H1, PA vs H1 → vs.length ≤ 100000) : EvP (tLst ta) σ H (fun x H => ∃ p vs, x = .ref p ∧ H p = some (.lst vs) ∧ PA vs H) := fun H1 e Q q =>
  h H1 e _ fun vs H2 e2 ha => ⟨sz_of (hl vs H2 ha), fun p np => q _ _ (e2.trans (Ex.new np)) ⟨p, vs, rfl, upd_same, mo _ _ _ (Ex.new np) ha⟩⟩
theorem pairs_ex {h} {H H' : Hp} {xs rs} (e : Ex H H') (q : PairsAt h H xs rs) : PairsAt h H' xs rs := paired_imp (fun _ _ q => mo_PA _ _ _ e q) q
theorem pairs_mu {h} {H : Hp} {xs rs D zs ys} (hd : H D = some (.lst zs)) (q : PairsAt h H xs rs) : PairsAt h (upd H D (.lst ys)) xs rs := paired_imp (fun _ _ q => mu_PA _ _ _ _ _ q hd) q
end
end Ds

namespace Ds
open PySem PySem.Spec PyProof.Rows L2 Evl Dm
theorem pt_tru {X : Cx} {L : PySem.W.Frag} {a : Expr} {ta : TE} (hL : X.K = L) (ha : PE X a ta) (he : ∀ whole, isTrue a X.env whole = (do let v ← whole; standAt a.pos; holding [v] (truthy v))) : PT X a (tTru L ta) := by
  subst hL
  exact pt_truth ha he
section
variable {K : PySem.W.Frag} {σ : L2.St} {H H' : Hp} {ta tb te : TE} {P : V → Hp → Prop} {b : Bool} {ns : List Int} {i : Int}
/-- the truth of a new list -/
theorem et_tru (ha : EvP ta σ H (fun x H => ∃ p xs, x = .ref p ∧ H p = some (.lst xs) ∧ (!xs.isEmpty) = b)) : EvT (tTru K ta) σ H b := fun H1 e Q q =>
  ha H1 e _ fun x H2 e2 ⟨p, xs, hx, hp, hb⟩ => ⟨b, by rw [hx]; exact .inl ⟨xs, sq_of hp, hb.symm⟩, q H2 e2⟩
theorem mo_iT {ns} : Mo (IsI ns) := mo_I
theorem isI_of {p : Addr} (h : H p = some (.lst (ns.map V.int))) : IsI ns (.ref p) H := ⟨p, rfl, h⟩
/-- l[:k] -/
theorem ep_takeL {k : Nat} (ha : EvP ta σ H (IsI ns)) (hk : Ev te σ H (.int (k : Int))) (h : k ≤ ns.length) : EvP (tSl (rSlL K) ta tNoPart (tPart te)) σ H (IsI (ns.take k)) := fun H1 e Q q =>
  ha H1 e _ fun x H2 e2 ⟨p, hx, hp⟩ => eo_none (H := H) H2 (e.trans e2) _ fun H3 e3 => eo_some hk H3 ((e.trans e2).trans e3) _ fun H4 e4 => ⟨p, ns.map V.int, hx, sq_of (e4 _ _ (e3 _ _ hp)), fun t nt => q _ _ (((e2.trans e3).trans e4).trans (Ex.new nt)) ⟨t, rfl, by
    rw [upd_same]
    unfold cutV
    rw [HT.sIx_none, HT.sIx_nat, List.length_map, Nat.min_eq_left h, List.drop_zero, List.map_take]; rfl⟩⟩
end
end Ds

namespace Ds
open PySem PySem.Spec PyProof.Rows L2 Evl Dm
section
variable {K : PySem.W.Frag} {σ : L2.St} {H H' : Hp} {ta tb te : TE}
theorem el_listT {xs : List V} (ha : EvP ta σ H (IsTV xs)) : EvL (tCB (rListS K) (tCons ta tNil)) σ H xs := fun H1 e Q q =>
  ha H1 e _ fun x H2 e2 ⟨p, hx, hp⟩ => ⟨p, xs, by rw [hx], .inr (st_of hp), fun l hl => q l _ (fresh_back e2 hl) (e2.trans (Ex.new hl)) upd_same⟩
theorem rows_mu {xs rs D zs ys} (hd : H D = some (.lst zs)) (q : Rows H xs rs) : Rows (upd H D (.lst ys)) xs rs := paired_imp (fun _ _ q => mu_T _ _ _ _ _ q hd) q
end
end Ds

namespace Ds
open PySem PySem.Spec PyProof.Rows L2 Evl Dm
section
variable {P : Program} {w : World} {K : PySem.W.Frag} {mg : Str → Option Value} {base : Heap}
/-- is_whole of an int -/
def sp_is_whole : Sp := fun vs H Q _ => ∃ i lo hi : Int, vs = [.int i, .int lo, .int hi] ∧ Ret (fun x _ => x = .bl (decide (lo ≤ i) && decide (i ≤ hi))) H Q
theorem ok_is_whole (T : Top K mg) : FnOk P w K mg base CX0 1 T.is_whole.a T.is_whole.d ["value", "low", "high"] sp_is_whole := by
  refine T.is_whole.F.ok sc_is_whole (fun vs H Q E h => ?_) (fun cdv A outer s H vs Q E hr h => ?_)
  · obtain ⟨i, lo, hi, rfl, _⟩ := h
    rfl
  · obtain ⟨i, lo, hi, rfl, q⟩ := h
    refine ⟨_, (pss_one (ps_ret (pe_and (pe_callB (r := rIsi K) call_isi (by rfl) T.isinstance (by decide +kernel) (pa_cons (pv 0) (pa_cons (pe_bltn (v := .ty "int") (by rfl) T.int (by decide +kernel) rfl) pa_nil))) (pe_and (pe_not (pe_callB (r := rIsi K) call_isi (by rfl) T.isinstance (by decide +kernel) (pa_cons (pv 0) (pa_cons (pe_bltn (v := .ty "bool") (by rfl) T.bool (by decide +kernel) rfl) pa_nil)))) (pe_one (pe_chain op_le op_le (pv 1) (pv 0) (pv 2))))))), ?_⟩
    refine s_ret (v := .bl (decide (lo ≤ i) && decide (i ≤ hi))) ?_ (fun H1 e1 => q _ _ e1 rfl)
    refine ev_is (ev_andV (a := true) (b := decide (lo ≤ i) && decide (i ≤ hi)) ?_ fun _ => ev_is (ev_andV (a := true) (b := decide (lo ≤ i) && decide (i ≤ hi)) ?_ fun _ => ?_) rfl) rfl
    · exact ev_isiTy (P := fun x _ => x = .int i) (t := .type "int") (ep_of (ev_var rfl)) (fun x H1 _ hx => by rw [hx]; exact ty_int) (kit_ty (by decide +kernel))
    · exact ev_is (ev_notV (a := false) (ev_isiTy (P := fun x _ => x = .int i) (t := .type "int") (ep_of (ev_var rfl)) (fun x H1 _ hx => by rw [hx]; exact ty_int) (kit_ty (by decide +kernel)))) rfl
    · exact ev_chain (ev_var rfl) (ev_var rfl) (rv_I0 (g := fun i j => .bl (decide (i ≤ j)))) (fun _ => ev_var rfl) (fun _ => rv_I0 (g := fun i j => .bl (decide (i ≤ j))))
theorem spv_whole {H : Hp} {i lo hi : Int} : SpV sp_is_whole [.int i, .int lo, .int hi] H (.bl (decide (lo ≤ i) && decide (i ≤ hi))) := fun H1 e Q q E => ⟨i, lo, hi, rfl, fun v H2 e2 hv => by rw [hv]; exact q H2 e2⟩
theorem ep_ref {te : TE} {σ : L2.St} {H : Hp} {q : Addr} {xs : List V} (h : Ev te σ H (.ref q)) (hq : H q = some (.tup xs)) : EvP te σ H (IsTV xs) := fun H1 e Q k => h H1 e Q fun H2 e2 => k _ H2 e2 ⟨q, rfl, e2 _ _ (e _ _ hq)⟩

/-! ### methods -/
structure Meth (f : List Int) (st : Int) : Prop where
  len : 1 ≤ f.length ∧ f.length ≤ 6
  rg : ∀ x ∈ f, 1 ≤ x ∧ x ≤ 1000
  srt : f.Pairwise (· ≤ ·)
  st : 1 ≤ st ∧ st ≤ 1000
def IsM (f : List Int) (st : Int) (x : V) (H : Hp) : Prop := ∃ p q, x = .ref p ∧ H p = some (.tup [.ref q, .int st]) ∧ H q = some (.tup (f.map V.int))
theorem mo_M {f st} : Mo (IsM f st) := fun _ _ _ e ⟨p, q, a, b, c⟩ => ⟨p, q, a, e _ _ b, e _ _ c⟩
theorem srt_ix {f : List Int} (h : f.Pairwise (· ≤ ·)) {i : Nat} (hi : i + 1 < f.length) : ix f (i : Int) ≤ ix f ((i : Int) + 1) := by
  have h1 := ix_get (xs := f) (i := i) (by omega)
  have h2 := ix_get (xs := f) (i := i + 1) hi
  rw [List.getElem?_eq_getElem (by omega)] at h1
  rw [List.getElem?_eq_getElem hi] at h2
  have eI : ((i + 1 : Nat) : Int) = (i : Int) + 1 := by omega
  rw [eI] at h2
  rw [← Option.some.inj h1, ← Option.some.inj h2]
  exact List.pairwise_iff_getElem.mp h i (i + 1) (by omega) hi (by omega)
def sp_is_method : Sp := fun vs H Q _ => ∃ x f st, vs = [x] ∧ IsM f st x H ∧ Meth f st ∧ Ret (fun v _ => v = .bl true) H Q
theorem ok_is_method (T : Top K mg) : FnOk P w K mg base CX0 2 T.is_method.a T.is_method.d ["value"] sp_is_method := by
  refine T.is_method.F.ok sc_is_method (fun vs H Q E h => ?_) (fun cdv A outer s H vs Q E hr h => ?_)
  · obtain ⟨x, f, st, rfl, _⟩ := h
    rfl
  · obtain ⟨x, f, st, rfl, ⟨p, q, rfl, hp, hq⟩, M, k⟩ := h
    refine ⟨_, (pss_cons (ps_if (PW.pt (pw_or (pt_not (pt_val (pe_callB (r := rIsi K) call_isi (by rfl) T.isinstance (by decide +kernel) (pa_cons (pv 0) (pa_cons (pe_bltn (v := .ty "tuple") (by rfl) T.tuple (by decide +kernel) rfl) pa_nil))))) (pw_or (pt_cmpR op_ne (pe_callB (r := rLenS K) call_len_seq (by rfl) T.len PySem.boot_len (pa_cons (pv 0) pa_nil)) pe_int (nomark _)) (pw_or1 (pt_not (pt_val (pe_call (ok_is_whole T) (hr.mono (by decide)) (by rfl) T.is_whole.g T.is_whole.F.kp T.is_whole.b .nil pass0 (pa_cons (pe_ix (r := rIxT K) ix_tup (pv 0) pe_int (fun _ _ => rfl)) (pa_cons pe_int (pa_cons (pe_glob (v := .int 1000) (by rfl) T.MOST_DIVISOR ⟨_, rfl⟩) pa_nil)))))))))) (pss_one (ps_ret pe_bl)) pss_nil)
    (pss_cons (ps_if (PW.pt (pw_or (pt_not (pt_val (pe_callB (r := rIsi K) call_isi (by rfl) T.isinstance (by decide +kernel) (pa_cons (pe_ix (r := rIxT K) ix_tup (pv 0) pe_int (fun _ _ => rfl)) (pa_cons (pe_bltn (v := .ty "tuple") (by rfl) T.tuple (by decide +kernel) rfl) pa_nil))))) (pw_or1 (pt_not (pt_chain op_le op_le pe_int (pe_callB (r := rLenS K) call_len_seq (by rfl) T.len PySem.boot_len (pa_cons (pe_ix (r := rIxT K) ix_tup (pv 0) pe_int (fun _ _ => rfl)) pa_nil)) (pe_glob (v := .int 6) (by rfl) T.MOST_FIRSTS ⟨_, rfl⟩)))))) (pss_one (ps_ret pe_bl)) pss_nil)
    (pss_cons (ps_if (pt_not (pt_val (pe_callB (r := rAll K) (cr_all rfl) (by rfl) T.all (by decide +kernel) (pa_cons (pe_lc (own := [("one", 1)]) (g := gName 1) (by rfl) sc_is_method.nd (pi_tup (pe_ix (r := rIxT K) ix_tup (pv 0) pe_int (fun _ _ => rfl))) (blkOk_by (N := N_is_method) (sc := defScope s_is_method) (by decide +kernel)) (fun _ _ _ _ _ => (pg_name (i := 1) sc_is_method.nd rfl (by first | exact Or.inl rfl | exact Or.inr rfl))) (fun _ _ _ _ _ => pts_nil) (fun _ _ _ _ _ => (pe_call (ok_is_whole T) (hr.mono (by decide)) (by rfl) T.is_whole.g T.is_whole.F.kp T.is_whole.b .nil pass0 (pa_cons (pv 1) (pa_cons pe_int (pa_cons (pe_glob (v := .int 1000) (by rfl) T.MOST_DIVISOR ⟨_, rfl⟩) pa_nil)))))) pa_nil)))) (pss_one (ps_ret pe_bl)) pss_nil)
    (pss_one (ps_ret (pe_callB (r := rAll K) (cr_all rfl) (by rfl) T.all (by decide +kernel) (pa_cons (pe_lc (own := [("at", 2)]) (g := gName 2) (by rfl) sc_is_method.nd (pi_range1 rfl T.range (pa_cons (pe_op op_sub (pe_callB (r := rLenS K) call_len_seq (by rfl) T.len PySem.boot_len (pa_cons (pe_ix (r := rIxT K) ix_tup (pv 0) pe_int (fun _ _ => rfl)) pa_nil)) pe_int) pa_nil)) (blkOk_by (N := N_is_method) (sc := defScope s_is_method) (by decide +kernel)) (fun _ _ _ _ _ => (pg_name (i := 2) sc_is_method.nd rfl (by first | exact Or.inl rfl | exact Or.inr rfl))) (fun _ _ _ _ _ => pts_nil) (fun _ _ _ _ _ => (pe_cmpR op_le (pe_ix (r := rIxT K) ix_tup (pe_ix (r := rIxT K) ix_tup (pv 0) pe_int (fun _ _ => rfl)) (pv 2) (fun _ _ => rfl)) (pe_ix (r := rIxT K) ix_tup (pe_ix (r := rIxT K) ix_tup (pv 0) pe_int (fun _ _ => rfl)) (pe_op op_add (pv 2) pe_int) (fun _ _ => rfl)) (nomark _)))) pa_nil))))))), ?_⟩
    have v0 : ∀ {σ' : L2.St} {H1 : Hp}, Ex H H1 → σ'[0]? = some (some (.ref p)) → EvP (tVar 0) σ' H1 (IsTV [.ref q, .int st]) := fun e h => ep_ref (ev_var h) (e _ _ hp)
    have v00 : ∀ {σ' : L2.St} {H1 : Hp}, Ex H H1 → σ'[0]? = some (some (.ref p)) → EvP (tOp (rIxT K) (tVar 0) (tC (.int 0))) σ' H1 (IsTV (f.map V.int)) := fun e h => ep_ref (ep_ixT (v0 e h) ev_c (atI_nat (j := 0) rfl)) (e _ _ hq)
    refine q_when (b := false) (et_is (et_or (et_not (et_B (ev_isiTy (b := true) (v0 (Ex.refl _) rfl) (fun x H1 _ ⟨_, a, b⟩ => by rw [a]; exact ty_tup b) (kit_ty (by decide +kernel)))))
      (fun _ => et_or (et_test (ev_neI (ev_lenT (v0 (Ex.refl _) rfl)) ev_c)) (fun _ => et_not (et_B (ev_call (ea_cons (ep_ixT (v0 (Ex.refl _) rfl) ev_c (atI_nat (j := 1) rfl)) (ea_cons ev_c (ea_cons ev_c ea_nil))) spv_whole))))) ?_) (fun z => by cases z) fun _ H1 e1 => ?_
    · have := M.st
      simp [this.1, this.2]
    refine q_when (b := false) (et_is (et_or (et_not (et_B (ev_isiTy (b := true) (v00 e1 rfl) (fun x H1 _ ⟨_, a, b⟩ => by rw [a]; exact ty_tup b) (kit_ty (by decide +kernel)))))
      (fun _ => et_not (et_B (ev_chain ev_c (ev_lenT (v00 e1 rfl)) (rv_I0 (g := fun i j => .bl (decide (i ≤ j)))) (fun _ => ev_c) (fun _ => rv_I0 (g := fun i j => .bl (decide (i ≤ j)))))))) ?_) (fun z => by cases z) fun _ H2 e2 => ?_
    · have := M.len
      rw [List.length_map]
      simp
      omega
    refine q_when (b := false) (et_is (et_not (et_B (ev_allC (g := fun _ => true) (ep_lcT (fun _ => true) _ (v00 (e1.trans e2) rfl) (by rw [List.length_map]; have := M.len; omega) (fun _ => rfl) (fun _ => mo_is) (fun _ => mu_is) (fun _ _ _ _ _ => et_yes) fun i y H3 e3 hy _ => ?_)))) ?_) (fun z => by cases z) fun _ H3 e3 => ?_
    · obtain ⟨hi, rfl⟩ := map_int_get hy
      have := M.rg _ (ix_mem hi)
      refine ep_is (ev_call (ea_cons (ev_var rfl) (ea_cons ev_c (ea_cons ev_c ea_nil))) spv_whole) ?_
      rw [decide_eq_true this.1, decide_eq_true this.2]; rfl
    · rw [filter_true]; simp
    have e := (e1.trans e2).trans e3
    have hl := M.len
    refine s_ret (v := .bl true) (ev_is (ev_allC (g := fun _ => true) (ep_lcR (fun _ => true) _ (ea_cons (ev_sub (ev_lenT (v00 e rfl)) ev_c) ea_nil) (by rw [List.length_map]; omega) (fun _ => rfl) (fun _ => mo_is) (fun _ => mu_is) (fun _ _ _ _ => et_yes) fun i H4 e4 hi _ => ?_)) ?_) fun H4 e4 => k _ _ (e.trans e4) rfl
    · rw [List.length_map] at hi
      have v4 : ∀ {σ' : L2.St}, σ'[0]? = some (some (.ref p)) → EvP (tOp (rIxT K) (tVar 0) (tC (.int 0))) σ' H4 (IsT f) := fun h => v00 (e.trans e4) h
      refine ep_is (ev_le (ev_ixT (v4 rfl) (ev_var rfl) (by omega) (by omega)) (ev_ixT (v4 rfl) (ev_add (ev_var rfl) ev_c) (by omega) (by omega))) ?_
      rw [decide_eq_true (srt_ix M.srt (by omega))]
    · rw [filter_true]; simp
end
end Ds

namespace Ds
open PySem PySem.Spec PyProof.Rows L2 Evl Dm
section
variable {P : Program} {w : World} {K : PySem.W.Frag} {mg : Str → Option Value} {base : Heap}
theorem spv_method {H : Hp} {x : V} {f st} (h : IsM f st x H) (M : Meth f st) : SpV sp_is_method [x] H (.bl true) := spv_of fun H1 e Q E q => ⟨x, f, st, rfl, mo_M _ _ _ e h, M, q⟩
/-! ### divisors -/
def divAt (f : List Int) (st : Int) (i : Int) : Int := if i < (f.length : Int) then ix f i else ix f ((f.length : Int) - 1) + st * (i + 1 - (f.length : Int))
def sp_divisor_at : Sp := fun vs H Q _ => ∃ x f st i, vs = [x, .int i] ∧ IsM f st x H ∧ Meth f st ∧ 0 ≤ i ∧ Ret (fun v _ => v = .int (divAt f st i)) H Q
theorem ok_divisor_at (T : Top K mg) : FnOk P w K mg base CX0 1 T.divisor_at.a T.divisor_at.d ["method", "index"] sp_divisor_at := by
  refine T.divisor_at.F.ok sc_divisor_at (fun vs H Q E h => ?_) (fun cdv A outer s H vs Q E hr h => ?_)
  · obtain ⟨x, f, st, i, rfl, _⟩ := h
    rfl
  · obtain ⟨x, f, st, i, rfl, ⟨p, q, rfl, hp, hq⟩, M, h0, k⟩ := h
    refine ⟨_, (pss_cons (ps_asg (pv 0) (pg_tup rfl (pgs_cons (pg_name (i := 2) sc_divisor_at.nd rfl (by first | exact Or.inl rfl | exact Or.inr rfl)) (pgs_cons (pg_name (i := 3) sc_divisor_at.nd rfl (by first | exact Or.inl rfl | exact Or.inr rfl)) pgs_nil))))
    (pss_cons (ps_if (pt_cmpR op_lt (pv 1) (pe_callB (r := rLenS K) call_len_seq (by rfl) T.len PySem.boot_len (pa_cons (pv 2) pa_nil)) (nomark _)) (pss_one (ps_ret (pe_ix (r := rIxT K) ix_tup (pv 2) (pv 1) (fun _ _ => rfl)))) pss_nil)
    (pss_one (ps_ret (pe_op op_add (pe_ix (r := rIxT K) ix_tup (pv 2) (pe_un un_neg pe_int) (fun _ _ => rfl)) (pe_op op_mul (pv 3) (pe_op op_sub (pe_op op_add (pv 1) pe_int) (pe_callB (r := rLenS K) call_len_seq (by rfl) T.len PySem.boot_len (pa_cons (pv 2) pa_nil))))))))), ?_⟩
    have hl := M.len
    have hst := M.st
    refine q_unp (ep_ref (ev_var rfl) hp) fun H1 e1 => ?_
    have v2 : ∀ {σ' : L2.St} {H2 : Hp}, Ex H1 H2 → σ'[2]? = some (some (.ref q)) → EvP (tVar 2) σ' H2 (IsT f) := fun e h => ep_ref (ev_var h) ((e1.trans e) _ _ hq)
    refine q_when (et_test (ev_lt (ev_var rfl) (ev_lenTI (v2 (Ex.refl _) rfl)))) (fun hb H2 e2 => ?_) (fun hb H2 e2 => ?_)
    · have hb := of_decide_eq_true hb
      refine s_ret (ev_ixT (v2 e2 rfl) (ev_var rfl) h0 hb) fun H3 e3 => k _ _ ((e1.trans e2).trans e3) ?_
      unfold divAt; rw [if_pos hb]
    · have hb := of_decide_eq_false hb
      refine s_ret (ev_add (ev_lastT (v2 e2 rfl) (ev_un ev_c ru_neg) (by omega)) (ev_mul (ev_var rfl) (ev_sub (ev_add (ev_var rfl) ev_c) (ev_lenTI (v2 e2 rfl))) (.inl (by omega)))) fun H3 e3 => k _ _ ((e1.trans e2).trans e3) ?_
      unfold divAt; rw [if_neg hb]
theorem spv_divisor_at {H : Hp} {x : V} {f st i} (h : IsM f st x H) (M : Meth f st) (h0 : 0 ≤ i) : SpV sp_divisor_at [x, .int i] H (.int (divAt f st i)) := spv_of fun H1 e Q E q => ⟨x, f, st, i, rfl, mo_M _ _ _ e h, M, h0, q⟩
def dvs (f : List Int) (st : Int) : List Int := (List.range 9).map fun k : Nat => divAt f st (k : Int)
def sp_divisors_to : Sp := fun vs H Q _ => ∃ x f st, vs = [x, .int 9] ∧ IsM f st x H ∧ Meth f st ∧ Ret (IsT (dvs f st)) H Q
theorem ok_divisors_to (T : Top K mg) : FnOk P w K mg base CX0 2 T.divisors_to.a T.divisors_to.d ["method", "many"] sp_divisors_to := by
  refine T.divisors_to.F.ok sc_divisors_to (fun vs H Q E h => ?_) (fun cdv A outer s H vs Q E hr h => ?_)
  · obtain ⟨x, f, st, rfl, _⟩ := h
    rfl
  · obtain ⟨x, f, st, rfl, hx, M, k⟩ := h
    refine ⟨_, (pss_one (ps_ret (pe_callTy (r := rTupS K) call_tuple_of (by rfl) T.tuple (by decide +kernel) (pa_cons (pe_lc (own := [("index", 2)]) (g := gName 2) (by rfl) sc_divisors_to.nd (pi_range1 rfl T.range (pa_cons (pv 1) pa_nil)) (blkOk_by (N := N_divisors_to) (sc := defScope s_divisors_to) (by decide +kernel)) (fun _ _ _ _ _ => (pg_name (i := 2) sc_divisors_to.nd rfl (by first | exact Or.inl rfl | exact Or.inr rfl))) (fun _ _ _ _ _ => pts_nil) (fun _ _ _ _ _ => (pe_call (ok_divisor_at T) (hr.mono (by decide)) (by rfl) T.divisor_at.g T.divisor_at.F.kp T.divisor_at.b .nil pass0 (pa_cons (pv 0) (pa_cons (pv 2) pa_nil))))) pa_nil)))), ?_⟩
    refine sp_ret (ep_tupOf (ns := dvs f st) ((ep_lcR (fun _ => true) (fun k x _ => x = .int (divAt f st (k : Int))) (ea_cons (ev_var rfl) ea_nil) (by decide) (fun _ => rfl) (fun _ => mo_is) (fun _ => mu_is) (fun _ _ _ _ => et_yes) fun i H1 e1 hi _ => ?_).imp fun v H2 _ hv => ?_)) (fun x H1 e hx => k x H1 e hx)
    · exact ep_of (ev_call (ea_cons (ev_var rfl) (ea_cons (ev_var rfl) ea_nil)) (spv_divisor_at (mo_M _ _ _ e1 hx) M (by omega)))
    · have := lp_V hv
      rw [filter_true] at this
      unfold IsI dvs
      rw [List.map_map]
      exact this
/-! ### checks -/
def sp_check_method : Sp := fun vs H Q _ => ∃ x y f st, vs = [x, y] ∧ IsM f st x H ∧ Meth f st ∧ Ret (fun v _ => v = .non) H Q
theorem ok_check_method (T : Top K mg) : FnOk P w K mg base CX0 3 T.check_method.a T.check_method.d ["method", "name"] sp_check_method := by
  refine T.check_method.F.ok sc_check_method (fun vs H Q E h => ?_) (fun cdv A outer s H vs Q E hr h => ?_)
  · obtain ⟨x, y, f, st, rfl, _⟩ := h
    rfl
  · obtain ⟨x, y, f, st, rfl, hx, M, k⟩ := h
    refine ⟨_, (pss_one (ps_if (pt_not (pt_val (pe_call (ok_is_method T) (hr.mono (by decide)) (by rfl) T.is_method.g T.is_method.F.kp T.is_method.b .nil pass0 (pa_cons (pv 0) pa_nil)))) (pss_one (ps_never)) pss_nil)), ?_⟩
    exact s_when (b := false) (et_not (et_B (ev_call (ea_cons (ev_var rfl) ea_nil) (spv_method hx M)))) (fun z => by cases z) fun _ H1 e1 => k _ _ e1 rfl
theorem spv_check_method {H : Hp} {x y : V} {f st} (h : IsM f st x H) (M : Meth f st) : SpV sp_check_method [x, y] H .non := spv_of fun H1 e Q E q => ⟨x, y, f, st, rfl, mo_M _ _ _ e h, M, q⟩
structure VotOk (v : List Int) : Prop where
  len : v.length ≤ 5
  rg : ∀ x ∈ v, 1 ≤ x ∧ x ≤ 1000000
def sp_is_votes : Sp := fun vs H Q _ => ∃ x v, vs = [x] ∧ IsT v x H ∧ VotOk v ∧ Ret (fun v _ => v = .bl true) H Q
theorem ok_is_votes (T : Top K mg) : FnOk P w K mg base CX0 2 T.is_votes.a T.is_votes.d ["value"] sp_is_votes := by
  refine T.is_votes.F.ok sc_is_votes (fun vs H Q E h => ?_) (fun cdv A outer s H vs Q E hr h => ?_)
  · obtain ⟨x, v, rfl, _⟩ := h
    rfl
  · obtain ⟨x, v, rfl, hx, V, k⟩ := h
    refine ⟨_, (pss_cons (ps_if (PW.pt (pw_or (pt_not (pt_val (pe_callB (r := rIsi K) call_isi (by rfl) T.isinstance (by decide +kernel) (pa_cons (pv 0) (pa_cons (pe_bltn (v := .ty "tuple") (by rfl) T.tuple (by decide +kernel) rfl) pa_nil))))) (pw_or1 (pt_cmpR op_gt (pe_callB (r := rLenS K) call_len_seq (by rfl) T.len PySem.boot_len (pa_cons (pv 0) pa_nil)) (pe_glob (v := .int 5) (by rfl) T.MOST_PARTIES ⟨_, rfl⟩) (nomark _))))) (pss_one (ps_ret pe_bl)) pss_nil)
    (pss_one (ps_ret (pe_callB (r := rAll K) (cr_all rfl) (by rfl) T.all (by decide +kernel) (pa_cons (pe_lc (own := [("one", 1)]) (g := gName 1) (by rfl) sc_is_votes.nd (pi_tup (pv 0)) (blkOk_by (N := N_is_votes) (sc := defScope s_is_votes) (by decide +kernel)) (fun _ _ _ _ _ => (pg_name (i := 1) sc_is_votes.nd rfl (by first | exact Or.inl rfl | exact Or.inr rfl))) (fun _ _ _ _ _ => pts_nil) (fun _ _ _ _ _ => (pe_call (ok_is_whole T) (hr.mono (by decide)) (by rfl) T.is_whole.g T.is_whole.F.kp T.is_whole.b .nil pass0 (pa_cons (pv 1) (pa_cons pe_int (pa_cons (pe_glob (v := .int 1000000) (by rfl) T.MOST_VOTES ⟨_, rfl⟩) pa_nil)))))) pa_nil))))), ?_⟩
    have hl := V.len
    refine q_when (b := false) (et_is (et_or (et_not (et_B (ev_isiTy (b := true) (ep_v rfl hx mo_T) (fun x H1 _ ⟨_, a, b⟩ => by rw [a]; exact ty_tup b) (kit_ty (by decide +kernel)))))
      (fun _ => et_test (ev_gt (ev_lenTI (ep_v rfl hx mo_T)) ev_c))) ?_) (fun z => by cases z) fun _ H1 e1 => ?_
    · rw [decide_eq_false (by omega)]; rfl
    refine s_ret (v := .bl true) (ev_is (ev_allC (g := fun _ => true) (ep_lcT (fun _ => true) _ (xs := v.map L2.V.int) (ep_v rfl (hx.ex e1) mo_T) (by rw [List.length_map]; omega) (fun _ => rfl) (fun _ => mo_is) (fun _ => mu_is) (fun _ _ _ _ _ => et_yes) fun i y H3 e3 hy _ => ?_)) ?_) fun H2 e2 => k _ _ (e1.trans e2) rfl
    · obtain ⟨hi, rfl⟩ := map_int_get hy
      have := V.rg _ (ix_mem hi)
      refine ep_is (ev_call (ea_cons (ev_var rfl) (ea_cons ev_c (ea_cons ev_c ea_nil))) spv_whole) ?_
      rw [decide_eq_true this.1, decide_eq_true this.2]; rfl
    · rw [filter_true]; simp
theorem spv_votes {H : Hp} {x : V} {v} (h : IsT v x H) (V : VotOk v) : SpV sp_is_votes [x] H (.bl true) := spv_of fun H1 e Q E q => ⟨x, v, rfl, h.ex e, V, q⟩
/-- seats for votes -/
structure SeaOk (v s : List Int) : Prop where
  len : s.length = v.length
  nn : ∀ x ∈ s, 0 ≤ x
  sum : s.sum ≤ 8
theorem SeaOk.rg {v s : List Int} (S : SeaOk v s) : ∀ x ∈ s, 0 ≤ x ∧ x ≤ 8 := fun x hx => ⟨S.nn x hx, by have := le_sum S.nn x hx; have := S.sum; omega⟩
def sp_is_seats : Sp := fun vs H Q _ => ∃ x y s v, vs = [x, y] ∧ IsT s x H ∧ IsT v y H ∧ VotOk v ∧ SeaOk v s ∧ Ret (fun v _ => v = .bl true) H Q
theorem ok_is_seats (T : Top K mg) : FnOk P w K mg base CX0 2 T.is_seats.a T.is_seats.d ["value", "votes"] sp_is_seats := by
  refine T.is_seats.F.ok sc_is_seats (fun vs H Q E h => ?_) (fun cdv A outer s H vs Q E hr h => ?_)
  · obtain ⟨x, y, s, v, rfl, _⟩ := h
    rfl
  · obtain ⟨x, y, t, v, rfl, hx, hy, V, S, k⟩ := h
    refine ⟨_, (pss_cons (ps_if (PW.pt (pw_or (pt_not (pt_val (pe_callB (r := rIsi K) call_isi (by rfl) T.isinstance (by decide +kernel) (pa_cons (pv 0) (pa_cons (pe_bltn (v := .ty "tuple") (by rfl) T.tuple (by decide +kernel) rfl) pa_nil))))) (pw_or1 (pt_cmpR op_ne (pe_callB (r := rLenS K) call_len_seq (by rfl) T.len PySem.boot_len (pa_cons (pv 0) pa_nil)) (pe_callB (r := rLenS K) call_len_seq (by rfl) T.len PySem.boot_len (pa_cons (pv 1) pa_nil)) (nomark _))))) (pss_one (ps_ret pe_bl)) pss_nil)
    (pss_one (ps_ret (pe_and (pe_callB (r := rAll K) (cr_all rfl) (by rfl) T.all (by decide +kernel) (pa_cons (pe_lc (own := [("one", 2)]) (g := gName 2) (by rfl) sc_is_seats.nd (pi_tup (pv 0)) (blkOk_by (N := N_is_seats) (sc := defScope s_is_seats) (by decide +kernel)) (fun _ _ _ _ _ => (pg_name (i := 2) sc_is_seats.nd rfl (by first | exact Or.inl rfl | exact Or.inr rfl))) (fun _ _ _ _ _ => pts_nil) (fun _ _ _ _ _ => (pe_call (ok_is_whole T) (hr.mono (by decide)) (by rfl) T.is_whole.g T.is_whole.F.kp T.is_whole.b .nil pass0 (pa_cons (pv 2) (pa_cons pe_int (pa_cons (pe_glob (v := .int 8) (by rfl) T.MOST_SEATS ⟨_, rfl⟩) pa_nil)))))) pa_nil)) (pe_one (pe_cmpR op_le (pe_callB (r := rSumS K) (cr_sumT rfl) (by rfl) T.sum (by decide +kernel) (pa_cons (pv 0) pa_nil)) (pe_glob (v := .int 8) (by rfl) T.MOST_SEATS ⟨_, rfl⟩) (nomark _))))))), ?_⟩
    have hl := V.len
    have hs := S.len
    have hm := S.sum
    refine q_when (b := false) (et_is (et_or (et_not (et_B (ev_isiTy (b := true) (ep_v rfl hx mo_T) (fun x H1 _ ⟨_, a, b⟩ => by rw [a]; exact ty_tup b) (kit_ty (by decide +kernel)))))
      (fun _ => et_test (ev_neI (ev_lenTI (ep_v rfl hx mo_T)) (ev_lenTI (ep_v rfl hy mo_T))))) ?_) (fun z => by cases z) fun _ H1 e1 => ?_
    · rw [decide_eq_true (by omega)]; rfl
    refine s_ret (v := .bl true) (ev_is (ev_andV (a := true) (ev_is (ev_allC (g := fun _ => true) (ep_lcT (fun _ => true) _ (xs := t.map L2.V.int) (ep_v rfl (hx.ex e1) mo_T) (by rw [List.length_map]; omega) (fun _ => rfl) (fun _ => mo_is) (fun _ => mu_is) (fun _ _ _ _ _ => et_yes) fun i z H3 e3 hz _ => ?_)) ?_)
      fun _ => ev_le (ev_sumS (ep_v rfl (hx.ex e1) mo_T)) ev_c) ?_) fun H2 e2 => k _ _ (e1.trans e2) rfl
    · obtain ⟨hi, rfl⟩ := map_int_get hz
      have := S.rg _ (ix_mem hi)
      refine ep_is (ev_call (ea_cons (ev_var rfl) (ea_cons ev_c (ea_cons ev_c ea_nil))) spv_whole) ?_
      rw [decide_eq_true this.1, decide_eq_true this.2]; rfl
    · rw [filter_true]; simp
    · rw [decide_eq_true hm]; rfl
theorem spv_seats {H : Hp} {x y : V} {s v} (h : IsT s x H) (hy : IsT v y H) (V : VotOk v) (S : SeaOk v s) : SpV sp_is_seats [x, y] H (.bl true) := spv_of fun H1 e Q E q => ⟨x, y, s, v, rfl, h.ex e, hy.ex e, V, S, q⟩
def sp_check_votes : Sp := fun vs H Q _ => ∃ x y f st v, vs = [x, y] ∧ IsM f st x H ∧ Meth f st ∧ IsT v y H ∧ VotOk v ∧ Ret (fun v _ => v = .non) H Q
theorem ok_check_votes (T : Top K mg) : FnOk P w K mg base CX0 4 T.check_votes.a T.check_votes.d ["method", "votes"] sp_check_votes := by
  refine T.check_votes.F.ok sc_check_votes (fun vs H Q E h => ?_) (fun cdv A outer s H vs Q E hr h => ?_)
  · obtain ⟨x, y, f, st, v, rfl, _⟩ := h
    rfl
  · obtain ⟨x, y, f, st, v, rfl, hx, M, hy, V, k⟩ := h
    refine ⟨_, (pss_cons (ps_expr (pe_call (ok_check_method T) (hr.mono (by decide)) (by rfl) T.check_method.g T.check_method.F.kp T.check_method.b .nil pass0 (pa_cons (pv 0) (pa_cons pe_str pa_nil))))
    (pss_one (ps_if (pt_not (pt_val (pe_call (ok_is_votes T) (hr.mono (by decide)) (by rfl) T.is_votes.g T.is_votes.F.kp T.is_votes.b .nil pass0 (pa_cons (pv 1) pa_nil)))) (pss_one (ps_never)) pss_nil))), ?_⟩
    refine q_drop (ev_call (ea_cons (ev_var rfl) (ea_cons ev_c ea_nil)) (spv_check_method hx M)) fun H1 e1 => ?_
    exact s_when (b := false) (et_not (et_B (ev_call (ea_cons (ev_var rfl) ea_nil) (spv_votes (hy.ex e1) V)))) (fun z => by cases z) fun _ H2 e2 => k _ _ (e1.trans e2) rfl
theorem spv_check_votes {H : Hp} {x y : V} {f st v} (h : IsM f st x H) (M : Meth f st) (hy : IsT v y H) (V : VotOk v) : SpV sp_check_votes [x, y] H .non := spv_of fun H1 e Q E q => ⟨x, y, f, st, v, rfl, mo_M _ _ _ e h, M, hy.ex e, V, q⟩
def sp_check_seats : Sp := fun vs H Q _ => ∃ x y z f st v s, vs = [x, y, z] ∧ IsM f st x H ∧ Meth f st ∧ IsT v y H ∧ VotOk v ∧ IsT s z H ∧ SeaOk v s ∧ Ret (fun v _ => v = .non) H Q
theorem ok_check_seats (T : Top K mg) : FnOk P w K mg base CX0 5 T.check_seats.a T.check_seats.d ["method", "votes", "seats"] sp_check_seats := by
  refine T.check_seats.F.ok sc_check_seats (fun vs H Q E h => ?_) (fun cdv A outer s H vs Q E hr h => ?_)
  · obtain ⟨x, y, z, f, st, v, s, rfl, _⟩ := h
    rfl
  · obtain ⟨x, y, z, f, st, v, t, rfl, hx, M, hy, V, hz, S, k⟩ := h
    refine ⟨_, (pss_cons (ps_expr (pe_call (ok_check_votes T) (hr.mono (by decide)) (by rfl) T.check_votes.g T.check_votes.F.kp T.check_votes.b .nil pass0 (pa_cons (pv 0) (pa_cons (pv 1) pa_nil))))
    (pss_one (ps_if (pt_not (pt_val (pe_call (ok_is_seats T) (hr.mono (by decide)) (by rfl) T.is_seats.g T.is_seats.F.kp T.is_seats.b .nil pass0 (pa_cons (pv 2) (pa_cons (pv 1) pa_nil))))) (pss_one (ps_never)) pss_nil))), ?_⟩
    refine q_drop (ev_call (ea_cons (ev_var rfl) (ea_cons (ev_var rfl) ea_nil)) (spv_check_votes hx M hy V)) fun H1 e1 => ?_
    exact s_when (b := false) (et_not (et_B (ev_call (ea_cons (ev_var rfl) (ea_cons (ev_var rfl) ea_nil)) (spv_seats (hz.ex e1) (hy.ex e1) V S)))) (fun z => by cases z) fun _ H2 e2 => k _ _ (e1.trans e2) rfl
theorem spv_check_seats {H : Hp} {x y z : V} {f st v s} (h : IsM f st x H) (M : Meth f st) (hy : IsT v y H) (V : VotOk v) (hz : IsT s z H) (S : SeaOk v s) : SpV sp_check_seats [x, y, z] H .non := spv_of fun H1 e Q E q => ⟨x, y, z, f, st, v, s, rfl, mo_M _ _ _ e h, M, hy.ex e, V, hz.ex e, S, q⟩
def sp_check_house : Sp := fun vs H Q _ => ∃ x y f st v i, vs = [x, y, .int i] ∧ IsM f st x H ∧ Meth f st ∧ IsT v y H ∧ VotOk v ∧ (0 ≤ i ∧ i ≤ 8) ∧ Ret (fun v _ => v = .non) H Q
theorem ok_check_house (T : Top K mg) : FnOk P w K mg base CX0 5 T.check_house.a T.check_house.d ["method", "votes", "house"] sp_check_house := by
  refine T.check_house.F.ok sc_check_house (fun vs H Q E h => ?_) (fun cdv A outer s H vs Q E hr h => ?_)
  · obtain ⟨x, y, f, st, v, i, rfl, _⟩ := h
    rfl
  · obtain ⟨x, y, f, st, v, i, rfl, hx, M, hy, V, hi, k⟩ := h
    refine ⟨_, (pss_cons (ps_expr (pe_call (ok_check_votes T) (hr.mono (by decide)) (by rfl) T.check_votes.g T.check_votes.F.kp T.check_votes.b .nil pass0 (pa_cons (pv 0) (pa_cons (pv 1) pa_nil))))
    (pss_one (ps_if (pt_not (pt_val (pe_call (ok_is_whole T) (hr.mono (by decide)) (by rfl) T.is_whole.g T.is_whole.F.kp T.is_whole.b .nil pass0 (pa_cons (pv 2) (pa_cons pe_int (pa_cons (pe_glob (v := .int 8) (by rfl) T.MOST_SEATS ⟨_, rfl⟩) pa_nil)))))) (pss_one (ps_never)) pss_nil))), ?_⟩
    refine q_drop (ev_call (ea_cons (ev_var rfl) (ea_cons (ev_var rfl) ea_nil)) (spv_check_votes hx M hy V)) fun H1 e1 => ?_
    refine s_when (b := false) (et_is (et_not (et_B (ev_call (ea_cons (ev_var rfl) (ea_cons ev_c (ea_cons ev_c ea_nil))) spv_whole))) ?_) (fun z => by cases z) fun _ H2 e2 => k _ _ (e1.trans e2) rfl
    rw [decide_eq_true hi.1, decide_eq_true hi.2]; rfl
theorem spv_check_house {H : Hp} {x y : V} {f st v i} (h : IsM f st x H) (M : Meth f st) (hy : IsT v y H) (V : VotOk v) (hi : 0 ≤ i ∧ i ≤ 8) : SpV sp_check_house [x, y, .int i] H .non := spv_of fun H1 e Q E q => ⟨x, y, f, st, v, i, rfl, mo_M _ _ _ e h, M, hy.ex e, V, hi, q⟩
end
end Ds

namespace Ds
open PySem PySem.Spec PyProof.Rows L2 Evl Dm
/-- divisors, votes and seats as the inner defs take them -/
structure Cd (d v s : List Int) : Prop where
  dl : d.length = 9
  vl : v.length ≤ 5
  vb : ∀ x ∈ v, 1 ≤ x ∧ x ≤ 1000000
  sl : s.length = v.length
  sb : ∀ x ∈ s, 0 ≤ x ∧ x ≤ 8
theorem Cd.s {d v s : List Int} (C : Cd d v s) {i : Nat} (h : i < v.length) : 0 ≤ ix s (i : Int) ∧ ix s (i : Int) ≤ 8 := C.sb _ (ix_mem (by rw [C.sl]; exact h))
theorem Cd.v {d v s : List Int} (C : Cd d v s) {i : Nat} (h : i < v.length) : 1 ≤ ix v (i : Int) ∧ ix v (i : Int) ≤ 1000000 := C.vb _ (ix_mem h)
section
variable {P : Program} {w : World} {K : PySem.W.Frag} {mg : Str → Option Value} {base : Heap}
/-! ### pairs of parties -/
def sp_is_wrong : Sp := fun vs H Q _ => ∃ x y z u d v s, ∃ i j : Nat, vs = [x, y, z, u] ∧ IsT d x H ∧ IsT v y H ∧ IsT s z H ∧ IsTV [.int (i : Int), .int (j : Int)] u H ∧ Cd d v s ∧ i < v.length ∧ j < v.length ∧ Ret (fun r _ => r = .bl (wrongB d v s i j)) H Q
theorem ok_is_wrong (T : Top K mg) : FnOk P w K mg base CX0 1 T.is_wrong.a T.is_wrong.d ["divisors", "votes", "seats", "pair"] sp_is_wrong := by
  refine T.is_wrong.F.ok sc_is_wrong (fun vs H Q E h => ?_) (fun cdv A outer s H vs Q E hr h => ?_)
  · obtain ⟨x, y, z, u, d, v, s, i, j, rfl, _⟩ := h
    rfl
  · obtain ⟨x, y, z, u, d, v, t, i, j, rfl, hx, hy, hz, hu, C, hi, hj, k⟩ := h
    refine ⟨_, (pss_cons (ps_asg (pv 3) (pg_tup rfl (pgs_cons (pg_name (i := 4) sc_is_wrong.nd rfl (by first | exact Or.inl rfl | exact Or.inr rfl)) (pgs_cons (pg_name (i := 5) sc_is_wrong.nd rfl (by first | exact Or.inl rfl | exact Or.inr rfl)) pgs_nil))))
    (pss_cons (ps_if (pt_cmpR op_eq (pe_ix (r := rIxT K) ix_tup (pv 2) (pv 4) (fun _ _ => rfl)) pe_int (nomark _)) (pss_one (ps_ret pe_bl)) pss_nil)
    (pss_one (ps_ret (pe_cmpR op_gt (pe_op op_mul (pe_ix (r := rIxT K) ix_tup (pv 1) (pv 5) (fun _ _ => rfl)) (pe_ix (r := rIxT K) ix_tup (pv 0) (pe_op op_sub (pe_ix (r := rIxT K) ix_tup (pv 2) (pv 4) (fun _ _ => rfl)) pe_int) (fun _ _ => rfl))) (pe_op op_mul (pe_ix (r := rIxT K) ix_tup (pv 1) (pv 4) (fun _ _ => rfl)) (pe_ix (r := rIxT K) ix_tup (pv 0) (pe_ix (r := rIxT K) ix_tup (pv 2) (pv 5) (fun _ _ => rfl)) (fun _ _ => rfl))) (nomark _)))))), ?_⟩
    have si := C.s hi
    have sj := C.s hj
    have vi := C.v hi
    have vj := C.v hj
    have hsl := C.sl
    have hdl := C.dl
    refine q_unp (ep_v rfl hu mo_TV) fun H1 e1 => ?_
    have ez : ∀ {σ' : L2.St}, σ'[2]? = some (some z) → EvP (tVar 2) σ' H1 (IsT t) := fun h => ep_v h (hz.ex e1) mo_T
    refine q_when (et_test (ev_eqI (ev_ixT (ez rfl) (ev_var rfl) (by omega) (by omega)) ev_c)) (fun hb H2 e2 => ?_) (fun hb H2 e2 => ?_)
    · have hb := of_decide_eq_true hb
      refine s_ret (v := .bl false) ev_c fun H3 e3 => k _ _ ((e1.trans e2).trans e3) ?_
      unfold wrongB; rw [if_pos hb]
    · have hb := of_decide_eq_false hb
      have e := e1.trans e2
      have ez : ∀ {σ' : L2.St}, σ'[2]? = some (some z) → EvP (tVar 2) σ' H2 (IsT t) := fun h => ep_v h (hz.ex e) mo_T
      have ex : ∀ {σ' : L2.St}, σ'[0]? = some (some x) → EvP (tVar 0) σ' H2 (IsT d) := fun h => ep_v h (hx.ex e) mo_T
      have ey : ∀ {σ' : L2.St}, σ'[1]? = some (some y) → EvP (tVar 1) σ' H2 (IsT v) := fun h => ep_v h (hy.ex e) mo_T
      refine s_ret (ev_gt (ev_mul (ev_ixT (ey rfl) (ev_var rfl) (by omega) (by omega)) (ev_ixT (ex rfl) (ev_sub (ev_ixT (ez rfl) (ev_var rfl) (by omega) (by omega)) ev_c) (by omega) (by omega)) (.inl (by omega)))
        (ev_mul (ev_ixT (ey rfl) (ev_var rfl) (by omega) (by omega)) (ev_ixT (ex rfl) (ev_ixT (ez rfl) (ev_var rfl) (by omega) (by omega)) (by omega) (by omega)) (.inl (by omega)))) fun H3 e3 => k _ _ (e.trans e3) ?_
      unfold wrongB; rw [if_neg hb]
def sp_is_ahead : Sp := fun vs H Q _ => ∃ x y z u d v s, ∃ i j : Nat, vs = [x, y, z, u] ∧ IsT d x H ∧ IsT v y H ∧ IsT s z H ∧ IsTV [.int (i : Int), .int (j : Int)] u H ∧ Cd d v s ∧ i < v.length ∧ j < v.length ∧ Ret (fun r _ => r = .bl (aheadB d v s i j)) H Q
theorem ok_is_ahead (T : Top K mg) : FnOk P w K mg base CX0 1 T.is_ahead.a T.is_ahead.d ["divisors", "votes", "seats", "pair"] sp_is_ahead := by
  refine T.is_ahead.F.ok sc_is_ahead (fun vs H Q E h => ?_) (fun cdv A outer s H vs Q E hr h => ?_)
  · obtain ⟨x, y, z, u, d, v, s, i, j, rfl, _⟩ := h
    rfl
  · obtain ⟨x, y, z, u, d, v, t, i, j, rfl, hx, hy, hz, hu, C, hi, hj, k⟩ := h
    refine ⟨_, (pss_cons (ps_asg (pv 3) (pg_tup rfl (pgs_cons (pg_name (i := 4) sc_is_ahead.nd rfl (by first | exact Or.inl rfl | exact Or.inr rfl)) (pgs_cons (pg_name (i := 5) sc_is_ahead.nd rfl (by first | exact Or.inl rfl | exact Or.inr rfl)) pgs_nil))))
    (pss_one (ps_ret (pe_cmpR op_gt (pe_op op_mul (pe_ix (r := rIxT K) ix_tup (pv 1) (pv 4) (fun _ _ => rfl)) (pe_ix (r := rIxT K) ix_tup (pv 0) (pe_ix (r := rIxT K) ix_tup (pv 2) (pv 5) (fun _ _ => rfl)) (fun _ _ => rfl))) (pe_op op_mul (pe_ix (r := rIxT K) ix_tup (pv 1) (pv 5) (fun _ _ => rfl)) (pe_ix (r := rIxT K) ix_tup (pv 0) (pe_ix (r := rIxT K) ix_tup (pv 2) (pv 4) (fun _ _ => rfl)) (fun _ _ => rfl))) (nomark _))))), ?_⟩
    have si := C.s hi
    have sj := C.s hj
    have vi := C.v hi
    have vj := C.v hj
    have hsl := C.sl
    have hdl := C.dl
    refine q_unp (ep_v rfl hu mo_TV) fun H1 e => ?_
    have ez : ∀ {σ' : L2.St}, σ'[2]? = some (some z) → EvP (tVar 2) σ' H1 (IsT t) := fun h => ep_v h (hz.ex e) mo_T
    have ex : ∀ {σ' : L2.St}, σ'[0]? = some (some x) → EvP (tVar 0) σ' H1 (IsT d) := fun h => ep_v h (hx.ex e) mo_T
    have ey : ∀ {σ' : L2.St}, σ'[1]? = some (some y) → EvP (tVar 1) σ' H1 (IsT v) := fun h => ep_v h (hy.ex e) mo_T
    refine s_ret (ev_gt (ev_mul (ev_ixT (ey rfl) (ev_var rfl) (by omega) (by omega)) (ev_ixT (ex rfl) (ev_ixT (ez rfl) (ev_var rfl) (by omega) (by omega)) (by omega) (by omega)) (.inl (by omega)))
      (ev_mul (ev_ixT (ey rfl) (ev_var rfl) (by omega) (by omega)) (ev_ixT (ex rfl) (ev_ixT (ez rfl) (ev_var rfl) (by omega) (by omega)) (by omega) (by omega)) (.inl (by omega)))) fun H3 e3 => k _ _ (e.trans e3) rfl
section
variable {σ : L2.St} {H : Hp} {tx ty tz tu ti tj : TE} {d v s : List Int} {i j : Nat} {E : XK}
theorem ev_wrong (hx : EvP tx σ H (IsT d)) (hy : EvP ty σ H (IsT v)) (hz : EvP tz σ H (IsT s)) (hi : Ev ti σ H (.int (i : Int))) (hj : Ev tj σ H (.int (j : Int))) (C : Cd d v s) (h1 : i < v.length) (h2 : j < v.length) :
    Ev (tCall sp_is_wrong [] E (tCons tx (tCons ty (tCons tz (tCons (tTup (tCons ti (tCons tj tNil))) tNil))))) σ H (.bl (wrongB d v s i j)) :=
  ev_of (ep_call (eap_cons hx mo_T (eap_cons hy mo_T (eap_cons hz mo_T (eap_cons (ep_tupV (ea_cons hi (ea_cons hj ea_nil)) (by show 2 ≤ 100000; omega)) mo_TV eap_nil)))) fun vs H1 e ⟨x, _, e1, px, y, _, e2, py, z, _, e3, pz, u, _, e4, pu, e5⟩ Q q =>
    ⟨x, y, z, u, d, v, s, i, j, by rw [e1, e2, e3, e4, e5]; rfl, px, py, pz, pu, C, h1, h2, q⟩)
theorem ev_ahead (hx : EvP tx σ H (IsT d)) (hy : EvP ty σ H (IsT v)) (hz : EvP tz σ H (IsT s)) (hi : Ev ti σ H (.int (i : Int))) (hj : Ev tj σ H (.int (j : Int))) (C : Cd d v s) (h1 : i < v.length) (h2 : j < v.length) :
    Ev (tCall sp_is_ahead [] E (tCons tx (tCons ty (tCons tz (tCons (tTup (tCons ti (tCons tj tNil))) tNil))))) σ H (.bl (aheadB d v s i j)) :=
  ev_of (ep_call (eap_cons hx mo_T (eap_cons hy mo_T (eap_cons hz mo_T (eap_cons (ep_tupV (ea_cons hi (ea_cons hj ea_nil)) (by show 2 ≤ 100000; omega)) mo_TV eap_nil)))) fun vs H1 e ⟨x, _, e1, px, y, _, e2, py, z, _, e3, pz, u, _, e4, pu, e5⟩ Q q =>
    ⟨x, y, z, u, d, v, s, i, j, by rw [e1, e2, e3, e4, e5]; rfl, px, py, pz, pu, C, h1, h2, q⟩)
end
def okB (d v s : List Int) (i j : Nat) : Bool := decide (i = j) || !wrongB d v s i j
theorem validB_okB {d v s : List Int} : validB d v s = (List.range v.length).all fun i => (List.range v.length).all fun j => okB d v s i j := rfl
def sp_first_wrong : Sp := fun vs H Q _ => ∃ x y z d v s, vs = [x, y, z] ∧ IsT d x H ∧ IsT v y H ∧ IsT s z H ∧ Cd d v s ∧ Ret (fun r _ => decide (r = .non) = validB d v s) H Q
theorem ok_first_wrong (T : Top K mg) : FnOk P w K mg base CX0 2 T.first_wrong.a T.first_wrong.d ["divisors", "votes", "seats"] sp_first_wrong := by
  refine T.first_wrong.F.ok sc_first_wrong (fun vs H Q E h => ?_) (fun cdv A outer s H vs Q E hr h => ?_)
  · obtain ⟨x, y, z, d, v, s, rfl, _⟩ := h
    rfl
  · obtain ⟨x, y, z, d, v, t, rfl, hx, hy, hz, C, k⟩ := h
    refine ⟨_, (pss_cons (ps_for PassesOwn.never rfl (pi_range1 rfl T.range (pa_cons (pe_callB (r := rLenS K) call_len_seq (by rfl) T.len PySem.boot_len (pa_cons (pv 1) pa_nil)) pa_nil)) (pg_name (i := 3) sc_first_wrong.nd rfl (by first | exact Or.inl rfl | exact Or.inr rfl)) (pss_one (ps_for PassesOwn.never rfl (pi_range1 rfl T.range (pa_cons (pe_callB (r := rLenS K) call_len_seq (by rfl) T.len PySem.boot_len (pa_cons (pv 1) pa_nil)) pa_nil)) (pg_name (i := 4) sc_first_wrong.nd rfl (by first | exact Or.inl rfl | exact Or.inr rfl)) (pss_one (ps_if (PW.pt (pw_and (pt_cmpR op_ne (pv 3) (pv 4) (nomark _)) (pw_and1 (pt_val (pe_call (ok_is_wrong T) (hr.mono (by decide)) (by rfl) T.is_wrong.g T.is_wrong.F.kp T.is_wrong.b .nil pass0 (pa_cons (pv 0) (pa_cons (pv 1) (pa_cons (pv 2) (pa_cons (pe_tup (pa_cons (pv 3) (pa_cons (pv 4) pa_nil))) pa_nil))))))))) (pss_one (ps_ret (pe_tup (pa_cons (pv 3) (pa_cons (pv 4) pa_nil))))) pss_nil)))))
    (pss_one (ps_ret pe_non))), ?_⟩
    have hl := C.vl
    refine q_forR1 (ea_cons (ev_lenTI (ep_v rfl hy mo_T)) ea_nil) (by omega) (fun i σ' H' => ∃ a b, σ' = [some x, some y, some z, a, b] ∧ Ex H H' ∧ ∀ a < i, ∀ b < v.length, okB d v t a b = true)
      (fun H1 e1 => ⟨none, none, rfl, e1, fun a ha => absurd ha (Nat.not_lt_zero _)⟩) (fun i σ1 H1 hi ⟨a, b, hσ, e1, ha⟩ => ?_) (fun σ1 H1 ⟨a, b, hσ, e1, ha⟩ => ?_)
    · subst hσ
      refine s_forR1 (ea_cons (ev_lenTI (ep_v rfl (hy.ex e1) mo_T)) ea_nil) (by omega) (fun j σ' H' => ∃ b, σ' = [some x, some y, some z, some (.int (i : Int)), b] ∧ Ex H H' ∧ ∀ b < j, okB d v t i b = true)
        (fun H2 e2 => ⟨b, rfl, e1.trans e2, fun a ha => absurd ha (Nat.not_lt_zero _)⟩) (fun j σ2 H2 hj ⟨b2, hσ, e2, hb⟩ => ?_) (fun σ2 H2 ⟨b2, hσ, e2, hb⟩ => ?_)
      · subst hσ
        refine s_when (et_and (et_test (ev_neI (ev_var rfl) (ev_var rfl))) (fun _ => et_B (ev_wrong (i := i) (j := j) (ep_v rfl (hx.ex e2) mo_T) (ep_v rfl (hy.ex e2) mo_T) (ep_v rfl (hz.ex e2) mo_T) (ev_var rfl) (ev_var rfl) C (by omega) (by omega)))) (fun hc H3 e3 => ?_) (fun hc H3 e3 => ?_)
        · refine sp_ret (ep_tupV (ea_cons (ev_var rfl) (ea_cons (ev_var rfl) ea_nil)) (by show 2 ≤ 100000; omega)) fun r H4 e4 ⟨p, hr, _⟩ => k _ _ ((e2.trans e3).trans e4) ?_
          rw [hr]
          show decide (L2.V.ref p = L2.V.non) = _
          rw [decide_eq_false (by intro q; cases q)]
          symm
          rw [validB_okB, List.all_eq_false]
          refine ⟨i, List.mem_range.mpr (by omega), ?_⟩
          rw [Bool.not_eq_true, List.all_eq_false]
          refine ⟨j, List.mem_range.mpr (by omega), ?_⟩
          rw [Bool.and_eq_true, Bool.not_eq_true', decide_eq_false_iff_not] at hc
          unfold okB
          rw [hc.2, decide_eq_false (fun q => hc.1 (by omega))]
          decide
        · refine ⟨_, rfl, e2.trans e3, fun b hbj => ?_⟩
          rcases Nat.lt_succ_iff_lt_or_eq.mp hbj with q | q
          · exact hb b q
          · subst q
            unfold okB
            by_cases hij : i = b
            · rw [decide_eq_true hij]; rfl
            · rw [decide_eq_false (by omega)] at hc
              have : wrongB d v t i b = false := by simpa using hc
              rw [this]; simp
      · subst hσ
        refine ⟨_, _, rfl, e2, fun a haj => ?_⟩
        rcases Nat.lt_succ_iff_lt_or_eq.mp haj with q | q
        · exact ha a q
        · subst q
          intro b hb'
          exact hb b (by omega)
    · subst hσ
      refine s_ret (v := .non) ev_c fun H3 e3 => k _ _ (e1.trans e3) ?_
      show decide (L2.V.non = L2.V.non) = _
      rw [decide_eq_true rfl]
      symm
      rw [validB_okB, List.all_eq_true]
      intro i hi
      rw [List.all_eq_true]
      intro j hj
      exact ha i (by have := List.mem_range.mp hi; omega) j (List.mem_range.mp hj)
section
variable {σ : L2.St} {H : Hp} {tx ty tz tu ti tj : TE} {d v s : List Int} {i j : Nat} {E : XK}
theorem ep_first_wrong (hx : EvP tx σ H (IsT d)) (hy : EvP ty σ H (IsT v)) (hz : EvP tz σ H (IsT s)) (C : Cd d v s) : EvP (tCall sp_first_wrong [] E (tCons tx (tCons ty (tCons tz tNil)))) σ H (fun r _ => decide (r = .non) = validB d v s) :=
  ep_call (eap_cons hx mo_T (eap_cons hy mo_T (eap_cons hz mo_T eap_nil))) fun vs H1 e ⟨x, _, e1, px, y, _, e2, py, z, _, e3, pz, e5⟩ Q q => ⟨x, y, z, d, v, s, by rw [e1, e2, e3, e5]; rfl, px, py, pz, C, q⟩
end
def sp_valid_by : Sp := fun vs H Q _ => ∃ x y z d v s, vs = [x, y, z] ∧ IsT d x H ∧ IsT v y H ∧ IsT s z H ∧ Cd d v s ∧ Ret (fun r _ => r = .bl (validB d v s)) H Q
theorem ok_valid_by (T : Top K mg) : FnOk P w K mg base CX0 3 T.valid_by.a T.valid_by.d ["divisors", "votes", "seats"] sp_valid_by := by
  refine T.valid_by.F.ok sc_valid_by (fun vs H Q E h => ?_) (fun cdv A outer s H vs Q E hr h => ?_)
  · obtain ⟨x, y, z, d, v, s, rfl, _⟩ := h
    rfl
  · obtain ⟨x, y, z, d, v, t, rfl, hx, hy, hz, C, k⟩ := h
    refine ⟨_, (pss_one (ps_ret (pe_cmpR op_isN (pe_call (ok_first_wrong T) (hr.mono (by decide)) (by rfl) T.first_wrong.g T.first_wrong.F.kp T.first_wrong.b .nil pass0 (pa_cons (pv 0) (pa_cons (pv 1) (pa_cons (pv 2) pa_nil)))) pe_non (nomark _)))), ?_⟩
    exact s_ret (ev_isNP (ep_first_wrong (ep_v rfl hx mo_T) (ep_v rfl hy mo_T) (ep_v rfl hz mo_T) C)) fun H1 e1 => k _ _ e1 rfl
section
variable {σ : L2.St} {H : Hp} {tx ty tz tu ti tj : TE} {d v s : List Int} {i j : Nat} {E : XK}
theorem ev_valid_by (hx : EvP tx σ H (IsT d)) (hy : EvP ty σ H (IsT v)) (hz : EvP tz σ H (IsT s)) (C : Cd d v s) : Ev (tCall sp_valid_by [] E (tCons tx (tCons ty (tCons tz tNil)))) σ H (.bl (validB d v s)) :=
  ev_of (ep_call (eap_cons hx mo_T (eap_cons hy mo_T (eap_cons hz mo_T eap_nil))) fun vs H1 e ⟨x, _, e1, px, y, _, e2, py, z, _, e3, pz, e5⟩ Q q => ⟨x, y, z, d, v, s, by rw [e1, e2, e3, e5]; rfl, px, py, pz, C, q⟩)
end
/-! ### the next parties -/
theorem nextL_snoc {d v s : List Int} {i : Nat} : toI ((List.range (i + 1)).filter (nextB d v s)) = toI ((List.range i).filter (nextB d v s)) ++ (if nextB d v s i = true then [(i : Int)] else []) := by
  unfold toI
  rw [List.range_succ, List.filter_append, List.map_append, List.filter_cons]
  by_cases h : nextB d v s i = true
  · rw [if_pos h, if_pos h]; rfl
  · rw [if_neg h, if_neg h]; rfl
theorem toI_len {n : Nat} {f : Nat → Bool} : (toI ((List.range n).filter f)).length ≤ n := by
  unfold toI
  rw [List.length_map]
  have := List.length_filter_le f (List.range n)
  rw [List.length_range] at this
  exact this
def sp_next_in : Sp := fun vs H Q _ => ∃ x y z d v s, vs = [x, y, z] ∧ IsT d x H ∧ IsT v y H ∧ IsT s z H ∧ Cd d v s ∧ Ret (IsT (nextL d v s)) H Q
theorem ok_next_in (T : Top K mg) : FnOk P w K mg base CX0 2 T.next_in.a T.next_in.d ["divisors", "votes", "seats"] sp_next_in := by
  refine T.next_in.F.ok sc_next_in (fun vs H Q E h => ?_) (fun cdv A outer s H vs Q E hr h => ?_)
  · obtain ⟨x, y, z, d, v, s, rfl, _⟩ := h
    rfl
  · obtain ⟨x, y, z, d, v, t, rfl, hx, hy, hz, C, k⟩ := h
    refine ⟨_, (pss_cons (ps_set (i := 3) sc_next_in.nd rfl (by first | exact Or.inl rfl | exact Or.inr rfl) (pe_tup pa_nil))
    (pss_cons (ps_for PassesOwn.never rfl (pi_range1 rfl T.range (pa_cons (pe_callB (r := rLenS K) call_len_seq (by rfl) T.len PySem.boot_len (pa_cons (pv 1) pa_nil)) pa_nil)) (pg_name (i := 4) sc_next_in.nd rfl (by first | exact Or.inl rfl | exact Or.inr rfl)) (pss_one (ps_if (pt_not (pt_val (pe_callB (r := rAny K) (cr_any rfl) (by rfl) T.any (by decide +kernel) (pa_cons (pe_lc (own := [("other", 5)]) (g := gName 5) (by rfl) sc_next_in.nd (pi_range1 rfl T.range (pa_cons (pe_callB (r := rLenS K) call_len_seq (by rfl) T.len PySem.boot_len (pa_cons (pv 1) pa_nil)) pa_nil)) (blkOk_by (N := N_next_in) (sc := defScope s_next_in) (by decide +kernel)) (fun _ _ _ _ _ => (pg_name (i := 5) sc_next_in.nd rfl (by first | exact Or.inl rfl | exact Or.inr rfl))) (fun _ _ _ _ _ => pts_nil) (fun _ _ _ _ _ => (pe_call (ok_is_ahead T) (hr.mono (by decide)) (by rfl) T.is_ahead.g T.is_ahead.F.kp T.is_ahead.b .nil pass0 (pa_cons (pv 0) (pa_cons (pv 1) (pa_cons (pv 2) (pa_cons (pe_tup (pa_cons (pv 5) (pa_cons (pv 4) pa_nil))) pa_nil))))))) pa_nil)))) (pss_one (ps_set (i := 3) sc_next_in.nd rfl (by first | exact Or.inl rfl | exact Or.inr rfl) (pe_op (r := rCatA K) op_catA (pv 3) (pe_tup (pa_cons (pv 4) pa_nil))))) pss_nil)))
    (pss_one (ps_ret (pv 3))))), ?_⟩
    have hl := C.vl
    refine qp_asg ep_tup0 fun f0 H1 e1 hf0 => ?_
    refine q_forR1 (ea_cons (ev_lenTI (ep_v rfl (hy.ex e1) mo_T)) ea_nil) (by omega) (fun i σ' H' => ∃ f a, σ' = [some x, some y, some z, some f, a, none] ∧ Ex H H' ∧ IsT (toI ((List.range i).filter (nextB d v t))) f H')
      (fun H2 e2 => ⟨f0, none, rfl, e1.trans e2, hf0.ex e2⟩) (fun i σ1 H2 hi ⟨f, a, hσ, e2, hf⟩ => ?_) (fun σ1 H2 ⟨f, a, hσ, e2, hf⟩ => ?_)
    · subst hσ
      refine s_when (b := nextB d v t i) (et_not (et_B (ev_is (ev_anyC (ep_lcR (fun _ => true) (fun k x _ => x = .bl (aheadB d v t k i)) (ea_cons (ev_lenTI (ep_v rfl (hy.ex e2) mo_T)) ea_nil) (by omega) (fun _ => rfl) (fun _ => mo_is) (fun _ => mu_is) (fun _ _ _ _ => et_yes) fun j H3 e3 hj _ => ?_)) ?_))) (fun hb H3 e3 => ?_) (fun hb H3 e3 => ?_)
      · have e := e2.trans e3
        exact ep_of (ev_ahead (i := j) (j := i) (ep_v rfl (hx.ex e) mo_T) (ep_v rfl (hy.ex e) mo_T) (ep_v rfl (hz.ex e) mo_T) (ev_var rfl) (ev_var rfl) C (by omega) (by omega))
      · rw [filter_true]; rfl
      · refine sp_asg (ep_cat (ep_v rfl (hf.ex e3) mo_T) (ep_tup1 (ev_var rfl)) (by have := toI_len (n := i) (f := nextB d v t); rw [List.length_singleton]; omega)) fun g H4 e4 hg => ⟨g, _, rfl, (e2.trans e3).trans e4, ?_⟩
        rw [nextL_snoc, if_pos hb]; exact hg
      · refine ⟨f, _, rfl, e2.trans e3, ?_⟩
        rw [nextL_snoc, if_neg (by rw [hb]; decide), List.append_nil]; exact hf.ex e3
    · subst hσ
      exact sp_ret (ep_v rfl hf mo_T) fun r H3 e3 hr => k _ _ (e2.trans e3) hr
section
variable {σ : L2.St} {H : Hp} {tx ty tz tu ti tj : TE} {d v s : List Int} {i j : Nat} {E : XK}
theorem ep_next_in (hx : EvP tx σ H (IsT d)) (hy : EvP ty σ H (IsT v)) (hz : EvP tz σ H (IsT s)) (C : Cd d v s) : EvP (tCall sp_next_in [] E (tCons tx (tCons ty (tCons tz tNil)))) σ H (IsT (nextL d v s)) :=
  ep_call (eap_cons hx mo_T (eap_cons hy mo_T (eap_cons hz mo_T eap_nil))) fun vs H1 e ⟨x, _, e1, px, y, _, e2, py, z, _, e3, pz, e5⟩ Q q => ⟨x, y, z, d, v, s, by rw [e1, e2, e3, e5]; rfl, px, py, pz, C, q⟩
end
end
end Ds

namespace Ds
open PySem PySem.Spec PyProof.Rows L2 Evl Dm
section
variable {P : Program} {w : World} {K : PySem.W.Frag} {mg : Str → Option Value} {base : Heap}
def sp_all_seats : Sp := fun vs H Q _ => ∃ (n : Nat) (h : Int), vs = [.int (n : Int), .int h] ∧ n ≤ 4 ∧ 0 ≤ h ∧ h ≤ 5 ∧ Ret (IsR (allSeats n h)) H Q
theorem ok_all_seats (T : Top K mg) : FnOk P w K mg base CX0 1 T.all_seats.a T.all_seats.d ["many", "house"] sp_all_seats := by
  refine T.all_seats.F.ok sc_all_seats (fun vs H Q E h => ?_) (fun cdv A outer s H vs Q E hr h => ?_)
  · obtain ⟨n, h, rfl, _⟩ := h
    rfl
  · obtain ⟨n, h, rfl, hn, h0, h5, k⟩ := h
    refine ⟨_, (pss_cons (ps_set (i := 2) sc_all_seats.nd rfl (by first | exact Or.inl rfl | exact Or.inr rfl) (pe_lst (pa_cons (pe_tup (pa_cons (pe_tup pa_nil) (pa_cons (pv 1) pa_nil))) pa_nil)))
    (pss_cons (ps_for PassesOwn.never rfl (pi_range1 rfl T.range (pa_cons (pv 0) pa_nil)) (pg_name (i := 3) sc_all_seats.nd rfl (by first | exact Or.inl rfl | exact Or.inr rfl)) (pss_cons (ps_set (i := 4) sc_all_seats.nd rfl (by first | exact Or.inl rfl | exact Or.inr rfl) (pe_lst pa_nil))
    (pss_cons (ps_for PassesOwn.never rfl (pi_list (pv 2)) (pg_tup rfl (pgs_cons (pg_name (i := 5) sc_all_seats.nd rfl (by first | exact Or.inl rfl | exact Or.inr rfl)) (pgs_cons (pg_name (i := 6) sc_all_seats.nd rfl (by first | exact Or.inl rfl | exact Or.inr rfl)) pgs_nil))) (pss_one (ps_expr (pe_bm PySem.F.plainAttrs_list PySem.F.slot_list_extend PySem.F.type_list_extend mt_extend (pv 4) (pa_cons (pe_lc (own := [("less", 7)]) (g := gName 7) (by rfl) sc_all_seats.nd (pi_range1 rfl T.range (pa_cons (pe_op op_add (pv 6) pe_int) pa_nil)) (blkOk_by (N := N_all_seats) (sc := defScope s_all_seats) (by decide +kernel)) (fun _ _ _ _ _ => (pg_name (i := 7) sc_all_seats.nd rfl (by first | exact Or.inl rfl | exact Or.inr rfl))) (fun _ _ _ _ _ => pts_nil) (fun _ _ _ _ _ => (pe_tup (pa_cons (pe_op (r := rCatA K) op_catA (pv 5) (pe_tup (pa_cons (pe_op op_sub (pv 6) (pv 7)) pa_nil))) (pa_cons (pv 7) pa_nil))))) pa_nil)))))
    (pss_one (ps_set (i := 2) sc_all_seats.nd rfl (by first | exact Or.inl rfl | exact Or.inr rfl) (pv 4))))))
    (pss_one (ps_ret (pe_lc (own := [("row", 5), ("left", 6)]) (g := gTup K 2 (gCons (gName 5) (gCons (gName 6) (gNil)))) (by rfl) sc_all_seats.nd (pi_list (pv 2)) (blkOk_by (N := N_all_seats) (sc := defScope s_all_seats) (by decide +kernel)) (fun _ _ _ _ _ => (pg_tup rfl (pgs_cons (pg_name (i := 5) sc_all_seats.nd rfl (by first | exact Or.inl rfl | exact Or.inr rfl)) (pgs_cons (pg_name (i := 6) sc_all_seats.nd rfl (by first | exact Or.inl rfl | exact Or.inr rfl)) pgs_nil)))) (fun _ _ _ _ _ => (pts_one (pt_cmpR op_eq (pv 6) pe_int (nomark _)))) (fun _ _ _ _ _ => (pv 5))))))), ?_⟩
    refine qp_asg (P := IsPR h (allRows 0 h)) ((ep_lstP (eap_cons (ep_tupP (eap_cons (ep_tup0) mo_T (eap_cons (ep_of (ev_var rfl)) mo_is eap_nil)) (mo_cons mo_T (mo_cons mo_is mo_nil)) (fun vs H1 ⟨x, r, a, _, y, r2, b, _, c⟩ => by rw [a, b, c]; show 2 ≤ 100000; omega))
      (fun _ _ _ e ⟨p, vs, a, b, c⟩ => ⟨p, vs, a, e _ _ b, mo_cons mo_T (mo_cons mo_is mo_nil) _ _ _ e c⟩) eap_nil) (mo_cons (fun _ _ _ e ⟨p, vs, a, b, c⟩ => ⟨p, vs, a, e _ _ b, mo_cons mo_T (mo_cons mo_is mo_nil) _ _ _ e c⟩) mo_nil) (fun vs H1 ⟨x, r, a, _, c⟩ => by rw [a, c]; show 1 ≤ 100000; omega)).imp
      fun v H2 _ ⟨p, vs, hv, hp, x, r, e1, ⟨t, us, hx, ht, y, r2, e2, hy, u, r3, e3, hu, e4⟩, e5⟩ => ⟨p, [x], hv, by rw [hp, e1, e5], .cons ⟨t, y, hx, by rw [ht, e2, e3, e4, hu]; show _ = some (HO.tup [y, L2.V.int (h - 0)]); rw [Int.sub_zero], hy⟩ .nil⟩) fun R0 H1 e1 hR0 => ?_
    refine q_forR1 (ea_cons (ev_var rfl) ea_nil) (by omega) (fun i σ' H' => ∃ R a3 a4 a5 a6, σ' = [some (.int (n : Int)), some (.int h), some R, a3, a4, a5, a6, none] ∧ Ex H H' ∧ IsPR h (allRows i h) R H')
      (fun H2 e2 => ⟨R0, none, none, none, none, rfl, e1.trans e2, mo_PR _ _ _ e2 hR0⟩) (fun i σ1 H2 hi ⟨R, a3, a4, a5, a6, hσ, e2, hR⟩ => ?_) (fun σ1 H2 ⟨R, a3, a4, a5, a6, hσ, e2, hR⟩ => ?_)
    · subst hσ
      obtain ⟨pr, xs, rfl, hpr, hxs⟩ := hR
      refine q_asgL (el_lst ea_nil (Nat.zero_le _)) fun l H3 nl e3 hl => ?_
      have hprs : xs.length = (allRows i h).length := paired_len hxs
      refine q_forL (ev_var rfl) (sq_of (e3 _ _ hpr)) (fun j σ' H' => ∃ a5 a6 ys, σ' = [some (.int (n : Int)), some (.int h), some (.ref pr), some (.int (i : Int)), some (.ref l), a5, a6, none] ∧ Ex H2 H' ∧ H' l = some (.lst ys) ∧ PairsAt h H' ys (((allRows i h).take j).flatMap (grow h)))
        (fun H4 e4 => ⟨a5, a6, [], rfl, e3.trans e4, e4 _ _ hl, .nil⟩) (fun j σ' H' _ ⟨_, _, _, _, e, _⟩ => sq_of (e _ _ hpr)) (fun j x σ2 H4 hj ⟨b5, b6, ys, hσ, e4, hl4, hys⟩ => ?_) (fun σ2 H4 ⟨b5, b6, ys, hσ, e4, hl4, hys⟩ => ?_)
      · subst hσ
        obtain ⟨r, hr, t, y, rfl, ht, hy⟩ := paired_get hxs hj
        have hrm := (mem_allRows h0).mp (mem_of_get hr)
        refine ⟨t, [y, .int (h - r.sum)], rfl, st_of (e4 _ _ ht), rfl, y, [.int (h - r.sum)], rfl, .int (h - r.sum), [], rfl, rfl, ?_⟩
        refine s_ext (R := fun zs H => PairsAt h H zs (grow h r)) hl4 (ev_var rfl) ((ep_lcR (fun _ => true) (fun k => PairAt h (r ++ [h - r.sum - (k : Int)])) (ea_cons (ev_add (ev_var rfl) ev_c) ea_nil) (by have := sum_nonneg hrm.2.1; omega) (fun _ => rfl) (fun _ => mo_PA) (fun _ => mu_PA) (fun _ _ _ _ => et_yes) fun m H5 e5 hm _ => ?_).imp fun v H5 _ ⟨p, zs, a, b, c⟩ => ⟨p, zs, a, b, ?_⟩) (fun zs H5 hzs => ?_) (fun zs H5 e5 hzs => ?_)
        · have hlen : r.length ≤ 4 := by rw [hrm.1]; omega
          refine (ep_tupP (eap_cons (ep_cat (ep_v rfl ((hy.ex e4).ex e5) mo_T) (ep_tup1 (ev_sub (ev_var rfl) (ev_var rfl))) (by rw [List.length_singleton]; omega)) mo_T (eap_cons (ep_of (ev_var rfl)) mo_is eap_nil)) (mo_cons mo_T (mo_cons mo_is mo_nil)) (fun vs H1 ⟨x, r, a, _, y, r2, b, _, c⟩ => by rw [a, b, c]; show 2 ≤ 100000; omega)).imp ?_
          rintro v H6 _ ⟨p, vs, hv, hp, x, r1, e1, hx, u, r2, e2, hu, e3⟩
          refine ⟨p, x, hv, ?_, hx⟩
          rw [hp, e1, e2, e3, hu, sum_snoc]
          have : h - (r.sum + (h - r.sum - (m : Int))) = (m : Int) := by omega
          rw [this]
        · rw [filter_true] at c
          exact paired_map (R := fun x r => PairAt h r x H5) (f := fun k : Nat => r ++ [h - r.sum - (k : Int)]) c
        · rw [paired_len hys, paired_len hzs]
          have h1 := len_take_flat (n := i) (j := j) (by omega) h0 h5
          have h2 := len_grow (h := h) hrm.2.1 h5
          omega
        · refine ⟨_, _, ys ++ zs, rfl, Ex.mut (e4.trans e5) nl, upd_same, ?_⟩
          rw [take_flat_snoc hr]
          exact paired_append (pairs_mu (e5 _ _ hl4) (pairs_ex e5 hys)) (pairs_mu (e5 _ _ hl4) hzs)
      · subst hσ
        rw [hprs, List.take_length] at hys
        exact sp_asg (ep_of (ev_var rfl)) fun x H5 e5 hx => ⟨x, _, _, _, _, rfl, (e2.trans e4).trans e5, l, ys, hx, e5 _ _ hl4, pairs_ex e5 hys⟩
    · subst hσ
      have en : ((n : Int)).toNat = n := by omega
      rw [en] at hR
      have hz := len_allRows4 hn h0 h5
      refine sp_ret ((ep_lcP (h := h) (rs := allRows n h) (fun k => decide (h - ((allRows n h).getD k []).sum = 0)) (fun k => IsT ((allRows n h).getD k [])) (ep_v rfl hR mo_PR) (by omega) (fun _ _ => rfl) (fun _ => mo_T) (fun _ => mu_T) (fun m r x H3 e3 hm hx => ?_) (fun m r x H3 e3 hm hx _ => ?_)).imp
        (P' := IsR (allSeats n h)) fun v H3 _ hv => ?_) fun x H3 e3 hx => k x H3 (e2.trans e3) hx
      · rw [getD_of hm]
        exact et_test (ev_eqI (ev_var rfl) ev_c)
      · rw [getD_of hm]
        exact ep_v rfl hx mo_T
      · have := lp_R hv
        rw [range_filter_map (allRows n h) [] (fun r => decide (h - r.sum = 0)), allSeats_filter] at this
        exact this
end
end Ds

namespace Ds
open PySem PySem.Spec PyProof.Rows L2 Evl Dm
/-! ### the divisors of a method -/
theorem dvs_len {f st} : (dvs f st).length = 9 := by unfold dvs; rw [List.length_map, List.length_range]
theorem dvs_ix {f st} {k : Nat} (h : k ≤ 8) : ix (dvs f st) (k : Int) = divAt f st (k : Int) := by
  have h1 := ix_get (xs := dvs f st) (i := k) (by rw [dvs_len]; omega)
  unfold dvs at h1
  rw [List.getElem?_map, List.getElem?_range (by omega)] at h1
  exact Eq.symm (Option.some.inj h1)
theorem div_step {f : List Int} {st : Int} (M : Meth f st) (k : Nat) : divAt f st (k : Int) ≤ divAt f st ((k : Int) + 1) := by
  have hl := M.len
  have hs := M.st
  unfold divAt
  by_cases h1 : (k : Int) + 1 < (f.length : Int)
  · rw [if_pos (by omega), if_pos h1]
    exact srt_ix M.srt (by omega)
  · rw [if_neg h1]
    by_cases h2 : (k : Int) < (f.length : Int)
    · rw [if_pos h2]
      have : (k : Int) = (f.length : Int) - 1 := by omega
      rw [this]
      have e : (f.length : Int) - 1 + 1 + 1 - (f.length : Int) = 1 := by omega
      rw [e]; omega
    · rw [if_neg h2]
      have : st * ((k : Int) + 1 - (f.length : Int)) ≤ st * ((k : Int) + 1 + 1 - (f.length : Int)) := Int.mul_le_mul_of_nonneg_left (by omega) (by omega)
      omega
theorem div_mono {f : List Int} {st : Int} (M : Meth f st) (a : Nat) : ∀ n : Nat, divAt f st (a : Int) ≤ divAt f st ((a : Int) + (n : Int))
  | 0 => by simp
  | n + 1 => by
    have h1 := div_mono M a n
    have h2 := div_step M (a + n)
    have e1 : ((a + n : Nat) : Int) = (a : Int) + (n : Int) := by omega
    have e2 : ((a + n : Nat) : Int) + 1 = (a : Int) + ((n + 1 : Nat) : Int) := by omega
    rw [e2, e1] at h2
    omega
theorem div_pos {f : List Int} {st : Int} (M : Meth f st) (a : Nat) : 0 < divAt f st (a : Int) := by
  have h1 := div_mono M 0 a
  have e : ((0 : Nat) : Int) + (a : Int) = (a : Int) := by omega
  rw [e] at h1
  have hl := M.len
  have h2 : divAt f st ((0 : Nat) : Int) = ix f ((0 : Nat) : Int) := by unfold divAt; rw [if_pos (by omega)]
  have h3 := M.rg _ (ix_mem (xs := f) (i := 0) (by omega))
  omega
theorem div_of {f : List Int} {st : Int} (M : Meth f st) : Div (dvs f st) := by
  refine ⟨fun k h0 h8 => ?_, fun a b h0 hab h8 => ?_⟩
  · have e : k = ((k.toNat : Nat) : Int) := by omega
    rw [e, dvs_ix (by omega)]
    exact div_pos M _
  · have ea : a = ((a.toNat : Nat) : Int) := by omega
    have eb : b = ((b.toNat : Nat) : Int) := by omega
    have h := div_mono M a.toNat (b - a).toNat
    rw [ea, eb, dvs_ix (by omega), dvs_ix (by omega)]
    have e : ((a.toNat : Nat) : Int) + ((b - a).toNat : Int) = ((b.toNat : Nat) : Int) := by omega
    rw [e] at h
    exact h
theorem vot_of {v : List Int} (V : VotOk v) : Vot v := ⟨fun x hx => by have := V.rg x hx; omega⟩
theorem cd_sea {d v s : List Int} {k : Int} (hd : d.length = 9) (V : VotOk v) (S : Sea v.length k s) (hk : k ≤ 8) : Cd d v s :=
  ⟨hd, V.len, V.rg, S.len, fun x hx => ⟨S.nn x hx, by have := le_sum S.nn x hx; rw [S.sum] at this; omega⟩⟩
theorem sea_ok {v s : List Int} {k : Int} (S : Sea v.length k s) (hk : k ≤ 8) : SeaOk v s := ⟨S.len, S.nn, by rw [S.sum]; exact hk⟩
theorem cd_ok {d v s : List Int} (hd : d.length = 9) (V : VotOk v) (S : SeaOk v s) : Cd d v s := ⟨hd, V.len, V.rg, S.len, S.rg⟩
section
variable {P : Program} {w : World} {K : PySem.W.Frag} {mg : Str → Option Value} {base : Heap}
section
variable {σ : L2.St} {H : Hp} {ta tx ty tz : TE} {d v s f : List Int} {st h : Int} {n : Nat} {E : XK}
theorem ep_all_seats {ta : TA} (ha : EvA ta σ H [.int (n : Int), .int h]) (hn : n ≤ 4) (h0 : 0 ≤ h) (h5 : h ≤ 5) : EvP (tCall sp_all_seats [] E ta) σ H (IsR (allSeats n h)) :=
  ep_call (ea_of ha) fun vs H1 e hv Q q => ⟨n, h, by rw [hv]; rfl, hn, h0, h5, q⟩
theorem ep_divisors_to (hx : EvP tx σ H (IsM f st)) (hn : Ev ta σ H (.int 9)) (M : Meth f st) : EvP (tCall sp_divisors_to [] E (tCons tx (tCons ta tNil))) σ H (IsT (dvs f st)) :=
  ep_call (eap_cons hx mo_M (eap_cons (ep_of hn) mo_is eap_nil)) fun vs H1 e ⟨x, _, e1, px, y, _, e2, py, e3⟩ Q q => ⟨x, f, st, by rw [e1, e2, py, e3]; rfl, px, M, q⟩
theorem ep_m {i : Nat} {x : V} (hi : σ[i]? = some (some x)) (hp : IsM f st x H) : EvP (tVar i) σ H (IsM f st) := ep_var hi hp mo_M
theorem ev_nine : Ev (tOp (rI0 fun i j => .int (i + j)) (tC (.int 8)) (tC (.int 1))) σ H (.int 9) := ev_is (ev_add ev_c ev_c) rfl
end
def sp_all_shares : Sp := fun vs H Q _ => ∃ x y d v h, vs = [x, y, .int h] ∧ IsT d x H ∧ IsT v y H ∧ d.length = 9 ∧ VotOk v ∧ v.length ≤ 4 ∧ 0 ≤ h ∧ h ≤ 5 ∧ Ret (IsR ((allSeats v.length h).filter (validB d v))) H Q
theorem ok_all_shares (T : Top K mg) : FnOk P w K mg base CX0 4 T.all_shares.a T.all_shares.d ["divisors", "votes", "house"] sp_all_shares := by
  refine T.all_shares.F.ok sc_all_shares (fun vs H Q E h => ?_) (fun cdv A outer s H vs Q E hr h => ?_)
  · obtain ⟨x, y, d, v, h, rfl, _⟩ := h
    rfl
  · obtain ⟨x, y, d, v, h, rfl, hx, hy, hd, hV, h4, h0, h5, k⟩ := h
    refine ⟨_, (pss_one (ps_ret (pe_lc (own := [("seats", 3)]) (g := gName 3) (by rfl) sc_all_shares.nd (pi_list (pe_call (ok_all_seats T) (hr.mono (by decide)) (by rfl) T.all_seats.g T.all_seats.F.kp T.all_seats.b .nil pass0 (pa_cons (pe_callB (r := rLenS K) call_len_seq (by rfl) T.len PySem.boot_len (pa_cons (pv 1) pa_nil)) (pa_cons (pv 2) pa_nil)))) (blkOk_by (N := N_all_shares) (sc := defScope s_all_shares) (by decide +kernel)) (fun _ _ _ _ _ => (pg_name (i := 3) sc_all_shares.nd rfl (by first | exact Or.inl rfl | exact Or.inr rfl))) (fun _ _ _ _ _ => (pts_one (pt_val (pe_call (ok_valid_by T) (hr.mono (by decide)) (by rfl) T.valid_by.g T.valid_by.F.kp T.valid_by.b .nil pass0 (pa_cons (pv 0) (pa_cons (pv 1) (pa_cons (pv 3) pa_nil))))))) (fun _ _ _ _ _ => (pv 3))))), ?_⟩
    have hz := len_allSeats (n := v.length) h4 h0 h5
    refine sp_ret ((ep_lcL (rs := allSeats v.length h) (fun k => validB d v ((allSeats v.length h).getD k [])) (fun k => IsT ((allSeats v.length h).getD k [])) (ep_all_seats (ea_cons (ev_lenTI (ep_v rfl hy mo_T)) (ea_cons (ev_var rfl) ea_nil)) h4 h0 h5) (by omega) (fun _ => rfl) (fun _ => mo_T) (fun _ => mu_T)
      (fun m r z H3 e3 hm hz => ?_) (fun m r z H3 e3 hm hz _ => ?_)).imp (P' := IsR ((allSeats v.length h).filter (validB d v))) fun v H3 _ hv => ?_) fun x H3 e3 hx => k x H3 e3 hx
    · rw [getD_of hm]
      exact et_B (ev_valid_by (ep_v rfl (hx.ex e3) mo_T) (ep_v rfl (hy.ex e3) mo_T) (ep_v rfl hz mo_T) (cd_sea hd hV ((Sea.of h0).mp (mem_of_get hm)) (by omega)))
    · rw [getD_of hm]
      exact ep_v rfl hz mo_T
    · have := lp_R hv
      rw [range_filter_map (allSeats _ h) [] (validB d _)] at this
      exact this
section
variable {σ : L2.St} {H : Hp} {ta tx ty tz : TE} {d v s f : List Int} {st h : Int} {n : Nat} {E : XK}
theorem ep_all_shares (hx : EvP tx σ H (IsT d)) (hy : EvP ty σ H (IsT v)) (ha : Ev ta σ H (.int h)) (hd : d.length = 9) (hV : VotOk v) (h4 : v.length ≤ 4) (h0 : 0 ≤ h) (h5 : h ≤ 5) : EvP (tCall sp_all_shares [] E (tCons tx (tCons ty (tCons ta tNil)))) σ H (IsR ((allSeats v.length h).filter (validB d v))) :=
  ep_call (eap_cons hx mo_T (eap_cons hy mo_T (eap_cons (ep_of ha) mo_is eap_nil))) fun vs H1 e ⟨x, _, e1, px, y, _, e2, py, z, _, e3, pz, e4⟩ Q q => ⟨x, y, d, v, h, by rw [e1, e2, e3, pz, e4]; rfl, px, py, hd, hV, h4, h0, h5, q⟩
end
def sp_shares_of : Sp := fun vs H Q _ => ∃ x y f st v h, vs = [x, y, .int h] ∧ IsM f st x H ∧ Meth f st ∧ IsT v y H ∧ VotOk v ∧ v.length ≤ 4 ∧ 0 ≤ h ∧ h ≤ 5 ∧ Ret (IsR ((allSeats v.length h).filter (validB (dvs f st) v))) H Q
theorem ok_shares_of (T : Top K mg) : FnOk P w K mg base CX0 5 T.shares_of.a T.shares_of.d ["method", "votes", "house"] sp_shares_of := by
  refine T.shares_of.F.ok sc_shares_of (fun vs H Q E h => ?_) (fun cdv A outer s H vs Q E hr h => ?_)
  · obtain ⟨x, y, f, st, v, h, rfl, _⟩ := h
    rfl
  · obtain ⟨x, y, f, st, v, h, rfl, hx, M, hy, hV, h4, h0, h5, k⟩ := h
    refine ⟨_, (pss_one (ps_ret (pe_call (ok_all_shares T) (hr.mono (by decide)) (by rfl) T.all_shares.g T.all_shares.F.kp T.all_shares.b .nil pass0 (pa_cons (pe_call (ok_divisors_to T) (hr.mono (by decide)) (by rfl) T.divisors_to.g T.divisors_to.F.kp T.divisors_to.b .nil pass0 (pa_cons (pv 0) (pa_cons (pe_op op_add (pe_glob (v := .int 8) (by rfl) T.MOST_SEATS ⟨_, rfl⟩) pe_int) pa_nil))) (pa_cons (pv 1) (pa_cons (pv 2) pa_nil)))))), ?_⟩
    exact sp_ret (ep_all_shares (ep_divisors_to (ep_m rfl hx) ev_nine M) (ep_v rfl hy mo_T) (ev_var rfl) dvs_len hV h4 h0 h5) fun x H3 e3 hx => k x H3 e3 hx
section
variable {σ : L2.St} {H : Hp} {ta tx ty tz : TE} {d v s f : List Int} {st h : Int} {n : Nat} {E : XK}
theorem ep_shares_of (hx : EvP tx σ H (IsM f st)) (hy : EvP ty σ H (IsT v)) (ha : Ev ta σ H (.int h)) (M : Meth f st) (hV : VotOk v) (h4 : v.length ≤ 4) (h0 : 0 ≤ h) (h5 : h ≤ 5) : EvP (tCall sp_shares_of [] E (tCons tx (tCons ty (tCons ta tNil)))) σ H (IsR ((allSeats v.length h).filter (validB (dvs f st) v))) :=
  ep_call (eap_cons hx mo_M (eap_cons hy mo_T (eap_cons (ep_of ha) mo_is eap_nil))) fun vs H1 e ⟨x, _, e1, px, y, _, e2, py, z, _, e3, pz, e4⟩ Q q => ⟨x, y, f, st, v, h, by rw [e1, e2, e3, pz, e4]; rfl, px, M, py, hV, h4, h0, h5, q⟩
end
def sp_is_valid : Sp := fun vs H Q _ => ∃ x y z f st v s, vs = [x, y, z] ∧ IsM f st x H ∧ Meth f st ∧ IsT v y H ∧ VotOk v ∧ IsT s z H ∧ SeaOk v s ∧ Ret (fun r _ => r = .bl (validB (dvs f st) v s)) H Q
theorem ok_is_valid (T : Top K mg) : FnOk P w K mg base CX0 6 T.is_valid.a T.is_valid.d ["method", "votes", "seats"] sp_is_valid := by
  refine T.is_valid.F.ok sc_is_valid (fun vs H Q E h => ?_) (fun cdv A outer s H vs Q E hr h => ?_)
  · obtain ⟨x, y, z, f, st, v, s, rfl, _⟩ := h
    rfl
  · obtain ⟨x, y, z, f, st, v, t, rfl, hx, M, hy, hV, hz, S, k⟩ := h
    refine ⟨_, (pss_cons (ps_expr (pe_call (ok_check_seats T) (hr.mono (by decide)) (by rfl) T.check_seats.g T.check_seats.F.kp T.check_seats.b .nil pass0 (pa_cons (pv 0) (pa_cons (pv 1) (pa_cons (pv 2) pa_nil)))))
    (pss_one (ps_ret (pe_call (ok_valid_by T) (hr.mono (by decide)) (by rfl) T.valid_by.g T.valid_by.F.kp T.valid_by.b .nil pass0 (pa_cons (pe_call (ok_divisors_to T) (hr.mono (by decide)) (by rfl) T.divisors_to.g T.divisors_to.F.kp T.divisors_to.b .nil pass0 (pa_cons (pv 0) (pa_cons (pe_op op_add (pe_glob (v := .int 8) (by rfl) T.MOST_SEATS ⟨_, rfl⟩) pe_int) pa_nil))) (pa_cons (pv 1) (pa_cons (pv 2) pa_nil))))))), ?_⟩
    refine q_drop (ev_call (ea_cons (ev_var rfl) (ea_cons (ev_var rfl) (ea_cons (ev_var rfl) ea_nil))) (spv_check_seats hx M hy hV hz S)) fun H1 e1 => ?_
    exact s_ret (ev_valid_by (ep_divisors_to (ep_m rfl (mo_M _ _ _ e1 hx)) ev_nine M) (ep_v rfl (hy.ex e1) mo_T) (ep_v rfl (hz.ex e1) mo_T) (cd_ok dvs_len hV S)) fun H2 e2 => k _ _ (e1.trans e2) rfl
def sp_count_valid : Sp := fun vs H Q _ => ∃ x y f st v h, vs = [x, y, .int h] ∧ IsM f st x H ∧ Meth f st ∧ IsT v y H ∧ VotOk v ∧ v.length ≤ 4 ∧ 0 ≤ h ∧ h ≤ 5 ∧ Ret (fun r _ => r = .int (((allSeats v.length h).filter (validB (dvs f st) v)).length : Int)) H Q
theorem ok_count_valid (T : Top K mg) : FnOk P w K mg base CX0 6 T.count_valid.a T.count_valid.d ["method", "votes", "house"] sp_count_valid := by
  refine T.count_valid.F.ok sc_count_valid (fun vs H Q E h => ?_) (fun cdv A outer s H vs Q E hr h => ?_)
  · obtain ⟨x, y, f, st, v, h, rfl, _⟩ := h
    rfl
  · obtain ⟨x, y, f, st, v, h, rfl, hx, M, hy, hV, h4, h0, h5, k⟩ := h
    refine ⟨_, (pss_cons (ps_expr (pe_call (ok_check_house T) (hr.mono (by decide)) (by rfl) T.check_house.g T.check_house.F.kp T.check_house.b .nil pass0 (pa_cons (pv 0) (pa_cons (pv 1) (pa_cons (pv 2) pa_nil)))))
    (pss_one (ps_ret (pe_callB (r := rLenS K) call_len_seq (by rfl) T.len PySem.boot_len (pa_cons (pe_call (ok_shares_of T) (hr.mono (by decide)) (by rfl) T.shares_of.g T.shares_of.F.kp T.shares_of.b .nil pass0 (pa_cons (pv 0) (pa_cons (pv 1) (pa_cons (pv 2) pa_nil)))) pa_nil))))), ?_⟩
    refine q_drop (ev_call (ea_cons (ev_var rfl) (ea_cons (ev_var rfl) (ea_cons (ev_var rfl) ea_nil))) (spv_check_house hx M hy hV (by omega))) fun H1 e1 => ?_
    exact s_ret (ev_lenR (ep_shares_of (ep_m rfl (mo_M _ _ _ e1 hx)) (ep_v rfl (hy.ex e1) mo_T) (ev_var rfl) M hV h4 h0 h5)) fun H2 e2 => k _ _ (e1.trans e2) rfl
def sp_next_parties : Sp := fun vs H Q _ => ∃ x y z f st v s, vs = [x, y, z] ∧ IsM f st x H ∧ Meth f st ∧ IsT v y H ∧ VotOk v ∧ IsT s z H ∧ SeaOk v s ∧ Ret (IsT (nextL (dvs f st) v s)) H Q
theorem ok_next_parties (T : Top K mg) : FnOk P w K mg base CX0 6 T.next_parties.a T.next_parties.d ["method", "votes", "seats"] sp_next_parties := by
  refine T.next_parties.F.ok sc_next_parties (fun vs H Q E h => ?_) (fun cdv A outer s H vs Q E hr h => ?_)
  · obtain ⟨x, y, z, f, st, v, s, rfl, _⟩ := h
    rfl
  · obtain ⟨x, y, z, f, st, v, t, rfl, hx, M, hy, hV, hz, S, k⟩ := h
    refine ⟨_, (pss_cons (ps_expr (pe_call (ok_check_seats T) (hr.mono (by decide)) (by rfl) T.check_seats.g T.check_seats.F.kp T.check_seats.b .nil pass0 (pa_cons (pv 0) (pa_cons (pv 1) (pa_cons (pv 2) pa_nil)))))
    (pss_one (ps_ret (pe_call (ok_next_in T) (hr.mono (by decide)) (by rfl) T.next_in.g T.next_in.F.kp T.next_in.b .nil pass0 (pa_cons (pe_call (ok_divisors_to T) (hr.mono (by decide)) (by rfl) T.divisors_to.g T.divisors_to.F.kp T.divisors_to.b .nil pass0 (pa_cons (pv 0) (pa_cons (pe_op op_add (pe_glob (v := .int 8) (by rfl) T.MOST_SEATS ⟨_, rfl⟩) pe_int) pa_nil))) (pa_cons (pv 1) (pa_cons (pv 2) pa_nil))))))), ?_⟩
    refine q_drop (ev_call (ea_cons (ev_var rfl) (ea_cons (ev_var rfl) (ea_cons (ev_var rfl) ea_nil))) (spv_check_seats hx M hy hV hz S)) fun H1 e1 => ?_
    exact sp_ret (ep_next_in (ep_divisors_to (ep_m rfl (mo_M _ _ _ e1 hx)) ev_nine M) (ep_v rfl (hy.ex e1) mo_T) (ep_v rfl (hz.ex e1) mo_T) (cd_ok dvs_len hV S)) fun r H2 e2 hr => k _ _ (e1.trans e2) hr
/-! ### the last parties -/
theorem cd_less {d v s : List Int} (C : Cd d v s) {p : Nat} (hp : p < v.length) (h0 : 0 < ix s (p : Int)) : Cd d v (lessS s p) := by
  refine ⟨C.dl, C.vl, C.vb, ?_, fun x hx => ?_⟩
  · unfold lessS; rw [List.length_set]; exact C.sl
  · unfold lessS at hx
    rcases List.mem_or_eq_of_mem_set hx with q | q
    · exact C.sb x q
    · have := C.s hp; omega
theorem next_mem {d v s : List Int} {p : Nat} (hp : p < v.length) : decide ((p : Int) ∈ nextL d v s) = nextB d v s p := by
  rw [Bool.eq_iff_iff, decide_eq_true_eq, mem_nextL]
  constructor
  · rintro ⟨q, _, h, e⟩
    have : p = q := by omega
    rw [this]; exact h
  · intro h
    exact ⟨p, hp, h, rfl⟩
theorem lastL_snoc {d v s : List Int} {i : Nat} : toI ((List.range (i + 1)).filter (lastB d v s)) = toI ((List.range i).filter (lastB d v s)) ++ (if lastB d v s i = true then [(i : Int)] else []) := by
  unfold toI
  rw [List.range_succ, List.filter_append, List.map_append, List.filter_cons]
  by_cases h : lastB d v s i = true
  · rw [if_pos h, if_pos h]; rfl
  · rw [if_neg h, if_neg h]; rfl
def sp_last_in : Sp := fun vs H Q _ => ∃ x y z d v s, vs = [x, y, z] ∧ IsT d x H ∧ IsT v y H ∧ IsT s z H ∧ Cd d v s ∧ Ret (IsT (lastL d v s)) H Q
theorem ok_last_in (T : Top K mg) : FnOk P w K mg base CX0 4 T.last_in.a T.last_in.d ["divisors", "votes", "seats"] sp_last_in := by
  refine T.last_in.F.ok sc_last_in (fun vs H Q E h => ?_) (fun cdv A outer s H vs Q E hr h => ?_)
  · obtain ⟨x, y, z, d, v, s, rfl, _⟩ := h
    rfl
  · obtain ⟨x, y, z, d, v, t, rfl, hx, hy, hz, C, k⟩ := h
    refine ⟨_, (pss_cons (ps_set (i := 3) sc_last_in.nd rfl (by first | exact Or.inl rfl | exact Or.inr rfl) (pe_tup pa_nil))
    (pss_cons (ps_for PassesOwn.never rfl (pi_range1 rfl T.range (pa_cons (pe_callB (r := rLenS K) call_len_seq (by rfl) T.len PySem.boot_len (pa_cons (pv 1) pa_nil)) pa_nil)) (pg_name (i := 4) sc_last_in.nd rfl (by first | exact Or.inl rfl | exact Or.inr rfl)) (pss_cons (ps_set (i := 5) sc_last_in.nd rfl (by first | exact Or.inl rfl | exact Or.inr rfl) (pe_op (r := rCatA K) op_catA (pe_op (r := rCatA K) op_catA (pe_slice (r := rSlA K) sl_tupA (pv 2) po_none (po_some (pv 4))) (pe_tup (pa_cons (pe_op op_sub (pe_ix (r := rIxT K) ix_tup (pv 2) (pv 4) (fun _ _ => rfl)) pe_int) pa_nil))) (pe_slice (r := rSlA K) sl_tupA (pv 2) (po_some (pe_op op_add (pv 4) pe_int)) po_none)))
    (pss_one (ps_if (PW.pt (pw_and (pt_cmpR op_gt (pe_ix (r := rIxT K) ix_tup (pv 2) (pv 4) (fun _ _ => rfl)) pe_int (nomark _)) (pw_and (pt_val (pe_call (ok_valid_by T) (hr.mono (by decide)) (by rfl) T.valid_by.g T.valid_by.F.kp T.valid_by.b .nil pass0 (pa_cons (pv 0) (pa_cons (pv 1) (pa_cons (pv 5) pa_nil))))) (pw_and1 (pt_cmpR (r := rIn K false) op_in_seq (pv 4) (pe_call (ok_next_in T) (hr.mono (by decide)) (by rfl) T.next_in.g T.next_in.F.kp T.next_in.b .nil pass0 (pa_cons (pv 0) (pa_cons (pv 1) (pa_cons (pv 5) pa_nil)))) (by rfl)))))) (pss_one (ps_set (i := 3) sc_last_in.nd rfl (by first | exact Or.inl rfl | exact Or.inr rfl) (pe_op (r := rCatA K) op_catA (pv 3) (pe_tup (pa_cons (pv 4) pa_nil))))) pss_nil))))
    (pss_one (ps_ret (pv 3))))), ?_⟩
    have hl := C.vl
    have hsl := C.sl
    refine qp_asg ep_tup0 fun f0 H1 e1 hf0 => ?_
    refine q_forR1 (ea_cons (ev_lenTI (ep_v rfl (hy.ex e1) mo_T)) ea_nil) (by omega) (fun i σ' H' => ∃ f a b, σ' = [some x, some y, some z, some f, a, b] ∧ Ex H H' ∧ IsT (toI ((List.range i).filter (lastB d v t))) f H')
      (fun H2 e2 => ⟨f0, none, none, rfl, e1.trans e2, hf0.ex e2⟩) (fun i σ1 H2 hi ⟨f, a, b, hσ, e2, hf⟩ => ?_) (fun σ1 H2 ⟨f, a, b, hσ, e2, hf⟩ => ?_)
    · subst hσ
      have hi' : i < v.length := by omega
      have ez : ∀ {σ' : L2.St}, σ'[2]? = some (some z) → EvP (tVar 2) σ' H2 (IsT t) := fun h => ep_v h (hz.ex e2) mo_T
      refine qp_asg (ep_place (ez rfl) (ev_var rfl) (ev_sub (ev_ixT (ez rfl) (ev_var rfl) (by omega) (by omega)) ev_c) (ev_add (ev_var rfl) ev_c) (by omega) (by omega)) fun u H3 e3 hu => ?_
      have e := e2.trans e3
      have hu : IsT (lessS t i) u H3 := hu
      refine s_when (b := lastB d v t i) (et_is (et_and (et_test (ev_gt (ev_ixT (ep_v rfl (hz.ex e) mo_T) (ev_var rfl) (by omega) (by omega)) ev_c)) (fun h0 => et_and (et_B (ev_valid_by (ep_v rfl (hx.ex e) mo_T) (ep_v rfl (hy.ex e) mo_T) (ep_v rfl hu mo_T) (cd_less C hi' (of_decide_eq_true h0))))
        (fun _ => et_test (ev_inT (ev_var rfl) (ep_next_in (ep_v rfl (hx.ex e) mo_T) (ep_v rfl (hy.ex e) mo_T) (ep_v rfl hu mo_T) (cd_less C hi' (of_decide_eq_true h0))))))) ?_) (fun hb H4 e4 => ?_) (fun hb H4 e4 => ?_)
      · rw [next_mem hi']; rfl
      · refine sp_asg (ep_cat (ep_v rfl (hf.ex (e3.trans e4)) mo_T) (ep_tup1 (ev_var rfl)) (by have := toI_len (n := i) (f := lastB d v t); rw [List.length_singleton]; omega)) fun g H5 e5 hg => ⟨g, _, _, rfl, (e.trans e4).trans e5, ?_⟩
        rw [lastL_snoc, if_pos hb]; exact hg
      · refine ⟨f, _, _, rfl, e.trans e4, ?_⟩
        rw [lastL_snoc, if_neg (by rw [hb]; decide), List.append_nil]; exact hf.ex (e3.trans e4)
    · subst hσ
      exact sp_ret (ep_v rfl hf mo_T) fun r H3 e3 hr => k _ _ (e2.trans e3) hr
section
variable {σ : L2.St} {H : Hp} {tx ty tz tu ti tj : TE} {d v s : List Int} {i j : Nat} {E : XK}
theorem ep_last_in (hx : EvP tx σ H (IsT d)) (hy : EvP ty σ H (IsT v)) (hz : EvP tz σ H (IsT s)) (C : Cd d v s) : EvP (tCall sp_last_in [] E (tCons tx (tCons ty (tCons tz tNil)))) σ H (IsT (lastL d v s)) :=
  ep_call (eap_cons hx mo_T (eap_cons hy mo_T (eap_cons hz mo_T eap_nil))) fun vs H1 e ⟨x, _, e1, px, y, _, e2, py, z, _, e3, pz, e5⟩ Q q => ⟨x, y, z, d, v, s, by rw [e1, e2, e3, e5]; rfl, px, py, pz, C, q⟩
end
end
end Ds

namespace Ds
open PySem PySem.Spec PyProof.Rows L2 Evl Dm
/-- the told order: the seats, the order -/
def toldF (d v : List Int) : Nat → List Int × List Int
  | 0 => (List.replicate v.length 0, [])
  | k + 1 => (givenS (toldF d v k).1 (ix (nextL d v (toldF d v k).1) 0), (toldF d v k).2 ++ [ix (nextL d v (toldF d v k).1) 0])
theorem sea_zero (n : Nat) : Sea n 0 (List.replicate n 0) := ⟨List.length_replicate, fun x hx => by rw [(List.mem_replicate.mp hx).2]; exact Int.le_refl 0, sum_zeros _⟩
theorem first_next {d v s : List Int} {k : Int} (D : Div d) (hk : 0 ≤ k ∧ k ≤ 8) (S : Sea v.length k s) (h0 : 0 < v.length) : ∃ p : Nat, p < v.length ∧ ix (nextL d v s) 0 = (p : Int) ∧ 0 < (nextL d v s).length := by
  have hne := next_some D hk S h0
  have hl : 0 < (nextL d v s).length := List.length_pos_iff.mpr hne
  have hm : ix (nextL d v s) ((0 : Nat) : Int) ∈ nextL d v s := ix_mem hl
  obtain ⟨p, hp, _, e⟩ := mem_nextL.mp hm
  exact ⟨p, hp, e, hl⟩
theorem sea_given {n : Nat} {s : List Int} {k : Int} (S : Sea n k s) {p : Nat} (hp : p < n) : Sea n (k + 1) (givenS s (p : Int)) := S.set hp (x := 1) (by have := S.at hp; omega)
theorem told_sea {d v : List Int} (D : Div d) (h0 : 0 < v.length) : ∀ {k : Nat}, k ≤ 8 → Sea v.length (k : Int) (toldF d v k).1
  | 0, _ => sea_zero _
  | k + 1, hk => by
    have S := told_sea D h0 (k := k) (by omega)
    obtain ⟨p, hp, e, _⟩ := first_next D (by omega) S h0
    unfold toldF
    rw [e]
    exact sea_given S hp
theorem told_len {d v : List Int} : ∀ {k : Nat}, (toldF d v k).2.length = k
  | 0 => rfl
  | k + 1 => by unfold toldF; rw [List.length_append, told_len, List.length_singleton]
section
variable {P : Program} {w : World} {K : PySem.W.Frag} {mg : Str → Option Value} {base : Heap}
section
variable {σ : L2.St} {H : Hp} {ta tb : TE} {n : Nat}
/-- (0,) * n -/
theorem ep_zeros (ha : EvP ta σ H (IsT [0])) (hb : Ev tb σ H (.int (n : Int))) (h1 : 1 ≤ n) (h2 : n ≤ 1000) : EvP (tOp (rRepS K) ta tb) σ H (IsT (List.replicate n 0)) := fun H1 e Q q =>
  ha H1 e _ fun x H2 e2 ⟨p, hx, hp⟩ => hb H2 (e.trans e2) _ fun H3 e3 => ⟨p, (n : Int), [.int 0], hx, rfl, st_of (e3 _ _ hp), by simp, by omega, by omega, by show 1 ≤ 1000; omega, fun z => q _ H3 (e2.trans e3) ⟨p, rfl, by
    have : n = 1 := by omega
    rw [this]; exact e3 _ _ hp⟩, fun _ t nt => q _ _ ((e2.trans e3).trans (Ex.new nt)) ⟨t, rfl, by
    rw [upd_same]
    have : ((n : Int)).toNat = n := by omega
    rw [this]
    have e0 : ∀ m : Nat, (List.replicate m [V.int 0]).flatten = (List.replicate m (0 : Int)).map V.int := fun m => by
      induction m with
      | zero => rfl
      | succ m ih => rw [List.replicate_succ, List.flatten_cons, ih]; rfl
    rw [e0]⟩⟩
end
def sp_told_order : Sp := fun vs H Q _ => ∃ x y f st v, ∃ h : Nat, vs = [x, y, .int (h : Int)] ∧ IsM f st x H ∧ Meth f st ∧ IsT v y H ∧ VotOk v ∧ 0 < v.length ∧ h ≤ 5 ∧ Ret (IsT (toldF (dvs f st) v h).2) H Q
theorem ok_told_order (T : Top K mg) : FnOk P w K mg base CX0 6 T.told_order.a T.told_order.d ["method", "votes", "house"] sp_told_order := by
  refine T.told_order.F.ok sc_told_order (fun vs H Q E h => ?_) (fun cdv A outer s H vs Q E hr h => ?_)
  · obtain ⟨x, y, f, st, v, h, rfl, _⟩ := h
    rfl
  · obtain ⟨x, y, fs, st, v, h, rfl, hx, M, hy, hV, hv0, h5, k⟩ := h
    refine ⟨_, (pss_cons (ps_expr (pe_call (ok_check_house T) (hr.mono (by decide)) (by rfl) T.check_house.g T.check_house.F.kp T.check_house.b .nil pass0 (pa_cons (pv 0) (pa_cons (pv 1) (pa_cons (pv 2) pa_nil)))))
    (pss_cons (ps_if (PW.pt (pw_and (pt_cmpR op_gt (pv 2) pe_int (nomark _)) (pw_and1 (pt_cmpR op_eq (pe_callB (r := rLenS K) call_len_seq (by rfl) T.len PySem.boot_len (pa_cons (pv 1) pa_nil)) pe_int (nomark _))))) (pss_one (ps_never)) pss_nil)
    (pss_cons (ps_set (i := 3) sc_told_order.nd rfl (by first | exact Or.inl rfl | exact Or.inr rfl) (pe_call (ok_divisors_to T) (hr.mono (by decide)) (by rfl) T.divisors_to.g T.divisors_to.F.kp T.divisors_to.b .nil pass0 (pa_cons (pv 0) (pa_cons (pe_op op_add (pe_glob (v := .int 8) (by rfl) T.MOST_SEATS ⟨_, rfl⟩) pe_int) pa_nil))))
    (pss_cons (ps_set (i := 4) sc_told_order.nd rfl (by first | exact Or.inl rfl | exact Or.inr rfl) (pe_op (r := rRepS K) op_repS (pe_tup (pa_cons pe_int pa_nil)) (pe_callB (r := rLenS K) call_len_seq (by rfl) T.len PySem.boot_len (pa_cons (pv 1) pa_nil))))
    (pss_cons (ps_set (i := 5) sc_told_order.nd rfl (by first | exact Or.inl rfl | exact Or.inr rfl) (pe_tup pa_nil))
    (pss_cons (ps_for PassesOwn.never rfl (pi_range1 rfl T.range (pa_cons (pv 2) pa_nil)) (pg_name (i := 6) sc_told_order.nd rfl (by first | exact Or.inl rfl | exact Or.inr rfl)) (pss_cons (ps_set (i := 7) sc_told_order.nd rfl (by first | exact Or.inl rfl | exact Or.inr rfl) (pe_ix (r := rIxT K) ix_tup (pe_call (ok_next_in T) (hr.mono (by decide)) (by rfl) T.next_in.g T.next_in.F.kp T.next_in.b .nil pass0 (pa_cons (pv 3) (pa_cons (pv 1) (pa_cons (pv 4) pa_nil)))) pe_int (fun _ _ => rfl)))
    (pss_cons (ps_set (i := 4) sc_told_order.nd rfl (by first | exact Or.inl rfl | exact Or.inr rfl) (pe_op (r := rCatA K) op_catA (pe_op (r := rCatA K) op_catA (pe_slice (r := rSlA K) sl_tupA (pv 4) po_none (po_some (pv 7))) (pe_tup (pa_cons (pe_op op_add (pe_ix (r := rIxT K) ix_tup (pv 4) (pv 7) (fun _ _ => rfl)) pe_int) pa_nil))) (pe_slice (r := rSlA K) sl_tupA (pv 4) (po_some (pe_op op_add (pv 7) pe_int)) po_none)))
    (pss_one (ps_set (i := 5) sc_told_order.nd rfl (by first | exact Or.inl rfl | exact Or.inr rfl) (pe_op (r := rCatA K) op_catA (pv 5) (pe_tup (pa_cons (pv 7) pa_nil))))))))
    (pss_one (ps_ret (pv 5))))))))), ?_⟩
    have hl := hV.len
    have D := div_of M
    refine q_drop (ev_call (ea_cons (ev_var rfl) (ea_cons (ev_var rfl) (ea_cons (ev_var rfl) ea_nil))) (spv_check_house hx M hy hV (by omega))) fun H1 e1 => ?_
    refine q_when (b := false) (et_is (et_and (et_test (ev_gt (ev_var rfl) ev_c)) (fun _ => et_test (ev_eqI (ev_lenTI (ep_v rfl (hy.ex e1) mo_T)) ev_c))) ?_) (fun z => by cases z) fun _ H2 e2 => ?_
    · rw [decide_eq_false (p := (v.length : Int) = 0) (by omega), Bool.and_false]
    have e := e1.trans e2
    refine qp_asg (ep_divisors_to (ep_m rfl (mo_M _ _ _ e hx)) ev_nine M) fun dd H3 e3 hd => ?_
    refine qp_asg (ep_zeros (ep_tup1 ev_c) (ev_lenTI (ep_v rfl (hy.ex (e.trans e3)) mo_T)) (by omega) (by omega)) fun z0 H4 e4 hz0 => ?_
    refine qp_asg ep_tup0 fun f0 H5 e5 hf0 => ?_
    have eb := ((e.trans e3).trans e4).trans e5
    have hd5 := hd.ex (e4.trans e5)
    refine q_forR1 (ea_cons (ev_var rfl) ea_nil) (by omega) (fun i σ' H' => ∃ z f a b, σ' = [some x, some y, some (.int (h : Int)), some dd, some z, some f, a, b] ∧ Ex H5 H' ∧ IsT (toldF (dvs fs st) v i).1 z H' ∧ IsT (toldF (dvs fs st) v i).2 f H')
      (fun H6 e6 => ⟨z0, f0, none, none, rfl, e6, (hz0.ex e5).ex e6, hf0.ex e6⟩) (fun i σ1 H6 hi ⟨z, g, a, b, hσ, e6, hz, hg⟩ => ?_) (fun σ1 H6 ⟨z, g, a, b, hσ, e6, hz, hg⟩ => ?_)
    · subst hσ
      have S := told_sea D hv0 (k := i) (by omega)
      obtain ⟨p, hp, ep, hnl⟩ := first_next D (by omega) S hv0
      have C : Cd (dvs fs st) v (toldF (dvs fs st) v i).1 := cd_sea dvs_len hV S (by omega)
      have hsl := S.len
      refine q_asg (ev_ixT (ep_next_in (ep_v rfl (hd5.ex e6) mo_T) (ep_v rfl ((hy.ex eb).ex e6) mo_T) (ep_v rfl hz mo_T) C) ev_c (by omega) (by omega)) fun H7 e7 => ?_
      rw [ep]
      have ez : ∀ {σ' : L2.St}, σ'[4]? = some (some z) → EvP (tVar 4) σ' H7 (IsT (toldF (dvs fs st) v i).1) := fun h => ep_v h (hz.ex e7) mo_T
      refine qp_asg (ep_place (ez rfl) (ev_var rfl) (ev_add (ev_ixT (ez rfl) (ev_var rfl) (by omega) (by omega)) ev_c) (ev_add (ev_var rfl) ev_c) (by omega) (by omega)) fun z2 H8 e8 hz2 => ?_
      refine sp_asg (ep_cat (ep_v rfl (hg.ex (e7.trans e8)) mo_T) (ep_tup1 (ev_var rfl)) (by rw [told_len, List.length_singleton]; omega)) fun g2 H9 e9 hg2 => ⟨z2, g2, _, _, rfl, ((e6.trans e7).trans e8).trans e9, ?_, ?_⟩
      · show IsT (givenS (toldF (dvs fs st) v i).1 (ix (nextL (dvs fs st) v (toldF (dvs fs st) v i).1) 0)) z2 H9
        rw [ep]; exact hz2.ex e9
      · show IsT ((toldF (dvs fs st) v i).2 ++ [ix (nextL (dvs fs st) v (toldF (dvs fs st) v i).1) 0]) g2 H9
        rw [ep]; exact hg2
    · subst hσ
      have eh : ((h : Int)).toNat = h := by omega
      rw [eh] at hg
      exact sp_ret (ep_v rfl hg mo_T) fun r H7 e7 hr => k _ _ ((eb.trans e6).trans e7) hr
end
end Ds

namespace Ds
open PySem PySem.Spec PyProof.Rows L2 Evl Dm
/-! ### the law's own reckoning -/
def lastI (f : List Int) : Int := ix f ((f.length : Int) - 1)
def ext (f : List Int) (st : Int) (i : Nat) : List Int := f ++ (List.range i).map fun j : Nat => lastI f + st * ((j : Int) + 1)
theorem ext_len {f st i} : (ext f st i).length = f.length + i := by unfold ext; rw [List.length_append, List.length_map, List.length_range]
theorem ix_append_right {l m : List Int} {i : Nat} (h : i < m.length) : ix (l ++ m) (((l.length + i : Nat)) : Int) = ix m (i : Int) := by
  have h1 := ix_get (xs := l ++ m) (i := l.length + i) (by rw [List.length_append]; omega)
  have h2 := ix_get (xs := m) (i := i) h
  rw [List.getElem?_append_right (by omega), show l.length + i - l.length = i by omega, h2] at h1
  exact Eq.symm (Option.some.inj h1)
theorem ix_append_left {l m : List Int} {i : Nat} (h : i < l.length) : ix (l ++ m) (i : Int) = ix l (i : Int) := by
  have h1 := ix_get (xs := l ++ m) (i := i) (by rw [List.length_append]; omega)
  have h2 := ix_get (xs := l) (i := i) h
  rw [List.getElem?_append_left h, h2] at h1
  exact Eq.symm (Option.some.inj h1)
theorem ix_rangemap {n i : Nat} {g : Nat → Int} (h : i < n) : ix ((List.range n).map g) (i : Int) = g i := by
  have h1 := ix_get (xs := (List.range n).map g) (i := i) (by rw [List.length_map, List.length_range]; exact h)
  rw [List.getElem?_map, List.getElem?_range h] at h1
  exact Eq.symm (Option.some.inj h1)
theorem ext_last {f : List Int} {st : Int} {i : Nat} (hf : 0 < f.length) : lastI (ext f st i) = lastI f + st * (i : Int) := by
  cases i with
  | zero =>
    unfold ext
    simp
  | succ i =>
    unfold lastI
    rw [ext_len]
    have e : ((f.length + (i + 1) : Nat) : Int) - 1 = ((f.length + i : Nat) : Int) := by omega
    rw [e]
    unfold ext
    rw [ix_append_right (by rw [List.length_map, List.length_range]; omega), ix_rangemap (by omega)]
    unfold lastI
    have : (i : Int) + 1 = ((i + 1 : Nat) : Int) := by omega
    rw [this]
theorem ext_snoc {f : List Int} {st : Int} {i : Nat} (hf : 0 < f.length) : ext f st (i + 1) = ext f st i ++ [lastI (ext f st i) + st] := by
  rw [ext_last hf]
  unfold ext
  rw [List.range_succ, List.map_append, ← List.append_assoc]
  congr 1
  show [lastI f + st * ((i : Int) + 1)] = _
  rw [Int.mul_add, Int.mul_one, Int.add_assoc]
theorem ext_dvs {f : List Int} {st : Int} (M : Meth f st) : (ext f st 9).take 9 = dvs f st := by
  have hl := M.len
  apply List.ext_getElem?
  intro i
  by_cases hi : i < 9
  · have h1 := ix_get (xs := ext f st 9) (i := i) (by rw [ext_len]; omega)
    have h2 := ix_get (xs := dvs f st) (i := i) (by rw [dvs_len]; exact hi)
    rw [List.getElem?_take, if_pos hi, h1, h2, dvs_ix (by omega)]
    congr 1
    unfold divAt
    by_cases hf : i < f.length
    · rw [if_pos (by omega)]
      unfold ext
      exact ix_append_left hf
    · rw [if_neg (by omega)]
      have e : i = f.length + (i - f.length) := by omega
      have eI : (i : Int) = ((f.length + (i - f.length) : Nat) : Int) := by omega
      rw [eI]
      unfold ext
      rw [ix_append_right (by rw [List.length_map, List.length_range]; omega), ix_rangemap (by omega)]
      unfold lastI
      congr 2
      omega
  · rw [List.getElem?_eq_none (by rw [List.length_take]; omega), List.getElem?_eq_none (by rw [dvs_len]; omega)]
section
variable {P : Program} {w : World} {K : PySem.W.Frag} {mg : Str → Option Value} {base : Heap}
def sp_law_divisors : Sp := fun vs H Q _ => ∃ x f st, vs = [x, .int 9] ∧ IsM f st x H ∧ Meth f st ∧ Ret (IsI (dvs f st)) H Q
theorem ok_law_divisors (T : Top K mg) : FnOk P w K mg base CX0 1 T.law_divisors.a T.law_divisors.d ["_law_method_here", "_law_many"] sp_law_divisors := by
  refine T.law_divisors.F.ok sc_law_divisors (fun vs H Q E h => ?_) (fun cdv A outer s H vs Q E hr h => ?_)
  · obtain ⟨x, f, st, rfl, _⟩ := h
    rfl
  · obtain ⟨x, f, st, rfl, ⟨p, q, rfl, hp, hq⟩, M, k⟩ := h
    refine ⟨_, (pss_cons (ps_set (i := 2) sc_law_divisors.nd rfl (by first | exact Or.inl rfl | exact Or.inr rfl) (pe_callTy (r := rListS K) call_list_of (by rfl) T.list (by decide +kernel) (pa_cons (pe_ix (r := rIxT K) ix_tup (pv 0) pe_int (fun _ _ => rfl)) pa_nil)))
    (pss_cons (ps_for PassesOwn.never rfl (pi_range1 rfl T.range (pa_cons (pv 1) pa_nil)) (pg_name (i := 3) sc_law_divisors.nd rfl (by first | exact Or.inl rfl | exact Or.inr rfl)) (pss_one (ps_expr (pe_bm PySem.F.plainAttrs_list PySem.F.slot_list_append PySem.F.type_list_append mt_append (pv 2) (pa_cons (pe_op op_add (pe_ix (r := rIxL K) ix_list (pv 2) (pe_un un_neg pe_int) (fun _ _ => rfl)) (pe_ix (r := rIxT K) ix_tup (pv 0) pe_int (fun _ _ => rfl))) pa_nil)))))
    (pss_one (ps_ret (pe_slice (r := rSlL K) sl_list (pv 2) po_none (po_some (pv 1))))))), ?_⟩
    have hl := M.len
    have v0 : ∀ {σ' : L2.St} {H1 : Hp}, Ex H H1 → σ'[0]? = some (some (.ref p)) → EvP (tVar 0) σ' H1 (IsTV [.ref q, .int st]) := fun e h => ep_ref (ev_var h) (e _ _ hp)
    refine q_asgL (el_listT (ep_ref (ep_ixT (v0 (Ex.refl _) rfl) ev_c (atI_nat (j := 0) rfl)) hq)) fun l H1 nl e1 hl1 => ?_
    refine q_forR1 (ea_cons (ev_var rfl) ea_nil) (by omega) (fun i σ' H' => ∃ a, σ' = [some (.ref p), some (.int 9), some (.ref l), a] ∧ Ex H H' ∧ H' l = some (.lst ((ext f st i).map V.int)))
      (fun H2 e2 => ⟨none, rfl, e1.trans e2, by rw [e2 _ _ hl1]; unfold ext; simp⟩) (fun i σ1 H2 hi ⟨a, hσ, e2, hl2⟩ => ?_) (fun σ1 H2 ⟨a, hσ, e2, hl2⟩ => ?_)
    · subst hσ
      refine s_app hl2 (ev_var rfl) (ev_add (ev_lastL (ep_v rfl (isI_of hl2) mo_I) (ev_un ev_c ru_neg) (by rw [ext_len]; omega)) (ep_ixT (v0 e2 rfl) ev_c (atI_nat (j := 1) rfl))) (by rw [List.length_map, ext_len]; omega) fun H3 e3 => ?_
      refine ⟨_, rfl, Ex.mut (e2.trans e3) nl, ?_⟩
      rw [upd_same, ext_snoc (by omega), List.map_append]
      rfl
    · subst hσ
      refine sp_ret (ep_takeL (k := 9) (ep_v rfl (isI_of hl2) mo_I) (ev_var rfl) (by rw [ext_len]; omega)) fun r H3 e3 hr => k _ _ (e2.trans e3) ?_
      rw [← ext_dvs M]; exact hr
/-! ### all seats, again -/
def sp_law_all_seats : Sp := fun vs H Q _ => ∃ (n : Nat) (h : Int), vs = [.int (n : Int), .int h] ∧ n ≤ 4 ∧ 0 ≤ h ∧ h ≤ 5 ∧ Ret (IsR (allSeats n h)) H Q
theorem ok_law_all_seats (T : Top K mg) : FnOk P w K mg base CX0 1 T.law_all_seats.a T.law_all_seats.d ["_law_many", "_law_house"] sp_law_all_seats := by
  refine T.law_all_seats.F.ok sc_law_all_seats (fun vs H Q E h => ?_) (fun cdv A outer s H vs Q E hr h => ?_)
  · obtain ⟨n, h, rfl, _⟩ := h
    rfl
  · obtain ⟨n, h, rfl, hn, h0, h5, k⟩ := h
    refine ⟨_, (pss_cons (ps_set (i := 2) sc_law_all_seats.nd rfl (by first | exact Or.inl rfl | exact Or.inr rfl) (pe_lst (pa_cons (pe_tup pa_nil) pa_nil)))
    (pss_cons (ps_for PassesOwn.never rfl (pi_range1 rfl T.range (pa_cons (pv 0) pa_nil)) (pg_name (i := 3) sc_law_all_seats.nd rfl (by first | exact Or.inl rfl | exact Or.inr rfl)) (pss_cons (ps_set (i := 4) sc_law_all_seats.nd rfl (by first | exact Or.inl rfl | exact Or.inr rfl) (pe_lst pa_nil))
    (pss_cons (ps_for PassesOwn.never rfl (pi_list (pv 2)) (pg_name (i := 5) sc_law_all_seats.nd rfl (by first | exact Or.inl rfl | exact Or.inr rfl)) (pss_one (ps_expr (pe_bm PySem.F.plainAttrs_list PySem.F.slot_list_extend PySem.F.type_list_extend mt_extend (pv 4) (pa_cons (pe_lc (own := [("_law_less", 6)]) (g := gName 6) (by rfl) sc_law_all_seats.nd (pi_range1 rfl T.range (pa_cons (pe_op op_add (pe_op op_sub (pv 1) (pe_callB (r := rSumS K) (cr_sumT rfl) (by rfl) T.sum (by decide +kernel) (pa_cons (pv 5) pa_nil))) pe_int) pa_nil)) (blkOk_by (N := N_law_all_seats) (sc := defScope s_law_all_seats) (by decide +kernel)) (fun _ _ _ _ _ => (pg_name (i := 6) sc_law_all_seats.nd rfl (by first | exact Or.inl rfl | exact Or.inr rfl))) (fun _ _ _ _ _ => pts_nil) (fun _ _ _ _ _ => (pe_op (r := rCatA K) op_catA (pv 5) (pe_tup (pa_cons (pe_op op_sub (pe_op op_sub (pv 1) (pe_callB (r := rSumS K) (cr_sumT rfl) (by rfl) T.sum (by decide +kernel) (pa_cons (pv 5) pa_nil))) (pv 6)) pa_nil))))) pa_nil)))))
    (pss_one (ps_set (i := 2) sc_law_all_seats.nd rfl (by first | exact Or.inl rfl | exact Or.inr rfl) (pv 4))))))
    (pss_one (ps_ret (pe_lc (own := [("_law_row", 5)]) (g := gName 5) (by rfl) sc_law_all_seats.nd (pi_list (pv 2)) (blkOk_by (N := N_law_all_seats) (sc := defScope s_law_all_seats) (by decide +kernel)) (fun _ _ _ _ _ => (pg_name (i := 5) sc_law_all_seats.nd rfl (by first | exact Or.inl rfl | exact Or.inr rfl))) (fun _ _ _ _ _ => (pts_one (pt_cmpR op_eq (pe_callB (r := rSumS K) (cr_sumT rfl) (by rfl) T.sum (by decide +kernel) (pa_cons (pv 5) pa_nil)) (pv 1) (nomark _)))) (fun _ _ _ _ _ => (pv 5))))))), ?_⟩
    refine qp_asg (P := IsR (allRows 0 h)) ((ep_lstP (eap_cons ep_tup0 mo_T eap_nil) (mo_cons mo_T mo_nil) (fun vs H1 ⟨x, r, a, _, c⟩ => by rw [a, c]; show 1 ≤ 100000; omega)).imp
      fun v H2 _ ⟨p, vs, hv, hp, x, r, e1, hx, e5⟩ => ⟨p, [x], hv, by rw [hp, e1, e5], .cons hx .nil⟩) fun R0 H1 e1 hR0 => ?_
    refine q_forR1 (ea_cons (ev_var rfl) ea_nil) (by omega) (fun i σ' H' => ∃ R a3 a4 a5, σ' = [some (.int (n : Int)), some (.int h), some R, a3, a4, a5, none] ∧ Ex H H' ∧ IsR (allRows i h) R H')
      (fun H2 e2 => ⟨R0, none, none, none, rfl, e1.trans e2, hR0.ex e2⟩) (fun i σ1 H2 hi ⟨R, a3, a4, a5, hσ, e2, hR⟩ => ?_) (fun σ1 H2 ⟨R, a3, a4, a5, hσ, e2, hR⟩ => ?_)
    · subst hσ
      obtain ⟨pr, xs, rfl, hpr, hxs⟩ := hR
      refine q_asgL (el_lst ea_nil (Nat.zero_le _)) fun l H3 nl e3 hl => ?_
      have hprs : xs.length = (allRows i h).length := paired_len hxs
      refine q_forLn (ev_var rfl) (sq_of (e3 _ _ hpr)) (fun j σ' H' => ∃ a5 ys, σ' = [some (.int (n : Int)), some (.int h), some (.ref pr), some (.int (i : Int)), some (.ref l), a5, none] ∧ Ex H2 H' ∧ H' l = some (.lst ys) ∧ Rows H' ys (((allRows i h).take j).flatMap (grow h)))
        (fun H4 e4 => ⟨a5, [], rfl, e3.trans e4, e4 _ _ hl, .nil⟩) (fun j σ' H' _ ⟨_, _, _, e, _⟩ => sq_of (e _ _ hpr)) (fun j x σ2 H4 hj ⟨b5, ys, hσ, e4, hl4, hys⟩ => ?_) (fun σ2 H4 ⟨b5, ys, hσ, e4, hl4, hys⟩ => ?_)
      · subst hσ
        obtain ⟨r, hr, hx⟩ := paired_get hxs hj
        have hrm := (mem_allRows h0).mp (mem_of_get hr)
        have hx4 := hx.ex e4
        refine s_ext (R := fun zs H => Rows H zs (grow h r)) hl4 (ev_var rfl) ((ep_lcR (fun _ => true) (fun k => IsT (r ++ [h - r.sum - (k : Int)])) (ea_cons (ev_add (ev_sub (ev_var rfl) (ev_sumS (ep_v rfl hx4 mo_T))) ev_c) ea_nil) (by have := sum_nonneg hrm.2.1; omega) (fun _ => rfl) (fun _ => mo_T) (fun _ => mu_T) (fun _ _ _ _ => et_yes) fun m H5 e5 hm _ => ?_).imp fun v H5 _ ⟨p, zs, a, b, c⟩ => ⟨p, zs, a, b, ?_⟩) (fun zs H5 hzs => ?_) (fun zs H5 e5 hzs => ?_)
        · have hlen : r.length ≤ 4 := by rw [hrm.1]; omega
          exact ep_cat (ep_v rfl (hx4.ex e5) mo_T) (ep_tup1 (ev_sub (ev_sub (ev_var rfl) (ev_sumS (ep_v rfl (hx4.ex e5) mo_T))) (ev_var rfl))) (by rw [List.length_singleton]; omega)
        · rw [filter_true] at c
          exact paired_map (R := fun x r => IsT r x H5) (f := fun k : Nat => r ++ [h - r.sum - (k : Int)]) c
        · rw [paired_len hys, paired_len hzs]
          have h1 := len_take_flat (n := i) (j := j) (by omega) h0 h5
          have h2 := len_grow (h := h) hrm.2.1 h5
          omega
        · refine ⟨_, ys ++ zs, rfl, Ex.mut (e4.trans e5) nl, upd_same, ?_⟩
          rw [take_flat_snoc hr]
          exact paired_append (rows_mu (e5 _ _ hl4) (hys.ex e5)) (rows_mu (e5 _ _ hl4) hzs)
      · subst hσ
        rw [hprs, List.take_length] at hys
        exact sp_asg (ep_of (ev_var rfl)) fun x H5 e5 hx => ⟨x, _, _, _, rfl, (e2.trans e4).trans e5, l, ys, hx, e5 _ _ hl4, hys.ex e5⟩
    · subst hσ
      have en : ((n : Int)).toNat = n := by omega
      rw [en] at hR
      have hz := len_allRows4 hn h0 h5
      refine sp_ret ((ep_lcL (rs := allRows n h) (fun k => decide (((allRows n h).getD k []).sum = h)) (fun k => IsT ((allRows n h).getD k [])) (ep_v rfl hR mo_R) (by omega) (fun _ => rfl) (fun _ => mo_T) (fun _ => mu_T) (fun m r x H3 e3 hm hx => ?_) (fun m r x H3 e3 hm hx _ => ?_)).imp
        (P' := IsR (allSeats n h)) fun v H3 _ hv => ?_) fun x H3 e3 hx => k x H3 (e2.trans e3) hx
      · rw [getD_of hm]
        exact et_test (ev_eqI (ev_sumS (ep_v rfl hx mo_T)) (ev_var rfl))
      · rw [getD_of hm]
        exact ep_v rfl hx mo_T
      · have := lp_R hv
        rw [range_filter_map (allRows n h) [] (fun r => decide (r.sum = h))] at this
        exact this
/-! ### who shows what -/
def sp_law_shows : Sp := fun vs H Q _ => ∃ x y z d v s, ∃ i j : Nat, vs = [x, y, z, .int (i : Int), .int (j : Int)] ∧ IsI d x H ∧ IsT v y H ∧ IsT s z H ∧ Cd d v s ∧ i < v.length ∧ j < v.length ∧ Ret (fun r _ => r = .bl (wrongB d v s i j)) H Q
theorem ok_law_shows (T : Top K mg) : FnOk P w K mg base CX0 1 T.law_shows.a T.law_shows.d ["_law_divisors_here", "_law_votes_here", "_law_seats", "_law_one", "_law_other"] sp_law_shows := by
  refine T.law_shows.F.ok sc_law_shows (fun vs H Q E h => ?_) (fun cdv A outer s H vs Q E hr h => ?_)
  · obtain ⟨x, y, z, d, v, s, i, j, rfl, _⟩ := h
    rfl
  · obtain ⟨x, y, z, d, v, t, i, j, rfl, hx, hy, hz, C, hi, hj, k⟩ := h
    refine ⟨_, (pss_one (ps_ret (pe_and (pe_cmpR op_gt (pe_ix (r := rIxT K) ix_tup (pv 2) (pv 3) (fun _ _ => rfl)) pe_int (nomark _)) (pe_one (pe_cmpR op_gt (pe_op op_mul (pe_ix (r := rIxT K) ix_tup (pv 1) (pv 4) (fun _ _ => rfl)) (pe_ix (r := rIxL K) ix_list (pv 0) (pe_op op_sub (pe_ix (r := rIxT K) ix_tup (pv 2) (pv 3) (fun _ _ => rfl)) pe_int) (fun _ _ => rfl))) (pe_op op_mul (pe_ix (r := rIxT K) ix_tup (pv 1) (pv 3) (fun _ _ => rfl)) (pe_ix (r := rIxL K) ix_list (pv 0) (pe_ix (r := rIxT K) ix_tup (pv 2) (pv 4) (fun _ _ => rfl)) (fun _ _ => rfl))) (nomark _)))))), ?_⟩
    have si := C.s hi
    have sj := C.s hj
    have vi := C.v hi
    have vj := C.v hj
    have hsl := C.sl
    have hdl := C.dl
    have ez : ∀ {σ' : L2.St}, σ'[2]? = some (some z) → EvP (tVar 2) σ' H (IsT t) := fun h => ep_v h hz mo_T
    have ex : ∀ {σ' : L2.St}, σ'[0]? = some (some x) → EvP (tVar 0) σ' H (IsI d) := fun h => ep_v h hx mo_I
    have ey : ∀ {σ' : L2.St}, σ'[1]? = some (some y) → EvP (tVar 1) σ' H (IsT v) := fun h => ep_v h hy mo_T
    refine s_ret (ev_andV (ev_gt (ev_ixT (ez rfl) (ev_var rfl) (by omega) (by omega)) ev_c) fun h0 => ev_gt (ev_mul (ev_ixT (ey rfl) (ev_var rfl) (by omega) (by omega)) (ev_ixL (ex rfl) (ev_sub (ev_ixT (ez rfl) (ev_var rfl) (by omega) (by omega)) ev_c) (by have := of_decide_eq_true h0; omega) (by omega)) (.inl (by omega)))
      (ev_mul (ev_ixT (ey rfl) (ev_var rfl) (by omega) (by omega)) (ev_ixL (ex rfl) (ev_ixT (ez rfl) (ev_var rfl) (by omega) (by omega)) (by omega) (by omega)) (.inl (by omega)))) fun H3 e3 => k _ _ e3 ?_
    unfold wrongB
    by_cases h0 : ix t (i : Int) = 0
    · rw [if_pos h0, decide_eq_false (by omega)]; rfl
    · rw [if_neg h0, decide_eq_true (p := 0 < ix t (i : Int)) (by omega), Bool.true_and]
theorem spv_shows {H : Hp} {x y z : V} {d v s : List Int} {i j : Nat} (hx : IsI d x H) (hy : IsT v y H) (hz : IsT s z H) (C : Cd d v s) (hi : i < v.length) (hj : j < v.length) : SpV sp_law_shows [x, y, z, .int (i : Int), .int (j : Int)] H (.bl (wrongB d v s i j)) :=
  spv_of fun H1 e Q E q => ⟨x, y, z, d, v, s, i, j, rfl, hx.ex e, hy.ex e, hz.ex e, C, hi, hj, q⟩
def IsW (b : Bool) (x : V) (H : Hp) : Prop := ∃ p xs, x = .ref p ∧ H p = some (.lst xs) ∧ xs.isEmpty = b
theorem mo_W {b} : Mo (IsW b) := fun _ _ _ e ⟨p, xs, a, c, d⟩ => ⟨p, xs, a, e _ _ c, d⟩
def sp_law_wrong_pairs : Sp := fun vs H Q _ => ∃ x y z d v s, vs = [x, y, z] ∧ IsI d x H ∧ IsT v y H ∧ IsT s z H ∧ Cd d v s ∧ Ret (IsW (validB d v s)) H Q
theorem okB_not {d v s : List Int} {i k : Nat} : (!decide ((k : Int) = (i : Int)) && wrongB d v s i k) = !okB d v s i k := by
  unfold okB
  have : decide ((k : Int) = (i : Int)) = decide (i = k) := decide_eq_decide.mpr (by omega)
  rw [this, Bool.not_or, Bool.not_not]
theorem empty_append {α : Type} {l m : List α} : (l ++ m).isEmpty = (l.isEmpty && m.isEmpty) := by
  cases l <;> rfl
theorem empty_filter {n : Nat} {f : Nat → Bool} : ((List.range n).filter fun k => !f k).isEmpty = (List.range n).all f := by
  rw [Bool.eq_iff_iff, List.isEmpty_iff, List.filter_eq_nil_iff, List.all_eq_true]
  exact ⟨fun h k hk => by have := h k hk; simpa using this, fun h k hk => by rw [h k hk]; decide⟩
theorem ok_law_wrong_pairs (T : Top K mg) : FnOk P w K mg base CX0 2 T.law_wrong_pairs.a T.law_wrong_pairs.d ["_law_divisors_here", "_law_votes_here", "_law_seats"] sp_law_wrong_pairs := by
  refine T.law_wrong_pairs.F.ok sc_law_wrong_pairs (fun vs H Q E h => ?_) (fun cdv A outer s H vs Q E hr h => ?_)
  · obtain ⟨x, y, z, d, v, s, rfl, _⟩ := h
    rfl
  · obtain ⟨x, y, z, d, v, t, rfl, hx, hy, hz, C, k⟩ := h
    refine ⟨_, (pss_cons (ps_set (i := 3) sc_law_wrong_pairs.nd rfl (by first | exact Or.inl rfl | exact Or.inr rfl) (pe_lst pa_nil))
    (pss_cons (ps_for PassesOwn.never rfl (pi_range1 rfl T.range (pa_cons (pe_callB (r := rLenS K) call_len_seq (by rfl) T.len PySem.boot_len (pa_cons (pv 1) pa_nil)) pa_nil)) (pg_name (i := 4) sc_law_wrong_pairs.nd rfl (by first | exact Or.inl rfl | exact Or.inr rfl)) (pss_one (ps_expr (pe_bm PySem.F.plainAttrs_list PySem.F.slot_list_extend PySem.F.type_list_extend mt_extend (pv 3) (pa_cons (pe_lc (own := [("_law_other", 5)]) (g := gName 5) (by rfl) sc_law_wrong_pairs.nd (pi_range1 rfl T.range (pa_cons (pe_callB (r := rLenS K) call_len_seq (by rfl) T.len PySem.boot_len (pa_cons (pv 1) pa_nil)) pa_nil)) (blkOk_by (N := N_law_wrong_pairs) (sc := defScope s_law_wrong_pairs) (by decide +kernel)) (fun _ _ _ _ _ => (pg_name (i := 5) sc_law_wrong_pairs.nd rfl (by first | exact Or.inl rfl | exact Or.inr rfl))) (fun _ _ _ _ _ => (pts_one (PW.pt (pw_and (pt_cmpR op_ne (pv 5) (pv 4) (nomark _)) (pw_and1 (pt_val (pe_call (ok_law_shows T) (hr.mono (by decide)) (by rfl) T.law_shows.g T.law_shows.F.kp T.law_shows.b .nil pass0 (pa_cons (pv 0) (pa_cons (pv 1) (pa_cons (pv 2) (pa_cons (pv 4) (pa_cons (pv 5) pa_nil)))))))))))) (fun _ _ _ _ _ => (pe_tup (pa_cons (pv 4) (pa_cons (pv 5) pa_nil))))) pa_nil)))))
    (pss_one (ps_ret (pv 3))))), ?_⟩
    have hl := C.vl
    refine q_asgL (el_lst ea_nil (Nat.zero_le _)) fun l H1 nl e1 hl1 => ?_
    refine q_forR1 (ea_cons (ev_lenTI (ep_v rfl (hy.ex e1) mo_T)) ea_nil) (by omega) (fun i σ' H' => ∃ a ys, σ' = [some x, some y, some z, some (.ref l), a, none] ∧ Ex H H' ∧ H' l = some (.lst ys) ∧ ys.length ≤ i * 5 ∧ ys.isEmpty = (List.range i).all fun a => (List.range v.length).all fun b => okB d v t a b)
      (fun H2 e2 => ⟨none, [], rfl, e1.trans e2, e2 _ _ hl1, Nat.zero_le _, rfl⟩) (fun i σ1 H2 hi ⟨a, ys, hσ, e2, hl2, hle, hem⟩ => ?_) (fun σ1 H2 ⟨a, ys, hσ, e2, hl2, hle, hem⟩ => ?_)
    · subst hσ
      refine s_ext (R := fun zs H => zs.length ≤ 5 ∧ zs.isEmpty = (List.range v.length).all fun b => okB d v t i b) hl2 (ev_var rfl) ((ep_lcR (fun k => !okB d v t i k) (fun k => IsTV [.int (i : Int), .int (k : Int)]) (ea_cons (ev_lenTI (ep_v rfl (hy.ex e2) mo_T)) ea_nil) (by omega) (fun _ => rfl) (fun _ => mo_TV) (fun _ => mu_TV) (fun m H3 e3 hm => ?_) fun m H3 e3 hm _ => ?_).imp fun u H3 _ ⟨p, zs, a, b, c⟩ => ⟨p, zs, a, b, ?_⟩) (fun zs H3 hzs => ?_) (fun zs H3 e3 hzs => ?_)
      · have e := e2.trans e3
        exact et_is (et_and (et_test (ev_neI (ev_var rfl) (ev_var rfl))) (fun _ => et_B (ev_call (ea_cons (ev_var rfl) (ea_cons (ev_var rfl) (ea_cons (ev_var rfl) (ea_cons (ev_var rfl) (ea_cons (ev_var rfl) ea_nil))))) (spv_shows (hx.ex e) (hy.ex e) (hz.ex e) C (by omega) (by omega))))) okB_not
      · exact ep_tupV (ea_cons (ev_var rfl) (ea_cons (ev_var rfl) ea_nil)) (by show 2 ≤ 100000; omega)
      · have en : ((v.length : Int)).toNat = v.length := by omega
        rw [en] at c
        have hc := paired_len c
        have := List.length_filter_le (fun k => !okB d v t i k) (List.range v.length)
        rw [List.length_range] at this
        refine ⟨by omega, ?_⟩
        rw [← empty_filter]
        rw [Bool.eq_iff_iff, List.isEmpty_iff, List.isEmpty_iff, ← List.length_eq_zero_iff, ← List.length_eq_zero_iff, hc]
      · have := hzs.1; omega
      · refine ⟨_, ys ++ zs, rfl, Ex.mut (e2.trans e3) nl, upd_same, ?_, ?_⟩
        · rw [List.length_append]; have := hzs.1; omega
        · rw [empty_append, hem, hzs.2, List.range_succ, List.all_append]
          simp
    · subst hσ
      have en : ((v.length : Int)).toNat = v.length := by omega
      rw [en] at hem
      exact sp_ret (P := IsW (validB d v t)) (ep_v rfl ⟨l, ys, rfl, hl2, hem⟩ mo_W) fun r H3 e3 hr => k _ _ (e2.trans e3) hr
def sp_law_valid : Sp := fun vs H Q _ => ∃ x y d v h, vs = [x, y, .int h] ∧ IsI d x H ∧ IsT v y H ∧ d.length = 9 ∧ VotOk v ∧ v.length ≤ 4 ∧ 0 ≤ h ∧ h ≤ 5 ∧ Ret (IsR ((allSeats v.length h).filter (validB d v))) H Q
theorem ok_law_valid (T : Top K mg) : FnOk P w K mg base CX0 3 T.law_valid.a T.law_valid.d ["_law_divisors_here", "_law_votes_here", "_law_house"] sp_law_valid := by
  refine T.law_valid.F.ok sc_law_valid (fun vs H Q E h => ?_) (fun cdv A outer s H vs Q E hr h => ?_)
  · obtain ⟨x, y, d, v, h, rfl, _⟩ := h
    rfl
  · obtain ⟨x, y, d, v, h, rfl, hx, hy, hd, hV, h4, h0, h5, k⟩ := h
    refine ⟨_, (pss_one (ps_ret (pe_lc (own := [("_law_seats", 3)]) (g := gName 3) (by rfl) sc_law_valid.nd (pi_list (pe_call (ok_law_all_seats T) (hr.mono (by decide)) (by rfl) T.law_all_seats.g T.law_all_seats.F.kp T.law_all_seats.b .nil pass0 (pa_cons (pe_callB (r := rLenS K) call_len_seq (by rfl) T.len PySem.boot_len (pa_cons (pv 1) pa_nil)) (pa_cons (pv 2) pa_nil)))) (blkOk_by (N := N_law_valid) (sc := defScope s_law_valid) (by decide +kernel)) (fun _ _ _ _ _ => (pg_name (i := 3) sc_law_valid.nd rfl (by first | exact Or.inl rfl | exact Or.inr rfl))) (fun _ _ _ _ _ => (pts_one (pt_not (pt_tru (L := K) rfl (pe_call (ok_law_wrong_pairs T) (hr.mono (by decide)) (by rfl) T.law_wrong_pairs.g T.law_wrong_pairs.F.kp T.law_wrong_pairs.b .nil pass0 (pa_cons (pv 0) (pa_cons (pv 1) (pa_cons (pv 3) pa_nil)))) (by intro _; rfl))))) (fun _ _ _ _ _ => (pv 3))))), ?_⟩
    have hz := len_allSeats (n := v.length) h4 h0 h5
    refine sp_ret ((ep_lcL (rs := allSeats v.length h) (fun k => validB d v ((allSeats v.length h).getD k [])) (fun k => IsT ((allSeats v.length h).getD k [])) (ep_call (ea_of (ea_cons (ev_lenTI (ep_v rfl hy mo_T)) (ea_cons (ev_var rfl) ea_nil))) fun vs H1 e hv Q q => ⟨v.length, h, by rw [hv]; rfl, h4, h0, h5, q⟩) (by omega) (fun _ => rfl) (fun _ => mo_T) (fun _ => mu_T)
      (fun m r z H3 e3 hm hz => ?_) (fun m r z H3 e3 hm hz _ => ?_)).imp (P' := IsR ((allSeats v.length h).filter (validB d v))) fun v H3 _ hv => ?_) fun x H3 e3 hx => k x H3 e3 hx
    · rw [getD_of hm]
      refine et_is (et_not (et_tru (b := !validB d v r) ((ep_call (P := IsW (validB d v r)) (ea_of (ea_cons (ev_var rfl) (ea_cons (ev_var rfl) (ea_cons (ev_var rfl) ea_nil)))) fun vs H1 e hv Q q => ⟨_, _, _, d, v, r, by rw [hv]; rfl, (hx.ex e3).ex e, (hy.ex e3).ex e, hz.ex e, cd_sea hd hV ((Sea.of h0).mp (mem_of_get hm)) (by omega), q⟩).imp fun u H4 _ ⟨p, xs, a, b, c⟩ => ⟨p, xs, a, b, by rw [c]⟩))) ?_
      rw [Bool.not_not]
    · rw [getD_of hm]
      exact ep_v rfl hz mo_T
    · have := lp_R hv
      rw [range_filter_map (allSeats _ h) [] (validB d _)] at this
      exact this
def sp_law_next_ones : Sp := fun vs H Q _ => ∃ x y z d v s, vs = [x, y, z] ∧ IsI d x H ∧ IsT v y H ∧ IsT s z H ∧ Cd d v s ∧ Ret (IsI (nextL d v s)) H Q
theorem ok_law_next_ones (T : Top K mg) : FnOk P w K mg base CX0 1 T.law_next_ones.a T.law_next_ones.d ["_law_divisors_here", "_law_votes_here", "_law_seats"] sp_law_next_ones := by
  refine T.law_next_ones.F.ok sc_law_next_ones (fun vs H Q E h => ?_) (fun cdv A outer s H vs Q E hr h => ?_)
  · obtain ⟨x, y, z, d, v, s, rfl, _⟩ := h
    rfl
  · obtain ⟨x, y, z, d, v, t, rfl, hx, hy, hz, C, k⟩ := h
    refine ⟨_, (pss_cons (ps_set (i := 3) sc_law_next_ones.nd rfl (by first | exact Or.inl rfl | exact Or.inr rfl) (pe_lst pa_nil))
    (pss_cons (ps_for PassesOwn.never rfl (pi_range1 rfl T.range (pa_cons (pe_callB (r := rLenS K) call_len_seq (by rfl) T.len PySem.boot_len (pa_cons (pv 1) pa_nil)) pa_nil)) (pg_name (i := 4) sc_law_next_ones.nd rfl (by first | exact Or.inl rfl | exact Or.inr rfl)) (pss_one (ps_if (pt_val (pe_callB (r := rAll K) (cr_all rfl) (by rfl) T.all (by decide +kernel) (pa_cons (pe_lc (own := [("_law_other", 5)]) (g := gName 5) (by rfl) sc_law_next_ones.nd (pi_range1 rfl T.range (pa_cons (pe_callB (r := rLenS K) call_len_seq (by rfl) T.len PySem.boot_len (pa_cons (pv 1) pa_nil)) pa_nil)) (blkOk_by (N := N_law_next_ones) (sc := defScope s_law_next_ones) (by decide +kernel)) (fun _ _ _ _ _ => (pg_name (i := 5) sc_law_next_ones.nd rfl (by first | exact Or.inl rfl | exact Or.inr rfl))) (fun _ _ _ _ _ => pts_nil) (fun _ _ _ _ _ => (pe_cmpR op_ge (pe_op op_mul (pe_ix (r := rIxT K) ix_tup (pv 1) (pv 4) (fun _ _ => rfl)) (pe_ix (r := rIxL K) ix_list (pv 0) (pe_ix (r := rIxT K) ix_tup (pv 2) (pv 5) (fun _ _ => rfl)) (fun _ _ => rfl))) (pe_op op_mul (pe_ix (r := rIxT K) ix_tup (pv 1) (pv 5) (fun _ _ => rfl)) (pe_ix (r := rIxL K) ix_list (pv 0) (pe_ix (r := rIxT K) ix_tup (pv 2) (pv 4) (fun _ _ => rfl)) (fun _ _ => rfl))) (nomark _)))) pa_nil))) (pss_one (ps_expr (pe_bm PySem.F.plainAttrs_list PySem.F.slot_list_append PySem.F.type_list_append mt_append (pv 3) (pa_cons (pv 4) pa_nil)))) pss_nil)))
    (pss_one (ps_ret (pv 3))))), ?_⟩
    have hl := C.vl
    have hsl := C.sl
    have hdl := C.dl
    refine q_asgL (el_lst ea_nil (Nat.zero_le _)) fun l H1 nl e1 hl1 => ?_
    refine q_forR1 (ea_cons (ev_lenTI (ep_v rfl (hy.ex e1) mo_T)) ea_nil) (by omega) (fun i σ' H' => ∃ a, σ' = [some x, some y, some z, some (.ref l), a, none] ∧ Ex H H' ∧ H' l = some (.lst ((toI ((List.range i).filter (nextB d v t))).map V.int)))
      (fun H2 e2 => ⟨none, rfl, e1.trans e2, e2 _ _ hl1⟩) (fun i σ1 H2 hi ⟨a, hσ, e2, hl2⟩ => ?_) (fun σ1 H2 ⟨a, hσ, e2, hl2⟩ => ?_)
    · subst hσ
      have si := C.s (i := i) (by omega)
      have vi := C.v (i := i) (by omega)
      refine s_when (b := nextB d v t i) (et_B (ev_is (ev_allC (g := fun k => decide (ix v (k : Int) * ix d (ix t (i : Int)) ≤ ix v (i : Int) * ix d (ix t (k : Int)))) (ep_lcR (fun _ => true) _ (ea_cons (ev_lenTI (ep_v rfl (hy.ex e2) mo_T)) ea_nil) (by omega) (fun _ => rfl) (fun _ => mo_is) (fun _ => mu_is) (fun _ _ _ _ => et_yes) fun j H3 e3 hj _ => ?_)) ?_)) (fun hb H3 e3 => ?_) (fun hb H3 e3 => ?_)
      · have e := e2.trans e3
        have sj := C.s (i := j) (by omega)
        have vj := C.v (i := j) (by omega)
        have ez : ∀ {σ' : L2.St}, σ'[2]? = some (some z) → EvP (tVar 2) σ' H3 (IsT t) := fun h => ep_v h (hz.ex e) mo_T
        have ex : ∀ {σ' : L2.St}, σ'[0]? = some (some x) → EvP (tVar 0) σ' H3 (IsI d) := fun h => ep_v h (hx.ex e) mo_I
        have ey : ∀ {σ' : L2.St}, σ'[1]? = some (some y) → EvP (tVar 1) σ' H3 (IsT v) := fun h => ep_v h (hy.ex e) mo_T
        exact ep_of (ev_ge (ev_mul (ev_ixT (ey rfl) (ev_var rfl) (by omega) (by omega)) (ev_ixL (ex rfl) (ev_ixT (ez rfl) (ev_var rfl) (by omega) (by omega)) (by omega) (by omega)) (.inl (by omega)))
          (ev_mul (ev_ixT (ey rfl) (ev_var rfl) (by omega) (by omega)) (ev_ixL (ex rfl) (ev_ixT (ez rfl) (ev_var rfl) (by omega) (by omega)) (by omega) (by omega)) (.inl (by omega))))
      · rw [filter_true]
        have en : ((v.length : Int)).toNat = v.length := by omega
        rw [en]
        congr 1
        rw [Bool.eq_iff_iff, nextB_iff, List.all_eq_true]
        exact ⟨fun h q hq => of_decide_eq_true (h q (List.mem_range.mpr hq)), fun h q hq => decide_eq_true (h q (List.mem_range.mp hq))⟩
      · refine s_app (e3 _ _ hl2) (ev_var rfl) (ev_var rfl) (by rw [List.length_map]; have := toI_len (n := i) (f := nextB d v t); omega) fun H4 e4 => ⟨_, rfl, Ex.mut ((e2.trans e3).trans e4) nl, ?_⟩
        rw [upd_same, nextL_snoc, if_pos hb, List.map_append]; rfl
      · refine ⟨_, rfl, e2.trans e3, ?_⟩
        rw [nextL_snoc, if_neg (by rw [hb]; decide), List.append_nil]; exact e3 _ _ hl2
    · subst hσ
      exact sp_ret (ep_v rfl (isI_of hl2) mo_I) fun r H3 e3 hr => k _ _ (e2.trans e3) hr
def sp_law_given : Sp := fun vs H Q _ => ∃ x s, ∃ p : Nat, vs = [x, .int (p : Int)] ∧ IsT s x H ∧ p < s.length ∧ s.length ≤ 1000 ∧ Ret (IsT (givenS s (p : Int))) H Q
theorem ok_law_given (T : Top K mg) : FnOk P w K mg base CX0 1 T.law_given.a T.law_given.d ["_law_seats", "_law_party"] sp_law_given := by
  refine T.law_given.F.ok sc_law_given (fun vs H Q E h => ?_) (fun cdv A outer s H vs Q E hr h => ?_)
  · obtain ⟨x, s, p, rfl, _⟩ := h
    rfl
  · obtain ⟨x, t, p, rfl, hx, hp, hl, k⟩ := h
    refine ⟨_, (pss_one (ps_ret (pe_op (r := rCatA K) op_catA (pe_op (r := rCatA K) op_catA (pe_slice (r := rSlA K) sl_tupA (pv 0) po_none (po_some (pv 1))) (pe_tup (pa_cons (pe_op op_add (pe_ix (r := rIxT K) ix_tup (pv 0) (pv 1) (fun _ _ => rfl)) pe_int) pa_nil))) (pe_slice (r := rSlA K) sl_tupA (pv 0) (po_some (pe_op op_add (pv 1) pe_int)) po_none)))), ?_⟩
    have ez : ∀ {σ' : L2.St}, σ'[0]? = some (some x) → EvP (tVar 0) σ' H (IsT t) := fun h => ep_v h hx mo_T
    exact sp_ret (ep_place (ez rfl) (ev_var rfl) (ev_add (ev_ixT (ez rfl) (ev_var rfl) (by omega) (by omega)) ev_c) (ev_add (ev_var rfl) ev_c) hp hl) fun r H1 e1 hr => k _ _ e1 hr
end
end Ds

namespace Ds
open PySem PySem.Spec PyProof.Rows L2 Evl Dm
/-! ### the law's own ==: equal data give True -/
def scB : V → Bool
  | .int _ => true
  | .bl _ => true
  | .str _ => true
  | _ => false
def Kind (H : Hp) (p : Addr) (xs : List V) (b : Bool) : Prop := if b = true then H p = some (.tup xs) else H p = some (.lst xs)
theorem Kind.ex {H H' : Hp} {p xs b} (e : Ex H H') (h : Kind H p xs b) : Kind H' p xs b := by
  unfold Kind at *
  cases b with
  | true => exact e _ _ h
  | false => exact e _ _ h
def Eqd : Nat → Hp → V → V → Prop
  | 0, _, x, y => x = y ∧ scB x = true
  | n + 1, H, x, y => (x = y ∧ scB x = true) ∨ ∃ p q xs ys b, x = .ref p ∧ y = .ref q ∧ xs.length ≤ 1000 ∧ Paired (fun a b => Eqd n H a b) xs ys ∧ Kind H p xs b ∧ Kind H q ys b
theorem Eqd.ex {H H' : Hp} (e : Ex H H') : ∀ {n : Nat} {x y : V}, Eqd n H x y → Eqd n H' x y
  | 0, _, _, h => h
  | n + 1, x, y, h => by
    rcases h with h | ⟨p, q, xs, ys, b, h1, h2, h3, h4, h5, h6⟩
    · exact .inl h
    · exact .inr ⟨p, q, xs, ys, b, h1, h2, h3, paired_imp (fun _ _ r => Eqd.ex e r) h4, h5.ex e, h6.ex e⟩
section
variable {P : Program} {w : World} {K : PySem.W.Frag} {mg : Str → Option Value} {base : Heap}
theorem isi {σ : L2.St} {H : Hp} {te : TE} {x : V} {n t : String} {b : Bool} (h : Ev te σ H x) (ht : ∀ H1, Ex H H1 → TyX K H1 x (.type t)) (hk : kitB t n = some b) : Ev (tCB (rIsi K) (tCons te (tCons (tC (.ty n)) tNil))) σ H (.bl b) :=
  ev_isiTy (P := fun y _ => y = x) (t := .type t) (ep_of h) (fun y H1 e hy => by rw [hy]; exact ht H1 e) (kit_ty hk)
def sp_law_is_integer : Sp := fun vs H Q _ => ∃ i : Int, vs = [.int i] ∧ Ret (fun v _ => v = .bl true) H Q
theorem ok_law_is_integer (T : Top K mg) : FnOk P w K mg base CX0 1 T.law_is_integer.a T.law_is_integer.d ["_law_actual"] sp_law_is_integer := by
  refine T.law_is_integer.F.ok sc_law_is_integer (fun vs H Q E h => ?_) (fun cdv A outer s H vs Q E hr h => ?_)
  · obtain ⟨i, rfl, _⟩ := h
    rfl
  · obtain ⟨i, rfl, k⟩ := h
    refine ⟨_, (pss_one (ps_ret (pe_and (pe_callB (r := rIsi K) call_isi (by rfl) T.isinstance (by decide +kernel) (pa_cons (pv 0) (pa_cons (pe_bltn (v := .ty "int") (by rfl) T.int (by decide +kernel) rfl) pa_nil))) (pe_one (pe_not (pe_callB (r := rIsi K) call_isi (by rfl) T.isinstance (by decide +kernel) (pa_cons (pv 0) (pa_cons (pe_bltn (v := .ty "bool") (by rfl) T.bool (by decide +kernel) rfl) pa_nil)))))))), ?_⟩
    exact s_ret (ev_andV (a := true) (b := !false) (isi (ev_var rfl) (fun _ _ => ty_int) (by decide +kernel)) (fun _ => ev_notV (isi (ev_var rfl) (fun _ _ => ty_int) (by decide +kernel)))) fun H1 e1 => k _ _ e1 rfl
def sp_equal (n : Nat) : Sp := fun vs H Q _ => ∃ x y, vs = [x, y] ∧ Eqd n H x y ∧ Ret (fun v _ => v = .bl true) H Q
def spNo : Sp := fun _ _ _ _ => False
theorem ok_no {f : Addr} {fd : FuncData} {ps : List Str} {k : Nat} : FnOk P w K mg base CX0 k f fd ps spNo := ⟨fun _ _ _ _ h => h.elim, fun _ _ _ _ _ _ _ _ _ _ _ _ _ h => h.elim⟩
theorem ty_kind {H : Hp} {p xs b} (h : Kind H p xs b) : TyX K H (.ref p) (.type (if b = true then "tuple" else "list")) := by
  unfold Kind at h
  cases b with
  | true => exact ty_tup h
  | false => exact ty_lst h
theorem ev_lenK {σ : L2.St} {H : Hp} {te : TE} {p xs b} (h : Ev te σ H (.ref p)) (hk : Kind H p xs b) : Ev (tCB (rLenS K) (tCons te tNil)) σ H (.int (xs.length : Int)) := fun H1 e Q q =>
  h H1 e _ fun H2 e2 => ⟨p, xs, rfl, by
    have := hk.ex (e.trans e2)
    unfold Kind at this
    cases b with
    | true => exact .inr (st_of this)
    | false => exact .inl (sq_of this), q H2 e2⟩
theorem ev_ixK {σ : L2.St} {H : Hp} {ta tb : TE} {p xs b} {i : Nat} {v : V} (h : Ev ta σ H (.ref p)) (hi : Ev tb σ H (.int (i : Int))) (hk : Kind H p xs b) (hv : xs[i]? = some v) : Ev (tOp (rIx K) ta tb) σ H v := fun H1 e Q q =>
  h H1 e _ fun H2 e2 => hi H2 (e.trans e2) _ fun H3 e3 => by
    have := hk.ex ((e.trans e2).trans e3)
    unfold Kind at this
    cases b with
    | true => exact .inr (.inl ⟨p, xs, (i : Int), v, rfl, rfl, st_of this, atI_nat hv, q H3 (e2.trans e3)⟩)
    | false => exact .inl ⟨p, xs, (i : Int), v, rfl, rfl, sq_of this, atI_nat hv, q H3 (e2.trans e3)⟩
theorem equal_step (T : Top K mg) {n m : Nat} {spR : Sp} (G : FnOk P w K mg base CX0 (m + 1) T.law_equal.a T.law_equal.d ["_law_actual", "_law_due"] spR) (hG : ∀ k, n = k + 1 → spR = sp_equal k) :
    FnOk P w K mg base CX0 (m + 2) T.law_equal.a T.law_equal.d ["_law_actual", "_law_due"] (sp_equal n) := by
  refine T.law_equal.F.ok sc_law_equal (fun vs H Q E h => ?_) (fun cdv A outer s H vs Q E hr h => ?_)
  · obtain ⟨x, y, rfl, _⟩ := h
    rfl
  · obtain ⟨x, y, rfl, hd, k⟩ := h
    refine ⟨_, (pss_cons (ps_if (pt_cmpR op_isN (pv 1) pe_non (nomark _)) (pss_one (ps_ret (pe_cmpR op_isN (pv 0) pe_non (nomark _)))) pss_nil)
    (pss_cons (ps_if (pt_val (pe_callB (r := rIsi K) call_isi (by rfl) T.isinstance (by decide +kernel) (pa_cons (pv 1) (pa_cons (pe_bltn (v := .ty "bool") (by rfl) T.bool (by decide +kernel) rfl) pa_nil)))) (pss_one (ps_ret (pe_and (pe_callB (r := rIsi K) call_isi (by rfl) T.isinstance (by decide +kernel) (pa_cons (pv 0) (pa_cons (pe_bltn (v := .ty "bool") (by rfl) T.bool (by decide +kernel) rfl) pa_nil))) (pe_one (pe_cmpR op_eq (pv 0) (pv 1) (nomark _)))))) pss_nil)
    (pss_cons (ps_if (pt_val (pe_callB (r := rIsi K) call_isi (by rfl) T.isinstance (by decide +kernel) (pa_cons (pv 1) (pa_cons (pe_bltn (v := .ty "int") (by rfl) T.int (by decide +kernel) rfl) pa_nil)))) (pss_one (ps_ret (pe_and (pe_call (ok_law_is_integer T) (hr.mono (Nat.succ_le_succ (Nat.zero_le m))) (by rfl) T.law_is_integer.g T.law_is_integer.F.kp T.law_is_integer.b .nil pass0 (pa_cons (pv 0) pa_nil)) (pe_one (pe_cmpR op_eq (pv 0) (pv 1) (nomark _)))))) pss_nil)
    (pss_cons (ps_if (pt_val (pe_callB (r := rIsi K) call_isi (by rfl) T.isinstance (by decide +kernel) (pa_cons (pv 1) (pa_cons (pe_bltn (v := .ty "str") (by rfl) T.str (by decide +kernel) rfl) pa_nil)))) (pss_one (ps_ret (pe_and (pe_callB (r := rIsi K) call_isi (by rfl) T.isinstance (by decide +kernel) (pa_cons (pv 0) (pa_cons (pe_bltn (v := .ty "str") (by rfl) T.str (by decide +kernel) rfl) pa_nil))) (pe_one (pe_cmpR op_eq (pv 0) (pv 1) (nomark _)))))) pss_nil)
    (pss_cons (ps_if (PW.pt (pw_and (pt_val (pe_callB (r := rIsi K) call_isi (by rfl) T.isinstance (by decide +kernel) (pa_cons (pv 1) (pa_cons (pe_bltn (v := .ty "tuple") (by rfl) T.tuple (by decide +kernel) rfl) pa_nil)))) (pw_and1 (pt_not (pt_val (pe_callB (r := rIsi K) call_isi (by rfl) T.isinstance (by decide +kernel) (pa_cons (pv 0) (pa_cons (pe_bltn (v := .ty "tuple") (by rfl) T.tuple (by decide +kernel) rfl) pa_nil)))))))) (pss_one (ps_ret pe_bl)) pss_nil)
    (pss_cons (ps_if (PW.pt (pw_and (pt_val (pe_callB (r := rIsi K) call_isi (by rfl) T.isinstance (by decide +kernel) (pa_cons (pv 1) (pa_cons (pe_bltn (v := .ty "list") (by rfl) T.list (by decide +kernel) rfl) pa_nil)))) (pw_and1 (pt_not (pt_val (pe_callB (r := rIsi K) call_isi (by rfl) T.isinstance (by decide +kernel) (pa_cons (pv 0) (pa_cons (pe_bltn (v := .ty "list") (by rfl) T.list (by decide +kernel) rfl) pa_nil)))))))) (pss_one (ps_ret pe_bl)) pss_nil)
    (pss_cons (ps_if (pt_cmpR op_ne (pe_callB (r := rLenS K) call_len_seq (by rfl) T.len PySem.boot_len (pa_cons (pv 0) pa_nil)) (pe_callB (r := rLenS K) call_len_seq (by rfl) T.len PySem.boot_len (pa_cons (pv 1) pa_nil)) (nomark _)) (pss_one (ps_ret pe_bl)) pss_nil)
    (pss_one (ps_ret (pe_callB (r := rAll K) (cr_all rfl) (by rfl) T.all (by decide +kernel) (pa_cons (pe_lc (own := [("_law_at", 2)]) (g := gName 2) (by rfl) sc_law_equal.nd (pi_range1 rfl T.range (pa_cons (pe_callB (r := rLenS K) call_len_seq (by rfl) T.len PySem.boot_len (pa_cons (pv 1) pa_nil)) pa_nil)) (blkOk_by (N := N_law_equal) (sc := defScope s_law_equal) (by decide +kernel)) (fun _ _ _ _ _ => (pg_name (i := 2) sc_law_equal.nd rfl (by first | exact Or.inl rfl | exact Or.inr rfl))) (fun _ _ _ _ _ => pts_nil) (fun _ _ _ _ _ => (pe_call G hr (by rfl) T.law_equal.g T.law_equal.F.kp T.law_equal.b .nil pass0 (pa_cons (pe_ix (r := rIx K) ix_seq (pv 0) (pv 2) (fun _ _ => rfl)) (pa_cons (pe_ix (r := rIx K) ix_seq (pv 1) (pv 2) (fun _ _ => rfl)) pa_nil))))) pa_nil))))))))))), ?_⟩
    have isn : ∀ {z : V} {H1 : Hp} {σ' : L2.St}, z ≠ .non → σ'[1]? = some (some z) → EvT (tTest (tOp (fun x y H Q => y = .non ∧ Q (.bl (decide (x = .non))) H) (tVar 1) (tC .non))) σ' H1 false := fun hz h => et_test (ev_is (ev_isN (ev_var h)) (by rw [decide_eq_false hz]))
    have fin : ∀ {n : Nat}, Eqd n H x y → (x = y ∧ scB x = true) ∨ ∃ l, n = l + 1 ∧ ∃ p q xs ys b, x = .ref p ∧ y = .ref q ∧ xs.length ≤ 1000 ∧ Paired (fun a b => Eqd l H a b) xs ys ∧ Kind H p xs b ∧ Kind H q ys b := fun {n} h => by
      cases n with
      | zero => exact .inl h
      | succ l =>
        rcases h with h | h
        · exact .inl h
        · exact .inr ⟨l, rfl, h⟩
    rcases fin hd with ⟨rfl, hs⟩ | ⟨l, hl, p, q, xs, ys, b, rfl, rfl, hle, hp, k1, k2⟩
    · cases x with
      | int i =>
        refine q_when (isn (by intro z; cases z) rfl) (fun z => by cases z) fun _ H1 e1 => ?_
        refine q_when (b := false) (et_B (isi (t := "int") (ev_var rfl) (fun _ _ => ty_int) (by decide +kernel))) (fun z => by cases z) fun _ H2 e2 => ?_
        refine q_when (b := true) (et_B (isi (t := "int") (ev_var rfl) (fun _ _ => ty_int) (by decide +kernel))) (fun _ H3 e3 => ?_) (fun z => by cases z)
        refine s_ret (v := .bl true) (ev_is (ev_andV (a := true) (ev_call (ea_cons (ev_var rfl) ea_nil) (spv_of fun H1 e Q E q => ⟨i, rfl, q⟩)) (fun _ => ev_eqI (ev_var rfl) (ev_var rfl))) ?_) fun H4 e4 => k _ _ (((e1.trans e2).trans e3).trans e4) rfl
        rw [decide_eq_true rfl]; rfl
      | bl c =>
        refine q_when (isn (by intro z; cases z) rfl) (fun z => by cases z) fun _ H1 e1 => ?_
        refine q_when (b := true) (et_B (isi (t := "bool") (ev_var rfl) (fun _ _ => ty_bl) (by decide +kernel))) (fun _ H2 e2 => ?_) (fun z => by cases z)
        refine s_ret (v := .bl true) (ev_is (ev_andV (a := true) (isi (t := "bool") (ev_var rfl) (fun _ _ => ty_bl) (by decide +kernel)) (fun _ => ev_op (ev_var rfl) (ev_var rfl) (rv_eq rfl))) ?_) fun H4 e4 => k _ _ ((e1.trans e2).trans e4) rfl
        rw [decide_eq_true rfl]; rfl
      | str c =>
        refine q_when (isn (by intro z; cases z) rfl) (fun z => by cases z) fun _ H1 e1 => ?_
        refine q_when (b := false) (et_B (isi (t := "str") (ev_var rfl) (fun _ _ => ty_str) (by decide +kernel))) (fun z => by cases z) fun _ H2 e2 => ?_
        refine q_when (b := false) (et_B (isi (t := "str") (ev_var rfl) (fun _ _ => ty_str) (by decide +kernel))) (fun z => by cases z) fun _ H3 e3 => ?_
        refine q_when (b := true) (et_B (isi (t := "str") (ev_var rfl) (fun _ _ => ty_str) (by decide +kernel))) (fun _ H4 e4 => ?_) (fun z => by cases z)
        refine s_ret (v := .bl true) (ev_is (ev_andV (a := true) (isi (t := "str") (ev_var rfl) (fun _ _ => ty_str) (by decide +kernel)) (fun _ => ev_op (ev_var rfl) (ev_var rfl) (rv_eq rfl))) ?_) fun H5 e5 => k _ _ ((((e1.trans e2).trans e3).trans e4).trans e5) rfl
        rw [decide_eq_true rfl]; rfl
      | _ => cases hs
    · have eR := hG l hl
      subst eR
      have kt : ∀ {H1 : Hp} {nm : String} {c : Bool} {σ' : L2.St}, Ex H H1 → σ'[1]? = some (some (.ref q)) → kitB (if b = true then "tuple" else "list") nm = some c → Ev (tCB (rIsi K) (tCons (tVar 1) (tCons (tC (.ty nm)) tNil))) σ' H1 (.bl c) := fun e h hk => isi (ev_var h) (fun _ e2 => ty_kind (k2.ex (e.trans e2))) hk
      have ku : ∀ {H1 : Hp} {nm : String} {c : Bool} {σ' : L2.St}, Ex H H1 → σ'[0]? = some (some (.ref p)) → kitB (if b = true then "tuple" else "list") nm = some c → Ev (tCB (rIsi K) (tCons (tVar 0) (tCons (tC (.ty nm)) tNil))) σ' H1 (.bl c) := fun e h hk => isi (ev_var h) (fun _ e2 => ty_kind (k1.ex (e.trans e2))) hk
      refine q_when (isn (by intro z; cases z) rfl) (fun z => by cases z) fun _ H1 e1 => ?_
      refine q_when (b := false) (et_B (kt e1 rfl (by cases b <;> decide +kernel))) (fun z => by cases z) fun _ H2 e2 => ?_
      have e := e1.trans e2
      refine q_when (b := false) (et_B (kt e rfl (by cases b <;> decide +kernel))) (fun z => by cases z) fun _ H3 e3 => ?_
      have e := e.trans e3
      refine q_when (b := false) (et_B (kt e rfl (by cases b <;> decide +kernel))) (fun z => by cases z) fun _ H4 e4 => ?_
      have e := e.trans e4
      refine q_when (b := false) (et_is (et_and (et_B (kt (c := b) e rfl (by cases b <;> decide +kernel))) (fun _ => et_not (et_B (ku (c := b) e rfl (by cases b <;> decide +kernel))))) (by cases b <;> rfl)) (fun z => by cases z) fun _ H5 e5 => ?_
      have e := e.trans e5
      refine q_when (b := false) (et_is (et_and (et_B (kt (c := !b) e rfl (by cases b <;> decide +kernel))) (fun _ => et_not (et_B (ku (c := !b) e rfl (by cases b <;> decide +kernel))))) (by cases b <;> rfl)) (fun z => by cases z) fun _ H6 e6 => ?_
      have e := e.trans e6
      have hlen := paired_len hp
      refine q_when (b := false) (et_is (et_test (ev_neI (ev_lenK (ev_var rfl) (k1.ex e)) (ev_lenK (ev_var rfl) (k2.ex e)))) (by rw [decide_eq_true (by omega)]; rfl)) (fun z => by cases z) fun _ H7 e7 => ?_
      have e := e.trans e7
      refine s_ret (v := .bl true) (ev_is (ev_allC (g := fun _ => true) (ep_lcR (fun _ => true) _ (ea_cons (ev_lenK (ev_var rfl) (k2.ex e)) ea_nil) (by omega) (fun _ => rfl) (fun _ => mo_is) (fun _ => mu_is) (fun _ _ _ _ => et_yes) fun i H8 e8 hi _ => ?_)) (by simp)) fun H8 e8 => k _ _ (e.trans e8) rfl
      have hi' : i < ys.length := by omega
      obtain ⟨x1, hx1, hxy⟩ := paired_get' hp (List.getElem?_eq_getElem hi')
      exact ep_is (ev_call (ea_cons (ev_ixK (ev_var rfl) (ev_var rfl) (k1.ex (e.trans e8)) hx1) (ea_cons (ev_ixK (ev_var rfl) (ev_var rfl) (k2.ex (e.trans e8)) (List.getElem?_eq_getElem hi')) ea_nil)) (spv_of fun H9 e9 Q E q => ⟨_, _, rfl, (hxy.ex (e.trans e8)).ex e9, q⟩)) rfl
theorem ok_law_equal (T : Top K mg) : ∀ n : Nat, FnOk P w K mg base CX0 (n + 2) T.law_equal.a T.law_equal.d ["_law_actual", "_law_due"] (sp_equal n)
  | 0 => equal_step T (m := 0) ok_no (fun k h => by cases h)
  | n + 1 => equal_step T (m := n + 1) (ok_law_equal T n) (fun k h => by cases h; rfl)
end
end Ds

namespace Ds
open PySem PySem.Spec PyProof.Rows L2 Evl Dm
/-! ### the stream of digits -/
def StAt (H : Hp) (S L : Addr) : Prop := ∃ (ns : List Int) (c k : Int), H S = some (.lst [.ref L, .int c, .int k]) ∧ H L = some (.lst (ns.map V.int)) ∧ L ≠ S ∧ 0 ≤ c ∧ 0 ≤ k
theorem StAt.ex {H H' : Hp} {S L : Addr} (e : Ex H H') : StAt H S L → StAt H' S L := fun ⟨ns, c, k, a, b, d⟩ => ⟨ns, c, k, e _ _ a, e _ _ b, d⟩
theorem del_ex {H : Hp} {S : Addr} : Ex (del H S) H := fun a o h => by
  by_cases e : a = S
  · subst e; rw [del_same] at h; cases h
  · rw [del_ne e] at h; exact h
theorem ex_del {H H' : Hp} {S : Addr} (e : Ex H H') : Ex (del H S) H' := del_ex.trans e
theorem del_at {H : Hp} {S p : Addr} {o : HO} (h : H p = some o) (hp : p ≠ S) : del H S p = some o := by rw [del_ne hp]; exact h
theorem del_trans {H H1 H2 : Hp} {S : Addr} (a : Ex (del H S) H1) (b : Ex (del H1 S) H2) : Ex (del H S) H2 := fun x o h => by
  by_cases e : x = S
  · subst e; rw [del_same] at h; cases h
  · exact b x o (by rw [del_ne e]; exact a x o h)
theorem del_upd {H H1 : Hp} {S : Addr} {o : HO} (e : Ex (del H S) H1) : Ex (del H S) (upd H1 S o) := Ex.mut e del_same
/-- evaluation where the stream may turn -/
def EvS (S L : Addr) (te : TE) (σ : L2.St) (H : Hp) (P : V → Hp → Prop) : Prop := ∀ H1, Ex (del H S) H1 → StAt H1 S L → ∀ Q : VK, (∀ v H2, Ex (del H1 S) H2 → StAt H2 S L → P v H2 → Q v H2) → te σ H1 Q
def MoS (S : Addr) (P : V → Hp → Prop) : Prop := ∀ v H H', Ex (del H S) H' → P v H → P v H'
theorem mos_is {S : Addr} {v : V} : MoS S (fun x (_ : Hp) => x = v) := fun _ _ _ _ h => h
section
variable {S L : Addr} {σ : L2.St} {H H' : Hp} {ta tb te : TE} {P P1 P2 P' : V → Hp → Prop} {v : V} {D : Ends} {tz : TS} {i : Nat}
theorem es_of (h : EvP te σ (del H S) P) : EvS S L te σ H P := fun H1 e s Q q => h H1 e Q fun v H2 e2 hp => q v H2 (ex_del e2) (s.ex e2) hp
theorem es_ev (h : Ev te σ (del H S) v) : EvS S L te σ H (fun x _ => x = v) := es_of (ep_of h)
theorem EvS.imp (h : EvS S L te σ H P) (hi : ∀ v H2, P v H2 → P' v H2) : EvS S L te σ H P' := fun H1 e s Q q => h H1 e s Q fun v H2 e2 s2 hp => q v H2 e2 s2 (hi v H2 hp)
theorem es_op {r : R2} (ha : EvS S L ta σ H P1) (mo : MoS S P1) (hb : EvS S L tb σ H P2) (hr : ∀ x y H1, P1 x H1 → P2 y H1 → ∀ Q : VK, (∀ v H2, Ex H1 H2 → P v H2 → Q v H2) → r x y H1 Q) : EvS S L (tOp r ta tb) σ H P := fun H1 e s Q q =>
  ha H1 e s _ fun x H2 e2 s2 hx => hb H2 (del_trans e e2) s2 _ fun y H3 e3 s3 hy => hr x y H3 (mo _ _ _ e3 hx) hy Q fun v H4 e4 hv => q v H4 (del_trans (del_trans e2 e3) (ex_del e4)) (s3.ex e4) hv
theorem ss_asg (h : EvS S L te σ H P) (s : StAt H S L) (k : ∀ x H1, Ex (del H S) H1 → StAt H1 S L → P x H1 → D.nx (σ.set i (some x)) H1) : tAsg te (gName i) D σ H := h H del_ex s _ fun x H1 e s1 hx => k x H1 e s1 hx
theorem qs_asg (h : EvS S L te σ H P) (s : StAt H S L) (k : ∀ x H1, Ex (del H S) H1 → StAt H1 S L → P x H1 → tz D (σ.set i (some x)) H1) : tSeq (tAsg te (gName i)) tz D σ H := h H del_ex s _ fun x H1 e s1 hx => k x H1 e s1 hx
theorem ss_ret (h : EvS S L te σ H P) (s : StAt H S L) (k : ∀ x H1, Ex (del H S) H1 → StAt H1 S L → P x H1 → D.rt x H1) : tRet te D σ H := h H del_ex s _ fun x H1 e s1 hx => k x H1 e s1 hx
end
section
variable {P : Program} {w : World} {K : PySem.W.Frag} {mg : Str → Option Value} {base : Heap}
def sp_law_stream (K : PySem.W.Frag) : Sp := fun vs H Q _ => ∃ a, ∃ ns : List Int, vs = [.ref a] ∧ SqL K H a (ns.map V.int) ∧ ns.length ≤ 63 ∧ ∀ S L H', Ex H H' → H S = none → H L = none → StAt H' S L → Q (.ref S) H'
theorem ok_law_stream (T : Top K mg) : FnOk P w K mg base CX0 1 T.law_stream.a T.law_stream.d ["_law_script"] (sp_law_stream K) := by
  refine T.law_stream.F.ok sc_law_stream (fun vs H Q E h => ?_) (fun cdv A outer s H vs Q E hr h => ?_)
  · obtain ⟨a, ns, rfl, _⟩ := h
    rfl
  · obtain ⟨a, ns, rfl, ha, hl, k⟩ := h
    refine ⟨_, (pss_one (ps_ret (pe_lst (pa_cons (pe_callTy (r := rListS K) call_list_of (by rfl) T.list (by decide +kernel) (pa_cons (pv 0) pa_nil)) (pa_cons pe_int (pa_cons pe_int pa_nil)))))), ?_⟩
    refine ⟨.ref a, rfl, a, ns.map V.int, rfl, .inl ha, fun L nL => ⟨by show 3 ≤ sizeLine; decide, fun S nS => ?_⟩⟩
    have nSL : S ≠ L := fun e => by rw [e, upd_same] at nS; cases nS
    refine k S L _ ((Ex.new nL).trans (Ex.new nS)) ?_ nL ⟨ns, 0, 0, upd_same, by rw [upd_ne (Ne.symm nSL), upd_same], Ne.symm nSL, Int.le_refl 0, Int.le_refl 0⟩
    rw [upd_ne nSL] at nS
    exact nS
section
variable {σ : L2.St} {H : Hp} {ta tb : TE} {i j : Int} {b : Bool}
theorem ev_ixV {xs : List V} {v : V} (ha : EvP ta σ H (IsLV xs)) (hb : Ev tb σ H (.int i)) (hv : atI xs i = some v) : Ev (tOp (rIxL K) ta tb) σ H v := fun H1 e Q q =>
  ha H1 e _ fun x H2 e2 ⟨p, hx, hp⟩ => hb H2 (e.trans e2) _ fun H3 e3 => ⟨p, xs, i, v, hx, rfl, sq_of (e3 _ _ hp), hv, q H3 (e2.trans e3)⟩
theorem ep_refL {te : TE} {q : Addr} {xs : List V} (h : Ev te σ H (.ref q)) (hq : H q = some (.lst xs)) : EvP te σ H (IsLV xs) := fun H1 e Q k => h H1 e Q fun H2 e2 => k _ H2 e2 ⟨q, rfl, e2 _ _ (e _ _ hq)⟩
theorem ev_mod (ha : Ev ta σ H (.int i)) (hb : Ev tb σ H (.int j)) (hj : j ≠ 0) : Ev (tOp (rI (fun _ j => j ≠ 0) fun i j => .int (i.fmod j)) ta tb) σ H (.int (i.fmod j)) := ev_op ha hb (rv_I (C := fun _ j => j ≠ 0) (g := fun i j => .int (i.fmod j)) hj)
theorem ev_fdiv (ha : Ev ta σ H (.int i)) (hb : Ev tb σ H (.int j)) (hj : CDivN i j) : Ev (tOp (rI CDivN fun i j => .int (i.fdiv j)) ta tb) σ H (.int (i.fdiv j)) := ev_op ha hb (rv_I (C := CDivN) (g := fun i j => .int (i.fdiv j)) hj)
theorem ev_pow (ha : Ev ta σ H (.int i)) (hb : Ev tb σ H (.int j)) (hj : CPow i j) : Ev (tOp (rI CPow fun i j => .int (i ^ j.toNat)) ta tb) σ H (.int (i ^ j.toNat)) := ev_op ha hb (rv_I (C := CPow) (g := fun i j => .int (i ^ j.toNat)) hj)
theorem ev_abs (ha : Ev ta σ H (.int i)) : Ev (tCB (fun xs H Q => ∃ i, xs = [.int i] ∧ Q (.int (if i < 0 then -i else i)) H) (tCons ta tNil)) σ H (.int (if i < 0 then -i else i)) := ev_cb (ea_cons ha ea_nil) fun H1 _ Q q => ⟨i, rfl, q H1 (Ex.refl H1)⟩
theorem ev_int (ha : Ev ta σ H (.int i)) : Ev (tCB (fun xs H Q => (∃ i, xs = [.int i] ∧ Q (.int i) H) ∨ ∃ k, xs = [.bl k] ∧ Q (.int (if k then 1 else 0)) H) (tCons ta tNil)) σ H (.int i) := ev_cb (ea_cons ha ea_nil) fun H1 _ Q q => .inl ⟨i, rfl, q H1 (Ex.refl H1)⟩
theorem ev_intB (ha : Ev ta σ H (.bl b)) : Ev (tCB (fun xs H Q => (∃ i, xs = [.int i] ∧ Q (.int i) H) ∨ ∃ k, xs = [.bl k] ∧ Q (.int (if k then 1 else 0)) H) (tCons ta tNil)) σ H (.int (if b then 1 else 0)) := ev_cb (ea_cons ha ea_nil) fun H1 _ Q q => .inr ⟨b, rfl, q H1 (Ex.refl H1)⟩
theorem ev_min (ha : Ev ta σ H (.int i)) (hb : Ev tb σ H (.int j)) : Ev (tCB (fun xs H Q => ∃ i j, xs = [.int i, .int j] ∧ Q (.int (if j < i then j else i)) H) (tCons ta (tCons tb tNil))) σ H (.int (if j < i then j else i)) := ev_cb (ea_cons ha (ea_cons hb ea_nil)) fun H1 _ Q q => ⟨i, j, rfl, q H1 (Ex.refl H1)⟩
end
def sp_law_next : Sp := fun vs H Q _ => ∃ (S L : Addr) (m : Int), vs = [.ref S, .int m] ∧ StAt H S L ∧ 1 ≤ m ∧ m ≤ 1000000 ∧ ∀ (x : Int) H', 0 ≤ x → x < m → Ex (del H S) H' → StAt H' S L → Q (.int x) H'
theorem ok_law_next (T : Top K mg) : FnOk P w K mg base CX0 1 T.law_next.a T.law_next.d ["_law_stream_here", "_law_many"] sp_law_next := by
  refine T.law_next.F.ok sc_law_next (fun vs H Q E h => ?_) (fun cdv A outer s H vs Q E hr h => ?_)
  · obtain ⟨S, L, m, rfl, _⟩ := h
    rfl
  · obtain ⟨S, L, m, rfl, ⟨ns, c, k, hS, hL, nLS, hc, hk⟩, h1, h2, kk⟩ := h
    refine ⟨_, (pss_cut (ps_if (pt_cmpR op_eq (pe_ix (r := rIxL K) ix_list (pv 0) pe_int (fun _ _ => rfl)) pe_int (nomark _)) (pss_cons (ps_set (i := 2) sc_law_next.nd rfl (by first | exact Or.inl rfl | exact Or.inr rfl) (pe_ix (r := rIxL K) ix_list (pv 0) pe_int (fun _ _ => rfl)))
    (pss_cons (ps_set (i := 3) sc_law_next.nd rfl (by first | exact Or.inl rfl | exact Or.inr rfl) (pe_op op_add pe_int (pv 2)))
    (pss_cut (ps_if (pt_cmpR op_lt (pv 2) (pe_callB (r := rLenS K) call_len_seq (by rfl) T.len PySem.boot_len (pa_cons (pe_ix (r := rIxL K) ix_list (pv 0) pe_int (fun _ _ => rfl)) pa_nil)) (nomark _)) (pss_one (ps_set (i := 3) sc_law_next.nd rfl (by first | exact Or.inl rfl | exact Or.inr rfl) (pe_callB call_abs (by rfl) T.abs (by decide +kernel) (pa_cons (pe_ix (r := rIxL K) ix_list (pe_ix (r := rIxL K) ix_list (pv 0) pe_int (fun _ _ => rfl)) (pv 2) (fun _ _ => rfl)) pa_nil)))) pss_nil)
    (pss_cut (ps_if (pt_cmpR op_lt (pv 3) (pe_op op_pow pe_int pe_int) (nomark _)) (pss_cons (ps_set (i := 3) sc_law_next.nd rfl (by first | exact Or.inl rfl | exact Or.inr rfl) (pe_op op_modN (pe_callTy call_int1 (by rfl) T.int (by decide +kernel) (pa_cons (pe_op op_add (pe_op op_add (pe_op op_mul (pv 3) pe_int) (pe_op op_mul (pv 2) pe_int)) pe_int) pa_nil)) pe_int))
    (pss_one (ps_set (i := 3) sc_law_next.nd rfl (by first | exact Or.inl rfl | exact Or.inr rfl) (pe_op op_add (pe_op op_mul (pe_op op_modN (pe_callTy call_int1 (by rfl) T.int (by decide +kernel) (pa_cons (pe_op op_add (pe_op op_mul (pv 3) pe_int) pe_int) pa_nil)) pe_int) pe_int) (pv 3))))) pss_nil)
    (pss_cons (ps_asg (pv 3) (pg_sub (pv 0) pe_int set_list))
    (pss_one (ps_asg (pe_op op_add (pv 2) pe_int) (pg_sub (pv 0) pe_int set_list)))))))) pss_nil)
    (pss_cons (ps_set (i := 4) sc_law_next.nd rfl (by first | exact Or.inl rfl | exact Or.inr rfl) (pe_op op_modN (pe_callTy call_int1 (by rfl) T.int (by decide +kernel) (pa_cons (pe_ix (r := rIxL K) ix_list (pv 0) pe_int (fun _ _ => rfl)) pa_nil)) (pv 1)))
    (pss_cons (ps_asg (pe_op op_fdivN (pe_ix (r := rIxL K) ix_list (pv 0) pe_int (fun _ _ => rfl)) (pv 1)) (pg_sub (pv 0) pe_int set_list))
    (pss_one (ps_ret (pv 4)))))), ?_⟩
    have sv : ∀ {σ' : L2.St} {H1 : Hp} {xs : List V}, σ'[0]? = some (some (.ref S)) → H1 S = some (.lst xs) → EvP (tVar 0) σ' H1 (IsLV xs) := fun h e => ep_refL (ev_var h) e
    refine q_cut (M := fun σ' H' => ∃ a b, σ' = [some (.ref S), some (.int m), a, b, none] ∧ Ex (del H S) H' ∧ StAt H' S L) ?_ fun σ1 H1 ⟨a, b, hσ, e1, ns1, c1, k1, hS1, hL1, nLS1, hc1, hk1⟩ => ?_
    · refine s_when (et_test (ev_eqI (ev_ixV (sv rfl hS) ev_c (atI_nat (j := 1) rfl)) ev_c)) (fun _ H1 e1 => ?_) (fun _ H1 e1 => ⟨none, none, rfl, ex_del e1, StAt.ex e1 ⟨ns, c, k, hS, hL, nLS, hc, hk⟩⟩)
      have hS1 := e1 _ _ hS
      have hL1 := e1 _ _ hL
      refine q_asg (ev_ixV (sv rfl hS1) ev_c (atI_nat (j := 2) rfl)) fun H2 e2 => ?_
      refine q_asg (ev_add ev_c (ev_var rfl)) fun H3 e3 => ?_
      have e23 := e2.trans e3
      have hS3 := e23 _ _ hS1
      have hL3 := e23 _ _ hL1
      have e03 := e1.trans e23
      have c0 : ∀ {σ' : L2.St} {H1 : Hp}, Ex H3 H1 → σ'[0]? = some (some (.ref S)) → EvP (tOp (rIxL K) (tVar 0) (tC (.int 0))) σ' H1 (IsI ns) := fun e h => ep_refL (ev_ixV (sv h (e _ _ hS3)) ev_c (atI_nat (j := 0) rfl)) (e _ _ hL3)
      refine q_cut (M := fun σ' H' => ∃ d : Int, σ' = [some (.ref S), some (.int m), some (.int k), some (.int d), none] ∧ Ex H3 H' ∧ 0 ≤ d) ?_ fun σ4 H4 ⟨d, hσ, e4, hd⟩ => ?_
      · refine s_when (et_test (ev_lt (ev_var rfl) (ev_lenL (c0 (Ex.refl _) rfl)))) (fun hb H4 e4 => ?_) (fun _ H4 e4 => ⟨7 + k, rfl, e4, by omega⟩)
        have hb := of_decide_eq_true hb
        rw [List.length_map] at hb
        refine s_asg (ev_abs (ev_ixL (c0 e4 rfl) (ev_var rfl) hk hb)) fun H5 e5 => ⟨_, rfl, e4.trans e5, ?_⟩
        split <;> omega
      subst hσ
      refine q_cut (M := fun σ' H' => ∃ d : Int, σ' = [some (.ref S), some (.int m), some (.int k), some (.int d), none] ∧ Ex H4 H' ∧ 0 ≤ d) ?_ fun σ5 H5 ⟨d2, hσ, e5, hd2⟩ => ?_
      · refine s_when (et_test (ev_lt (ev_var rfl) (ev_pow ev_c ev_c (by refine ⟨by decide, by decide, by decide⟩)))) (fun hb H5 e5 => ?_) (fun _ H5 e5 => ⟨d, rfl, e5, hd⟩)
        refine q_asg (ev_mod (ev_int (ev_add (ev_add (ev_mul (ev_var rfl) ev_c (.inr ⟨by decide, by decide⟩)) (ev_mul (ev_var rfl) ev_c (.inr ⟨by decide, by decide⟩))) ev_c)) ev_c (by decide)) fun H6 e6 => ?_
        refine s_asg (ev_add (ev_mul (ev_mod (ev_int (ev_add (ev_mul (ev_var rfl) ev_c (.inr ⟨by decide, by decide⟩)) ev_c)) ev_c (by decide)) ev_c (.inr ⟨by decide, by decide⟩)) (ev_var rfl)) fun H7 e7 => ⟨_, rfl, (e5.trans e6).trans e7, ?_⟩
        have q1 := Int.fmod_nonneg_of_pos (d * 48271 + k * 69621 + 11) (show (0 : Int) < 2147483647 by decide)
        have q2 := Int.fmod_nonneg_of_pos ((d * 48271 + k * 69621 + 11).fmod 2147483647 * 16807 + 13) (show (0 : Int) < 2147483647 by decide)
        omega
      subst hσ
      have e35 := e4.trans e5
      have hS5 := e35 _ _ hS3
      have hL5 := e35 _ _ hL3
      refine q_setL (j := 1) hS5 (ev_var rfl) (ev_var rfl) ev_c (by show 1 < 3; omega) fun H6 e6 => ?_
      refine s_setL (j := 2) (l := S) (xs := [.ref L, .int d2, .int k]) upd_same (ev_add (ev_var rfl) ev_c) (ev_var rfl) ev_c (by show 2 < 3; omega) fun H7 e7 => ?_
      refine ⟨_, _, rfl, del_upd ((del_upd (ex_del ((e03.trans e35).trans e6))).trans e7), ns, d2, k + 1, upd_same, ?_, nLS, hd2, by omega⟩
      rw [upd_ne nLS]
      exact e7 _ _ (by rw [upd_ne nLS]; exact e6 _ _ hL5)
    · subst hσ
      refine q_asg (ev_mod (ev_int (ev_ixV (sv rfl hS1) ev_c (atI_nat (j := 1) rfl))) (ev_var rfl) (by omega)) fun H2 e2 => ?_
      refine q_setL (j := 1) (e2 _ _ hS1) (ev_fdiv (ev_ixV (sv rfl (e2 _ _ hS1)) ev_c (atI_nat (j := 1) rfl)) (ev_var rfl) ⟨by omega, by omega⟩) (ev_var rfl) ev_c (by show 1 < 3; omega) fun H3 e3 => ?_
      refine s_ret (ev_var rfl) fun H4 e4 => kk _ _ (Int.fmod_nonneg_of_pos _ (by omega)) (Int.fmod_lt_of_pos _ (by omega)) ((del_upd ((e1.trans e2).trans e3)).trans e4) (StAt.ex e4 ⟨ns1, c1.fdiv m, k1, upd_same, ?_, nLS1, Int.fdiv_nonneg hc1 (by omega), hk1⟩)
      rw [upd_ne nLS1]
      exact e3 _ _ (e2 _ _ hL1)
def InR (lo hi : Int) (x : V) (_ : Hp) : Prop := ∃ i, x = .int i ∧ lo ≤ i ∧ i < hi
theorem mos_R {S lo hi} : MoS S (InR lo hi) := fun _ _ _ _ h => h
theorem mo_InR {lo hi} : Mo (InR lo hi) := fun _ _ _ _ h => h
theorem es_next {S L : Addr} {σ : L2.St} {H : Hp} {ta tm : TE} {m : Int} {E : XK} (hs : Ev ta σ (del H S) (.ref S)) (hm : Ev tm σ (del H S) (.int m)) (h1 : 1 ≤ m) (h2 : m ≤ 1000000) : EvS S L (tCall sp_law_next [] E (tCons ta (tCons tm tNil))) σ H (InR 0 m) := fun H1 e s Q q =>
  hs H1 e _ fun H2 e2 => hm H2 (e.trans e2) _ fun H3 e3 => ⟨S, L, m, rfl, s.ex (e2.trans e3), h1, h2, fun x H4 h0 hx e4 s4 => q _ H4 (del_trans (ex_del (e2.trans e3)) e4) s4 ⟨x, rfl, h0, hx⟩⟩
/-- _law_rows[_law_next(stream, len(_law_rows))] -/
def sp_law_pick : Sp := fun vs H Q _ => ∃ (S L p : Addr) (xs : List V), vs = [.ref S, .ref p] ∧ StAt H S L ∧ H p = some (.lst xs) ∧ p ≠ S ∧ 0 < xs.length ∧ xs.length ≤ 1000000 ∧ ∀ (i : Nat) x H', xs[i]? = some x → Ex (del H S) H' → StAt H' S L → Q x H'
theorem ok_law_pick (T : Top K mg) : FnOk P w K mg base CX0 2 T.law_pick.a T.law_pick.d ["_law_stream_here", "_law_rows"] sp_law_pick := by
  refine T.law_pick.F.ok sc_law_pick (fun vs H Q E h => ?_) (fun cdv A outer s H vs Q E hr h => ?_)
  · obtain ⟨S, L, p, xs, rfl, _⟩ := h
    rfl
  · obtain ⟨S, L, p, xs, rfl, hs, hp, npS, h1, h2, k⟩ := h
    refine ⟨_, (pss_one (ps_ret (pe_ix (r := rIxL K) ix_list (pv 1) (pe_call (ok_law_next T) (hr.mono (by decide)) (by rfl) T.law_next.g T.law_next.F.kp T.law_next.b .nil pass0 (pa_cons (pv 0) (pa_cons (pe_callB (r := rLenS K) call_len_seq (by rfl) T.len PySem.boot_len (pa_cons (pv 1) pa_nil)) pa_nil))) (fun _ _ => rfl)))), ?_⟩
    have hdp := del_at hp npS
    refine ss_ret (S := S) (L := L) (P := fun x _ => ∃ i : Nat, xs[i]? = some x) (es_op (P1 := fun x _ => x = .ref p) (P2 := fun x H1 => InR 0 (xs.length : Int) x H1 ∧ H1 p = some (.lst xs)) (es_ev (ev_var rfl)) mos_is (fun H1 e s Q q => ?_) (fun x y H1 hx ⟨⟨i, hi, h0, hl⟩, hpp⟩ Q q => ?_)) hs fun x H1 e s1 ⟨i, hx⟩ => k i x H1 hx e s1
    · exact es_next (ev_var rfl) (ev_lenL (ep_refL (ev_var rfl) hdp)) (by omega) (by omega) H1 e s Q fun v H2 e2 s2 hv => q v H2 e2 s2 ⟨hv, e2 _ _ (del_at (e _ _ hdp) npS)⟩
    · have hi2 : i.toNat < xs.length := by omega
      refine ⟨p, xs, i, xs[i.toNat], hx, hi, sq_of hpp, ?_, q _ H1 (Ex.refl _) ⟨i.toNat, List.getElem?_eq_getElem hi2⟩⟩
      have ei : i = ((i.toNat : Nat) : Int) := by omega
      exact at_of ei (List.getElem?_eq_getElem hi2)
end
end Ds

namespace Ds
open PySem PySem.Spec PyProof.Rows L2 Evl Dm
/-! ### what is drawn -/
structure Fs (m : Nat) (ns : List Int) : Prop where
  lo : 1 ≤ ns.length
  hi : ns.length ≤ m
  rg : ∀ y ∈ ns, 1 ≤ y ∧ y ≤ 1000
  srt : ns.Pairwise (· ≤ ·)
def IsFs (m : Nat) (x : V) (H : Hp) : Prop := ∃ ns, IsI ns x H ∧ Fs m ns
theorem isI_del {ns : List Int} {x : V} {H : Hp} {S L : Addr} (s : StAt H S L) (h : IsI ns x H) : IsI ns x (del H S) := by
  obtain ⟨p, hx, hp⟩ := h
  obtain ⟨ms, c, k, hS, _⟩ := s
  refine ⟨p, hx, del_at hp fun e => ?_⟩
  subst e
  rw [hS] at hp
  have := HO.lst.inj (Option.some.inj hp)
  cases ns with
  | nil => cases this
  | cons a r => cases this
theorem isFs_del {m : Nat} {x : V} {H : Hp} {S L : Addr} (s : StAt H S L) (h : IsFs m x H) : IsFs m x (del H S) := by
  obtain ⟨ns, a, b⟩ := h
  exact ⟨ns, isI_del s a, b⟩
theorem isFs_ex {m : Nat} {x : V} {H H' : Hp} (e : Ex H H') (h : IsFs m x H) : IsFs m x H' := by
  obtain ⟨ns, a, b⟩ := h
  exact ⟨ns, a.ex e, b⟩
theorem isFs_up {m k : Nat} {x : V} {H : Hp} (hm : m ≤ k) (h : IsFs m x H) : IsFs k x H := by
  obtain ⟨ns, a, b⟩ := h
  exact ⟨ns, a, b.lo, Nat.le_trans b.hi hm, b.rg, b.srt⟩
theorem ix_le_last {ns : List Int} (h : ns.Pairwise (· ≤ ·)) : ∀ y ∈ ns, y ≤ lastI ns := fun y hy => by
  obtain ⟨i, hi, rfl⟩ := List.mem_iff_getElem.mp hy
  have h2 := ix_get (xs := ns) (i := ns.length - 1) (by omega)
  rw [List.getElem?_eq_getElem (by omega)] at h2
  have e : ((ns.length - 1 : Nat) : Int) = (ns.length : Int) - 1 := by omega
  unfold lastI
  rw [← e, ← Option.some.inj h2]
  by_cases hj : i = ns.length - 1
  · subst hj; exact Int.le_refl _
  · exact List.pairwise_iff_getElem.mp h i (ns.length - 1) hi (by omega) (by omega)
theorem fs_snoc {m : Nat} {ns : List Int} {st : Int} (F : Fs m ns) (h0 : 1 ≤ st) (h : lastI ns + st ≤ 1000) : Fs (m + 1) (ns ++ [lastI ns + st]) := by
  have hm := ix_le_last F.srt
  have h1 := F.rg (lastI ns) (by
    have e : lastI ns = ix ns ((ns.length - 1 : Nat) : Int) := by
      unfold lastI
      have := F.lo
      have e : ((ns.length - 1 : Nat) : Int) = (ns.length : Int) - 1 := by omega
      rw [e]
    rw [e]
    exact ix_mem (by have := F.lo; omega))
  refine ⟨by rw [List.length_append]; have := F.lo; omega, by rw [List.length_append, List.length_singleton]; have := F.hi; omega, fun y hy => ?_, List.pairwise_append.mpr ⟨F.srt, List.pairwise_singleton _ _, fun a ha b hb => ?_⟩⟩
  · rcases List.mem_append.mp hy with q | q
    · exact F.rg y q
    · rw [List.mem_singleton] at q; subst q; omega
  · rw [List.mem_singleton] at hb; subst hb
    have := hm a ha
    omega
theorem fs_take {m k : Nat} {ns : List Int} (F : Fs m ns) (hk : 1 ≤ k) : Fs k (ns.take k) := by
  have := F.lo
  exact ⟨by rw [List.length_take]; omega, by rw [List.length_take]; omega, fun y hy => F.rg y (List.mem_of_mem_take hy), F.srt.sublist (List.take_sublist _ _)⟩
section
variable {P : Program} {w : World} {K : PySem.W.Frag} {mg : Str → Option Value} {base : Heap}
section
variable {S L : Addr} {σ : L2.St} {H H' : Hp} {ta tb tl te tn : TE} {Pr P1 P2 P' : V → Hp → Prop} {v : V} {D : Ends} {tz tu : TS} {i : Nat} {xs : List V} {E : XK} {lo hi a b : Int} {t u : TT}
theorem ep_lstV {ta : TA} {vs : List V} (h : EvA ta σ H vs) (hl : vs.length ≤ 100000) : EvP (tLst ta) σ H (IsLV vs) := fun H1 e Q q =>
  h H1 e _ fun H2 e2 => ⟨sz_of hl, fun p np => q _ _ (e2.trans (Ex.new np)) ⟨p, rfl, upd_same⟩⟩
theorem es_pick (hs : Ev ta σ (del H S) (.ref S)) (hl : EvP tl σ (del H S) (IsLV xs)) (hne : ∀ a c k, xs ≠ [.ref a, .int c, .int k]) (h0 : 0 < xs.length) (h1 : xs.length ≤ 1000000) : EvS S L (tCall sp_law_pick [] E (tCons ta (tCons tl tNil))) σ H (fun x _ => ∃ i : Nat, xs[i]? = some x) := fun H1 e s Q q =>
  hs H1 e _ fun H2 e2 => hl H2 (e.trans e2) _ fun x H3 e3 ⟨p, hx, hp⟩ => by
    have s3 := s.ex (e2.trans e3)
    refine ⟨S, L, p, xs, by rw [hx]; rfl, s3, hp, fun ez => ?_, h0, h1, fun i x H4 hi e4 s4 => q _ H4 (del_trans (ex_del (e2.trans e3)) e4) s4 ⟨i, hi⟩⟩
    subst ez
    obtain ⟨ms, c, k, hS, _⟩ := s3
    rw [hS] at hp
    exact hne _ _ _ (HO.lst.inj (Option.some.inj hp)).symm
/-- [.. for k in range(n)] where the elements turn the stream -/
theorem es_lcR {j : Nat} {vs : List Nat} (hn : EvS S L tn σ H (InR lo hi)) (hlo : 0 ≤ lo) (hhi : hi ≤ 1000) (hw : ∀ x, wipe ((wipe σ vs).set j (some x)) vs = wipe σ vs) (he : ∀ i : Nat, EvS S L te ((wipe σ vs).set j (some (.int (i : Int)))) H (InR a b)) :
    EvS S L (tLc (iRng1 (tCons tn tNil)) (gName j) tYes te vs) σ H (fun x H => ∃ ns, IsI ns x H ∧ lo ≤ (ns.length : Int) ∧ (ns.length : Int) < hi ∧ ∀ y ∈ ns, a ≤ y ∧ y < b) := fun H1 e s Q q =>
  hn H1 e s _ fun x H2 e2 s2 ⟨n, hx, h0, h1⟩ => ⟨n, by rw [hx], by omega, by omega, fun Dl hD => by
    have hDS : Dl ≠ S := fun z => by
      obtain ⟨_, _, _, hS, _⟩ := s2
      rw [z, hS] at hD; cases hD
    have hdd : del H2 S Dl = none := by rw [del_ne hDS]; exact hD
    refine lc_range (lo := 0) (n := n.toNat) (fun i H' => Ex (del H2 S) H' ∧ StAt H' S L ∧ ∃ ns : List Int, H' Dl = some (.lst (ns.map V.int)) ∧ ns.length = i ∧ ∀ y ∈ ns, a ≤ y ∧ y < b)
      ⟨ex_del (Ex.new hD), s2.ex (Ex.new hD), [], upd_same, rfl, fun y hy => by simp at hy⟩ (fun i H' hi ⟨e', s', ns, hDl, hl, hr⟩ => ?_) (fun H' ⟨e', s', ns, hDl, hl, hr⟩ => q _ H' (del_trans e2 e') s' ⟨ns, ⟨Dl, rfl, hDl⟩, by omega, by omega, hr⟩)
    have ez := Int.zero_add (i : Int)
    rw [ez]
    refine ⟨hw _, he i H' (del_trans (del_trans e e2) e') s' _ fun y H4 e4 s4 ⟨z, hy, hz0, hz1⟩ => ?_⟩
    have hD4 : H4 Dl = some (.lst (ns.map V.int)) := e4 _ _ (del_at hDl hDS)
    refine ⟨ns.map V.int, hD4, sz_lt (by rw [List.length_map]; omega), Ex.mut (del_trans e' e4) hdd, ?_, ns ++ [z], by rw [upd_same, hy, List.map_append]; rfl, by rw [List.length_append, hl]; rfl, fun y hy => ?_⟩
    · obtain ⟨ms, c, k, hS, hL, r⟩ := s4
      obtain ⟨ms2, _, _, hS2, hL2, _⟩ := s2
      refine ⟨ms, c, k, by rw [upd_ne (Ne.symm hDS)]; exact hS, ?_, r⟩
      rw [upd_ne (fun z => by rw [z] at hL2; rw [hL2] at hD; cases hD)]
      exact hL
    · rcases List.mem_append.mp hy with q | q
      · exact hr y q
      · rw [List.mem_singleton] at q; subst q; exact ⟨hz0, hz1⟩⟩
theorem es_sorted {Φ : List Int → Prop} (hn : EvS S L te σ H (fun x H => ∃ ns, IsI ns x H ∧ Φ ns)) (hp : ∀ ns ms : List Int, ms.Perm ns → Φ ns → Φ ms) : EvS S L (tCB (rSortedI K) (tCons te tNil)) σ H (fun x H => ∃ ns, IsI ns x H ∧ Φ ns ∧ ns.Pairwise (· ≤ ·)) := fun H1 e s Q q =>
  hn H1 e s _ fun x H2 e2 s2 ⟨ns, ⟨p, hx, hp2⟩, hf⟩ => ⟨p, ns, by rw [hx], sq_of hp2, fun ms l hm hs nl => q _ _ (e2.trans (Ex.new nl)) (s2.ex (Ex.new nl)) ⟨ms, ⟨l, rfl, upd_same⟩, hp ns ms hm hf, hs⟩⟩
theorem es_tupOf {Φ : List Int → Prop} (hn : EvS S L te σ H (fun x H => ∃ ns, IsI ns x H ∧ Φ ns)) : EvS S L (tCB (rTupS K) (tCons te tNil)) σ H (fun x H => ∃ ns, IsT ns x H ∧ Φ ns) := fun H1 e s Q q =>
  hn H1 e s _ fun x H2 e2 s2 ⟨ns, ⟨p, hx, hp2⟩, hf⟩ => ⟨p, ns.map V.int, by rw [hx], .inl ⟨sq_of hp2, fun l nl => q _ _ (e2.trans (Ex.new nl)) (s2.ex (Ex.new nl)) ⟨ns, ⟨l, rfl, upd_same⟩, hf⟩⟩⟩
theorem es_add {i : Int} (h : EvS S L te σ H (InR lo hi)) (hc : Ev ta σ (del H S) (.int i)) : EvS S L (tOp (rI0 fun i j => .int (i + j)) ta te) σ H (InR (i + lo) (i + hi)) :=
  es_op (es_ev hc) mos_is h fun x y H1 hx ⟨j, hy, h0, h1⟩ Q q => ⟨i, j, hx, hy, q _ H1 (Ex.refl _) ⟨i + j, rfl, by omega, by omega⟩⟩
theorem s_whenS {j : Int} {c : Int} (h : EvS S L te σ H (InR lo hi)) (s : StAt H S L) (h1 : ∀ H1, Ex (del H S) H1 → StAt H1 S L → tu D σ H1) (h2 : ∀ H1, Ex (del H S) H1 → StAt H1 S L → D.nx σ H1) : tIfS (tTest (tOp rEq te (tC (.int c)))) tu tNext D σ H :=
  h H del_ex s _ fun x H1 e s1 ⟨i, hx, _⟩ => ⟨by rw [hx]; rfl, _, rfl, by
    show if decide (x = V.int c) = true then tu D σ H1 else tNext D σ H1
    split
    · exact h1 H1 e s1
    · exact h2 H1 e s1⟩
end
def IsMs (x : V) (H : Hp) : Prop := ∃ f st, IsM f st x H ∧ Meth f st
def sp_law_method : Sp := fun vs H Q _ => ∃ (S L : Addr), vs = [.ref S] ∧ StAt H S L ∧ ∀ x f st H', IsM f st x H' → Meth f st → Ex (del H S) H' → StAt H' S L → Q x H'
theorem ok_law_method (T : Top K mg) : FnOk P w K mg base CX0 3 T.law_method.a T.law_method.d ["_law_stream_here"] sp_law_method := by
  refine T.law_method.F.ok sc_law_method (fun vs H Q E h => ?_) (fun cdv A outer s H vs Q E hr h => ?_)
  · obtain ⟨S, L, rfl, _⟩ := h
    rfl
  · obtain ⟨S, L, rfl, hs, k⟩ := h
    refine ⟨_, (pss_cons (ps_set (i := 1) sc_law_method.nd rfl (by first | exact Or.inl rfl | exact Or.inr rfl) (pe_call (ok_law_pick T) (hr.mono (by decide)) (by rfl) T.law_pick.g T.law_pick.F.kp T.law_pick.b .nil pass0 (pa_cons (pv 0) (pa_cons (pe_lst (pa_cons pe_int (pa_cons pe_int (pa_cons pe_int (pa_cons pe_int pa_nil))))) pa_nil))))
    (pss_cons (ps_set (i := 2) sc_law_method.nd rfl (by first | exact Or.inl rfl | exact Or.inr rfl) (pe_callB (r := rSortedI K) cr_sortedI (by rfl) T.sorted (by decide +kernel) (pa_cons (pe_lc (own := [("_law_k", 4)]) (g := gName 4) (by rfl) sc_law_method.nd (pi_range1 rfl T.range (pa_cons (pe_op op_add pe_int (pe_call (ok_law_next T) (hr.mono (by decide)) (by rfl) T.law_next.g T.law_next.F.kp T.law_next.b .nil pass0 (pa_cons (pv 0) (pa_cons pe_int pa_nil)))) pa_nil)) (blkOk_by (N := N_law_method) (sc := defScope s_law_method) (by decide +kernel)) (fun _ _ _ _ _ => (pg_name (i := 4) sc_law_method.nd rfl (by first | exact Or.inl rfl | exact Or.inr rfl))) (fun _ _ _ _ _ => pts_nil) (fun _ _ _ _ _ => (pe_op op_add pe_int (pe_call (ok_law_next T) (hr.mono (by decide)) (by rfl) T.law_next.g T.law_next.F.kp T.law_next.b .nil pass0 (pa_cons (pv 0) (pa_cons (pv 1) pa_nil)))))) pa_nil)))
    (pss_cut (ps_if (pt_cmpR op_eq (pe_call (ok_law_next T) (hr.mono (by decide)) (by rfl) T.law_next.g T.law_next.F.kp T.law_next.b .nil pass0 (pa_cons (pv 0) (pa_cons pe_int pa_nil))) pe_int (nomark _)) (pss_one (ps_set (i := 2) sc_law_method.nd rfl (by first | exact Or.inl rfl | exact Or.inr rfl) (pe_lst (pa_cons (pe_op op_add pe_int (pe_call (ok_law_next T) (hr.mono (by decide)) (by rfl) T.law_next.g T.law_next.F.kp T.law_next.b .nil pass0 (pa_cons (pv 0) (pa_cons pe_int pa_nil)))) pa_nil)))) pss_nil)
    (pss_cons (ps_set (i := 3) sc_law_method.nd rfl (by first | exact Or.inl rfl | exact Or.inr rfl) (pe_op op_add pe_int (pe_call (ok_law_next T) (hr.mono (by decide)) (by rfl) T.law_next.g T.law_next.F.kp T.law_next.b .nil pass0 (pa_cons (pv 0) (pa_cons (pv 1) pa_nil)))))
    (pss_cut (ps_if (pt_cmpR op_eq (pe_call (ok_law_next T) (hr.mono (by decide)) (by rfl) T.law_next.g T.law_next.F.kp T.law_next.b .nil pass0 (pa_cons (pv 0) (pa_cons pe_int pa_nil))) pe_int (nomark _)) (pss_cons (ps_set (i := 2) sc_law_method.nd rfl (by first | exact Or.inl rfl | exact Or.inr rfl) (pe_slice (r := rSlL K) sl_list (pv 2) po_none (po_some pe_int)))
    (pss_one (ps_for PassesOwn.never rfl (pi_range1 rfl T.range (pa_cons (pe_call (ok_law_next T) (hr.mono (by decide)) (by rfl) T.law_next.g T.law_next.F.kp T.law_next.b .nil pass0 (pa_cons (pv 0) (pa_cons pe_int pa_nil))) pa_nil)) (pg_name (i := 4) sc_law_method.nd rfl (by first | exact Or.inl rfl | exact Or.inr rfl)) (pss_one (ps_set (i := 2) sc_law_method.nd rfl (by first | exact Or.inl rfl | exact Or.inr rfl) (pe_op op_cat (pv 2) (pe_op op_rep (pe_lst (pa_cons (pe_op op_add (pe_ix (r := rIxL K) ix_list (pv 2) (pe_un un_neg pe_int) (fun _ _ => rfl)) (pv 3)) pa_nil)) (pe_callTy call_int1 (by rfl) T.int (by decide +kernel) (pa_cons (pe_cmpR op_le (pe_op op_add (pe_ix (r := rIxL K) ix_list (pv 2) (pe_un un_neg pe_int) (fun _ _ => rfl)) (pv 3)) pe_int (nomark _)) pa_nil))))))))) pss_nil)
    (pss_one (ps_ret (pe_tup (pa_cons (pe_callTy (r := rTupS K) call_tuple_of (by rfl) T.tuple (by decide +kernel) (pa_cons (pv 2) pa_nil)) (pa_cons (pv 3) pa_nil)))))))))), ?_⟩
    refine qs_asg (es_pick (xs := [.int 3, .int 10, .int 60, .int 1000]) (ev_var rfl) (ep_lstV (ea_cons ev_c (ea_cons ev_c (ea_cons ev_c (ea_cons ev_c ea_nil)))) (by show 4 ≤ 100000; omega)) (fun _ _ _ z => by cases z) (by decide) (by decide)) hs fun xf H1 e1 s1 hxf => ?_
    obtain ⟨far, rfl, f1, f2⟩ : ∃ far : Int, xf = .int far ∧ 1 ≤ far ∧ far ≤ 1000 := by
      obtain ⟨i, hi⟩ := hxf
      match i, hi with
      | 0, hi => exact ⟨3, (Option.some.inj hi).symm, by decide, by decide⟩
      | 1, hi => exact ⟨10, (Option.some.inj hi).symm, by decide, by decide⟩
      | 2, hi => exact ⟨60, (Option.some.inj hi).symm, by decide, by decide⟩
      | 3, hi => exact ⟨1000, (Option.some.inj hi).symm, by decide, by decide⟩
    refine qs_asg (es_sorted (Φ := fun ns => 1 ≤ (ns.length : Int) ∧ (ns.length : Int) < 7 ∧ ∀ y ∈ ns, 1 ≤ y ∧ y < 1 + far) (es_lcR (lo := 1) (hi := 7) (a := 1) (b := 1 + far) (es_add (i := 1) (lo := 0) (hi := 6) (es_next (ev_var rfl) ev_c (by decide) (by decide)) ev_c) (by decide) (by decide) (fun _ => rfl) (fun i => es_add (i := 1) (lo := 0) (hi := far) (es_next (ev_var rfl) (ev_var rfl) (by omega) (by omega)) ev_c))
      (fun ns ms hm hf => ⟨by rw [hm.length_eq]; exact hf.1, by rw [hm.length_eq]; exact hf.2.1, fun y hy => hf.2.2 y (hm.mem_iff.mp hy)⟩)) s1 fun xl H2 e2 s2 ⟨ns, hxl, ⟨n1, n2, n3⟩, n4⟩ => ?_
    have hfs : IsFs 6 xl H2 := ⟨ns, hxl, by omega, by omega, fun y hy => by have := n3 y hy; omega, n4⟩
    have e02 := del_trans e1 e2
    refine q_cut (M := fun σ' H' => ∃ y, σ' = [some (.ref S), some (.int far), some y, none, none] ∧ Ex (del H S) H' ∧ StAt H' S L ∧ IsFs 6 y H') ?_ fun σ3 H3 ⟨y3, hσ, e3, s3, hf3⟩ => ?_
    · refine s_whenS (j := 0) (es_next (m := 3) (ev_var rfl) ev_c (by decide) (by decide)) s2 (fun H3 e3 s3 => ?_) (fun H3 e3 s3 => ⟨xl, rfl, del_trans e02 e3, s3, isFs_ex e3 (isFs_del s2 hfs)⟩)
      refine ss_asg (P := IsFs 6) (fun H4 e4 s4 Q q => ?_) s3 fun x H4 e4 s4 hx => ⟨x, rfl, del_trans (del_trans e02 e3) e4, s4, hx⟩
      refine es_add (i := 1) (lo := 0) (hi := 3) (es_next (ev_var rfl) ev_c (by decide) (by decide)) ev_c H4 e4 s4 _ fun x H5 e5 s5 ⟨z, hz, z0, z1⟩ => ⟨by show 1 ≤ sizeLine; decide, fun p np => q _ _ (e5.trans (Ex.new np)) (s5.ex (Ex.new np)) ⟨[z], ⟨p, rfl, by rw [upd_same, hz]; rfl⟩, ⟨by show 1 ≤ 1; omega, by show 1 ≤ 6; omega, fun y hy => by rw [List.mem_singleton] at hy; subst hy; omega, List.pairwise_singleton _ _⟩⟩⟩
    subst hσ
    refine qs_asg (es_add (i := 1) (lo := 0) (hi := far) (es_next (ev_var rfl) (ev_var rfl) (by omega) (by omega)) ev_c) s3 fun x4 H4 e4 s4 ⟨st, hx4, st0, st1⟩ => ?_
    subst hx4
    have hf4 := isFs_ex e4 (isFs_del s3 hf3)
    have e04 := del_trans e3 e4
    refine q_cut (M := fun σ' H' => ∃ y b, σ' = [some (.ref S), some (.int far), some y, some (.int st), b] ∧ Ex (del H S) H' ∧ StAt H' S L ∧ IsFs 6 y H') ?_ fun σ5 H5 ⟨y5, b5, hσ, e5, s5, hf5⟩ => ?_
    · refine s_whenS (j := 0) (es_next (m := 3) (ev_var rfl) ev_c (by decide) (by decide)) s4 (fun H5 e5 s5 => ?_) (fun H5 e5 s5 => ⟨y3, none, rfl, del_trans e04 e5, s5, isFs_ex e5 (isFs_del s4 hf4)⟩)
      obtain ⟨ns5, hi5, F5⟩ := isFs_ex e5 (isFs_del s4 hf4)
      have e05 := del_trans e04 e5
      refine qp_asg (P := IsFs 3) (fun H6 e6 Q q => ?_) fun y6 H6 e6 hf6 => ?_
      · obtain ⟨p, hp, hpl⟩ := hi5
        refine ⟨_, rfl, 3, rfl, p, ns5.map V.int, hp, sq_of (e6 _ _ hpl), fun t nt => q _ _ (Ex.new nt) ⟨ns5.take 3, ⟨t, rfl, ?_⟩, fs_take F5 (by decide)⟩⟩
        rw [upd_same]
        unfold cutV
        rw [HT.sIx_none, show (some (3 : Int)) = some ((3 : Nat) : Int) from rfl, HT.sIx_nat, List.length_map, List.drop_zero, Nat.sub_zero, List.map_take]
        by_cases h3 : 3 ≤ ns5.length
        · rw [Nat.min_eq_left h3]
        · rw [Nat.min_eq_right (by omega), List.take_of_length_le (by rw [List.length_map]; omega), List.take_of_length_le (by rw [List.length_map]; omega)]
      have s6 := s5.ex e6
      refine es_next (S := S) (L := L) (m := 3) (E := E0) (ev_var rfl) ev_c (by decide) (by decide) H6 del_ex s6 _ fun x7 H7 e7 s7 ⟨n, hn, n0, n3⟩ => ⟨n, by rw [hn], by omega, by omega, ?_⟩
      have hf7 := isFs_ex e7 (isFs_del s6 hf6)
      have e07 := del_trans (del_trans e05 (ex_del e6)) e7
      refine for_range (lo := 0) (n := n.toNat) (fun i σ' H' => ∃ y b, σ' = [some (.ref S), some (.int far), some y, some (.int st), b] ∧ Ex (del H S) H' ∧ StAt H' S L ∧ IsFs (3 + i) y H') ⟨y6, none, rfl, e07, s7, hf7⟩ (fun i σ8 H8 hi ⟨y8, b8, hσ, e8, s8, hf8⟩ => ?_) (fun σ8 H8 ⟨y8, b8, hσ, e8, s8, hf8⟩ => ⟨y8, b8, hσ, e8, s8, isFs_up (by omega) hf8⟩)
      subst hσ
      obtain ⟨ns8, hi8, F8⟩ := hf8
      obtain ⟨p8, hp8, hl8⟩ := hi8
      have hlo := F8.lo
      refine sp_asg (P := IsFs (3 + (i + 1))) (fun H9 e9 Q q => ?_) fun x H9 e9 hx => ⟨x, _, rfl, e8.trans e9, s8.ex e9, hx⟩
      have l9 : ∀ {H1 : Hp} {σ' : L2.St}, Ex H8 H1 → σ'[2]? = some (some y8) → EvP (tVar 2) σ' H1 (IsI ns8) := fun e h => ep_v h ⟨p8, hp8, e _ _ hl8⟩ mo_I
      have nx : ∀ {H1 : Hp}, Ex H8 H1 → Ev (tOp (rI0 fun i j => .int (i + j)) (tOp (rIxL K) (tVar 2) (tUn (rU fun i => .int (-i)) (tC (.int 1)))) (tVar 3)) [some (.ref S), some (.int far), some y8, some (.int st), some (.int (0 + (i : Int)))] H1 (.int (lastI ns8 + st)) := fun e => ev_add (ev_lastL (l9 e rfl) (ev_un ev_c ru_neg) (by omega)) (ev_var rfl)
      refine ⟨y8, rfl, nx e9 H9 (Ex.refl _) _ fun H10 e10 => ⟨by show 1 ≤ sizeLine; decide, fun p np => ?_⟩⟩
      have e11 : Ex H9 (upd H10 p (.lst [.int (lastI ns8 + st)])) := e10.trans (Ex.new np)
      refine ev_intB (ev_le (nx (e9.trans e11)) ev_c) _ (Ex.refl _) _ fun H12 e12 => ?_
      refine ⟨p, _, [.int (lastI ns8 + st)], rfl, rfl, e12 _ _ upd_same, ?_, ?_, ?_, fun r nr => ?_⟩
      · split <;> decide
      · split <;> decide
      · have hh : ((if decide (lastI ns8 + st ≤ 1000) = true then (1 : Int) else 0)).toNat ≤ 1 := by split <;> decide
        show 1 * _ ≤ sizeLine
        exact sz_of (by omega)
      have e13 := e11.trans e12
      refine ⟨p8, r, ns8.map V.int, _, hp8, rfl, (e9.trans (e13.trans (Ex.new nr))) _ _ hl8, upd_same, ?_, fun z nz => q _ _ ((e13.trans (Ex.new nr)).trans (Ex.new nz)) ?_⟩
      · have hh : ((if decide (lastI ns8 + st ≤ 1000) = true then (1 : Int) else 0)).toNat ≤ 1 := by split <;> decide
        rw [List.length_map, PyProof.Rows.lm_len_rep_flat]
        have := F8.hi
        show _ + _ * 1 ≤ _
        exact sz_of (by omega)
      · by_cases hc : lastI ns8 + st ≤ 1000
        · refine ⟨ns8 ++ [lastI ns8 + st], ⟨z, rfl, ?_⟩, fs_snoc F8 (by omega) hc⟩
          rw [upd_same, if_pos (decide_eq_true hc), List.map_append]; rfl
        · refine ⟨ns8, ⟨z, rfl, ?_⟩, F8.lo, by have := F8.hi; omega, F8.rg, F8.srt⟩
          rw [upd_same, if_neg (by rw [decide_eq_false hc]; decide)]
          show some (HO.lst (ns8.map V.int ++ [])) = _
          rw [List.append_nil]
    subst hσ
    obtain ⟨ns5, hi5, F5⟩ := hf5
    refine sp_ret (ep_tupP (eap_cons (ep_tupOf (ep_v rfl hi5 mo_I)) mo_T (eap_cons (ep_of (ev_var rfl)) mo_is eap_nil)) (mo_cons mo_T (mo_cons mo_is mo_nil)) (fun vs H1 ⟨x, r, a, _, y, r2, b, _, c⟩ => by rw [a, b, c]; show 2 ≤ 100000; omega)) ?_
    rintro x H6 e6 ⟨p, vs, hv, hp, x1, r1, q1, ⟨t, hx1, ht⟩, u, r2, q2, hu, q3⟩
    refine k x ns5 st H6 ⟨p, t, hv, by rw [hp, q1, q2, q3, hx1, hu], ht⟩ ⟨⟨F5.lo, F5.hi⟩, F5.rg, F5.srt, by omega, by omega⟩ (e5.trans e6) (s5.ex e6)
def sp_law_votes : Sp := fun vs H Q _ => ∃ (S L : Addr), vs = [.ref S, .int 3] ∧ StAt H S L ∧ ∀ x (v : List Int) H', IsT v x H' → v.length ≤ 3 → (∀ y ∈ v, 1 ≤ y ∧ y ≤ 1000000) → Ex (del H S) H' → StAt H' S L → Q x H'
theorem ok_law_votes (T : Top K mg) : FnOk P w K mg base CX0 3 T.law_votes.a T.law_votes.d ["_law_stream_here", "_law_most"] sp_law_votes := by
  refine T.law_votes.F.ok sc_law_votes (fun vs H Q E h => ?_) (fun cdv A outer s H vs Q E hr h => ?_)
  · obtain ⟨S, L, rfl, _⟩ := h
    rfl
  · obtain ⟨S, L, rfl, hs, k⟩ := h
    refine ⟨_, (pss_cons (ps_set (i := 2) sc_law_votes.nd rfl (by first | exact Or.inl rfl | exact Or.inr rfl) (pe_call (ok_law_pick T) (hr.mono (by decide)) (by rfl) T.law_pick.g T.law_pick.F.kp T.law_pick.b .nil pass0 (pa_cons (pv 0) (pa_cons (pe_lst (pa_cons pe_int (pa_cons pe_int (pa_cons pe_int (pa_cons pe_int pa_nil))))) pa_nil))))
    (pss_one (ps_ret (pe_callTy (r := rTupS K) call_tuple_of (by rfl) T.tuple (by decide +kernel) (pa_cons (pe_lc (own := [("_law_k", 3)]) (g := gName 3) (by rfl) sc_law_votes.nd (pi_range1 rfl T.range (pa_cons (pe_call (ok_law_next T) (hr.mono (by decide)) (by rfl) T.law_next.g T.law_next.F.kp T.law_next.b .nil pass0 (pa_cons (pv 0) (pa_cons (pe_op op_add (pv 1) pe_int) pa_nil))) pa_nil)) (blkOk_by (N := N_law_votes) (sc := defScope s_law_votes) (by decide +kernel)) (fun _ _ _ _ _ => (pg_name (i := 3) sc_law_votes.nd rfl (by first | exact Or.inl rfl | exact Or.inr rfl))) (fun _ _ _ _ _ => pts_nil) (fun _ _ _ _ _ => (pe_op op_add pe_int (pe_op op_mul (pe_call (ok_law_next T) (hr.mono (by decide)) (by rfl) T.law_next.g T.law_next.F.kp T.law_next.b .nil pass0 (pa_cons (pv 0) (pa_cons (pe_callB (call_min2 rfl) (by rfl) T.min (by decide +kernel) (pa_cons (pv 2) (pa_cons pe_int pa_nil))) pa_nil))) (pe_ifExp (pt_cmpR op_gt (pv 2) pe_int (nomark _)) pe_int pe_int))))) pa_nil))))), ?_⟩
    refine qs_asg (es_pick (xs := [.int 3, .int 12, .int 100, .int 1000000]) (ev_var rfl) (ep_lstV (ea_cons ev_c (ea_cons ev_c (ea_cons ev_c (ea_cons ev_c ea_nil)))) (by show 4 ≤ 100000; omega)) (fun _ _ _ z => by cases z) (by decide) (by decide)) hs fun xf H1 e1 s1 hxf => ?_
    obtain ⟨far, rfl, f1, f2⟩ : ∃ far : Int, xf = .int far ∧ 1 ≤ far ∧ (far ≤ 1000 ∨ far = 1000000) := by
      obtain ⟨i, hi⟩ := hxf
      match i, hi with
      | 0, hi => exact ⟨3, (Option.some.inj hi).symm, by decide, .inl (by decide)⟩
      | 1, hi => exact ⟨12, (Option.some.inj hi).symm, by decide, .inl (by decide)⟩
      | 2, hi => exact ⟨100, (Option.some.inj hi).symm, by decide, .inl (by decide)⟩
      | 3, hi => exact ⟨1000000, (Option.some.inj hi).symm, by decide, .inr rfl⟩
    have hmin : 1 ≤ (if (1000 : Int) < far then (1000 : Int) else far) ∧ (if (1000 : Int) < far then (1000 : Int) else far) ≤ 1000 := by split <;> omega
    have hel : ∀ i : Nat, EvS S L (tOp (rI0 fun i j => .int (i + j)) (tC (.int 1)) (tOp (rI CMul fun i j => .int (i * j)) (tCall sp_law_next [] E0 (tCons (tVar 0) (tCons (tCB (fun xs H Q => ∃ i j, xs = [.int i, .int j] ∧ Q (.int (if j < i then j else i)) H) (tCons (tVar 2) (tCons (tC (.int 1000)) tNil))) tNil)))
        (tIf (tTest (tOp (rI0 fun i j => .bl (decide (j < i))) (tVar 2) (tC (.int 1000)))) (tC (.int 999)) (tC (.int 1))))) ((wipe [some (.ref S), some (.int 3), some (.int far), none] [3]).set 3 (some (.int (i : Int)))) H1 (InR 1 1000001) := fun i => by
      refine (es_add (i := 1) (lo := 0) (hi := 1000000) (es_op (P1 := InR 0 (if (1000 : Int) < far then (1000 : Int) else far)) (P2 := fun x _ => x = .int (if decide ((1000 : Int) < far) = true then 999 else 1)) (es_next (ev_var rfl) (ev_min (ev_var rfl) ev_c) hmin.1 (by omega)) mos_R (es_of (ep_of (ev_if (et_test (ev_gt (ev_var rfl) ev_c)) (fun hb => by rw [if_pos hb]; exact ev_c) (fun hb => by rw [if_neg (by rw [hb]; decide)]; exact ev_c)))) fun x y H2 ⟨d, hx, d0, d1⟩ hy Q q => ?_) ev_c)
      refine ⟨d, _, hx, hy, .inl ⟨by omega, by omega⟩, q _ H2 (Ex.refl _) ⟨_, rfl, ?_⟩⟩
      by_cases hf : (1000 : Int) < far
      · rw [if_pos hf] at d1
        rw [decide_eq_true hf, if_pos rfl]; omega
      · rw [if_neg hf] at d1
        rw [decide_eq_false hf, if_neg (by decide)]; omega
    have hn : EvS S L (tCall sp_law_next [] E0 (tCons (tVar 0) (tCons (tOp (rI0 fun i j => .int (i + j)) (tVar 1) (tC (.int 1))) tNil))) [some (.ref S), some (.int 3), some (.int far), none] H1 (InR 0 4) := es_next (m := 4) (ev_var rfl) (ev_is (v := .int (3 + 1)) (ev_add (ev_var rfl) ev_c) rfl) (by decide) (by decide)
    refine ss_ret (es_tupOf (es_lcR (lo := 0) (hi := 4) (a := 1) (b := 1000001) (vs := [3]) (j := 3) hn (by decide) (by decide) (fun _ => rfl) hel)) s1 fun x H2 e2 s2 ⟨ns, hx, n0, n1, n2⟩ => ?_
    exact k x ns H2 hx (by omega) (fun y hy => by have := n2 y hy; omega) (del_trans e1 e2) s2
end
end Ds

/-! isinstance of a caught error that has a dict of its own -/
namespace Ds
open PySem PySem.W PySem.Spec PySem.Calls PyProof.Rows
section
variable {pg : Program} {wd : World} {Ar : Around} {Ee : Value → Shared → Prop} {sh : Shared} {Kf : Frag} {e D : Addr} {oe : Obj} {od : Option Obj}
theorem find_data {C : Addr} {nm : Str} {a g : Value} (hc : (clsIn Kf C).isSome = true) (ha : findIn Kf (.ref C) nm = some (some a)) (hg : specialIn Kf a "__get__" = some (some g)) (ht : takesIn Kf a = some true) : findObj Kf C od nm = some (.bind g a) := by
  obtain ⟨cd, hcd⟩ := Option.isSome_iff_exists.mp hc
  unfold findObj; rw [hcd, Option.bind_some, ha, Option.bind_some]; simp [hg, ht]
theorem class_of_error (T : L2.ExcC Kf D) {Q : Option Value → Shared → Prop} (Y : Kf.In sh.heap) (J : InstAt sh.heap e oe D od) (q : Q (some (.ref D)) { sh with toks := sh.toks + 1 }) : wpAny (model pg wd) Ar (getAttr? (.ref e) "__class__") Q Ee sh := by
  have hf : findObj Kf D od "__class__" = some (.bind (.builtin "getset_descriptor.__get__") (.builtin "object.__class__")) := find_data (by obtain ⟨cd, hc, _⟩ := any_some T.hd; rw [hc]; rfl) T.ha T.hn T.ht
  obtain ⟨hh, gg, dd, tt, oo⟩ := sh
  have K0 := J.type (M := model pg wd)
  have K1 := looks_findIn (M := model pg wd) Y T.hg
  have K2 := looks_findIn (M := model pg wd) Y T.hk
  have K3 := looks_find (M := model pg wd) Y J hf
  have su : Looks (model pg wd) hh (isInstance (.ref e) (.type "BaseException")) true := K0.andThen (looks_subIn Y T.hs)
  have z2 : (Value.builtin "BaseException.__getattribute__" == Value.builtin "object.__getattribute__") = false := by decide +kernel
  have z1 : (onTheHeap (Value.ref D) && Value.builtin "BaseException.__getattribute__" == Value.builtin "object.__getattribute__") = false := by rw [z2]; rfl
  unfold getAttr? getAttrBy? getAttrBy; refine wpAny_bind (wpAny_mkText (wpAny_bind (wpAny_attempt (wpAny_holding (wpAny_bind (K0.at (wpAny_bind (K1.at ?_))))))))
  show wpAny _ _ (if (onTheHeap (Value.ref D) && Value.builtin "BaseException.__getattribute__" == Value.builtin "object.__getattribute__") = true then _ else _) _ _ _; rw [z1, if_neg Bool.false_ne_true]
  unfold getAttrByItsOwn hookBefore; refine wpAny_bind ?_
  rw [if_pos (show onTheHeap (Value.ref D) = true from rfl)]; refine K2.at ?_
  refine wpAny_bind (wpAny_attempt (wpAny_holding ?_)); unfold callGetattribute
  rw [show (false && onTheHeap (Value.builtin "BaseException.__getattribute__")) = false from rfl, if_neg Bool.false_ne_true]; unfold boundAndCalled
  rw [PySem.F.excAttr_ValueError.ga.bind (.ref e)]; refine wpAny_bind (wpAny_pure ?_)
  show wpAny _ _ (call (.builtin "BaseException.__getattribute__") [.ref e, .str "__class__" tt]) _ _ _; refine wpAny_call (codeAny_call_builtin PySem.F.excAttr_ValueError.ga.plain PySem.F.entry_bexc_ga ?_)
  refine @check_slot (model pg wd) _ _ ⟨hh, gg, dd, tt + 1, oo⟩ "BaseException.__getattribute__" "BaseException" "__getattribute__" (.ref e) [.str "__class__" tt] [] _ (by decide +kernel) (by decide +kernel) su (PySem.F.args_bexc_ga (.ref e) (.str "__class__" tt)) ?_
  unfold Builtin.«object.__getattribute__»; refine wpAny_bind (wpAny_of_eq (a := ((Value.ref e : Value), [Value.str "__class__" tt])) (by first | rfl | (simp only [slotArgs]; rfl)) ?_)
  refine wpAny_bind (wpAny_pure (wpAny_bind (K0.at (wpAny_bind (K3.at ?_)))))
  show wpAny _ _ (holding [Value.builtin "object.__class__"] (call (.builtin "getset_descriptor.__get__") [.builtin "object.__class__", .ref e, .ref D]) >>= ret) _ _ _
  refine wpAny_bind (wpAny_holding (wpAny_call (class_get (s := ⟨hh, gg, dd, tt + 1, oo⟩) (ox := oe) (od := od) Y J T.hm ?_))); refine wpAny_pure ?_
  show wpAny _ _ (handedOut (.ref D)) _ _ _; rw [handedOut_of (v := .ref D) rfl]
  first
    | exact wpAny_pure (wpAny_pure q)
    | exact wpAny_pure q
    | exact wpAny_pure (wpAny_bind (wpAny_pure (wpAny_pure q)))
theorem kit_error (T : L2.ExcC Kf D) : KitX Kf (.ref e) (.ref D) (fun h => InstAt h e oe D od) where
  ty := fun _ _ _ J => J.type
  it := fun _ _ Y _ => by
    obtain ⟨cdD, hcD, _⟩ := any_some T.hd; unfold clsIn at hcD
    split at hcD
    · rename_i c' d' cd' sl' ho
      intro A' Q' E' s' k q
      unfold isType loadHead; exact wpAny_bind (wpAny_loadPart (k _ _ (Y _ _ ho)) (wpAny_pure q))
    · cases hcD
  ne := fun h tp dc its n sl Y htp => by
    obtain ⟨cdD, hcD, _⟩ := any_some T.hd
    refine Bool.eq_false_iff.mpr fun same => ?_
    have eD : D = tp := Value.ref.inj (beq_iff_eq.mp same); subst eD; unfold clsIn at hcD
    split at hcD
    · rename_i c' d' cd' sl' ho
      cases (Y _ _ ho).symm.trans htp
    · cases hcD
  ca := fun Y J k => class_of_error T Y J k
end
end Ds
namespace Ds
open PySem PySem.Spec PyProof.Rows L2 Evl Dm
/-- isinstance(problem, X): problem the error that the suite holds, of the class at D, with its dict -/
def rIsD (K : PySem.W.Frag) (D a : Addr) (cls : Value) (d : Option Addr) : List V → Hp → VK → Prop := fun xs H Q => ∃ (c : V) (cv : Value) (b : Bool) (dd : Addr) (fs : List (Str × V)), xs = [.ref a, c] ∧ cls = .ref D ∧ d = some dd ∧ H dd = some (.xd fs) ∧ (∀ u, RelV c u → u = cv) ∧ PySem.W.kitOne K (.ref D) cv = some b ∧ Q (.bl b) H
theorem call_isD {X : Cx} {a D : Addr} {oe : Obj} {cls : Value} {d : Option Addr} {pn : List (Addr × Obj)} (T : ExcC X.K D) (hz : Zc cls d oe) (hf : ∃ vs, oe.data = .fields vs) : CallR (X.suite a ((a, oe) :: pn)) (.builtin "isinstance") (rIsD X.K D a cls d) := by
  intro pins s sg Hh xs us Q I r h
  obtain ⟨c, cv, b, dd, fs, rfl, rfl, rfl, hdd, hcv, ek, q⟩ := h
  cases r with
  | cons rx rr =>
    cases rr with
    | cons rt rr =>
      cases rr
      cases rx
      have ec := hcv _ rt; subst ec
      have hget := (I.pin (a, oe) (List.mem_append.mpr (.inl List.mem_cons_self))).1
      obtain ⟨vs, hv⟩ := hf
      obtain ⟨mA, hns, _⟩ := (show ObjOk X.prog X.w Hh s.heap dd (.xd fs) from I.hok dd _ hdd)
      obtain ⟨od, ho, _⟩ := lookIn_ns hns
      have J : PySem.W.InstAt s.heap a oe D (some od) := ⟨hget, hz.1, by unfold PySem.W.notCls; rw [hv] <;> rfl, by rw [hz.2]; exact ho⟩
      exact PySem.W.kia_one (kit_error T) I.kIn J ek (fun z => nomatch z) fun tk => ⟨.bl b, Hh, I.kept (t' := tk) fun _ _ z => z, rfl, q⟩
end Ds

namespace Ds
open PySem PySem.Spec PyProof.Rows L2 Evl Dm
/-! ### what is raised and caught -/
abbrev s_np_init : Stmt := inClass (topS 3) 0
theorem sc_np_init : FnScope ["self", "why"] ["self", "why"] (defScope s_np_init) := ⟨rfl, rfl, rfl, by decide +kernel, rfl, by decide +kernel, by decide +kernel⟩
structure Npt (K : PySem.W.Frag) (mg : Str → Option Value) where
  C : Addr
  g : mg "NotPossible" = some (.ref C)
  oex : OexC K C
  noW : PySem.W.findIn K (.ref C) "why" = some none
  fI : Addr
  iC : PySem.W.findIn K (.ref C) "__init__" = some (some (.ref fI))
  tI : PySem.W.typeIn K (.ref fI) = some (.type "function")
  dI : FuncData
  FI : Fun K "__init__" "NotPossible.__init__" s_np_init fI dI
  bI : Binds K dI ["self", "why"] []
  xf : XfC K C
  exc : ExcC K C
  te : PySem.W.exmOne K (.ref C) (.ref C) = some true
  SE : Addr
  gS : mg "SeatError" = some (.ref SE)
  ks : PySem.W.kitOne K (.ref C) (.ref SE) = some true
section
variable {P : Program} {w : World} {K : PySem.W.Frag} {mg : Str → Option Value} {base : Heap}
def sp_np_init (C : Addr) : Sp := fun vs H Q _ => ∃ (a : Addr) (y : V), vs = [.ref a, y] ∧ H a = some (exo a C none) ∧ ∀ dx, H dx = none → dx ≠ a → Q .non (upd (upd H dx (exd dx [(("why" : Str), y)])) a (exo a C (some dx)))
theorem ok_np_init (N : Npt K mg) : FnOk P w K mg base CX0 1 N.fI N.dI ["self", "why"] (sp_np_init N.C) := by
  refine N.FI.ok sc_np_init (fun vs H Q E h => ?_) (fun cdv A outer s H vs Q E hr h => ?_)
  · obtain ⟨a, y, rfl, _⟩ := h
    rfl
  · obtain ⟨a, y, rfl, ha, k⟩ := h
    refine ⟨_, pss_one (ps_ost (pv 0) (pv 1)), ?_⟩
    exact ⟨y, rfl, .ref a, rfl, a, N.C, rfl, N.oex, N.noW, .inl ⟨ha, fun dx n ne => k dx n ne⟩⟩
def sp_last_parties (C : Addr) : Sp := fun vs H Q E => ∃ x y z f st v s, vs = [x, y, z] ∧ IsM f st x H ∧ Meth f st ∧ IsT v y H ∧ VotOk v ∧ IsT s z H ∧ SeaOk v s ∧
  (validB (dvs f st) v s = true → Ret (IsT (lastL (dvs f st) v s)) H Q) ∧ (validB (dvs f st) v s = false → ∀ d H', Ex H H' → H' d = some (.xd [(("why" : Str), .str "seats")]) → E (.ref C) (some d) H')
theorem ok_last_parties (T : Top K mg) (N : Npt K mg) : FnOk P w K mg base (L2.CX P w) 6 T.last_parties.a T.last_parties.d ["method", "votes", "seats"] (sp_last_parties N.C) := by
  refine T.last_parties.F.okX sc_last_parties (fun vs H Q E h => ?_) (fun cdv A outer s H vs Q E hr h => ?_)
  · obtain ⟨x, y, z, f, st, v, s, rfl, _⟩ := h
    rfl
  · obtain ⟨x, y, z, f, st, v, t, rfl, hx, M, hy, hV, hz, S, k1, k2⟩ := h
    refine ⟨_, (pss_cons (ps_expr (pe_call (ok_check_seats T) (hr.mono (by decide)) (by rfl) T.check_seats.g T.check_seats.F.kp T.check_seats.b .nil pass0 (pa_cons (pv 0) (pa_cons (pv 1) (pa_cons (pv 2) pa_nil)))))
    (pss_cons (ps_set (i := 3) sc_last_parties.nd rfl (by first | exact Or.inl rfl | exact Or.inr rfl) (pe_call (ok_divisors_to T) (hr.mono (by decide)) (by rfl) T.divisors_to.g T.divisors_to.F.kp T.divisors_to.b .nil pass0 (pa_cons (pv 0) (pa_cons (pe_op op_add (pe_glob (v := .int 8) (by rfl) T.MOST_SEATS ⟨_, rfl⟩) pe_int) pa_nil))))
    (pss_cons (ps_if (pt_not (pt_val (pe_call (ok_valid_by T) (hr.mono (by decide)) (by rfl) T.valid_by.g T.valid_by.F.kp T.valid_by.b .nil pass0 (pa_cons (pv 3) (pa_cons (pv 1) (pa_cons (pv 2) pa_nil)))))) (pss_one (ps_raise rfl (takes_of rfl rfl rfl rfl) (pmk_oex N.oex N.iC N.tI (ok_np_init N) (hr.mono (by decide)) N.bI .nil pass0 (by rfl) N.g (pa_cons pe_str pa_nil)))) pss_nil)
    (pss_one (ps_ret (pe_call (ok_last_in T) (hr.mono (by decide)) (by rfl) T.last_in.g T.last_in.F.kp T.last_in.b .nil pass0 (pa_cons (pv 3) (pa_cons (pv 1) (pa_cons (pv 2) pa_nil))))))))), ?_⟩
    refine q_drop (ev_call (ea_cons (ev_var rfl) (ea_cons (ev_var rfl) (ea_cons (ev_var rfl) ea_nil))) (spv_check_seats hx M hy hV hz S)) fun H1 e1 => ?_
    refine qp_asg (ep_divisors_to (ep_m rfl (mo_M _ _ _ e1 hx)) ev_nine M) fun dd H2 e2 hd => ?_
    have e := e1.trans e2
    refine q_when (et_not (et_B (ev_valid_by (ep_v rfl hd mo_T) (ep_v rfl (hy.ex e) mo_T) (ep_v rfl (hz.ex e) mo_T) (cd_ok dvs_len hV S)))) (fun hb H3 e3 => ?_) (fun hb H3 e3 => ?_)
    · have hb' : validB (dvs f st) v t = false := by simpa using hb
      refine ⟨by show 1 ≤ 1000; decide, fun a na => ⟨a, .str "seats", rfl, upd_same, fun dx nd ne => ⟨rfl, dx, [(("why" : Str), .str "seats")], upd_same, ?_, ?_, ?_⟩⟩⟩
      · rw [upd_ne ne, upd_same]
      · rw [upd_ne ne] at nd; exact nd
      · rw [upd_ne ne] at nd
        refine k2 hb' dx _ (fun b o hbo => ?_) upd_same
        have hb3 := (e.trans e3) b o hbo
        have n1 : b ≠ dx := ne_of_none hb3 nd
        have n2 : b ≠ a := ne_of_none hb3 na
        rw [upd_ne n1, del_ne n2, upd_ne n2, upd_ne n1, upd_ne n2]
        exact hb3
    · have hb' : validB (dvs f st) v t = true := by simpa using hb
      exact sp_ret (ep_last_in (ep_v rfl (hd.ex e3) mo_T) (ep_v rfl ((hy.ex e).ex e3) mo_T) (ep_v rfl ((hz.ex e).ex e3) mo_T) (cd_ok dvs_len hV S)) fun r H4 e4 hr4 => k1 hb' r H4 ((e.trans e3).trans e4) hr4
def ToldR (d v s : List Int) (x : V) (H : Hp) : Prop := (validB d v s = true ∧ IsT (lastL d v s) x H) ∨ (validB d v s = false ∧ IsLV [.str "seats", .bl true] x H)
def sp_law_told : Sp := fun vs H Q _ => ∃ x y z f st v s, vs = [x, y, z] ∧ IsM f st x H ∧ Meth f st ∧ IsT v y H ∧ VotOk v ∧ IsT s z H ∧ SeaOk v s ∧ Ret (ToldR (dvs f st) v s) H Q
theorem ok_law_told (T : Top K mg) (N : Npt K mg) : FnOk P w K mg base CX0 7 T.law_told.a T.law_told.d ["_law_method_here", "_law_votes_here", "_law_seats"] sp_law_told := by
  refine T.law_told.F.ok sc_law_told (fun vs H Q E h => ?_) (fun cdv A outer s H vs Q E hr h => ?_)
  · obtain ⟨x, y, z, f, st, v, s, rfl, _⟩ := h
    rfl
  · obtain ⟨x, y, z, f, st, v, t, rfl, hx, M, hy, hV, hz, S, k⟩ := h
    have hr1 : Room 6 _ := hr.mono (by decide)
    refine ⟨_, pss_one (ps_try_as (i := 3) (tb := fun W => tRet (tCallS (sp_last_parties N.C) (WE W) (tCons (tVar 0) (tCons (tVar 1) (tCons (tVar 2) tNil)))))
      (ts := fun a cls d => tRet (tLst (tCons (tXf a cls d N.C "why" (tVar 3)) (tCons (tCB (rIsD K N.C a cls d) (tCons (tVar 3) (tCons (tC (.ref N.SE)) tNil))) tNil)))) (Wout := fun _ _ _ _ => False) rfl rfl sc_law_told.nd rfl rfl ⟨rfl, by decide, Or.inl N.g⟩ takes0
      (fun W pn xe tk _ => pss_one (ps_ret (by exact (pe_callS (ok_last_parties T N) hr1 (by rfl) T.last_parties.g T.last_parties.F.kp T.last_parties.b (fun σ => passAt tk σ) (by exact (pa_cons (pv 0) (pa_cons (pv 1) (pa_cons (pv 2) pa_nil))))))))
      (fun a oe cls d pn hz hf => pss_one (ps_ret (pe_lst (pa_cons (pe_xf N.xf N.noW hz hf (pv 3)) (pa_cons (pe_callB (r := rIsD K N.C a cls d) (call_isD N.exc hz hf) (by rfl) T.isinstance (by decide +kernel) (pa_cons (pv 3) (pa_cons (pe_glob (v := .ref N.SE) (by rfl) N.gS rfl) pa_nil))) pa_nil)))))), ?_⟩
    refine ⟨x, rfl, y, rfl, z, rfl, x, y, z, f, st, v, t, rfl, hx, M, hy, hV, hz, S, fun hb r H1 e1 hr1 => k r H1 e1 (.inl ⟨hb, hr1⟩), fun hb d H1 e1 hd => ⟨true, N.te, fun _ a _ => ?_, fun q => by cases q⟩⟩
    refine ⟨.ref a, rfl, rfl, rfl, d, _, .str "seats", rfl, hd, by simp [List.lookup], .ref a, rfl, .ref N.SE, .ref N.SE, true, d, _, rfl, rfl, rfl, hd, fun u hu => hu, N.ks, by show 2 ≤ sizeLine; decide, fun p np => ?_⟩
    exact k _ _ (e1.trans (Ex.new np)) (.inr ⟨hb, p, rfl, upd_same⟩)
end
end Ds

namespace Ds
open PySem PySem.Spec PyProof.Rows L2 Evl Dm
/-! ### rows as data -/
def rowD (r : List Int) : PyData := .tuple (r.map PyData.int)
theorem lay_ints : ∀ r : List Int, PyData.canLayAll0 (r.map PyData.int) = true
  | [] => by rw [List.map_nil, PyData.canLayAll0]
  | x :: r => by rw [List.map_cons, PyData.canLayAll0, lay_ints r, PyData.canLay0]; rfl
theorem depth_ints : ∀ r : List Int, PyData.depthAll (r.map PyData.int) = 0
  | [] => by rw [List.map_nil, PyData.depthAll]
  | x :: r => by rw [List.map_cons, PyData.depthAll, depth_ints r, PyData.depth]; rfl
theorem lay_rows : ∀ rs : List (List Int), PyData.canLayAll0 (rs.map rowD) = true
  | [] => by rw [List.map_nil, PyData.canLayAll0]
  | r :: rs => by rw [List.map_cons, PyData.canLayAll0, lay_rows rs]; unfold rowD; rw [PyData.canLay0, lay_ints]; rfl
theorem depth_rows : ∀ rs : List (List Int), PyData.depthAll (rs.map rowD) ≤ 1
  | [] => by rw [List.map_nil, PyData.depthAll]; exact Nat.zero_le _
  | r :: rs => by
    rw [List.map_cons, PyData.depthAll]; have h := depth_rows rs
    unfold rowD at *
    rw [PyData.depth, depth_ints]
    omega
theorem shaped_row (r : List Int) : SeqAt.shaped (rowD r) = true := by
  unfold SeqAt.shaped rowD
  rw [PyData.canLay0, lay_ints, PyData.depth, depth_ints]; rfl
theorem shaped_rows (rs : List (List Int)) : SeqAt.shaped (.list (rs.map rowD)) = true := by
  unfold SeqAt.shaped
  have := depth_rows rs
  rw [PyData.canLay0, lay_rows, PyData.depth, decide_eq_true (by omega)]; rfl
theorem eqv_ints : ∀ a b : List Int, PyData.eqvAll (a.map PyData.int) (b.map PyData.int) = decide (a = b)
  | [], [] => by rw [List.map_nil, PyData.eqvAll]; rfl
  | x :: a, [] => by rw [List.map_cons, List.map_nil, PyData.eqvAll]; rfl
  | [], y :: b => by rw [List.map_cons, List.map_nil, PyData.eqvAll]; rfl
  | x :: a, y :: b => by
    rw [List.map_cons, List.map_cons, PyData.eqvAll, eqv_ints a b, PyData.eqv, Bool.eq_iff_iff, Bool.and_eq_true, beq_iff_eq, decide_eq_true_eq, decide_eq_true_eq]
    exact ⟨fun ⟨h1, h2⟩ => by rw [h1, h2], fun h => List.cons.inj h⟩
theorem eqv_row (a b : List Int) : PyData.eqv (rowD a) (rowD b) = decide (a = b) := by
  unfold rowD
  rw [PyData.eqv, eqv_ints]
theorem any_row (r : List Int) (rs : List (List Int)) : ((rs.map rowD).any fun z => PyData.eqv z (rowD r)) = decide (r ∈ rs) := by
  rw [List.any_map, Bool.eq_iff_iff, decide_eq_true_eq, List.any_eq_true]
  constructor
  · rintro ⟨a, ha, e⟩
    have : a = r := by simpa [eqv_row] using e
    rw [← this]; exact ha
  · intro h
    exact ⟨r, h, by simp [eqv_row]⟩
section
variable {K : PySem.W.Frag} {σ : L2.St} {H H' : Hp} {ta tb te tx : TE} {x y v : V} {r : List Int} {rs ms : List (List Int)} {P : V → Hp → Prop} {D : Ends} {tz : TS}
theorem dp_ints : ∀ r : List Int, DpAll K H (r.map V.int) (r.map PyData.int)
  | [] => .nil
  | x :: r => .cons (.int x) (dp_ints r)
theorem dp_row (h : IsT r x H) : Dp K H x (rowD r) := by
  obtain ⟨p, rfl, hp⟩ := h
  exact .tup (SqT.of hp) (dp_ints r)
theorem dp_rowsA : ∀ {xs : List V} {rs : List (List Int)}, Rows H xs rs → DpAll K H xs (rs.map rowD)
  | _, _, .nil => .nil
  | _, _, .cons h t => .cons (dp_row h) (dp_rowsA t)
theorem dp_rows (h : IsR rs x H) : Dp K H x (.list (rs.map rowD)) := by
  obtain ⟨p, xs, rfl, hp, hr⟩ := h
  exact .lst (SqL.of hp) (dp_rowsA hr)
theorem ev_inR (ha : EvP ta σ H (IsT r)) (hb : EvP tb σ H (IsR rs)) : Ev (tOp (rInD K) ta tb) σ H (.bl (decide (r ∈ rs))) := fun H1 e Q q =>
  ha H1 e _ fun x H2 e2 hx => hb H2 (e.trans e2) _ fun y H3 e3 hy => ⟨rowD r, rs.map rowD, dp_row (hx.ex e3), dp_rows hy, shaped_row r, shaped_rows rs, by
    have e0 := any_row r rs
    rw [e0]; exact q H3 (e2.trans e3)⟩
theorem ev_niR (ha : EvP ta σ H (IsT r)) (hb : EvP tb σ H (IsR rs)) : Ev (tOp (rNotInD K) ta tb) σ H (.bl (!decide (r ∈ rs))) := fun H1 e Q q =>
  ha H1 e _ fun x H2 e2 hx => hb H2 (e.trans e2) _ fun y H3 e3 hy => ⟨rowD r, rs.map rowD, dp_row (hx.ex e3), dp_rows hy, shaped_row r, shaped_rows rs, by
    have e0 := any_row r rs
    rw [e0]; exact q H3 (e2.trans e3)⟩
/-- two lists of the same rows: != is False -/
theorem ev_neR (ha : EvP ta σ H (IsR rs)) (hb : EvP tb σ H (IsR rs)) : Ev (tOp (rNeD K) ta tb) σ H (.bl false) := fun H1 e Q q =>
  ha H1 e _ fun x H2 e2 hx => hb H2 (e.trans e2) _ fun y H3 e3 hy => ⟨.list (rs.map rowD), .list (rs.map rowD), dp_rows (hx.ex e3), dp_rows hy, shaped_rows rs, shaped_rows rs, by
    have e0 : PyData.eqv (.list (rs.map rowD)) (.list (rs.map rowD)) = true := SeqAt.eqv_refl _ (by rw [PyData.canLay0]; exact lay_rows rs)
    rw [e0]; exact q H3 (e2.trans e3)⟩
end
/-! ### sorted rows -/
def rSortUE (K : PySem.W.Frag) : List V → Hp → VK → Prop := fun vs H Q => ∃ (d : Nat) (B : Int), 1 ≤ d ∧ rSortU K d B vs H Q
theorem cr_sortUE {X : Cx} : CallR X (.builtin "sorted") (rSortUE X.K) := by
  intro pins s sg Hh vs us Q I rr hh
  obtain ⟨d, B, hd, q⟩ := hh
  exact cr_sortT hd pins s sg Hh vs us Q I rr q
theorem code_inj {B : Int} : ∀ {a b : List Int}, a.length = b.length → TS.Bd B a → TS.Bd B b → TS.code B a = TS.code B b → a = b
  | [], [], _, _, _, _ => rfl
  | [], _ :: _, h, _, _, _ => by simp at h
  | _ :: _, [], h, _, _, _ => by simp at h
  | x :: a, y :: b, hl, ha, hb, he => by
    have hl' : a.length = b.length := by simpa using hl
    have exy : x = y := by
      rcases Int.lt_trichotomy x y with h | h | h
      · have := TS.code_lt hl' ha.tail hb.tail h; omega
      · exact h
      · have := TS.code_lt hl'.symm hb.tail ha.tail h; omega
    subst exy
    have : TS.code B a = TS.code B b := by
      have q : x * B ^ a.length + TS.code B a = x * B ^ b.length + TS.code B b := he
      rw [hl'] at q
      omega
    rw [code_inj hl' ha.tail hb.tail this]
theorem paired_perm {α β : Type} {R : α → β → Prop} {xs ys : List α} (h : ys.Perm xs) : ∀ {rs : List β}, Paired R xs rs → ∃ ms, Paired R ys ms ∧ ms.Perm rs := by
  induction h with
  | nil => intro rs p; exact ⟨rs, p, .refl _⟩
  | cons x _ ih =>
    intro rs p
    cases p with
    | cons r t =>
      obtain ⟨ms, a, b⟩ := ih t
      exact ⟨_ :: ms, .cons r a, b.cons _⟩
  | swap x y l =>
    intro rs p
    cases p with
    | cons r t =>
      cases t with
      | cons r2 t2 => exact ⟨_, .cons r2 (.cons r t2), .swap _ _ _⟩
  | trans _ _ ih1 ih2 =>
    intro rs p
    obtain ⟨ms, a, b⟩ := ih2 p
    obtain ⟨ns, c, d⟩ := ih1 a
    exact ⟨ns, c, d.trans b⟩
theorem pairwise_of_paired {α β : Type} {R : α → β → Prop} {S : α → α → Prop} {T : β → β → Prop} (h : ∀ a b x y, R a x → R b y → S a b → T x y) : ∀ {xs : List α} {ms : List β}, Paired R xs ms → xs.Pairwise S → ms.Pairwise T
  | _, _, .nil, _ => .nil
  | _, _, .cons r t, p => by
    cases p with
    | cons hp hr =>
      refine .cons (fun y hy => ?_) (pairwise_of_paired h t hr)
      obtain ⟨i, hi⟩ := List.getElem?_of_mem hy
      obtain ⟨x, hx, rx⟩ := paired_get' t hi
      exact h _ _ _ _ r rx (hp x (List.mem_of_getElem? hx))
section
variable {K : PySem.W.Frag} {σ : L2.St} {H H' : Hp} {te : TE} {rs : List (List Int)}
theorem ep_sortR {d : Nat} {B : Int} (h : EvP te σ H (IsR rs)) (hd : 1 ≤ d) (hl : rs.length < 64) (hr : ∀ r ∈ rs, r.length = d ∧ TS.Bd B r) : EvP (tCB (rSortUE K) (tCons te tNil)) σ H (fun x H => ∃ ms, IsR ms x H ∧ ms.Perm rs ∧ ms.Pairwise fun a b => TS.code B a ≤ TS.code B b) := fun H1 e Q q =>
  h H1 e _ fun x H2 e2 ⟨p, xs, hx, hp, hrs⟩ => ⟨d, B, hd, p, xs, by rw [hx], sq_of hp, by rw [paired_len hrs]; exact hl, fun x hxm => by
    obtain ⟨i, hi⟩ := List.getElem?_of_mem hxm
    obtain ⟨r, h1, t, h2, h3⟩ := paired_get hrs hi
    have := hr r (mem_of_get h1)
    exact ⟨r, ⟨t, h2, st_of h3⟩, this.1, this.2⟩, fun ys l hy hs nl => by
    obtain ⟨ms, h1, h2⟩ := paired_perm hy hrs
    refine q _ _ (e2.trans (Ex.new nl)) ⟨ms, ⟨l, ys, rfl, upd_same, Rows.ex (Ex.new nl) h1⟩, h2, ?_⟩
    refine pairwise_of_paired (fun a b x y ⟨t, ea, ha⟩ ⟨u, eb, hb⟩ hc => hc x y ⟨t, ea, st_of ha⟩ ⟨u, eb, st_of hb⟩) h1 hs⟩
theorem sorted_same {d : Nat} {B : Int} {ms ns : List (List Int)} (h : ms.Perm ns) (hm : ∀ r ∈ ms, r.length = d ∧ TS.Bd B r) (h1 : ms.Pairwise fun a b => TS.code B a ≤ TS.code B b) (h2 : ns.Pairwise fun a b => TS.code B a ≤ TS.code B b) : ms = ns :=
  h.eq_of_pairwise (fun a b ha hb x y => by
    have ha' := hm a ha
    have hb' := hm b (h.mem_iff.mpr hb)
    exact code_inj (by rw [ha'.1, hb'.1]) ha'.2 hb'.2 (Int.le_antisymm x y)) h1 h2
theorem ep_sortI {ns : List Int} (h : EvP te σ H (IsI ns)) : EvP (tCB (rSortedI K) (tCons te tNil)) σ H (fun x H => ∃ ms : List Int, IsI ms x H ∧ ms.Perm ns ∧ ms.Pairwise (· ≤ ·)) := fun H1 e Q q =>
  h H1 e _ fun x H2 e2 ⟨p, hx, hp⟩ => ⟨p, ns, by rw [hx], sq_of hp, fun ms l hm hs nl => q _ _ (e2.trans (Ex.new nl)) ⟨ms, ⟨l, rfl, upd_same⟩, hm, hs⟩⟩
end
/-! ### the dict of the last ones -/
def keyOf (g : List Int) : List Key := g.map Sum.inl
theorem keyOf_inj : ∀ {a b : List Int}, keyOf a = keyOf b → a = b
  | [], [], _ => rfl
  | [], _ :: _, h => by cases h
  | _ :: _, [], h => by cases h
  | x :: a, y :: b, h => by
    obtain ⟨h1, h2⟩ := List.cons.inj (show (Sum.inl x : Key) :: keyOf a = Sum.inl y :: keyOf b from h)
    rw [Sum.inl.inj h1, keyOf_inj h2]
theorem keyOf_V (g : List Int) : (keyOf g).map kV = g.map V.int := by
  unfold keyOf
  rw [List.map_map]; rfl
/-- the dict at q holds for each g the list f g, where it is not empty -/
def DictOk (kvs : List (List Key × V)) (f : List Int → List Int) (H : Hp) : Prop := ∀ g : List Int, (valV kvs (keyOf g) = none → f g = []) ∧ ∀ x, valV kvs (keyOf g) = some x → IsI (f g) x H ∧ f g ≠ []
theorem DictOk.ex {kvs f} {H H' : Hp} (e : Ex H H') (h : DictOk kvs f H) : DictOk kvs f H' := fun g => ⟨(h g).1, fun x hx => ⟨((h g).2 x hx).1.ex e, ((h g).2 x hx).2⟩⟩
theorem dictOk_nil {H : Hp} : DictOk [] (fun _ => []) H := fun g => ⟨fun _ => rfl, fun x hx => by cases hx⟩
theorem dictOk_fun {kvs f f'} {H : Hp} (h : DictOk kvs f H) (e : ∀ g, f g = f' g) : DictOk kvs f' H := by
  have : f = f' := funext e
  rw [← this]; exact h
theorem dictOk_put {kvs f f'} {H : Hp} {g : List Int} {y : V} (h : DictOk kvs f H) (hy : IsI (f' g) y H) (hne : f' g ≠ []) (ho : ∀ g', g' ≠ g → f' g' = f g') : DictOk (putK kvs (keyOf g) y) f' H := fun g' => by
  rw [valV_put]
  by_cases e : keyOf g' = keyOf g
  · have := keyOf_inj e
    subst this
    rw [if_pos rfl]
    exact ⟨fun z => (by cases z), fun x hx => (by cases hx; exact ⟨hy, hne⟩)⟩
  · rw [if_neg e, ho g' (fun z => e (by rw [z]))]
    exact h g'
/-- a store into another thing -/
theorem isI_upd {ns : List Int} {x : V} {H : Hp} {q : Addr} {o : HO} (h : IsI ns x H) (hq : ∀ p, H p = some (.lst (ns.map V.int)) → p ≠ q) : IsI ns x (upd H q o) := by
  obtain ⟨p, hx, hp⟩ := h
  exact ⟨p, hx, by rw [upd_ne (hq p hp)]; exact hp⟩
theorem dictOk_upd {kvs f} {H : Hp} {q : Addr} {o : HO} (h : DictOk kvs f H) (hq : ∀ (ns : List Int) p, ns ≠ [] → H p = some (.lst (ns.map V.int)) → p ≠ q) : DictOk kvs f (upd H q o) := fun g =>
  ⟨(h g).1, fun x hx => ⟨isI_upd ((h g).2 x hx).1 (fun p hp => hq _ p ((h g).2 x hx).2 hp), ((h g).2 x hx).2⟩⟩
theorem m2_of {X : Cx} {o : Expr} {m : Str} {apos cpos : Pos} {e f : Expr} (h1 : attributeBase o m X.env (eval o X.env) = eval o X.env) (h2 : ((backTo cpos (starEach [e, f] X.env)).all (fun x => !x.1) && (backToKw cpos (keywordEach [] X.env)).all (fun x => x.1.isSome) && decide (([e, f] : List Expr).length + ([] : List Keyword).length + (if ([] : List Keyword).isEmpty then 0 else 1) < 30)) = true) (h3 : (apos.endLine == cpos.line) = true)
    (h4 : backTo cpos (starEach [e, f] X.env) = [(false, eval e X.env), (false, eval f X.env)]) : M2 X o m apos e f cpos := ⟨h1, h2, h3, h4⟩
theorem hu2 {A : Around} {k : Nat} (hr : Room k A) : A.units + 65 < cLine := by
  have := hr.un
  omega
section
variable {K : PySem.W.Frag} {σ : L2.St} {H H' : Hp} {td ty tx : TE} {q : Addr} {kvs : List (List Key × V)} {f : List Int → List Int} {g : List Int}
/-- lasts.get(g, []) -/
theorem ep_dget (hd : Ev td σ H (.ref q)) (hq : H q = some (.dT kvs)) (hy : EvP ty σ H (IsT g)) (hf : DictOk kvs f H) : EvP (tDGet2 td ty (tLst tNil)) σ H (IsI (f g)) := fun H1 e Q k =>
  hd H1 e _ fun H2 e2 => ⟨q, rfl, .inr ⟨kvs, .inl (e2 _ _ (e _ _ hq))⟩, hy H2 (e.trans e2) _ fun y H3 e3 ⟨p, hy, hp⟩ => ⟨Nat.zero_le _, fun l nl => by
    have e4 : Ex H3 (upd H3 l (.lst [])) := Ex.new nl
    have e04 : Ex H (upd H3 l (.lst [])) := ((e.trans e2).trans e3).trans e4
    refine ⟨valV kvs (keyOf g), .inr ⟨kvs, keyOf g, p, .inl (e04 _ _ hq), hy, by rw [keyOf_V]; exact e4 _ _ hp, rfl⟩, ?_⟩
    cases hv : valV kvs (keyOf g) with
    | none => exact k _ _ ((e2.trans e3).trans e4) ⟨l, rfl, by rw [(hf g).1 hv, upd_same]; rfl⟩
    | some x => exact k _ _ ((e2.trans e3).trans e4) (((hf g).2 x hv).1.ex e04)⟩⟩
/-- xs + [..] of lists of ints -/
theorem ep_catL {ta tb : TE} {ns ms : List Int} (ha : EvP ta σ H (IsI ns)) (hb : EvP tb σ H (IsI ms)) (hl : ns.length + ms.length ≤ 100000) : EvP (tOp rCat ta tb) σ H (IsI (ns ++ ms)) := fun H1 e Q k =>
  ha H1 e _ fun x H2 e2 ⟨p, hx, hp⟩ => hb H2 (e.trans e2) _ fun y H3 e3 ⟨r, hy, hr⟩ => ⟨p, r, ns.map V.int, ms.map V.int, hx, hy, e3 _ _ hp, hr, by rw [List.length_map, List.length_map]; exact sz_of hl, fun t nt => k _ _ ((e2.trans e3).trans (Ex.new nt)) ⟨t, rfl, by rw [upd_same, List.map_append]⟩⟩
theorem ep_lst1 {te : TE} {i : Int} (h : Ev te σ H (.int i)) : EvP (tLst (tCons te tNil)) σ H (IsI [i]) := fun H1 e Q k =>
  h H1 e _ fun H2 e2 => ⟨by show 1 ≤ sizeLine; decide, fun p np => k _ _ (e2.trans (Ex.new np)) ⟨p, rfl, upd_same⟩⟩
end
end Ds

namespace Ds
open PySem PySem.Spec PyProof.Rows L2 Evl Dm
/-! ### the turns of the two inner loops -/
theorem pairs_snoc {d v : List Int} {rows : List (List Int)} {j : Nat} {s : List Int} (h : rows[j]? = some s) : pairsG d v (rows.take (j + 1)) = pairsG d v (rows.take j) ++ (nextL d v s).map fun p => (s, p) := by
  unfold pairsG
  rw [List.take_add_one, h, List.flatMap_append]
  simp
theorem later_snoc {ps : List (List Int × Int)} {x : List Int × Int} : laterOf (ps ++ [x]) = addG (laterOf ps) (gv x) := by
  unfold laterOf
  rw [List.map_append, List.foldl_append]; rfl
theorem lasts_snoc {ps : List (List Int × Int)} {x : List Int × Int} {g : List Int} : lastsOf (ps ++ [x]) g = lastsOf ps g ++ (if gv x = g then [x.2] else []) := by
  unfold lastsOf
  rw [List.filter_append, List.map_append, List.filter_cons]
  by_cases h : gv x = g
  · rw [if_pos h, if_pos (decide_eq_true h)]; rfl
  · rw [if_neg h, if_neg (by rw [decide_eq_false h]; decide)]; rfl
theorem map_snoc {nx : List Int} {k : Nat} {p : Int} {s : List Int} (h : nx[k]? = some p) : (nx.take (k + 1)).map (fun p => (s, p)) = (nx.take k).map (fun p => (s, p)) ++ [(s, p)] := by
  rw [List.take_add_one, h, List.map_append]; rfl
def newR (l : List (List Int)) (g : List Int) : List (List Int) := if g ∈ l then [] else [g]
theorem newR_le {l : List (List Int)} {g : List Int} : (newR l g).length ≤ 1 := by
  unfold newR
  split <;> simp
theorem addG_new {l : List (List Int)} {g : List Int} : addG l g = l ++ newR l g := by
  unfold addG newR
  by_cases h : g ∈ l
  · rw [if_pos h, if_pos h, List.append_nil]
  · rw [if_neg h, if_neg h]
def lastF (d v : List Int) : Nat → List Int → List Int
  | 0 => fun _ => []
  | i + 1 => lastsOf (pairsG d v (bfs d v i))
theorem len_bfs {d v : List Int} (D : Div d) (hV : Vot v) (h4 : v.length ≤ 4) {k : Nat} (hk : k ≤ 5) : (bfs d v k).length ≤ 1296 := by
  have h := (bfs_perm D hV (k := k) (by omega)).length_eq
  have h2 := len_allSeats (n := v.length) (h := (k : Int)) h4 (by omega) (by omega)
  have h3 := List.length_filter_le (validB d v) (allSeats v.length (k : Int))
  omega
theorem nextL_le {d v s : List Int} : (nextL d v s).length ≤ v.length := toI_len
theorem len_lasts {ps : List (List Int × Int)} {g : List Int} : (lastsOf ps g).length ≤ ps.length := by
  unfold lastsOf
  rw [List.length_map]
  exact List.length_filter_le _ _
section
variable {K : PySem.W.Frag} {σ : L2.St} {H H' : Hp} {ta tb tc td te tf tl tv tx ty : TE} {t : TT} {P Q' : V → Hp → Prop} {D : Ends} {tz tu : TS} {ns ms : List Int} {q : Addr} {kvs : List (List Key × V)} {g : List Int} {b : Bool} {j : Nat} {S L : Addr} {E : XK}
/-- for x in a list of ints that a call has made -/
theorem s_forI (h : EvP tl σ H (IsI ns)) (Pv : Addr → Nat → L2.St → Hp → Prop) (h0 : ∀ p H1, Ex H H1 → H1 p = some (.lst (ns.map V.int)) → Pv p 0 σ H1) (hl : ∀ p i σ' H', Pv p i σ' H' → H' p = some (.lst (ns.map V.int)))
    (hs : ∀ p i y σ' H', ns[i]? = some y → Pv p i σ' H' → tu { D with nx := Pv p (i + 1), ct := Pv p (i + 1), bk := D.nx } (σ'.set j (some (.int y))) H') (hd : ∀ p σ' H', Pv p ns.length σ' H' → D.nx σ' H') : tFor (iList K tl) (gName j) tu D σ H :=
  h H (Ex.refl H) _ fun x H1 e1 ⟨p, hx, hp⟩ => ⟨p, hx, ⟨_, sq_of hp⟩, for_list (xs := ns.map V.int) (Pv p) (h0 p H1 e1 hp) (fun i σ' H' _ hP => sq_of (hl p i σ' H' hP)) (fun i y σ' H' hy hP => by
    rw [List.getElem?_map] at hy
    cases hn : ns[i]? with
    | none => rw [hn] at hy; cases hy
    | some z =>
      rw [hn] at hy
      have hy' : V.int z = y := Option.some.inj hy
      rw [← hy']
      exact hs p i z σ' H' hn hP) (fun σ' H' hP => hd p σ' H' (by rw [List.length_map] at hP; exact hP))⟩
/-- lasts[g] = xs -/
theorem q_dput (mo : Mo P) (hv : EvP tv σ H P) (hd : Ev td σ H (.ref q)) (hq : H q = some (.dT kvs)) (hy : EvP ty σ H (IsT g)) (hl : kvs.length < 100000) (k : ∀ x H1, Ex H H1 → P x H1 → tz D σ (upd H1 q (.dT (putK kvs (keyOf g) x)))) : tSeq (sDPut td ty tv) tz D σ H :=
  hv H (Ex.refl H) _ fun x H1 e1 hx => hd H1 e1 _ fun H2 e2 => hy H2 (e1.trans e2) _ fun y H3 e3 ⟨p, hy, hp⟩ => ⟨q, _, rfl, .inr ⟨kvs, keyOf g, p, ((e1.trans e2).trans e3) _ _ hq, hy, by rw [keyOf_V]; exact hp, sz_lt hl, rfl⟩, k x H3 ((e1.trans e2).trans e3) (mo _ _ _ (e2.trans e3) hx)⟩
theorem ep_if (h : EvT t σ H b) (h1 : b = true → EvP ta σ H P) (h2 : b = false → EvP tb σ H P) : EvP (tIf t ta tb) σ H P := fun H1 e Q q => h H1 e _ fun H2 e2 => by
  cases b with
  | true => exact h1 rfl H2 (e.trans e2) Q fun v H3 e3 hv => q v H3 (e2.trans e3) hv
  | false => exact h2 rfl H2 (e.trans e2) Q fun v H3 e3 hv => q v H3 (e2.trans e3) hv
theorem isT_del {x : V} (s : StAt H S L) (h : IsT ns x H) : IsT ns x (del H S) := by
  obtain ⟨p, hx, hp⟩ := h
  obtain ⟨ms, c, k, hS, _⟩ := s
  exact ⟨p, hx, del_at hp (ne_of hp hS (by intro z; cases z))⟩
theorem isM_del {x : V} {f st} (s : StAt H S L) (h : IsM f st x H) : IsM f st x (del H S) := by
  obtain ⟨p, q, hx, hp, hq⟩ := h
  obtain ⟨ms, c, k, hS, _⟩ := s
  exact ⟨p, q, hx, del_at hp (ne_of hp hS (by intro z; cases z)), del_at hq (ne_of hq hS (by intro z; cases z))⟩
theorem rows_del {xs rs} (s : StAt H S L) (h : Rows H xs rs) : Rows (del H S) xs rs := paired_imp (fun _ _ q => isT_del s q) h
theorem rows_ref : ∀ {xs : List V} {rs : List (List Int)}, Rows H xs rs → ∀ y ∈ xs, ∃ a, y = .ref a
  | _, _, .nil, y, hy => by simp at hy
  | _, _, .cons ⟨p, hx, _⟩ t, y, hy => by
    rcases List.mem_cons.mp hy with ey | ey
    · exact ⟨p, by rw [ey, hx]⟩
    · exact rows_ref t y ey
theorem rows_neS {p : Addr} {xs : List V} {rs : List (List Int)} (s : StAt H S L) (hp : H p = some (.lst xs)) (h : Rows H xs rs) : p ≠ S := fun e => by
  obtain ⟨ms, c, k, hS, _⟩ := s
  rw [e, hS] at hp
  have := HO.lst.inj (Option.some.inj hp)
  subst this
  obtain ⟨a, ha⟩ := rows_ref h (.int c) (by simp)
  cases ha
theorem isR_del {x : V} {rs : List (List Int)} (s : StAt H S L) (h : IsR rs x H) : IsR rs x (del H S) := by
  obtain ⟨p, xs, hx, hp, hr⟩ := h
  exact ⟨p, xs, hx, del_at hp (rows_neS s hp hr), rows_del s hr⟩
theorem dict_del {f : List Int → List Int} (s : StAt H S L) (h : DictOk kvs f H) : DictOk kvs f (del H S) := fun g => ⟨(h g).1, fun x hx => ⟨isI_del s ((h g).2 x hx).1, ((h g).2 x hx).2⟩⟩
/-- a list of ints, not empty, is no list of rows -/
theorem int_neR {p l : Addr} {xs : List V} {rs : List (List Int)} (hne : ns ≠ []) (hp : H p = some (.lst (ns.map V.int))) (hl : H l = some (.lst xs)) (hr : Rows H xs rs) : p ≠ l := fun e => by
  rw [e, hl] at hp
  have := HO.lst.inj (Option.some.inj hp)
  subst this
  cases ns with
  | nil => exact hne rfl
  | cons a r =>
    obtain ⟨b, hb⟩ := rows_ref hr (.int a) (by simp)
    cases hb
/-! stateful ones -/
theorem es_cat {F G T : List Int → Prop} (ha : EvS S L ta σ H (fun x H => ∃ v, IsT v x H ∧ F v)) (hb : EvS S L tb σ H (fun x H => ∃ v, IsT v x H ∧ G v)) (hc : ∀ v u, F v → G u → v.length + u.length ≤ 100000 ∧ T (v ++ u)) : EvS S L (tOp (rCatA K) ta tb) σ H (fun x H => ∃ v, IsT v x H ∧ T v) := fun H1 e s Q k =>
  ha H1 e s _ fun x H2 e2 s2 ⟨v, hv, fv⟩ => hb H2 (del_trans e e2) s2 _ fun y H3 e3 s3 ⟨u, hu, gu⟩ => by
    obtain ⟨h1, h2⟩ := hc v u fv gu
    exact ep_cat (K := K) (ta := tVar 0) (tb := tVar 1) (σ := [some x, some y]) (ep_v rfl ((isT_del s2 hv).ex e3) mo_T) (ep_v rfl hu mo_T) h1 H3 (Ex.refl _) Q (fun z H4 e4 hz => k z H4 (del_trans (del_trans e2 e3) (ex_del e4)) (s3.ex e4) ⟨_, hz, h2⟩) |> fun h => by
      obtain ⟨x', hx', y', hy', r⟩ := h
      cases hx'
      cases hy'
      exact r
theorem es_tup1 {lo hi : Int} (h : EvS S L te σ H (InR lo hi)) : EvS S L (tTup (tCons te tNil)) σ H (fun x H => ∃ v, IsT v x H ∧ ∃ i, v = [i] ∧ lo ≤ i ∧ i < hi) := fun H1 e s Q k =>
  h H1 e s _ fun x H2 e2 s2 ⟨i, hx, h0, h1⟩ => ⟨by show 1 ≤ sizeLine; decide, fun p np => k _ _ (e2.trans (Ex.new np)) (s2.ex (Ex.new np)) ⟨[i], ⟨p, rfl, by rw [upd_same, hx]; rfl⟩, i, rfl, h0, h1⟩⟩
theorem es_method (hs : Ev ta σ (del H S) (.ref S)) : EvS S L (tCall sp_law_method [] E (tCons ta tNil)) σ H IsMs := fun H1 e s Q k =>
  hs H1 e _ fun H2 e2 => ⟨S, L, rfl, s.ex e2, fun x f st H3 hm M e3 s3 => k x H3 (del_trans (ex_del e2) e3) s3 ⟨f, st, hm, M⟩⟩
theorem es_votes (hs : Ev ta σ (del H S) (.ref S)) : EvS S L (tCall sp_law_votes [] E (tCons ta (tCons (tC (.int 3)) tNil))) σ H (fun x H => ∃ v, IsT v x H ∧ (v.length ≤ 3 ∧ ∀ y ∈ v, 1 ≤ y ∧ y ≤ 1000000)) := fun H1 e s Q k =>
  hs H1 e _ fun H2 e2 => ⟨S, L, rfl, s.ex e2, fun x v H3 hv h1 h2 e3 s3 => k x H3 (del_trans (ex_del e2) e3) s3 ⟨v, hv, h1, h2⟩⟩
theorem es_pickR {rs : List (List Int)} (hs : Ev ta σ (del H S) (.ref S)) (hl : EvP tl σ (del H S) (IsR rs)) (h0 : 0 < rs.length) (h1 : rs.length ≤ 1000000) : EvS S L (tCall sp_law_pick [] E (tCons ta (tCons tl tNil))) σ H (fun x H => ∃ r, r ∈ rs ∧ IsT r x H) := fun H1 e s Q k =>
  hs H1 e _ fun H2 e2 => hl H2 (e.trans e2) _ fun x H3 e3 ⟨p, xs, hx, hp, hr⟩ => by
    have s3 := s.ex (e2.trans e3)
    have hlen := paired_len hr
    refine ⟨S, L, p, xs, by rw [hx]; rfl, s3, hp, rows_neS s3 hp hr, by omega, by omega, fun i y H4 hi e4 s4 => ?_⟩
    obtain ⟨r, h2, h3⟩ := paired_get hr hi
    exact k _ H4 (del_trans (ex_del (e2.trans e3)) e4) s4 ⟨r, mem_of_get h2, (isT_del s3 h3).ex e4⟩
/-! the calls of the law -/
theorem ep_next_ones {d v s : List Int} (hx : EvP tx σ H (IsI d)) (hy : EvP ty σ H (IsT v)) (hz : EvP tc σ H (IsT s)) (C : Cd d v s) : EvP (tCall sp_law_next_ones [] E (tCons tx (tCons ty (tCons tc tNil)))) σ H (IsI (nextL d v s)) :=
  ep_call (eap_cons hx mo_I (eap_cons hy mo_T (eap_cons hz mo_T eap_nil))) fun vs H1 e ⟨x, _, e1, px, y, _, e2, py, z, _, e3, pz, e5⟩ Q q => ⟨x, y, z, d, v, s, by rw [e1, e2, e3, e5]; rfl, px, py, pz, C, q⟩
theorem ep_given {s : List Int} {p : Nat} (hx : EvP tx σ H (IsT s)) (hp : Ev ty σ H (.int (p : Int))) (h1 : p < s.length) (h2 : s.length ≤ 1000) : EvP (tCall sp_law_given [] E (tCons tx (tCons ty tNil))) σ H (IsT (givenS s (p : Int))) :=
  ep_call (eap_cons hx mo_T (eap_cons (ep_of hp) mo_is eap_nil)) fun vs H1 e ⟨x, _, e1, px, y, _, e2, py, e5⟩ Q q => ⟨x, s, p, by rw [e1, e2, e5, py]; rfl, px, h1, h2, q⟩
theorem ep_told_order {f v : List Int} {st : Int} {h : Nat} (hx : EvP tx σ H (IsM f st)) (hy : EvP ty σ H (IsT v)) (hp : Ev tc σ H (.int (h : Int))) (M : Meth f st) (hV : VotOk v) (h0 : 0 < v.length) (h5 : h ≤ 5) : EvP (tCall sp_told_order [] E (tCons tx (tCons ty (tCons tc tNil)))) σ H (IsT (toldF (dvs f st) v h).2) :=
  ep_call (eap_cons hx mo_M (eap_cons hy mo_T (eap_cons (ep_of hp) mo_is eap_nil))) fun vs H1 e ⟨x, _, e1, px, y, _, e2, py, z, _, e3, pz, e5⟩ Q q => ⟨x, y, f, st, v, h, by rw [e1, e2, e3, e5, pz]; rfl, px, M, py, hV, h0, h5, q⟩
theorem ev_count {f v : List Int} {st h : Int} (hx : EvP tx σ H (IsM f st)) (hy : EvP ty σ H (IsT v)) (hp : Ev tc σ H (.int h)) (M : Meth f st) (hV : VotOk v) (h4 : v.length ≤ 4) (h0 : 0 ≤ h) (h5 : h ≤ 5) : Ev (tCall sp_count_valid [] E (tCons tx (tCons ty (tCons tc tNil)))) σ H (.int (((allSeats v.length h).filter (validB (dvs f st) v)).length : Int)) :=
  ev_of (ep_call (eap_cons hx mo_M (eap_cons hy mo_T (eap_cons (ep_of hp) mo_is eap_nil))) fun vs H1 e ⟨x, _, e1, px, y, _, e2, py, z, _, e3, pz, e5⟩ Q q => ⟨x, y, f, st, v, h, by rw [e1, e2, e3, e5, pz]; rfl, px, M, py, hV, h4, h0, h5, q⟩)
theorem ep_law_valid {d v : List Int} {h : Int} (hx : EvP tx σ H (IsI d)) (hy : EvP ty σ H (IsT v)) (hp : Ev tc σ H (.int h)) (hd : d.length = 9) (hV : VotOk v) (h4 : v.length ≤ 4) (h0 : 0 ≤ h) (h5 : h ≤ 5) : EvP (tCall sp_law_valid [] E (tCons tx (tCons ty (tCons tc tNil)))) σ H (IsR ((allSeats v.length h).filter (validB d v))) :=
  ep_call (eap_cons hx mo_I (eap_cons hy mo_T (eap_cons (ep_of hp) mo_is eap_nil))) fun vs H1 e ⟨x, _, e1, px, y, _, e2, py, z, _, e3, pz, e5⟩ Q q => ⟨x, y, d, v, h, by rw [e1, e2, e3, e5, pz]; rfl, px, py, hd, hV, h4, h0, h5, q⟩
theorem ep_law_all_seats {n : Nat} {h : Int} (hx : Ev tx σ H (.int (n : Int))) (hp : Ev ty σ H (.int h)) (hn : n ≤ 4) (h0 : 0 ≤ h) (h5 : h ≤ 5) : EvP (tCall sp_law_all_seats [] E (tCons tx (tCons ty tNil))) σ H (IsR (allSeats n h)) :=
  ep_call (ea_of (ea_cons hx (ea_cons hp ea_nil))) fun vs H1 e hv Q q => ⟨n, h, by rw [hv]; rfl, hn, h0, h5, q⟩
theorem ep_next_parties {f v s : List Int} {st : Int} (hx : EvP tx σ H (IsM f st)) (hy : EvP ty σ H (IsT v)) (hz : EvP tc σ H (IsT s)) (M : Meth f st) (hV : VotOk v) (hS : SeaOk v s) : EvP (tCall sp_next_parties [] E (tCons tx (tCons ty (tCons tc tNil)))) σ H (IsT (nextL (dvs f st) v s)) :=
  ep_call (eap_cons hx mo_M (eap_cons hy mo_T (eap_cons hz mo_T eap_nil))) fun vs H1 e ⟨x, _, e1, px, y, _, e2, py, z, _, e3, pz, e5⟩ Q q => ⟨x, y, z, f, st, v, s, by rw [e1, e2, e3, e5]; rfl, px, M, py, hV, pz, hS, q⟩
theorem ep_law_told {f v s : List Int} {st : Int} (hx : EvP tx σ H (IsM f st)) (hy : EvP ty σ H (IsT v)) (hz : EvP tc σ H (IsT s)) (M : Meth f st) (hV : VotOk v) (hS : SeaOk v s) : EvP (tCall sp_law_told [] E (tCons tx (tCons ty (tCons tc tNil)))) σ H (ToldR (dvs f st) v s) :=
  ep_call (eap_cons hx mo_M (eap_cons hy mo_T (eap_cons hz mo_T eap_nil))) fun vs H1 e ⟨x, _, e1, px, y, _, e2, py, z, _, e3, pz, e5⟩ Q q => ⟨x, y, z, f, st, v, s, by rw [e1, e2, e3, e5]; rfl, px, M, py, hV, pz, hS, q⟩
theorem ev_is_valid {f v s : List Int} {st : Int} (hx : EvP tx σ H (IsM f st)) (hy : EvP ty σ H (IsT v)) (hz : EvP tc σ H (IsT s)) (M : Meth f st) (hV : VotOk v) (hS : SeaOk v s) : Ev (tCall sp_is_valid [] E (tCons tx (tCons ty (tCons tc tNil)))) σ H (.bl (validB (dvs f st) v s)) :=
  ev_of (ep_call (eap_cons hx mo_M (eap_cons hy mo_T (eap_cons hz mo_T eap_nil))) fun vs H1 e ⟨x, _, e1, px, y, _, e2, py, z, _, e3, pz, e5⟩ Q q => ⟨x, y, z, f, st, v, s, by rw [e1, e2, e3, e5]; rfl, px, M, py, hV, pz, hS, q⟩)
theorem ev_equal {P1 P2 : V → Hp → Prop} (h1 : EvP tx σ H P1) (m1 : Mo P1) (h2 : EvP ty σ H P2) (m2 : Mo P2) (he : ∀ x y H1, P1 x H1 → P2 y H1 → Eqd 2 H1 x y) : Ev (tCall (sp_equal 2) [] E (tCons tx (tCons ty tNil))) σ H (.bl true) :=
  ev_of (ep_call (eap_cons h1 m1 (eap_cons h2 m2 eap_nil)) fun vs H1 e ⟨x, _, e1, px, y, _, e2, py, e5⟩ Q q => ⟨x, y, by rw [e1, e2, e5]; rfl, he x y H1 px py, q⟩)
theorem eqd_ints : ∀ (ns : List Int) (n : Nat), Paired (fun a b => Eqd n H a b) (ns.map V.int) (ns.map V.int)
  | [], _ => .nil
  | x :: r, n => .cons (by cases n <;> first | exact ⟨rfl, rfl⟩ | exact .inl ⟨rfl, rfl⟩) (eqd_ints r n)
theorem eqd_T {x y : V} {n : Nat} (hx : IsT ns x H) (hy : IsT ns y H) (hl : ns.length ≤ 1000) : Eqd (n + 1) H x y := by
  obtain ⟨p, ex, hp⟩ := hx
  obtain ⟨q, ey, hq⟩ := hy
  exact .inr ⟨p, q, ns.map V.int, ns.map V.int, true, ex, ey, by rw [List.length_map]; exact hl, eqd_ints ns n, hp, hq⟩
theorem eqd_sc {x : V} {n : Nat} (h : scB x = true) : Eqd n H x x := by
  cases n with
  | zero => exact ⟨rfl, h⟩
  | succ n => exact .inl ⟨rfl, h⟩
theorem eqd_L {x y : V} {n : Nat} {xs ys : List V} (hx : IsLV xs x H) (hy : IsLV ys y H) (hl : xs.length ≤ 1000) (hp : Paired (fun a b => Eqd n H a b) xs ys) : Eqd (n + 1) H x y := by
  obtain ⟨p, ex, hp1⟩ := hx
  obtain ⟨q, ey, hq⟩ := hy
  exact .inr ⟨p, q, xs, ys, false, ex, ey, hl, hp, hp1, hq⟩
/-- [a, b] -/
theorem ep_lst2 {P1 P2 : V → Hp → Prop} (h1 : EvP tx σ H P1) (m1 : Mo P1) (h2 : EvP ty σ H P2) (m2 : Mo P2) : EvP (tLst (tCons tx (tCons ty tNil))) σ H (fun x H => ∃ y z, IsLV [y, z] x H ∧ P1 y H ∧ P2 z H) :=
  (ep_lstP (eap_cons h1 m1 (eap_cons h2 m2 eap_nil)) (mo_cons m1 (mo_cons m2 mo_nil)) (fun vs H1 ⟨x, r, a, _, y, r2, b, _, c⟩ => by rw [a, b, c]; show 2 ≤ 100000; omega)).imp
    fun u H6 _ ⟨p, vs, hu, hp, y, r, q1, hy, z, r2, q2, hz, q3⟩ => ⟨y, z, ⟨p, hu, by rw [hp, q1, q2, q3]⟩, hy, hz⟩
theorem mo_lst2 {P1 P2 : V → Hp → Prop} (m1 : Mo P1) (m2 : Mo P2) : Mo (fun x H => ∃ y z, IsLV [y, z] x H ∧ P1 y H ∧ P2 z H) := fun _ _ _ e ⟨y, z, a, b, c⟩ => ⟨y, z, mo_LV _ _ _ e a, m1 _ _ _ e b, m2 _ _ _ e c⟩
/-- two lists of rows that are one: != is False -/
theorem ev_neR2 {F G : List (List Int) → Prop} (ha : EvP ta σ H (fun x H => ∃ ms, IsR ms x H ∧ F ms)) (hb : EvP tb σ H (fun x H => ∃ ms, IsR ms x H ∧ G ms)) (he : ∀ a b, F a → G b → a = b) : Ev (tOp (rNeD K) ta tb) σ H (.bl false) := fun H1 e Q q =>
  ha H1 e _ fun x H2 e2 ⟨ms, hx, fm⟩ => hb H2 (e.trans e2) _ fun y H3 e3 ⟨ns, hy, gn⟩ => by
    have := he ms ns fm gn
    subst this
    refine ⟨.list (ms.map rowD), .list (ms.map rowD), dp_rows (hx.ex e3), dp_rows hy, shaped_rows ms, shaped_rows ms, ?_⟩
    have e0 : PyData.eqv (.list (ms.map rowD)) (.list (ms.map rowD)) = true := SeqAt.eqv_refl _ (by rw [PyData.canLay0]; exact lay_rows ms)
    rw [e0]; exact q H3 (e2.trans e3)
theorem mo_told {d v s : List Int} : Mo (ToldR d v s) := fun _ _ _ e h => h.imp (fun ⟨a, b⟩ => ⟨a, b.ex e⟩) (fun ⟨a, b⟩ => ⟨a, mo_LV _ _ _ e b⟩)
/-- what the law expects of last_parties -/
def DueR (d v : List Int) (h : Nat) (s : List Int) (x : V) (H : Hp) : Prop := (s ∈ bfs d v h ∧ IsT (lastL d v s) x H) ∨ (s ∉ bfs d v h ∧ IsLV [.str "seats", .bl true] x H)
theorem mo_due {d v s : List Int} {h : Nat} : Mo (DueR d v h s) := fun _ _ _ e q => q.imp (fun ⟨a, b⟩ => ⟨a, b.ex e⟩) (fun ⟨a, b⟩ => ⟨a, mo_LV _ _ _ e b⟩)
theorem lasts_are {d v s ms : List Int} {h : Nat} (D : Div d) (hv : Vot v) (hh : h ≤ 8) (hs : Sea v.length (h : Int) s) (hp : ms.Perm (lastF d v h s)) (hw : ms.Pairwise (· ≤ ·)) : ms = lastL d v s := by
  cases h with
  | zero =>
    have e : ms = [] := List.Perm.eq_nil hp
    rw [e, lastL_zero hs]
  | succ i => exact perm_sorted (hp.trans (lasts_perm D hv (by omega) hs)) hw sorted_lastL
end
end Ds

namespace Ds
open PySem PySem.Spec PyProof.Rows L2 Evl Dm
theorem mo_Ms : Mo IsMs := fun _ _ _ e ⟨f, st, a, b⟩ => ⟨f, st, mo_M _ _ _ e a, b⟩
theorem bd_row {n : Nat} {k : Int} {r : List Int} (S : Sea n k r) (hk : k ≤ 8) : r.length = n ∧ TS.Bd 9 r := ⟨S.len, fun m hm => ⟨S.nn m hm, by have := le_sum S.nn m hm; rw [S.sum] at this; omega⟩⟩
theorem few_seats {n : Nat} {h : Nat} (h1 : n ≤ 4) (h2 : h ≤ 5) : (allSeats n (h : Int)).length < 64 := by
  have key : ∀ a < 5, ∀ b < 6, (allSeats a ((b : Nat) : Int)).length < 64 := by decide +kernel
  exact key n (by omega) h (by omega)
section
variable {P : Program} {w : World} {K : PySem.W.Frag} {mg : Str → Option Value} {base : Heap}
def sp_law (K : PySem.W.Frag) : Sp := fun vs H Q _ => ∃ (a : Addr) (ns : List Int), vs = [.ref a] ∧ SqL K H a (ns.map V.int) ∧ ns.length ≤ 63 ∧ ∀ H', Q (.bl true) H'
theorem ok_law (T : Top K mg) (N : Npt K mg) : FnOk P w K mg base CX0 8 T.law.a T.law.d ["_law_script"] (sp_law K) := by
  refine T.law.F.ok sc_law (fun vs H Q E h => ?_) (fun cdv A outer s H vs Q E hr h => ?_)
  · obtain ⟨a, ns, rfl, _⟩ := h
    rfl
  · obtain ⟨a, ns, rfl, hS, hlen, kq⟩ := h
    refine ⟨_, (pss_cons (ps_set (i := 1) sc_law.nd rfl (by first | exact Or.inl rfl | exact Or.inr rfl) (pe_call (ok_law_stream T) (hr.mono (by decide)) (by rfl) T.law_stream.g T.law_stream.F.kp T.law_stream.b .nil pass0 (pa_cons (pv 0) pa_nil)))
    (pss_cons (ps_set (i := 2) sc_law.nd rfl (by first | exact Or.inl rfl | exact Or.inr rfl) (pe_call (ok_law_method T) (hr.mono (by decide)) (by rfl) T.law_method.g T.law_method.F.kp T.law_method.b .nil pass0 (pa_cons (pv 1) pa_nil)))
    (pss_cons (ps_set (i := 3) sc_law.nd rfl (by first | exact Or.inl rfl | exact Or.inr rfl) (pe_op (r := rCatA K) op_catA (pe_call (ok_law_votes T) (hr.mono (by decide)) (by rfl) T.law_votes.g T.law_votes.F.kp T.law_votes.b .nil pass0 (pa_cons (pv 1) (pa_cons pe_int pa_nil))) (pe_tup (pa_cons (pe_op op_add pe_int (pe_call (ok_law_next T) (hr.mono (by decide)) (by rfl) T.law_next.g T.law_next.F.kp T.law_next.b .nil pass0 (pa_cons (pv 1) (pa_cons pe_int pa_nil)))) pa_nil))))
    (pss_cons (ps_set (i := 4) sc_law.nd rfl (by first | exact Or.inl rfl | exact Or.inr rfl) (pe_call (ok_law_next T) (hr.mono (by decide)) (by rfl) T.law_next.g T.law_next.F.kp T.law_next.b .nil pass0 (pa_cons (pv 1) (pa_cons pe_int pa_nil))))
    (pss_cons (ps_set (i := 5) sc_law.nd rfl (by first | exact Or.inl rfl | exact Or.inr rfl) (pe_call (ok_law_divisors T) (hr.mono (by decide)) (by rfl) T.law_divisors.g T.law_divisors.F.kp T.law_divisors.b .nil pass0 (pa_cons (pv 2) (pa_cons pe_int pa_nil))))
    (pss_cons (ps_set (i := 6) sc_law.nd rfl (by first | exact Or.inl rfl | exact Or.inr rfl) (pe_lst (pa_cons (pe_op (r := rRepS K) op_repS (pe_tup (pa_cons pe_int pa_nil)) (pe_callB (r := rLenS K) call_len_seq (by rfl) T.len PySem.boot_len (pa_cons (pv 3) pa_nil))) pa_nil)))
    (pss_cons (ps_set (i := 7) sc_law.nd rfl (by first | exact Or.inl rfl | exact Or.inr rfl) pe_dnewT)
    (pss_cons (ps_set (i := 8) sc_law.nd rfl (by first | exact Or.inl rfl | exact Or.inr rfl) (pe_tup pa_nil))
    (pss_cons (ps_set (i := 9) sc_law.nd rfl (by first | exact Or.inl rfl | exact Or.inr rfl) (pe_ix (r := rIxL K) ix_list (pv 6) pe_int (fun _ _ => rfl)))
    (pss_cons (ps_for PassesOwn.never rfl (pi_range1 rfl T.range (pa_cons (pv 4) pa_nil)) (pg_name (i := 10) sc_law.nd rfl (by first | exact Or.inl rfl | exact Or.inr rfl)) (pss_cons (ps_set (i := 11) sc_law.nd rfl (by first | exact Or.inl rfl | exact Or.inr rfl) (pe_ix (r := rIxL K) ix_list (pe_call (ok_law_next_ones T) (hr.mono (by decide)) (by rfl) T.law_next_ones.g T.law_next_ones.F.kp T.law_next_ones.b .nil pass0 (pa_cons (pv 5) (pa_cons (pv 3) (pa_cons (pv 9) pa_nil)))) pe_int (fun _ _ => rfl)))
    (pss_cons (ps_set (i := 8) sc_law.nd rfl (by first | exact Or.inl rfl | exact Or.inr rfl) (pe_op (r := rCatA K) op_catA (pv 8) (pe_tup (pa_cons (pv 11) pa_nil))))
    (pss_cons (ps_set (i := 9) sc_law.nd rfl (by first | exact Or.inl rfl | exact Or.inr rfl) (pe_call (ok_law_given T) (hr.mono (by decide)) (by rfl) T.law_given.g T.law_given.F.kp T.law_given.b .nil pass0 (pa_cons (pv 9) (pa_cons (pv 11) pa_nil))))
    (pss_cons (ps_set (i := 12) sc_law.nd rfl (by first | exact Or.inl rfl | exact Or.inr rfl) (pe_lst pa_nil))
    (pss_cons (ps_set (i := 7) sc_law.nd rfl (by first | exact Or.inl rfl | exact Or.inr rfl) pe_dnewT)
    (pss_cons (ps_for PassesOwn.never rfl (pi_list (pv 6)) (pg_name (i := 13) sc_law.nd rfl (by first | exact Or.inl rfl | exact Or.inr rfl)) (pss_one (ps_for PassesOwn.never rfl (pi_list (pe_call (ok_law_next_ones T) (hr.mono (by decide)) (by rfl) T.law_next_ones.g T.law_next_ones.F.kp T.law_next_ones.b .nil pass0 (pa_cons (pv 5) (pa_cons (pv 3) (pa_cons (pv 13) pa_nil))))) (pg_name (i := 14) sc_law.nd rfl (by first | exact Or.inl rfl | exact Or.inr rfl)) (pss_cons (ps_set (i := 15) sc_law.nd rfl (by first | exact Or.inl rfl | exact Or.inr rfl) (pe_call (ok_law_given T) (hr.mono (by decide)) (by rfl) T.law_given.g T.law_given.F.kp T.law_given.b .nil pass0 (pa_cons (pv 13) (pa_cons (pv 14) pa_nil))))
    (pss_cons (ps_dput (hu_of hr) (pv 7) (pv 15) (pe_op op_cat (pe_dget2 (hu_of hr) (pv 7) (pv 15) (pe_lst pa_nil) (m2_of rfl rfl rfl rfl)) (pe_lst (pa_cons (pv 14) pa_nil))) rfl)
    (pss_one (ps_expr (pe_bm PySem.F.plainAttrs_list PySem.F.slot_list_extend PySem.F.type_list_extend mt_extend (pv 12) (pa_cons (pe_ifExp (pt_cmpR (r := rNotInD K) (op_notInD (hu2 hr)) (pv 15) (pv 12) (by rfl)) (pe_lst (pa_cons (pv 15) pa_nil)) (pe_lst pa_nil)) pa_nil)))))))))
    (pss_one (ps_set (i := 6) sc_law.nd rfl (by first | exact Or.inl rfl | exact Or.inr rfl) (pv 12))))))))))
    (pss_cons (ps_if (pt_not (pt_val (pe_call (ok_law_equal T 2) (hr.mono (by decide)) (by rfl) T.law_equal.g T.law_equal.F.kp T.law_equal.b .nil pass0 (pa_cons (pe_lst (pa_cons (pe_call (ok_told_order T) (hr.mono (by decide)) (by rfl) T.told_order.g T.told_order.F.kp T.told_order.b .nil pass0 (pa_cons (pv 2) (pa_cons (pv 3) (pa_cons (pv 4) pa_nil)))) (pa_cons (pe_call (ok_count_valid T) (hr.mono (by decide)) (by rfl) T.count_valid.g T.count_valid.F.kp T.count_valid.b .nil pass0 (pa_cons (pv 2) (pa_cons (pv 3) (pa_cons (pv 4) pa_nil)))) pa_nil))) (pa_cons (pe_lst (pa_cons (pv 8) (pa_cons (pe_callB (r := rLenS K) call_len_seq (by rfl) T.len PySem.boot_len (pa_cons (pv 6) pa_nil)) pa_nil))) pa_nil))))) (pss_one (ps_ret pe_bl)) pss_nil)
    (pss_cons (ps_if (pt_cmpR (r := rNeD K) (op_neD hr.units) (pe_callB (r := rSortUE K) cr_sortUE (by rfl) T.sorted (by decide +kernel) (pa_cons (pv 6) pa_nil)) (pe_callB (r := rSortUE K) cr_sortUE (by rfl) T.sorted (by decide +kernel) (pa_cons (pe_call (ok_law_valid T) (hr.mono (by decide)) (by rfl) T.law_valid.g T.law_valid.F.kp T.law_valid.b .nil pass0 (pa_cons (pv 5) (pa_cons (pv 3) (pa_cons (pv 4) pa_nil)))) pa_nil)) (nomark _)) (pss_one (ps_ret pe_bl)) pss_nil)
    (pss_cons (ps_for PassesOwn.never rfl (pi_range1 rfl T.range (pa_cons pe_int pa_nil)) (pg_name (i := 10) sc_law.nd rfl (by first | exact Or.inl rfl | exact Or.inr rfl)) (pss_cons (ps_set (i := 13) sc_law.nd rfl (by first | exact Or.inl rfl | exact Or.inr rfl) (pe_call (ok_law_pick T) (hr.mono (by decide)) (by rfl) T.law_pick.g T.law_pick.F.kp T.law_pick.b .nil pass0 (pa_cons (pv 1) (pa_cons (pe_ifExp (pt_cmpR op_lt (pv 10) pe_int (nomark _)) (pv 6) (pe_call (ok_law_all_seats T) (hr.mono (by decide)) (by rfl) T.law_all_seats.g T.law_all_seats.F.kp T.law_all_seats.b .nil pass0 (pa_cons (pe_callB (r := rLenS K) call_len_seq (by rfl) T.len PySem.boot_len (pa_cons (pv 3) pa_nil)) (pa_cons (pv 4) pa_nil)))) pa_nil))))
    (pss_cons (ps_if (pt_not (pt_val (pe_call (ok_law_equal T 2) (hr.mono (by decide)) (by rfl) T.law_equal.g T.law_equal.F.kp T.law_equal.b .nil pass0 (pa_cons (pe_call (ok_next_parties T) (hr.mono (by decide)) (by rfl) T.next_parties.g T.next_parties.F.kp T.next_parties.b .nil pass0 (pa_cons (pv 2) (pa_cons (pv 3) (pa_cons (pv 13) pa_nil)))) (pa_cons (pe_callTy (r := rTupS K) call_tuple_of (by rfl) T.tuple (by decide +kernel) (pa_cons (pe_call (ok_law_next_ones T) (hr.mono (by decide)) (by rfl) T.law_next_ones.g T.law_next_ones.F.kp T.law_next_ones.b .nil pass0 (pa_cons (pv 5) (pa_cons (pv 3) (pa_cons (pv 13) pa_nil)))) pa_nil)) pa_nil))))) (pss_one (ps_ret pe_bl)) pss_nil)
    (pss_cons (ps_set (i := 16) sc_law.nd rfl (by first | exact Or.inl rfl | exact Or.inr rfl) (pe_ifExp (pt_cmpR (r := rInD K) (op_inD (hu2 hr)) (pv 13) (pv 6) (by rfl)) (pe_callTy (r := rTupS K) call_tuple_of (by rfl) T.tuple (by decide +kernel) (pa_cons (pe_callB (r := rSortedI K) cr_sortedI (by rfl) T.sorted (by decide +kernel) (pa_cons (pe_dget2 (hu_of hr) (pv 7) (pv 13) (pe_lst pa_nil) (m2_of rfl rfl rfl rfl)) pa_nil)) pa_nil)) (pe_lst (pa_cons pe_str (pa_cons pe_bl pa_nil)))))
    (pss_one (ps_if (pt_not (pt_val (pe_call (ok_law_equal T 2) (hr.mono (by decide)) (by rfl) T.law_equal.g T.law_equal.F.kp T.law_equal.b .nil pass0 (pa_cons (pe_lst (pa_cons (pe_call (ok_law_told T N) (hr.mono (by decide)) (by rfl) T.law_told.g T.law_told.F.kp T.law_told.b .nil pass0 (pa_cons (pv 2) (pa_cons (pv 3) (pa_cons (pv 13) pa_nil)))) (pa_cons (pe_call (ok_is_valid T) (hr.mono (by decide)) (by rfl) T.is_valid.g T.is_valid.F.kp T.is_valid.b .nil pass0 (pa_cons (pv 2) (pa_cons (pv 3) (pa_cons (pv 13) pa_nil)))) pa_nil))) (pa_cons (pe_lst (pa_cons (pv 16) (pa_cons (pe_cmpR (r := rInD K) (op_inD (hu2 hr)) (pv 13) (pv 6) (by rfl)) pa_nil))) pa_nil))))) (pss_one (ps_ret pe_bl)) pss_nil))))))
    (pss_one (ps_ret pe_bl))))))))))))))), ?_⟩
    -- what is drawn
    refine ⟨.ref a, rfl, a, ns, rfl, hS, hlen, fun S L H1 e1 nS nL s1 => ?_⟩
    refine qs_asg (es_method (ev_var rfl)) s1 fun xm H2 e2 s2 ⟨f, st, hm2, M⟩ => ?_
    refine qs_asg (es_cat (T := fun v => 1 ≤ v.length ∧ v.length ≤ 4 ∧ ∀ y ∈ v, 1 ≤ y ∧ y ≤ 1000000) (es_votes (ev_var rfl)) (es_tup1 (es_add (i := 1) (lo := 0) (hi := 12) (es_next (m := 12) (ev_var rfl) ev_c (by decide) (by decide)) ev_c)) (fun v u ⟨h1, h2⟩ ⟨i, hu, h3, h4⟩ => ?_)) s2 fun xv H3 e3 s3 ⟨v, hv3, hv1, hv4, hvr⟩ => ?_
    · subst hu
      refine ⟨by rw [List.length_singleton]; omega, by rw [List.length_append, List.length_singleton]; omega, by rw [List.length_append, List.length_singleton]; omega, fun y hy => ?_⟩
      rcases List.mem_append.mp hy with q | q
      · exact h2 y q
      · rw [List.mem_singleton] at q; subst q; omega
    have hV : VotOk v := ⟨by omega, hvr⟩
    have hvot := vot_of hV
    have D := div_of M
    refine qs_asg (es_next (m := 6) (ev_var rfl) ev_c (by decide) (by decide)) s3 fun xh H4 e4 s4 ⟨hI, hxh, hh0, hh6⟩ => ?_
    obtain ⟨h, hhN⟩ : ∃ h : Nat, hI = (h : Int) := ⟨hI.toNat, by omega⟩
    subst hhN hxh
    have h5 : h ≤ 5 := by omega
    have hm4 : IsM f st xm H4 := mo_M _ _ _ e4 (isM_del s3 (mo_M _ _ _ e3 (isM_del s2 hm2)))
    have hv4' : IsT v xv H4 := (isT_del s3 hv3).ex e4
    -- the law's divisors, the first row
    refine qp_asg (ep_call (P := IsI (dvs f st)) (eap_cons (ep_m rfl hm4) mo_M (eap_cons (ep_of ev_c) mo_is eap_nil)) fun vs H1 e ⟨x, _, q1, px, y, _, q2, py, q3⟩ Q q => ⟨x, f, st, by rw [q1, q2, py, q3]; rfl, px, M, q⟩) fun xd H5 e5 hd5 => ?_
    refine qp_asg (P := IsR [List.replicate v.length 0]) ((ep_lstP (eap_cons (ep_zeros (ep_tup1 ev_c) (ev_lenTI (ep_v rfl (hv4'.ex e5) mo_T)) (by omega) (by omega)) mo_T eap_nil) (mo_cons mo_T mo_nil) (fun vs H1 ⟨x, r, q1, _, q3⟩ => by rw [q1, q3]; show 1 ≤ 100000; omega)).imp
      fun u H6 _ ⟨p, vs, hu, hp, x, r, q1, hx, q5⟩ => ⟨p, [x], hu, by rw [hp, q1, q5], .cons hx .nil⟩) fun xr H6 e6 hr6 => ?_
    refine fun q7 nq7 => ?_
    have e7 : Ex H6 (upd H6 q7 (.dT [])) := Ex.new nq7
    generalize hH7 : upd H6 q7 (.dT []) = H7 at e7 ⊢
    have hq7 : H7 q7 = some (.dT []) := by rw [← hH7]; exact upd_same
    refine qp_asg ep_tup0 fun xo H8 e8 ho8 => ?_
    have hr8 := hr6.ex (e7.trans e8)
    obtain ⟨pr8, xs8, hxr, hpr8, hrows8⟩ := hr8
    subst hxr
    obtain ⟨y8, hy8⟩ : ∃ y, xs8 = [y] ∧ IsT (List.replicate v.length 0) y H8 := by
      cases hrows8 with
      | cons r t =>
        cases t
        exact ⟨_, rfl, r⟩
    refine qp_asg (P := IsT (List.replicate v.length 0)) ((ep_of (ev_ixV (v := y8) (ep_refL (ev_var rfl) hpr8) ev_c (atI_nat (j := 0) (by rw [hy8.1]; rfl)))).imp fun z H9 e9 hz => by rw [hz]; exact hy8.2.ex e9) fun xh9 H9 e9 hh9 => ?_
    -- all giving orders, followed
    have e49 : Ex H4 H9 := (((e5.trans e6).trans e7).trans e8).trans e9
    have hm9 := mo_M _ _ _ e49 hm4
    have hv9 := hv4'.ex e49
    have hd9 := hd5.ex (((e6.trans e7).trans e8).trans e9)
    have s9 := s4.ex e49
    refine q_forR1 (ea_cons (ev_var rfl) ea_nil) (by omega) (fun i σ' H' => ∃ R q O Hh a10 a11 a12 a13 a14 a15 kvs, σ' = [some (.ref a), some (.ref S), some xm, some xv, some (.int (h : Int)), some xd, some R, some (.ref q), some O, some Hh, a10, a11, a12, a13, a14, a15, none] ∧
        Ex H9 H' ∧ IsR (bfs (dvs f st) v i) R H' ∧ H' q = some (.dT kvs) ∧ DictOk kvs (lastF (dvs f st) v i) H' ∧ IsT (toldF (dvs f st) v i).2 O H' ∧ IsT (toldF (dvs f st) v i).1 Hh H')
      (fun H10 e10 => ⟨.ref pr8, q7, xo, xh9, none, none, none, none, none, none, [], rfl, e10, ⟨pr8, xs8, rfl, e10 _ _ (e9 _ _ hpr8), hrows8.ex (e9.trans e10)⟩, e10 _ _ (e9 _ _ (e8 _ _ hq7)), dictOk_nil, ho8.ex (e9.trans e10), hh9.ex e10⟩)
      (fun i σ1 H10 hi ⟨R, q, O, Hh, a10, a11, a12, a13, a14, a15, kvs, hσ, e10, hR, hq, hdi, hO, hHh⟩ => ?_) (fun σ1 H10 ⟨R, q, O, Hh, a10, a11, a12, a13, a14, a15, kvs, hσ, e10, hR, hq, hdi, hO, hHh⟩ => ?_)
    · -- one turn
      subst hσ
      have hi' : i < h := by omega
      have Sea0 := told_sea D (d := dvs f st) (v := v) (by omega) (k := i) (by omega)
      obtain ⟨p, hp, ep, hnl⟩ := first_next D (by omega) Sea0 (by omega)
      have C0 : Cd (dvs f st) v (toldF (dvs f st) v i).1 := cd_sea dvs_len hV Sea0 (by omega)
      refine q_asg (ev_ixL (ep_next_ones (ep_v rfl (hd9.ex e10) mo_I) (ep_v rfl (hv9.ex e10) mo_T) (ep_v rfl hHh mo_T) C0) ev_c (by omega) (by omega)) fun H11 e11 => ?_
      rw [ep]
      refine qp_asg (ep_cat (ep_v rfl (hO.ex e11) mo_T) (ep_tup1 (ev_var rfl)) (by rw [told_len, List.length_singleton]; omega)) fun O2 H12 e12 hO2 => ?_
      refine qp_asg (ep_given (ep_v rfl (hHh.ex (e11.trans e12)) mo_T) (ev_var rfl) (by rw [Sea0.len]; exact hp) (by rw [Sea0.len]; omega)) fun Hh2 H13 e13 hHh2 => ?_
      refine q_asgL (el_lst ea_nil (Nat.zero_le _)) fun l H14 nl e14 hl14 => ?_
      refine fun q2 nq2 => ?_
      have nq13 : H13 q2 = none := fresh_back e14 nq2
      have nlq : l ≠ q2 := ne_of_none hl14 nq2
      have e15 : Ex H14 (upd H14 q2 (.dT [])) := Ex.new nq2
      generalize hH15 : upd H14 q2 (.dT []) = H15 at e15 ⊢
      have hq15 : H15 q2 = some (.dT []) := by rw [← hH15]; exact upd_same
      obtain ⟨pr, xs, rfl, hpr, hrows⟩ := hR
      have e1013 := (e11.trans e12).trans e13
      have hpr13 := e1013 _ _ hpr
      have hrows13 := hrows.ex e1013
      have hlenR : xs.length = (bfs (dvs f st) v i).length := paired_len hrows
      have hbl := len_bfs (d := dvs f st) D hvot hv4 (k := i) (by omega)
      have hd13 := (hd9.ex e10).ex e1013
      have hv13 := (hv9.ex e10).ex e1013
      refine q_forLn (xs := xs) (ev_var rfl) (sq_of (e15 _ _ (e14 _ _ hpr13))) (fun j σ' H' => ∃ b13 b14 b15 ys kvs, σ' = [some (.ref a), some (.ref S), some xm, some xv, some (.int (h : Int)), some xd, some (.ref pr), some (.ref q2), some O2, some Hh2, some (.int (i : Int)), some (.int (p : Int)), some (.ref l), b13, b14, b15, none] ∧
          Ex H13 H' ∧ H' l = some (.lst ys) ∧ Rows H' ys (laterOf (pairsG (dvs f st) v ((bfs (dvs f st) v i).take j))) ∧ H' q2 = some (.dT kvs) ∧ kvs.length ≤ j * 5 ∧ ys.length ≤ j * 5 ∧ DictOk kvs (lastsOf (pairsG (dvs f st) v ((bfs (dvs f st) v i).take j))) H')
        (fun H16 e16 => ⟨a13, a14, a15, [], [], rfl, (e14.trans e15).trans e16, e16 _ _ (e15 _ _ hl14), .nil, e16 _ _ hq15, Nat.zero_le _, Nat.zero_le _, fun g => ⟨fun _ => rfl, fun x hx => by cases hx⟩⟩)
        (fun j σ' H' _ ⟨_, _, _, _, _, _, e, _⟩ => sq_of (e _ _ hpr13)) (fun j x σ2 H16 hj ⟨b13, b14, b15, ys, kvs2, hσ, e16, hl16, hys, hq16, hkl, hyl, hdi2⟩ => ?_) (fun σ2 H16 ⟨b13, b14, b15, ys, kvs2, hσ, e16, hl16, hys, hq16, hkl, hyl, hdi2⟩ => ?_)
      · subst hσ
        obtain ⟨s, hs, hx13⟩ := paired_get hrows13 hj
        have hjl : j < 1296 := by have := (List.getElem?_eq_some_iff.mp hj).1; omega
        obtain ⟨Ss, hvs⟩ := (mem_bfs D hvot (k := i) (by omega)).mp (mem_of_get hs)
        have Cs : Cd (dvs f st) v s := cd_sea dvs_len hV Ss (by omega)
        have nxl := nextL_le (d := dvs f st) (v := v) (s := s)
        have nxne := next_some D (v := v) (s := s) (by omega) Ss (by omega)
        refine s_forI (ns := nextL (dvs f st) v s) (ep_next_ones (ep_v rfl (hd13.ex e16) mo_I) (ep_v rfl (hv13.ex e16) mo_T) (ep_v rfl (hx13.ex e16) mo_T) Cs) (fun pn m σ' H' => ∃ b14 b15 ys kvs, σ' = [some (.ref a), some (.ref S), some xm, some xv, some (.int (h : Int)), some xd, some (.ref pr), some (.ref q2), some O2, some Hh2, some (.int (i : Int)), some (.int (p : Int)), some (.ref l), some x, b14, b15, none] ∧
            Ex H13 H' ∧ H' pn = some (.lst ((nextL (dvs f st) v s).map V.int)) ∧ H' l = some (.lst ys) ∧ Rows H' ys (laterOf (pairsG (dvs f st) v ((bfs (dvs f st) v i).take j) ++ ((nextL (dvs f st) v s).take m).map fun p => (s, p))) ∧ H' q2 = some (.dT kvs) ∧ kvs.length ≤ j * 5 + m ∧ ys.length ≤ j * 5 + m ∧
            DictOk kvs (lastsOf (pairsG (dvs f st) v ((bfs (dvs f st) v i).take j) ++ ((nextL (dvs f st) v s).take m).map fun p => (s, p))) H')
          (fun pn H17 e17 hpn => ⟨b14, b15, ys, kvs2, rfl, e16.trans e17, hpn, e17 _ _ hl16, by rw [List.take_zero, List.map_nil, List.append_nil]; exact hys.ex e17, e17 _ _ hq16, hkl, hyl, by rw [List.take_zero, List.map_nil, List.append_nil]; exact hdi2.ex e17⟩)
          (fun pn m σ' H' ⟨_, _, _, _, _, _, hpn, _⟩ => hpn) (fun pn m z σ3 H17 hz ⟨c14, c15, zs, kvs3, hσ, e17, hpn, hl17, hzs, hq17, hkl3, hyl3, hdi3⟩ => ?_) (fun pn σ3 H17 ⟨c14, c15, zs, kvs3, hσ, e17, hpn, hl17, hzs, hq17, hkl3, hyl3, hdi3⟩ => ?_)
        · subst hσ
          obtain ⟨pz, hpz, hnz, rfl⟩ := mem_nextL.mp (mem_of_get hz)
          have hml : m < 5 := by have := (List.getElem?_eq_some_iff.mp hz).1; omega
          generalize hps : pairsG (dvs f st) v ((bfs (dvs f st) v i).take j) ++ ((nextL (dvs f st) v s).take m).map (fun p => (s, p)) = ps at hzs hdi3
          have hps1 : pairsG (dvs f st) v ((bfs (dvs f st) v i).take j) ++ ((nextL (dvs f st) v s).take (m + 1)).map (fun p => (s, p)) = ps ++ [(s, (pz : Int))] := by
            rw [map_snoc hz, ← List.append_assoc, hps]
          refine qp_asg (ep_given (ep_v rfl (hx13.ex e17) mo_T) (ev_var rfl) (by rw [Ss.len]; exact hpz) (by rw [Ss.len]; omega)) fun g15 H18 e18 hg18 => ?_
          have hpl : ∀ g, (lastsOf ps g).length ≤ 10000 := fun g => by
            have h1 := len_lasts (ps := ps) (g := g)
            have h2 : ps.length ≤ 10000 := by
              rw [← hps, List.length_append, List.length_map, List.length_take]
              have h3 : (pairsG (dvs f st) v ((bfs (dvs f st) v i).take j)).length ≤ 5 * j := by
                unfold pairsG
                rw [List.length_flatMap]
                have h4 := sum_le_mul (l := ((bfs (dvs f st) v i).take j).map fun s => ((nextL (dvs f st) v s).map fun p => (s, p)).length) (k := 5) (fun x hx => by
                  obtain ⟨r, _, rfl⟩ := List.mem_map.mp hx
                  show ((nextL (dvs f st) v r).map fun p => (r, p)).length ≤ 5
                  rw [List.length_map]
                  have := nextL_le (d := dvs f st) (v := v) (s := r)
                  omega)
                rw [List.length_map, List.length_take] at h4
                have h5 : 5 * min j (bfs (dvs f st) v i).length ≤ 5 * j := Nat.mul_le_mul_left 5 (Nat.min_le_left _ _)
                omega
              omega
            omega
          refine q_dput (P := IsI (lastsOf (ps ++ [(s, (pz : Int))]) (givenS s (pz : Int)))) mo_I (by
              rw [lasts_snoc, if_pos (show gv (s, (pz : Int)) = givenS s (pz : Int) from rfl)]
              exact ep_catL (ep_dget (ev_var rfl) (e18 _ _ hq17) (ep_v rfl hg18 mo_T) (hdi3.ex e18)) (ep_lst1 (ev_var rfl)) (by have := hpl (givenS s (pz : Int)); rw [List.length_singleton]; omega)) (ev_var rfl) (e18 _ _ hq17) (ep_v rfl hg18 mo_T) (by omega) fun xn H19 e19 hxn => ?_
          have hl19 : H19 l = some (.lst zs) := e19 _ _ (e18 _ _ hl17)
          have hq19 : H19 q2 = some (.dT kvs3) := e19 _ _ (e18 _ _ hq17)
          have hzs19 : Rows H19 zs (laterOf ps) := (hzs.ex e18).ex e19
          have dneq : ∀ (ns : List Int) (pp : Addr), ns ≠ [] → H19 pp = some (.lst (ns.map V.int)) → pp ≠ q2 := fun ns pp _ hpp => ne_of hpp hq19 (by intro z; cases z)
          have hputne : lastsOf (ps ++ [(s, (pz : Int))]) (givenS s (pz : Int)) ≠ [] := by
            rw [lasts_snoc, if_pos (show gv (s, (pz : Int)) = givenS s (pz : Int) from rfl)]
            simp
          have hdi4 : DictOk (putK kvs3 (keyOf (givenS s (pz : Int))) xn) (lastsOf (ps ++ [(s, (pz : Int))])) H19 := dictOk_put ((hdi3.ex e18).ex e19) hxn hputne (fun g' hne => by
            rw [lasts_snoc, if_neg (show ¬ gv (s, (pz : Int)) = g' from fun z => hne z.symm), List.append_nil])
          have hdi5 := dictOk_upd (q := q2) (o := .dT (putK kvs3 (keyOf (givenS s (pz : Int))) xn)) hdi4 dneq
          have hzs20 : Rows (upd H19 q2 (.dT (putK kvs3 (keyOf (givenS s (pz : Int))) xn))) zs (laterOf ps) := paired_imp (fun y r ⟨t, ey, ht⟩ => ⟨t, ey, by rw [upd_ne (ne_of ht hq19 (by intro z; cases z))]; exact ht⟩) hzs19
          have hg20 : IsT (givenS s (pz : Int)) g15 (upd H19 q2 (.dT (putK kvs3 (keyOf (givenS s (pz : Int))) xn))) := by
            obtain ⟨t, ey, ht⟩ := hg18.ex e19
            exact ⟨t, ey, by rw [upd_ne (ne_of ht hq19 (by intro z; cases z))]; exact ht⟩
          have hl20 : (upd H19 q2 (.dT (putK kvs3 (keyOf (givenS s (pz : Int))) xn))) l = some (.lst zs) := by rw [upd_ne nlq]; exact hl19
          have hpn20 : (upd H19 q2 (.dT (putK kvs3 (keyOf (givenS s (pz : Int))) xn))) pn = some (.lst ((nextL (dvs f st) v s).map V.int)) := by
            have hpn19 := e19 _ _ (e18 _ _ hpn)
            rw [upd_ne (ne_of hpn19 hq19 (by intro z; cases z))]; exact hpn19
          have e20 : Ex H13 (upd H19 q2 (.dT (putK kvs3 (keyOf (givenS s (pz : Int))) xn))) := Ex.mut ((e17.trans e18).trans e19) nq13
          have hq20 : (upd H19 q2 (.dT (putK kvs3 (keyOf (givenS s (pz : Int))) xn))) q2 = some (.dT (putK kvs3 (keyOf (givenS s (pz : Int))) xn)) := upd_same
          generalize upd H19 q2 (.dT (putK kvs3 (keyOf (givenS s (pz : Int))) xn)) = H20 at hdi5 hzs20 hg20 hl20 hpn20 e20 hq20 ⊢
          have hput := length_putK kvs3 (keyOf (givenS s (pz : Int))) xn
          refine s_ext (R := fun ws H => Rows H ws (newR (laterOf ps) (givenS s (pz : Int)))) hl20 (ev_var rfl) ((ep_if (P := IsR (newR (laterOf ps) (givenS s (pz : Int)))) (et_test (ev_niR (ep_v rfl hg20 mo_T) (ep_v rfl ⟨l, zs, rfl, hl20, hzs20⟩ mo_R))) (fun hb => ?_) (fun hb => ?_)).imp fun u H21 _ ⟨pp, ws, hu, hpp, hws⟩ => ⟨pp, ws, hu, hpp, hws⟩) (fun ws H21 hws => ?_) (fun ws H21 e21 hws => ?_)
          · have hb' : givenS s (pz : Int) ∉ laterOf ps := by simpa using hb
            unfold newR
            rw [if_neg hb']
            exact (ep_lstP (eap_cons (ep_v rfl hg20 mo_T) mo_T eap_nil) (mo_cons mo_T mo_nil) (fun vs H1 ⟨x, r, q1, _, q3⟩ => by rw [q1, q3]; show 1 ≤ 100000; omega)).imp fun u H6 _ ⟨p, vs, hu, hp, x, r, q1, hx, q5⟩ => ⟨p, [x], hu, by rw [hp, q1, q5], .cons hx .nil⟩
          · have hb' : givenS s (pz : Int) ∈ laterOf ps := by simpa using hb
            unfold newR
            rw [if_pos hb']
            exact (ep_lstV ea_nil (Nat.zero_le _)).imp fun u H6 _ ⟨p, hu, hp⟩ => ⟨p, [], hu, hp, .nil⟩
          · have h1 := paired_len hws
            have h2 := newR_le (l := laterOf ps) (g := givenS s (pz : Int))
            omega
          · have hl21 := e21 _ _ hl20
            have h1 := paired_len hws
            have h2 := newR_le (l := laterOf ps) (g := givenS s (pz : Int))
            refine ⟨_, _, zs ++ ws, putK kvs3 (keyOf (givenS s (pz : Int))) xn, rfl, Ex.mut (e20.trans e21) (fresh_back (Ex.refl _) nl), ?_, upd_same, ?_, ?_, by omega, by rw [List.length_append]; omega, ?_⟩
            · have hpn21 := e21 _ _ hpn20
              rw [upd_ne (int_neR nxne hpn21 hl21 (hzs20.ex e21))]
              exact hpn21
            · rw [hps1, later_snoc, addG_new]
              exact paired_append (rows_mu hl21 (hzs20.ex e21)) (rows_mu hl21 hws)
            · rw [upd_ne (Ne.symm nlq)]
              exact e21 _ _ hq20
            · rw [hps1]
              exact dictOk_upd (hdi5.ex e21) fun ns pp hne hpp => int_neR hne hpp hl21 (hzs20.ex e21)
        · subst hσ
          rw [List.take_length, ← pairs_snoc hs] at hzs hdi3
          exact ⟨some x, c14, c15, zs, kvs3, rfl, e17, hl17, hzs, hq17, by omega, by omega, hdi3⟩
      · subst hσ
        rw [hlenR, List.take_length] at hys hdi2
        refine sp_asg (ep_of (ev_var rfl)) fun xl H17 e17 hxl => ?_
        refine ⟨xl, q2, O2, Hh2, some (.int (i : Int)), some (.int (p : Int)), some (.ref l), b13, b14, b15, kvs2, rfl, ((e10.trans e1013).trans e16).trans e17, ⟨l, ys, hxl, e17 _ _ hl16, hys.ex e17⟩, e17 _ _ hq16, hdi2.ex e17, ?_, ?_⟩
        · show IsT ((toldF (dvs f st) v i).2 ++ [ix (nextL (dvs f st) v (toldF (dvs f st) v i).1) 0]) O2 H17
          rw [ep]
          exact (hO2.ex e13).ex (e16.trans e17)
        · show IsT (givenS (toldF (dvs f st) v i).1 (ix (nextL (dvs f st) v (toldF (dvs f st) v i).1) 0)) Hh2 H17
          rw [ep]
          exact hHh2.ex (e16.trans e17)
    · -- behind them
      subst hσ
      have eh : ((h : Int)).toNat = h := by omega
      rw [eh] at hR hdi hO hHh
      have hm10 := mo_M _ _ _ e10 hm9
      have hv10 := hv9.ex e10
      have hd10 := hd9.ex e10
      have s10 := s9.ex e10
      have hcnt := (bfs_perm D hvot (k := h) (by omega)).length_eq
      have hlr := len_bfs (d := dvs f st) D hvot hv4 (k := h) (by omega)
      have htl := told_len (d := dvs f st) (v := v) (k := h)
      refine q_when (b := false) (et_is (et_not (et_B (ev_equal (ep_lst2 (ep_told_order (ep_m rfl hm10) (ep_v rfl hv10 mo_T) (ev_var rfl) M hV (by omega) h5) mo_T (ep_of (ev_count (ep_m rfl hm10) (ep_v rfl hv10 mo_T) (ev_var rfl) M hV hv4 (by omega) (by omega))) mo_is) (mo_lst2 mo_T mo_is)
        (ep_lst2 (ep_v rfl hO mo_T) mo_T (ep_of (ev_lenR (ep_v rfl hR mo_R))) mo_is) (mo_lst2 mo_T mo_is) (fun x y H1 ⟨y1, z1, hx, hy1, hz1⟩ ⟨y2, z2, hy, hy2, hz2⟩ => ?_)))) rfl) (fun z => by cases z) fun _ H11 e11 => ?_
      · refine eqd_L hx hy (by show 2 ≤ 1000; omega) (.cons (eqd_T hy1 hy2 (by omega)) (.cons ?_ .nil))
        rw [hz1, hz2, hcnt]
        exact eqd_sc rfl
      have hrow : ∀ r ∈ bfs (dvs f st) v h, Sea v.length (h : Int) r ∧ validB (dvs f st) v r = true := fun r hr => (mem_bfs D hvot (by omega)).mp hr
      have hfew := few_seats hv4 h5
      have hfl := List.length_filter_le (validB (dvs f st) v) (allSeats v.length (h : Int))
      refine q_when (b := false) (et_test (ev_neR2 (F := fun ms => ms.Perm (bfs (dvs f st) v h) ∧ ms.Pairwise fun a b => TS.code 9 a ≤ TS.code 9 b) (G := fun ms => ms.Perm ((allSeats v.length (h : Int)).filter (validB (dvs f st) v)) ∧ ms.Pairwise fun a b => TS.code 9 a ≤ TS.code 9 b)
        (ep_sortR (d := v.length) (B := 9) (ep_v rfl (hR.ex e11) mo_R) hv1 (by omega) (fun r hr => bd_row (hrow r hr).1 (by omega)))
        (ep_sortR (d := v.length) (B := 9) (ep_law_valid (ep_v rfl (hd10.ex e11) mo_I) (ep_v rfl (hv10.ex e11) mo_T) (ev_var rfl) dvs_len hV hv4 (by omega) (by omega)) hv1 (by omega) (fun r hr => bd_row ((Sea.of (by omega)).mp (List.mem_filter.mp hr).1) (by omega)))
        (fun ms ns ⟨m1, m2⟩ ⟨n1, n2⟩ => sorted_same (m1.trans ((bfs_perm D hvot (by omega)).trans n1.symm)) (fun r hr => bd_row (hrow r (m1.mem_iff.mp hr)).1 (by omega)) m2 n2))) (fun z => by cases z) fun _ H12 e12 => ?_
      have e1012 := e11.trans e12
      have s12 := s10.ex e1012
      have hmF := isM_del s12 (mo_M _ _ _ e1012 hm10)
      have hvF := isT_del s12 (hv10.ex e1012)
      have hdF := isI_del s12 (hd10.ex e1012)
      have hRF := isR_del s12 (hR.ex e1012)
      have hqF := del_at (e1012 _ _ hq) (fun z => by
        obtain ⟨_, _, _, hS12, _⟩ := s12
        have := e1012 _ _ hq
        rw [z, hS12] at this
        cases this)
      have hdiF := dict_del s12 (hdi.ex e1012)
      refine q_forR1 (ea_cons ev_c ea_nil) (by omega) (fun t σ' H' => ∃ b10 b11 b12 b13 b14 b15 b16, σ' = [some (.ref a), some (.ref S), some xm, some xv, some (.int (h : Int)), some xd, some R, some (.ref q), some O, some Hh, b10, b11, b12, b13, b14, b15, b16] ∧ Ex (del H12 S) H' ∧ StAt H' S L)
        (fun H13 e13 => ⟨_, _, _, _, _, _, _, rfl, ex_del e13, s12.ex e13⟩) (fun t σ2 H13 ht ⟨b10, b11, b12, b13, b14, b15, b16, hσ, e13, s13⟩ => ?_) (fun σ2 H13 _ => ?_)
      · subst hσ
        refine qs_asg (es_pickR (rs := if decide ((t : Int) < 2) = true then bfs (dvs f st) v h else allSeats v.length (h : Int)) (ev_var rfl) (ep_if (et_test (ev_lt (ev_var rfl) ev_c)) (fun hb => ?_) (fun hb => ?_)) ?_ ?_) s13 fun x H14 e14 s14 ⟨r, hr, hx14⟩ => ?_
        · rw [if_pos hb]
          exact ep_v rfl (isR_del s13 (hRF.ex e13)) mo_R
        · rw [if_neg (by rw [hb]; decide)]
          exact ep_law_all_seats (ev_lenTI (ep_v rfl (isT_del s13 (hvF.ex e13)) mo_T)) (ev_var rfl) hv4 (by omega) (by omega)
        · split
          · exact List.length_pos_iff.mpr (bfs_ne D (by omega) hvot (by omega))
          · obtain ⟨r, hr⟩ := List.exists_mem_of_ne_nil _ (bfs_ne D (by omega) hvot (k := h) (by omega))
            exact List.length_pos_iff.mpr (List.ne_nil_of_mem ((Sea.of (by omega)).mpr (hrow r hr).1))
        · split
          · omega
          · omega
        have hrS : Sea v.length (h : Int) r := by
          split at hr
          · exact (hrow r hr).1
          · exact (Sea.of (by omega)).mp hr
        have hOk := sea_ok hrS (by omega)
        have Cr : Cd (dvs f st) v r := cd_sea dvs_len hV hrS (by omega)
        have eF14 := del_trans e13 e14
        have hm14 := mo_M _ _ _ eF14 hmF
        have hv14 := hvF.ex eF14
        have hd14 := hdF.ex eF14
        have hR14 := hRF.ex eF14
        have hq14 := eF14 _ _ hqF
        have hdi14 := hdiF.ex eF14
        have hnl := nextL_le (d := dvs f st) (v := v) (s := r)
        refine q_when (b := false) (et_is (et_not (et_B (ev_equal (ep_next_parties (ep_m rfl hm14) (ep_v rfl hv14 mo_T) (ep_v rfl hx14 mo_T) M hV hOk) mo_T (ep_tupOf (ep_next_ones (ep_v rfl hd14 mo_I) (ep_v rfl hv14 mo_T) (ep_v rfl hx14 mo_T) Cr)) mo_T (fun x y H1 h1 h2 => eqd_T h1 h2 (by omega))))) rfl) (fun z => by cases z) fun _ H15 e15 => ?_
        refine qp_asg (P := DueR (dvs f st) v h r) (ep_if (et_test (ev_inR (ep_v rfl (hx14.ex e15) mo_T) (ep_v rfl (hR14.ex e15) mo_R))) (fun hb => ?_) (fun hb => ?_)) fun xu H16 e16 hu16 => ?_
        · have hb' := of_decide_eq_true hb
          refine (ep_tupOf (ns := lastL (dvs f st) v r) ((ep_sortI (ep_dget (ev_var rfl) (e15 _ _ hq14) (ep_v rfl (hx14.ex e15) mo_T) (hdi14.ex e15))).imp fun u H17 _ ⟨ms, h1, h2, h3⟩ => ?_)).imp fun u H17 _ hu => .inl ⟨hb', hu⟩
          rw [← lasts_are D hvot (by omega) hrS h2 h3]; exact h1
        · have hb' := of_decide_eq_false hb
          exact (ep_lstV (ea_cons ev_c (ea_cons ev_c ea_nil)) (by show 2 ≤ 100000; omega)).imp fun u H17 _ hu => .inr ⟨hb', hu⟩
        have e1416 := e15.trans e16
        have hvb : validB (dvs f st) v r = decide (r ∈ bfs (dvs f st) v h) := by
          rw [Bool.eq_iff_iff, decide_eq_true_eq, mem_bfs D hvot (by omega)]
          exact ⟨fun q => ⟨hrS, q⟩, fun q => q.2⟩
        refine s_when (b := false) (et_is (et_not (et_B (ev_equal (ep_lst2 (ep_law_told (ep_m rfl (mo_M _ _ _ e1416 hm14)) (ep_v rfl (hv14.ex e1416) mo_T) (ep_v rfl (hx14.ex e1416) mo_T) M hV hOk) mo_told (ep_of (ev_is_valid (ep_m rfl (mo_M _ _ _ e1416 hm14)) (ep_v rfl (hv14.ex e1416) mo_T) (ep_v rfl (hx14.ex e1416) mo_T) M hV hOk)) mo_is) (mo_lst2 mo_told mo_is)
          (ep_lst2 (ep_v rfl hu16 mo_due) mo_due (ep_of (ev_inR (ep_v rfl (hx14.ex e1416) mo_T) (ep_v rfl (hR14.ex e1416) mo_R))) mo_is) (mo_lst2 mo_due mo_is) (fun x y H1 ⟨y1, z1, hx, hy1, hz1⟩ ⟨y2, z2, hy, hy2, hz2⟩ => ?_)))) rfl) (fun z => by cases z) fun _ H17 e17 => ⟨_, _, _, _, _, _, _, rfl, (eF14.trans e1416).trans e17, s14.ex (e1416.trans e17)⟩
        refine eqd_L hx hy (by show 2 ≤ 1000; omega) (.cons ?_ (.cons ?_ .nil))
        · rcases hy1 with ⟨q1, h1⟩ | ⟨q1, h1⟩
          · rw [hvb] at q1
            rcases hy2 with ⟨q2, h2⟩ | ⟨q2, h2⟩
            · have hll : (lastL (dvs f st) v r).length ≤ v.length := toI_len
              exact eqd_T h1 h2 (by omega)
            · exact absurd (of_decide_eq_true q1) q2
          · rw [hvb] at q1
            rcases hy2 with ⟨q2, h2⟩ | ⟨q2, h2⟩
            · exact absurd q2 (of_decide_eq_false q1)
            · exact eqd_L h1 h2 (by show 2 ≤ 1000; omega) (.cons (eqd_sc rfl) (.cons (eqd_sc rfl) .nil))
        · rw [hz1, hz2, hvb]
          exact eqd_sc rfl
      · exact s_ret (v := .bl true) ev_c fun H14 e14 => kq H14
end
end Ds

namespace Ds
open PySem PySem.Spec PyProof.Rows L2
/-! ### what the top has written -/
theorem kit_own {K : PySem.W.Frag} {C S : Addr} (h1 : PySem.W.isClsIn K S = true) (h2 : PySem.W.typeIn K (.ref S) = some (.type "type")) (h3 : PySem.W.subIn K (.ref C) (.ref S) = some true) : PySem.W.kitOne K (.ref C) (.ref S) = some true := by
  unfold PySem.W.kitOne
  split
  · rfl
  · have e : ((PySem.W.clsIn K S).isSome && PySem.W.typeIn K (.ref S) == some (.type "type")) = true := by
      have h1' : (PySem.W.clsIn K S).isSome = true := h1
      rw [h1', h2] <;> rfl
    show (if ((PySem.W.clsIn K S).isSome && PySem.W.typeIn K (.ref S) == some (.type "type")) = true then PySem.W.subIn K (.ref C) (.ref S) else none) = some true
    rw [if_pos e]
    exact h3

theorem all_mk {K : PySem.W.Frag} {hp : Heap} {mg : Str → Option Value} {fa : Addr} (X : K.In hp) (G : hp.Ns mainGlobals mg) (hfa : mg "law" = some (.ref fa))
    {f0 f1 f2 f3 f4 f5 f6 f7 f8 f9 f10 f11 f12 f13 f14 f15 f16 f17 f18 f19 f20 f21 f22 f23 f24 f25 f26 f27 f28 f29 f30 f31 f32 f33 f34 f35 f36 f37 f38 f39 : Addr} {od0 od1 od2 od3 od4 od5 od6 od7 od8 od9 od10 od11 od12 od13 od14 od15 od16 od17 od18 od19 od20 od21 od22 od23 od24 od25 od26 od27 od28 od29 od30 od31 od32 od33 od34 od35 od36 od37 od38 od39 an0 an1 an2 an3 an4 an5 an6 an7 an8 an9 an10 an11 an12 an13 an14 an15 an16 an17 an18 an19 an20 an21 an22 an23 an24 an25 an26 an27 an28 an29 an30 an31 an32 an33 an34 an35 an36 an37 an38 an39 : Option Addr} {sl0 sl1 sl2 sl3 sl4 sl5 sl6 sl7 sl8 sl9 sl10 sl11 sl12 sl13 sl14 sl15 sl16 sl17 sl18 sl19 sl20 sl21 sl22 sl23 sl24 sl25 sl26 sl27 sl28 sl29 sl30 sl31 sl32 sl33 sl34 sl35 sl36 sl37 sl38 sl39 : Array (Option Value)} {oc0 kV0 dc0 pm0 cd0 ct0 oc1 kV1 dc1 pm1 cd1 ct1 oc2 kV2 dc2 pm2 cd2 ct2 oc3 kV3 dc3 pm3 cd3 ct3 oc4 kV4 dc4 pm4 cd4 ct4 oc5 kV5 dc5 pm5 cd5 ct5 oc6 kV6 dc6 pm6 cd6 ct6 oc7 kV7 dc7 pm7 cd7 ct7 oc8 kV8 dc8 pm8 cd8 ct8 oc9 kV9 dc9 pm9 cd9 ct9 oc10 kV10 dc10 pm10 cd10 ct10 oc11 kV11 dc11 pm11 cd11 ct11 oc12 kV12 dc12 pm12 cd12 ct12 oc13 kV13 dc13 pm13 cd13 ct13 oc14 kV14 dc14 pm14 cd14 ct14 oc15 kV15 dc15 pm15 cd15 ct15 oc16 kV16 dc16 pm16 cd16 ct16 oc17 kV17 dc17 pm17 cd17 ct17 oc18 kV18 dc18 pm18 cd18 ct18 oc19 kV19 dc19 pm19 cd19 ct19 oc20 kV20 dc20 pm20 cd20 ct20 oc21 kV21 dc21 pm21 cd21 ct21 oc22 kV22 dc22 pm22 cd22 ct22 oc23 kV23 dc23 pm23 cd23 ct23 oc24 kV24 dc24 pm24 cd24 ct24 oc25 kV25 dc25 pm25 cd25 ct25 oc26 kV26 dc26 pm26 cd26 ct26 oc27 kV27 dc27 pm27 cd27 ct27 oc28 kV28 dc28 pm28 cd28 ct28 oc29 kV29 dc29 pm29 cd29 ct29 oc30 kV30 dc30 pm30 cd30 ct30 oc31 kV31 dc31 pm31 cd31 ct31 oc32 kV32 dc32 pm32 cd32 ct32 oc33 kV33 dc33 pm33 cd33 ct33 oc34 kV34 dc34 pm34 cd34 ct34 oc35 kV35 dc35 pm35 cd35 ct35 oc36 kV36 dc36 pm36 cd36 ct36 oc37 kV37 dc37 pm37 cd37 ct37 oc38 kV38 dc38 pm38 cd38 ct38 oc39 kV39 dc39 pm39 cd39 ct39 : Value}
    (a0 : PySem.W.nsIn K mainGlobals "is_whole" = some (some (.ref f0))) (l0 : K.lookup f0 = some ⟨oc0, od0, .func (PySem.W.fnOf "is_whole" "is_whole" (defArgs s_is_whole) (defBody s_is_whole) (defScope s_is_whole) .none kV0 dc0 pm0 an0 cd0 ct0), sl0⟩) (c0 : PySem.W.codeIn K cd0 "is_whole" = true) (k0 : PySem.W.keepIn K (.ref f0) = true)
    (a1 : PySem.W.nsIn K mainGlobals "is_method" = some (some (.ref f1))) (l1 : K.lookup f1 = some ⟨oc1, od1, .func (PySem.W.fnOf "is_method" "is_method" (defArgs s_is_method) (defBody s_is_method) (defScope s_is_method) .none kV1 dc1 pm1 an1 cd1 ct1), sl1⟩) (c1 : PySem.W.codeIn K cd1 "is_method" = true) (k1 : PySem.W.keepIn K (.ref f1) = true)
    (a2 : PySem.W.nsIn K mainGlobals "divisor_at" = some (some (.ref f2))) (l2 : K.lookup f2 = some ⟨oc2, od2, .func (PySem.W.fnOf "divisor_at" "divisor_at" (defArgs s_divisor_at) (defBody s_divisor_at) (defScope s_divisor_at) .none kV2 dc2 pm2 an2 cd2 ct2), sl2⟩) (c2 : PySem.W.codeIn K cd2 "divisor_at" = true) (k2 : PySem.W.keepIn K (.ref f2) = true)
    (a3 : PySem.W.nsIn K mainGlobals "divisors_to" = some (some (.ref f3))) (l3 : K.lookup f3 = some ⟨oc3, od3, .func (PySem.W.fnOf "divisors_to" "divisors_to" (defArgs s_divisors_to) (defBody s_divisors_to) (defScope s_divisors_to) .none kV3 dc3 pm3 an3 cd3 ct3), sl3⟩) (c3 : PySem.W.codeIn K cd3 "divisors_to" = true) (k3 : PySem.W.keepIn K (.ref f3) = true)
    (a4 : PySem.W.nsIn K mainGlobals "check_method" = some (some (.ref f4))) (l4 : K.lookup f4 = some ⟨oc4, od4, .func (PySem.W.fnOf "check_method" "check_method" (defArgs s_check_method) (defBody s_check_method) (defScope s_check_method) .none kV4 dc4 pm4 an4 cd4 ct4), sl4⟩) (c4 : PySem.W.codeIn K cd4 "check_method" = true) (k4 : PySem.W.keepIn K (.ref f4) = true)
    (a5 : PySem.W.nsIn K mainGlobals "is_votes" = some (some (.ref f5))) (l5 : K.lookup f5 = some ⟨oc5, od5, .func (PySem.W.fnOf "is_votes" "is_votes" (defArgs s_is_votes) (defBody s_is_votes) (defScope s_is_votes) .none kV5 dc5 pm5 an5 cd5 ct5), sl5⟩) (c5 : PySem.W.codeIn K cd5 "is_votes" = true) (k5 : PySem.W.keepIn K (.ref f5) = true)
    (a6 : PySem.W.nsIn K mainGlobals "is_seats" = some (some (.ref f6))) (l6 : K.lookup f6 = some ⟨oc6, od6, .func (PySem.W.fnOf "is_seats" "is_seats" (defArgs s_is_seats) (defBody s_is_seats) (defScope s_is_seats) .none kV6 dc6 pm6 an6 cd6 ct6), sl6⟩) (c6 : PySem.W.codeIn K cd6 "is_seats" = true) (k6 : PySem.W.keepIn K (.ref f6) = true)
    (a7 : PySem.W.nsIn K mainGlobals "is_wrong" = some (some (.ref f7))) (l7 : K.lookup f7 = some ⟨oc7, od7, .func (PySem.W.fnOf "is_wrong" "is_wrong" (defArgs s_is_wrong) (defBody s_is_wrong) (defScope s_is_wrong) .none kV7 dc7 pm7 an7 cd7 ct7), sl7⟩) (c7 : PySem.W.codeIn K cd7 "is_wrong" = true) (k7 : PySem.W.keepIn K (.ref f7) = true)
    (a8 : PySem.W.nsIn K mainGlobals "first_wrong" = some (some (.ref f8))) (l8 : K.lookup f8 = some ⟨oc8, od8, .func (PySem.W.fnOf "first_wrong" "first_wrong" (defArgs s_first_wrong) (defBody s_first_wrong) (defScope s_first_wrong) .none kV8 dc8 pm8 an8 cd8 ct8), sl8⟩) (c8 : PySem.W.codeIn K cd8 "first_wrong" = true) (k8 : PySem.W.keepIn K (.ref f8) = true)
    (a9 : PySem.W.nsIn K mainGlobals "valid_by" = some (some (.ref f9))) (l9 : K.lookup f9 = some ⟨oc9, od9, .func (PySem.W.fnOf "valid_by" "valid_by" (defArgs s_valid_by) (defBody s_valid_by) (defScope s_valid_by) .none kV9 dc9 pm9 an9 cd9 ct9), sl9⟩) (c9 : PySem.W.codeIn K cd9 "valid_by" = true) (k9 : PySem.W.keepIn K (.ref f9) = true)
    (a10 : PySem.W.nsIn K mainGlobals "all_seats" = some (some (.ref f10))) (l10 : K.lookup f10 = some ⟨oc10, od10, .func (PySem.W.fnOf "all_seats" "all_seats" (defArgs s_all_seats) (defBody s_all_seats) (defScope s_all_seats) .none kV10 dc10 pm10 an10 cd10 ct10), sl10⟩) (c10 : PySem.W.codeIn K cd10 "all_seats" = true) (k10 : PySem.W.keepIn K (.ref f10) = true)
    (a11 : PySem.W.nsIn K mainGlobals "all_shares" = some (some (.ref f11))) (l11 : K.lookup f11 = some ⟨oc11, od11, .func (PySem.W.fnOf "all_shares" "all_shares" (defArgs s_all_shares) (defBody s_all_shares) (defScope s_all_shares) .none kV11 dc11 pm11 an11 cd11 ct11), sl11⟩) (c11 : PySem.W.codeIn K cd11 "all_shares" = true) (k11 : PySem.W.keepIn K (.ref f11) = true)
    (a12 : PySem.W.nsIn K mainGlobals "check_votes" = some (some (.ref f12))) (l12 : K.lookup f12 = some ⟨oc12, od12, .func (PySem.W.fnOf "check_votes" "check_votes" (defArgs s_check_votes) (defBody s_check_votes) (defScope s_check_votes) .none kV12 dc12 pm12 an12 cd12 ct12), sl12⟩) (c12 : PySem.W.codeIn K cd12 "check_votes" = true) (k12 : PySem.W.keepIn K (.ref f12) = true)
    (a13 : PySem.W.nsIn K mainGlobals "check_seats" = some (some (.ref f13))) (l13 : K.lookup f13 = some ⟨oc13, od13, .func (PySem.W.fnOf "check_seats" "check_seats" (defArgs s_check_seats) (defBody s_check_seats) (defScope s_check_seats) .none kV13 dc13 pm13 an13 cd13 ct13), sl13⟩) (c13 : PySem.W.codeIn K cd13 "check_seats" = true) (k13 : PySem.W.keepIn K (.ref f13) = true)
    (a14 : PySem.W.nsIn K mainGlobals "check_house" = some (some (.ref f14))) (l14 : K.lookup f14 = some ⟨oc14, od14, .func (PySem.W.fnOf "check_house" "check_house" (defArgs s_check_house) (defBody s_check_house) (defScope s_check_house) .none kV14 dc14 pm14 an14 cd14 ct14), sl14⟩) (c14 : PySem.W.codeIn K cd14 "check_house" = true) (k14 : PySem.W.keepIn K (.ref f14) = true)
    (a15 : PySem.W.nsIn K mainGlobals "shares_of" = some (some (.ref f15))) (l15 : K.lookup f15 = some ⟨oc15, od15, .func (PySem.W.fnOf "shares_of" "shares_of" (defArgs s_shares_of) (defBody s_shares_of) (defScope s_shares_of) .none kV15 dc15 pm15 an15 cd15 ct15), sl15⟩) (c15 : PySem.W.codeIn K cd15 "shares_of" = true) (k15 : PySem.W.keepIn K (.ref f15) = true)
    (a16 : PySem.W.nsIn K mainGlobals "is_valid" = some (some (.ref f16))) (l16 : K.lookup f16 = some ⟨oc16, od16, .func (PySem.W.fnOf "is_valid" "is_valid" (defArgs s_is_valid) (defBody s_is_valid) (defScope s_is_valid) .none kV16 dc16 pm16 an16 cd16 ct16), sl16⟩) (c16 : PySem.W.codeIn K cd16 "is_valid" = true) (k16 : PySem.W.keepIn K (.ref f16) = true)
    (a17 : PySem.W.nsIn K mainGlobals "count_valid" = some (some (.ref f17))) (l17 : K.lookup f17 = some ⟨oc17, od17, .func (PySem.W.fnOf "count_valid" "count_valid" (defArgs s_count_valid) (defBody s_count_valid) (defScope s_count_valid) .none kV17 dc17 pm17 an17 cd17 ct17), sl17⟩) (c17 : PySem.W.codeIn K cd17 "count_valid" = true) (k17 : PySem.W.keepIn K (.ref f17) = true)
    (a18 : PySem.W.nsIn K mainGlobals "is_ahead" = some (some (.ref f18))) (l18 : K.lookup f18 = some ⟨oc18, od18, .func (PySem.W.fnOf "is_ahead" "is_ahead" (defArgs s_is_ahead) (defBody s_is_ahead) (defScope s_is_ahead) .none kV18 dc18 pm18 an18 cd18 ct18), sl18⟩) (c18 : PySem.W.codeIn K cd18 "is_ahead" = true) (k18 : PySem.W.keepIn K (.ref f18) = true)
    (a19 : PySem.W.nsIn K mainGlobals "next_in" = some (some (.ref f19))) (l19 : K.lookup f19 = some ⟨oc19, od19, .func (PySem.W.fnOf "next_in" "next_in" (defArgs s_next_in) (defBody s_next_in) (defScope s_next_in) .none kV19 dc19 pm19 an19 cd19 ct19), sl19⟩) (c19 : PySem.W.codeIn K cd19 "next_in" = true) (k19 : PySem.W.keepIn K (.ref f19) = true)
    (a20 : PySem.W.nsIn K mainGlobals "last_in" = some (some (.ref f20))) (l20 : K.lookup f20 = some ⟨oc20, od20, .func (PySem.W.fnOf "last_in" "last_in" (defArgs s_last_in) (defBody s_last_in) (defScope s_last_in) .none kV20 dc20 pm20 an20 cd20 ct20), sl20⟩) (c20 : PySem.W.codeIn K cd20 "last_in" = true) (k20 : PySem.W.keepIn K (.ref f20) = true)
    (a21 : PySem.W.nsIn K mainGlobals "next_parties" = some (some (.ref f21))) (l21 : K.lookup f21 = some ⟨oc21, od21, .func (PySem.W.fnOf "next_parties" "next_parties" (defArgs s_next_parties) (defBody s_next_parties) (defScope s_next_parties) .none kV21 dc21 pm21 an21 cd21 ct21), sl21⟩) (c21 : PySem.W.codeIn K cd21 "next_parties" = true) (k21 : PySem.W.keepIn K (.ref f21) = true)
    (a22 : PySem.W.nsIn K mainGlobals "last_parties" = some (some (.ref f22))) (l22 : K.lookup f22 = some ⟨oc22, od22, .func (PySem.W.fnOf "last_parties" "last_parties" (defArgs s_last_parties) (defBody s_last_parties) (defScope s_last_parties) .none kV22 dc22 pm22 an22 cd22 ct22), sl22⟩) (c22 : PySem.W.codeIn K cd22 "last_parties" = true) (k22 : PySem.W.keepIn K (.ref f22) = true)
    (a23 : PySem.W.nsIn K mainGlobals "told_order" = some (some (.ref f23))) (l23 : K.lookup f23 = some ⟨oc23, od23, .func (PySem.W.fnOf "told_order" "told_order" (defArgs s_told_order) (defBody s_told_order) (defScope s_told_order) .none kV23 dc23 pm23 an23 cd23 ct23), sl23⟩) (c23 : PySem.W.codeIn K cd23 "told_order" = true) (k23 : PySem.W.keepIn K (.ref f23) = true)
    (a24 : PySem.W.nsIn K mainGlobals "_law_stream" = some (some (.ref f24))) (l24 : K.lookup f24 = some ⟨oc24, od24, .func (PySem.W.fnOf "_law_stream" "_law_stream" (defArgs s_law_stream) (defBody s_law_stream) (defScope s_law_stream) .none kV24 dc24 pm24 an24 cd24 ct24), sl24⟩) (c24 : PySem.W.codeIn K cd24 "_law_stream" = true) (k24 : PySem.W.keepIn K (.ref f24) = true)
    (a25 : PySem.W.nsIn K mainGlobals "_law_next" = some (some (.ref f25))) (l25 : K.lookup f25 = some ⟨oc25, od25, .func (PySem.W.fnOf "_law_next" "_law_next" (defArgs s_law_next) (defBody s_law_next) (defScope s_law_next) .none kV25 dc25 pm25 an25 cd25 ct25), sl25⟩) (c25 : PySem.W.codeIn K cd25 "_law_next" = true) (k25 : PySem.W.keepIn K (.ref f25) = true)
    (a26 : PySem.W.nsIn K mainGlobals "_law_is_integer" = some (some (.ref f26))) (l26 : K.lookup f26 = some ⟨oc26, od26, .func (PySem.W.fnOf "_law_is_integer" "_law_is_integer" (defArgs s_law_is_integer) (defBody s_law_is_integer) (defScope s_law_is_integer) .none kV26 dc26 pm26 an26 cd26 ct26), sl26⟩) (c26 : PySem.W.codeIn K cd26 "_law_is_integer" = true) (k26 : PySem.W.keepIn K (.ref f26) = true)
    (a27 : PySem.W.nsIn K mainGlobals "_law_equal" = some (some (.ref f27))) (l27 : K.lookup f27 = some ⟨oc27, od27, .func (PySem.W.fnOf "_law_equal" "_law_equal" (defArgs s_law_equal) (defBody s_law_equal) (defScope s_law_equal) .none kV27 dc27 pm27 an27 cd27 ct27), sl27⟩) (c27 : PySem.W.codeIn K cd27 "_law_equal" = true) (k27 : PySem.W.keepIn K (.ref f27) = true)
    (a28 : PySem.W.nsIn K mainGlobals "_law_pick" = some (some (.ref f28))) (l28 : K.lookup f28 = some ⟨oc28, od28, .func (PySem.W.fnOf "_law_pick" "_law_pick" (defArgs s_law_pick) (defBody s_law_pick) (defScope s_law_pick) .none kV28 dc28 pm28 an28 cd28 ct28), sl28⟩) (c28 : PySem.W.codeIn K cd28 "_law_pick" = true) (k28 : PySem.W.keepIn K (.ref f28) = true)
    (a29 : PySem.W.nsIn K mainGlobals "_law_method" = some (some (.ref f29))) (l29 : K.lookup f29 = some ⟨oc29, od29, .func (PySem.W.fnOf "_law_method" "_law_method" (defArgs s_law_method) (defBody s_law_method) (defScope s_law_method) .none kV29 dc29 pm29 an29 cd29 ct29), sl29⟩) (c29 : PySem.W.codeIn K cd29 "_law_method" = true) (k29 : PySem.W.keepIn K (.ref f29) = true)
    (a30 : PySem.W.nsIn K mainGlobals "_law_divisors" = some (some (.ref f30))) (l30 : K.lookup f30 = some ⟨oc30, od30, .func (PySem.W.fnOf "_law_divisors" "_law_divisors" (defArgs s_law_divisors) (defBody s_law_divisors) (defScope s_law_divisors) .none kV30 dc30 pm30 an30 cd30 ct30), sl30⟩) (c30 : PySem.W.codeIn K cd30 "_law_divisors" = true) (k30 : PySem.W.keepIn K (.ref f30) = true)
    (a31 : PySem.W.nsIn K mainGlobals "_law_votes" = some (some (.ref f31))) (l31 : K.lookup f31 = some ⟨oc31, od31, .func (PySem.W.fnOf "_law_votes" "_law_votes" (defArgs s_law_votes) (defBody s_law_votes) (defScope s_law_votes) .none kV31 dc31 pm31 an31 cd31 ct31), sl31⟩) (c31 : PySem.W.codeIn K cd31 "_law_votes" = true) (k31 : PySem.W.keepIn K (.ref f31) = true)
    (a32 : PySem.W.nsIn K mainGlobals "_law_all_seats" = some (some (.ref f32))) (l32 : K.lookup f32 = some ⟨oc32, od32, .func (PySem.W.fnOf "_law_all_seats" "_law_all_seats" (defArgs s_law_all_seats) (defBody s_law_all_seats) (defScope s_law_all_seats) .none kV32 dc32 pm32 an32 cd32 ct32), sl32⟩) (c32 : PySem.W.codeIn K cd32 "_law_all_seats" = true) (k32 : PySem.W.keepIn K (.ref f32) = true)
    (a33 : PySem.W.nsIn K mainGlobals "_law_shows" = some (some (.ref f33))) (l33 : K.lookup f33 = some ⟨oc33, od33, .func (PySem.W.fnOf "_law_shows" "_law_shows" (defArgs s_law_shows) (defBody s_law_shows) (defScope s_law_shows) .none kV33 dc33 pm33 an33 cd33 ct33), sl33⟩) (c33 : PySem.W.codeIn K cd33 "_law_shows" = true) (k33 : PySem.W.keepIn K (.ref f33) = true)
    (a34 : PySem.W.nsIn K mainGlobals "_law_wrong_pairs" = some (some (.ref f34))) (l34 : K.lookup f34 = some ⟨oc34, od34, .func (PySem.W.fnOf "_law_wrong_pairs" "_law_wrong_pairs" (defArgs s_law_wrong_pairs) (defBody s_law_wrong_pairs) (defScope s_law_wrong_pairs) .none kV34 dc34 pm34 an34 cd34 ct34), sl34⟩) (c34 : PySem.W.codeIn K cd34 "_law_wrong_pairs" = true) (k34 : PySem.W.keepIn K (.ref f34) = true)
    (a35 : PySem.W.nsIn K mainGlobals "_law_valid" = some (some (.ref f35))) (l35 : K.lookup f35 = some ⟨oc35, od35, .func (PySem.W.fnOf "_law_valid" "_law_valid" (defArgs s_law_valid) (defBody s_law_valid) (defScope s_law_valid) .none kV35 dc35 pm35 an35 cd35 ct35), sl35⟩) (c35 : PySem.W.codeIn K cd35 "_law_valid" = true) (k35 : PySem.W.keepIn K (.ref f35) = true)
    (a36 : PySem.W.nsIn K mainGlobals "_law_next_ones" = some (some (.ref f36))) (l36 : K.lookup f36 = some ⟨oc36, od36, .func (PySem.W.fnOf "_law_next_ones" "_law_next_ones" (defArgs s_law_next_ones) (defBody s_law_next_ones) (defScope s_law_next_ones) .none kV36 dc36 pm36 an36 cd36 ct36), sl36⟩) (c36 : PySem.W.codeIn K cd36 "_law_next_ones" = true) (k36 : PySem.W.keepIn K (.ref f36) = true)
    (a37 : PySem.W.nsIn K mainGlobals "_law_given" = some (some (.ref f37))) (l37 : K.lookup f37 = some ⟨oc37, od37, .func (PySem.W.fnOf "_law_given" "_law_given" (defArgs s_law_given) (defBody s_law_given) (defScope s_law_given) .none kV37 dc37 pm37 an37 cd37 ct37), sl37⟩) (c37 : PySem.W.codeIn K cd37 "_law_given" = true) (k37 : PySem.W.keepIn K (.ref f37) = true)
    (a38 : PySem.W.nsIn K mainGlobals "_law_told" = some (some (.ref f38))) (l38 : K.lookup f38 = some ⟨oc38, od38, .func (PySem.W.fnOf "_law_told" "_law_told" (defArgs s_law_told) (defBody s_law_told) (defScope s_law_told) .none kV38 dc38 pm38 an38 cd38 ct38), sl38⟩) (c38 : PySem.W.codeIn K cd38 "_law_told" = true) (k38 : PySem.W.keepIn K (.ref f38) = true)
    (a39 : PySem.W.nsIn K mainGlobals "law" = some (some (.ref f39))) (l39 : K.lookup f39 = some ⟨oc39, od39, .func (PySem.W.fnOf "law" "law" (defArgs s_law) (defBody s_law) (defScope s_law) .none kV39 dc39 pm39 an39 cd39 ct39), sl39⟩) (c39 : PySem.W.codeIn K cd39 "law" = true) (k39 : PySem.W.keepIn K (.ref f39) = true)
    (z_len : PySem.W.nsIn K mainGlobals "len" = some none)
    (z_range : PySem.W.nsIn K mainGlobals "range" = some none)
    (z_isinstance : PySem.W.nsIn K mainGlobals "isinstance" = some none)
    (z_all : PySem.W.nsIn K mainGlobals "all" = some none)
    (z_any : PySem.W.nsIn K mainGlobals "any" = some none)
    (z_sum : PySem.W.nsIn K mainGlobals "sum" = some none)
    (z_tuple : PySem.W.nsIn K mainGlobals "tuple" = some none)
    (z_list : PySem.W.nsIn K mainGlobals "list" = some none)
    (z_sorted : PySem.W.nsIn K mainGlobals "sorted" = some none)
    (z_abs : PySem.W.nsIn K mainGlobals "abs" = some none)
    (z_int : PySem.W.nsIn K mainGlobals "int" = some none)
    (z_min : PySem.W.nsIn K mainGlobals "min" = some none)
    (z_bool : PySem.W.nsIn K mainGlobals "bool" = some none)
    (z_str : PySem.W.nsIn K mainGlobals "str" = some none)
    {t_MOST_DIVISOR : Tok} (y_MOST_DIVISOR : PySem.W.nsIn K mainGlobals "MOST_DIVISOR" = some (some (.int 1000 t_MOST_DIVISOR)))
    {t_MOST_FIRSTS : Tok} (y_MOST_FIRSTS : PySem.W.nsIn K mainGlobals "MOST_FIRSTS" = some (some (.int 6 t_MOST_FIRSTS)))
    {t_MOST_PARTIES : Tok} (y_MOST_PARTIES : PySem.W.nsIn K mainGlobals "MOST_PARTIES" = some (some (.int 5 t_MOST_PARTIES)))
    {t_MOST_VOTES : Tok} (y_MOST_VOTES : PySem.W.nsIn K mainGlobals "MOST_VOTES" = some (some (.int 1000000 t_MOST_VOTES)))
    {t_MOST_SEATS : Tok} (y_MOST_SEATS : PySem.W.nsIn K mainGlobals "MOST_SEATS" = some (some (.int 8 t_MOST_SEATS)))
    {C S fI N0 : Addr} {nm qn : Str} {bs : List Value} {sn : List Str} {sub : List Value} {ab : Bool} {col : Option Bool} {dd odI anI : Option Addr} {m0 m1 m2 m3 m5 : Option Value} {slI : Array (Option Value)} {ocI kVI dcI pmI cdI ctI : Value}
    (aC : PySem.W.nsIn K mainGlobals "NotPossible" = some (some (.ref C)))
    (aS : PySem.W.nsIn K mainGlobals "SeatError" = some (some (.ref S)))
    (xL : K.lookup C = some (excClassObj nm qn C N0 bs [.ref S, .type "ValueError", .type "Exception", .type "BaseException", .type "object"] true sn sub ab col dd m0 m1 m2 m3 m5 "ValueError.__new__"))
    (sa : PySem.W.findIn K (.ref C) "__setattr__" = some (some (.builtin "object.__setattr__")))
    (ga : PySem.W.findIn K (.ref C) "__getattribute__" = some (some (.builtin "BaseException.__getattribute__")))
    (gg : PySem.W.findIn K (.ref C) "__getattr__" = some none)
    (nw : PySem.W.findIn K (.ref C) "why" = some none)
    (aI : PySem.W.findIn K (.ref C) "__init__" = some (some (.ref fI)))
    (tI : PySem.W.typeIn K (.ref fI) = some (.type "function"))
    (lI : K.lookup fI = some ⟨ocI, odI, .func (PySem.W.fnOf "__init__" "NotPossible.__init__" (defArgs s_np_init) (defBody s_np_init) (defScope s_np_init) .none kVI dcI pmI anI cdI ctI), slI⟩)
    (cI : PySem.W.codeIn K cdI "NotPossible.__init__" = true)
    (kI : PySem.W.keepIn K (.ref fI) = true)
    (kC : PySem.W.keepIn K (.ref C) = true)
    (eC : PySem.W.subIn K (.ref C) (.type "BaseException") = some true)
    (tC : PySem.W.typeIn K (.ref C) = some (.type "type"))
    (hC : PySem.W.hasDictIn K C = true)
    (sC : PySem.W.subIn K (.ref C) (.ref C) = some true)
    (caC : PySem.W.findIn K (.ref C) "__class__" = some (some (.builtin "object.__class__")))
    (gdC : PySem.W.specialIn K (.builtin "object.__class__") "__get__" = some (some (.builtin "getset_descriptor.__get__")))
    (tkC : PySem.W.takesIn K (.builtin "object.__class__") = some true)
    (moC : PySem.W.mroIn K C (.type "object") = some true)
    (iS : PySem.W.isClsIn K S = true)
    (tS : PySem.W.typeIn K (.ref S) = some (.type "type"))
    (sS : PySem.W.subIn K (.ref C) (.ref S) = some true) :
    ∃ fd : FuncData, (∀ (s : Shared) (v : Value), BindsTo s fd ⟨[v], []⟩ [("_law_script", v)]) ∧ ∀ (P : Program) (w : World) (base : Heap), FnOk P w K mg base CX0 8 fa fd ["_law_script"] (sp_law K) := by
  have e := hfa.symm.trans (PySem.W.mg_of X G a39)
  cases e
  have F (x : Str) (st : Stmt) {f : Addr} {oc : Value} {od an : Option Addr} {osl : Array (Option Value)} {kV doc pm cdv ct : Value} (l : K.lookup f = some ⟨oc, od, .func (PySem.W.fnOf x x (defArgs st) (defBody st) (defScope st) .none kV doc pm an cdv ct), osl⟩) (c : PySem.W.codeIn K cdv x = true) (k : PySem.W.keepIn K (.ref f) = true) := fun_mk (x := x) (qual := x) (st := st) l c k
  let T : Top K mg := {
    len := PySem.W.mg_none_of X G z_len
    range := PySem.W.mg_none_of X G z_range
    isinstance := PySem.W.mg_none_of X G z_isinstance
    all := PySem.W.mg_none_of X G z_all
    any := PySem.W.mg_none_of X G z_any
    sum := PySem.W.mg_none_of X G z_sum
    tuple := PySem.W.mg_none_of X G z_tuple
    list := PySem.W.mg_none_of X G z_list
    sorted := PySem.W.mg_none_of X G z_sorted
    abs := PySem.W.mg_none_of X G z_abs
    int := PySem.W.mg_none_of X G z_int
    min := PySem.W.mg_none_of X G z_min
    bool := PySem.W.mg_none_of X G z_bool
    str := PySem.W.mg_none_of X G z_str
    k_MOST_DIVISOR := t_MOST_DIVISOR, MOST_DIVISOR := PySem.W.mg_of X G y_MOST_DIVISOR
    k_MOST_FIRSTS := t_MOST_FIRSTS, MOST_FIRSTS := PySem.W.mg_of X G y_MOST_FIRSTS
    k_MOST_PARTIES := t_MOST_PARTIES, MOST_PARTIES := PySem.W.mg_of X G y_MOST_PARTIES
    k_MOST_VOTES := t_MOST_VOTES, MOST_VOTES := PySem.W.mg_of X G y_MOST_VOTES
    k_MOST_SEATS := t_MOST_SEATS, MOST_SEATS := PySem.W.mg_of X G y_MOST_SEATS
    is_whole := ⟨f0, _, PySem.W.mg_of X G a0, F "is_whole" s_is_whole l0 c0 k0, (F "is_whole" s_is_whole l0 c0 k0).binds (ps := ["value", "low", "high"]) fun _ _ _ _ _ _ us hl => match us, hl with | [_, _, _], _ => rfl⟩
    is_method := ⟨f1, _, PySem.W.mg_of X G a1, F "is_method" s_is_method l1 c1 k1, (F "is_method" s_is_method l1 c1 k1).binds (ps := ["value"]) fun _ _ _ _ _ _ us hl => match us, hl with | [_], _ => rfl⟩
    divisor_at := ⟨f2, _, PySem.W.mg_of X G a2, F "divisor_at" s_divisor_at l2 c2 k2, (F "divisor_at" s_divisor_at l2 c2 k2).binds (ps := ["method", "index"]) fun _ _ _ _ _ _ us hl => match us, hl with | [_, _], _ => rfl⟩
    divisors_to := ⟨f3, _, PySem.W.mg_of X G a3, F "divisors_to" s_divisors_to l3 c3 k3, (F "divisors_to" s_divisors_to l3 c3 k3).binds (ps := ["method", "many"]) fun _ _ _ _ _ _ us hl => match us, hl with | [_, _], _ => rfl⟩
    check_method := ⟨f4, _, PySem.W.mg_of X G a4, F "check_method" s_check_method l4 c4 k4, (F "check_method" s_check_method l4 c4 k4).binds (ps := ["method", "name"]) fun _ _ _ _ _ _ us hl => match us, hl with | [_, _], _ => rfl⟩
    is_votes := ⟨f5, _, PySem.W.mg_of X G a5, F "is_votes" s_is_votes l5 c5 k5, (F "is_votes" s_is_votes l5 c5 k5).binds (ps := ["value"]) fun _ _ _ _ _ _ us hl => match us, hl with | [_], _ => rfl⟩
    is_seats := ⟨f6, _, PySem.W.mg_of X G a6, F "is_seats" s_is_seats l6 c6 k6, (F "is_seats" s_is_seats l6 c6 k6).binds (ps := ["value", "votes"]) fun _ _ _ _ _ _ us hl => match us, hl with | [_, _], _ => rfl⟩
    is_wrong := ⟨f7, _, PySem.W.mg_of X G a7, F "is_wrong" s_is_wrong l7 c7 k7, (F "is_wrong" s_is_wrong l7 c7 k7).binds (ps := ["divisors", "votes", "seats", "pair"]) fun _ _ _ _ _ _ us hl => match us, hl with | [_, _, _, _], _ => rfl⟩
    first_wrong := ⟨f8, _, PySem.W.mg_of X G a8, F "first_wrong" s_first_wrong l8 c8 k8, (F "first_wrong" s_first_wrong l8 c8 k8).binds (ps := ["divisors", "votes", "seats"]) fun _ _ _ _ _ _ us hl => match us, hl with | [_, _, _], _ => rfl⟩
    valid_by := ⟨f9, _, PySem.W.mg_of X G a9, F "valid_by" s_valid_by l9 c9 k9, (F "valid_by" s_valid_by l9 c9 k9).binds (ps := ["divisors", "votes", "seats"]) fun _ _ _ _ _ _ us hl => match us, hl with | [_, _, _], _ => rfl⟩
    all_seats := ⟨f10, _, PySem.W.mg_of X G a10, F "all_seats" s_all_seats l10 c10 k10, (F "all_seats" s_all_seats l10 c10 k10).binds (ps := ["many", "house"]) fun _ _ _ _ _ _ us hl => match us, hl with | [_, _], _ => rfl⟩
    all_shares := ⟨f11, _, PySem.W.mg_of X G a11, F "all_shares" s_all_shares l11 c11 k11, (F "all_shares" s_all_shares l11 c11 k11).binds (ps := ["divisors", "votes", "house"]) fun _ _ _ _ _ _ us hl => match us, hl with | [_, _, _], _ => rfl⟩
    check_votes := ⟨f12, _, PySem.W.mg_of X G a12, F "check_votes" s_check_votes l12 c12 k12, (F "check_votes" s_check_votes l12 c12 k12).binds (ps := ["method", "votes"]) fun _ _ _ _ _ _ us hl => match us, hl with | [_, _], _ => rfl⟩
    check_seats := ⟨f13, _, PySem.W.mg_of X G a13, F "check_seats" s_check_seats l13 c13 k13, (F "check_seats" s_check_seats l13 c13 k13).binds (ps := ["method", "votes", "seats"]) fun _ _ _ _ _ _ us hl => match us, hl with | [_, _, _], _ => rfl⟩
    check_house := ⟨f14, _, PySem.W.mg_of X G a14, F "check_house" s_check_house l14 c14 k14, (F "check_house" s_check_house l14 c14 k14).binds (ps := ["method", "votes", "house"]) fun _ _ _ _ _ _ us hl => match us, hl with | [_, _, _], _ => rfl⟩
    shares_of := ⟨f15, _, PySem.W.mg_of X G a15, F "shares_of" s_shares_of l15 c15 k15, (F "shares_of" s_shares_of l15 c15 k15).binds (ps := ["method", "votes", "house"]) fun _ _ _ _ _ _ us hl => match us, hl with | [_, _, _], _ => rfl⟩
    is_valid := ⟨f16, _, PySem.W.mg_of X G a16, F "is_valid" s_is_valid l16 c16 k16, (F "is_valid" s_is_valid l16 c16 k16).binds (ps := ["method", "votes", "seats"]) fun _ _ _ _ _ _ us hl => match us, hl with | [_, _, _], _ => rfl⟩
    count_valid := ⟨f17, _, PySem.W.mg_of X G a17, F "count_valid" s_count_valid l17 c17 k17, (F "count_valid" s_count_valid l17 c17 k17).binds (ps := ["method", "votes", "house"]) fun _ _ _ _ _ _ us hl => match us, hl with | [_, _, _], _ => rfl⟩
    is_ahead := ⟨f18, _, PySem.W.mg_of X G a18, F "is_ahead" s_is_ahead l18 c18 k18, (F "is_ahead" s_is_ahead l18 c18 k18).binds (ps := ["divisors", "votes", "seats", "pair"]) fun _ _ _ _ _ _ us hl => match us, hl with | [_, _, _, _], _ => rfl⟩
    next_in := ⟨f19, _, PySem.W.mg_of X G a19, F "next_in" s_next_in l19 c19 k19, (F "next_in" s_next_in l19 c19 k19).binds (ps := ["divisors", "votes", "seats"]) fun _ _ _ _ _ _ us hl => match us, hl with | [_, _, _], _ => rfl⟩
    last_in := ⟨f20, _, PySem.W.mg_of X G a20, F "last_in" s_last_in l20 c20 k20, (F "last_in" s_last_in l20 c20 k20).binds (ps := ["divisors", "votes", "seats"]) fun _ _ _ _ _ _ us hl => match us, hl with | [_, _, _], _ => rfl⟩
    next_parties := ⟨f21, _, PySem.W.mg_of X G a21, F "next_parties" s_next_parties l21 c21 k21, (F "next_parties" s_next_parties l21 c21 k21).binds (ps := ["method", "votes", "seats"]) fun _ _ _ _ _ _ us hl => match us, hl with | [_, _, _], _ => rfl⟩
    last_parties := ⟨f22, _, PySem.W.mg_of X G a22, F "last_parties" s_last_parties l22 c22 k22, (F "last_parties" s_last_parties l22 c22 k22).binds (ps := ["method", "votes", "seats"]) fun _ _ _ _ _ _ us hl => match us, hl with | [_, _, _], _ => rfl⟩
    told_order := ⟨f23, _, PySem.W.mg_of X G a23, F "told_order" s_told_order l23 c23 k23, (F "told_order" s_told_order l23 c23 k23).binds (ps := ["method", "votes", "house"]) fun _ _ _ _ _ _ us hl => match us, hl with | [_, _, _], _ => rfl⟩
    law_stream := ⟨f24, _, PySem.W.mg_of X G a24, F "_law_stream" s_law_stream l24 c24 k24, (F "_law_stream" s_law_stream l24 c24 k24).binds (ps := ["_law_script"]) fun _ _ _ _ _ _ us hl => match us, hl with | [_], _ => rfl⟩
    law_next := ⟨f25, _, PySem.W.mg_of X G a25, F "_law_next" s_law_next l25 c25 k25, (F "_law_next" s_law_next l25 c25 k25).binds (ps := ["_law_stream_here", "_law_many"]) fun _ _ _ _ _ _ us hl => match us, hl with | [_, _], _ => rfl⟩
    law_is_integer := ⟨f26, _, PySem.W.mg_of X G a26, F "_law_is_integer" s_law_is_integer l26 c26 k26, (F "_law_is_integer" s_law_is_integer l26 c26 k26).binds (ps := ["_law_actual"]) fun _ _ _ _ _ _ us hl => match us, hl with | [_], _ => rfl⟩
    law_equal := ⟨f27, _, PySem.W.mg_of X G a27, F "_law_equal" s_law_equal l27 c27 k27, (F "_law_equal" s_law_equal l27 c27 k27).binds (ps := ["_law_actual", "_law_due"]) fun _ _ _ _ _ _ us hl => match us, hl with | [_, _], _ => rfl⟩
    law_pick := ⟨f28, _, PySem.W.mg_of X G a28, F "_law_pick" s_law_pick l28 c28 k28, (F "_law_pick" s_law_pick l28 c28 k28).binds (ps := ["_law_stream_here", "_law_rows"]) fun _ _ _ _ _ _ us hl => match us, hl with | [_, _], _ => rfl⟩
    law_method := ⟨f29, _, PySem.W.mg_of X G a29, F "_law_method" s_law_method l29 c29 k29, (F "_law_method" s_law_method l29 c29 k29).binds (ps := ["_law_stream_here"]) fun _ _ _ _ _ _ us hl => match us, hl with | [_], _ => rfl⟩
    law_divisors := ⟨f30, _, PySem.W.mg_of X G a30, F "_law_divisors" s_law_divisors l30 c30 k30, (F "_law_divisors" s_law_divisors l30 c30 k30).binds (ps := ["_law_method_here", "_law_many"]) fun _ _ _ _ _ _ us hl => match us, hl with | [_, _], _ => rfl⟩
    law_votes := ⟨f31, _, PySem.W.mg_of X G a31, F "_law_votes" s_law_votes l31 c31 k31, (F "_law_votes" s_law_votes l31 c31 k31).binds (ps := ["_law_stream_here", "_law_most"]) fun _ _ _ _ _ _ us hl => match us, hl with | [_, _], _ => rfl⟩
    law_all_seats := ⟨f32, _, PySem.W.mg_of X G a32, F "_law_all_seats" s_law_all_seats l32 c32 k32, (F "_law_all_seats" s_law_all_seats l32 c32 k32).binds (ps := ["_law_many", "_law_house"]) fun _ _ _ _ _ _ us hl => match us, hl with | [_, _], _ => rfl⟩
    law_shows := ⟨f33, _, PySem.W.mg_of X G a33, F "_law_shows" s_law_shows l33 c33 k33, (F "_law_shows" s_law_shows l33 c33 k33).binds (ps := ["_law_divisors_here", "_law_votes_here", "_law_seats", "_law_one", "_law_other"]) fun _ _ _ _ _ _ us hl => match us, hl with | [_, _, _, _, _], _ => rfl⟩
    law_wrong_pairs := ⟨f34, _, PySem.W.mg_of X G a34, F "_law_wrong_pairs" s_law_wrong_pairs l34 c34 k34, (F "_law_wrong_pairs" s_law_wrong_pairs l34 c34 k34).binds (ps := ["_law_divisors_here", "_law_votes_here", "_law_seats"]) fun _ _ _ _ _ _ us hl => match us, hl with | [_, _, _], _ => rfl⟩
    law_valid := ⟨f35, _, PySem.W.mg_of X G a35, F "_law_valid" s_law_valid l35 c35 k35, (F "_law_valid" s_law_valid l35 c35 k35).binds (ps := ["_law_divisors_here", "_law_votes_here", "_law_house"]) fun _ _ _ _ _ _ us hl => match us, hl with | [_, _, _], _ => rfl⟩
    law_next_ones := ⟨f36, _, PySem.W.mg_of X G a36, F "_law_next_ones" s_law_next_ones l36 c36 k36, (F "_law_next_ones" s_law_next_ones l36 c36 k36).binds (ps := ["_law_divisors_here", "_law_votes_here", "_law_seats"]) fun _ _ _ _ _ _ us hl => match us, hl with | [_, _, _], _ => rfl⟩
    law_given := ⟨f37, _, PySem.W.mg_of X G a37, F "_law_given" s_law_given l37 c37 k37, (F "_law_given" s_law_given l37 c37 k37).binds (ps := ["_law_seats", "_law_party"]) fun _ _ _ _ _ _ us hl => match us, hl with | [_, _], _ => rfl⟩
    law_told := ⟨f38, _, PySem.W.mg_of X G a38, F "_law_told" s_law_told l38 c38 k38, (F "_law_told" s_law_told l38 c38 k38).binds (ps := ["_law_method_here", "_law_votes_here", "_law_seats"]) fun _ _ _ _ _ _ us hl => match us, hl with | [_, _, _], _ => rfl⟩
    law := ⟨fa, _, PySem.W.mg_of X G a39, F "law" s_law l39 c39 k39, (F "law" s_law l39 c39 k39).binds (ps := ["_law_script"]) fun _ _ _ _ _ _ us hl => match us, hl with | [_], _ => rfl⟩
  }
  have FI := fun_mk (st := s_np_init) lI cI kI
  let N : Npt K mg := {
    C := C, g := PySem.W.mg_of X G aC
    oex := ⟨⟨nm, qn, N0, bs, _, sn, sub, ab, col, dd, m0, m1, m2, m3, m5, xL, rfl⟩, sa, eC, tC, kC⟩
    noW := nw, fI := fI, iC := aI, tI := tI, dI := _, FI := FI, bI := FI.binds (ps := ["self", "why"]) fun _ _ _ _ _ _ us hl => match us, hl with | [_, _], _ => rfl
    xf := ⟨ga, gg, eC, hC⟩, exc := ⟨ga, gg, eC, hC, caC, gdC, tkC, moC⟩, te := PySem.W.exm_ref eC hC tC sC
    SE := S, gS := PySem.W.mg_of X G aS, ks := kit_own iS tS sS }
  exact ⟨T.law.d, fun s v => .of_eq rfl, fun P w base => ok_law T N⟩
end Ds

open PySem PySem.W PyProof.Rows
set_option maxHeartbeats 0 in
theorem PySem.Challenge.cw_dividedseats_k09_whole_seat_by_seat_holds : PySem.Challenge.rw_dividedseats_k09_whole_seat_by_seat.Holds := by
  w_on; o_law; k_head; (case hw => w_witness2)
  k_fill
  refine L2.walk_ofK (l := PySem.Challenge.rw_dividedseats_k09_whole_seat_by_seat) (n := 63) (k := 8) (x := "_law_script") (CX := L2.CX0) (sp := Ds.sp_law) rfl (by decide) rfl ⟨rfl, by decide, by decide⟩ (fun w h Y => PySem.W.kIn_of Y) ?F (fun _ _ a ns hl _ hS => ⟨a, ns, rfl, hS, hl, fun _ => rfl⟩) (fun _ _ _ _ h => h)
  case F =>
    intro w mg fa h KX G hmg
    suffices hh : ∃ fd : FuncData, (∀ (s : Shared) (v : Value), BindsTo s fd ⟨[v], []⟩ [("_law_script", v)]) ∧ ∀ (P : Program) (w : World) (base : Heap), L2.FnOk P w _ mg base L2.CX0 8 fa fd ["_law_script"] (Ds.sp_law _) from (by
      obtain ⟨fd, h1, h2⟩ := hh
      exact ⟨fd, h1, fun base _ _ => h2 _ w base⟩)
    refine' Ds.all_mk KX G hmg ?a0 ?l0 ?c0 ?k0 ?a1 ?l1 ?c1 ?k1 ?a2 ?l2 ?c2 ?k2 ?a3 ?l3 ?c3 ?k3 ?a4 ?l4 ?c4 ?k4 ?a5 ?l5 ?c5 ?k5 ?a6 ?l6 ?c6 ?k6 ?a7 ?l7 ?c7 ?k7 ?a8 ?l8 ?c8 ?k8 ?a9 ?l9 ?c9 ?k9 ?a10 ?l10 ?c10 ?k10 ?a11 ?l11 ?c11 ?k11 ?a12 ?l12 ?c12 ?k12 ?a13 ?l13 ?c13 ?k13 ?a14 ?l14 ?c14 ?k14 ?a15 ?l15 ?c15 ?k15 ?a16 ?l16 ?c16 ?k16 ?a17 ?l17 ?c17 ?k17 ?a18 ?l18 ?c18 ?k18 ?a19 ?l19 ?c19 ?k19 ?a20 ?l20 ?c20 ?k20 ?a21 ?l21 ?c21 ?k21 ?a22 ?l22 ?c22 ?k22 ?a23 ?l23 ?c23 ?k23 ?a24 ?l24 ?c24 ?k24 ?a25 ?l25 ?c25 ?k25 ?a26 ?l26 ?c26 ?k26 ?a27 ?l27 ?c27 ?k27 ?a28 ?l28 ?c28 ?k28 ?a29 ?l29 ?c29 ?k29 ?a30 ?l30 ?c30 ?k30 ?a31 ?l31 ?c31 ?k31 ?a32 ?l32 ?c32 ?k32 ?a33 ?l33 ?c33 ?k33 ?a34 ?l34 ?c34 ?k34 ?a35 ?l35 ?c35 ?k35 ?a36 ?l36 ?c36 ?k36 ?a37 ?l37 ?c37 ?k37 ?a38 ?l38 ?c38 ?k38 ?a39 ?l39 ?c39 ?k39 ?z_len ?z_range ?z_isinstance ?z_all ?z_any ?z_sum ?z_tuple ?z_list ?z_sorted ?z_abs ?z_int ?z_min ?z_bool ?z_str ?y_MOST_DIVISOR ?y_MOST_FIRSTS ?y_MOST_PARTIES ?y_MOST_VOTES ?y_MOST_SEATS ?aC ?aS ?xL ?sa ?ga ?gg ?nw ?aI ?tI ?lI ?cI ?kI ?kC ?eC ?tC ?hC ?sC ?caC ?gdC ?tkC ?moC ?iS ?tS ?sS
    (case a0 => k_is); (case l0 => k_is); (case c0 => k_is); (case k0 => k_is); (case a1 => k_is); (case l1 => k_is)
    (case c1 => k_is); (case k1 => k_is); (case a2 => k_is); (case l2 => k_is); (case c2 => k_is); (case k2 => k_is)
    (case a3 => k_is); (case l3 => k_is); (case c3 => k_is); (case k3 => k_is); (case a4 => k_is); (case l4 => k_is)
    (case c4 => k_is); (case k4 => k_is); (case a5 => k_is); (case l5 => k_is); (case c5 => k_is); (case k5 => k_is)
    (case a6 => k_is); (case l6 => k_is); (case c6 => k_is); (case k6 => k_is); (case a7 => k_is); (case l7 => k_is)
    (case c7 => k_is); (case k7 => k_is); (case a8 => k_is); (case l8 => k_is); (case c8 => k_is); (case k8 => k_is)
    (case a9 => k_is); (case l9 => k_is); (case c9 => k_is); (case k9 => k_is); (case a10 => k_is); (case l10 => k_is)
    (case c10 => k_is); (case k10 => k_is); (case a11 => k_is); (case l11 => k_is); (case c11 => k_is); (case k11 => k_is)
    (case a12 => k_is); (case l12 => k_is); (case c12 => k_is); (case k12 => k_is); (case a13 => k_is); (case l13 => k_is)
    (case c13 => k_is); (case k13 => k_is); (case a14 => k_is); (case l14 => k_is); (case c14 => k_is); (case k14 => k_is)
    (case a15 => k_is); (case l15 => k_is); (case c15 => k_is); (case k15 => k_is); (case a16 => k_is); (case l16 => k_is)
    (case c16 => k_is); (case k16 => k_is); (case a17 => k_is); (case l17 => k_is); (case c17 => k_is); (case k17 => k_is)
    (case a18 => k_is); (case l18 => k_is); (case c18 => k_is); (case k18 => k_is); (case a19 => k_is); (case l19 => k_is)
    (case c19 => k_is); (case k19 => k_is); (case a20 => k_is); (case l20 => k_is); (case c20 => k_is); (case k20 => k_is)
    (case a21 => k_is); (case l21 => k_is); (case c21 => k_is); (case k21 => k_is); (case a22 => k_is); (case l22 => k_is)
    (case c22 => k_is); (case k22 => k_is); (case a23 => k_is); (case l23 => k_is); (case c23 => k_is); (case k23 => k_is)
    (case a24 => k_is); (case l24 => k_is); (case c24 => k_is); (case k24 => k_is); (case a25 => k_is); (case l25 => k_is)
    (case c25 => k_is); (case k25 => k_is); (case a26 => k_is); (case l26 => k_is); (case c26 => k_is); (case k26 => k_is)
    (case a27 => k_is); (case l27 => k_is); (case c27 => k_is); (case k27 => k_is); (case a28 => k_is); (case l28 => k_is)
    (case c28 => k_is); (case k28 => k_is); (case a29 => k_is); (case l29 => k_is); (case c29 => k_is); (case k29 => k_is)
    (case a30 => k_is); (case l30 => k_is); (case c30 => k_is); (case k30 => k_is); (case a31 => k_is); (case l31 => k_is)
    (case c31 => k_is); (case k31 => k_is); (case a32 => k_is); (case l32 => k_is); (case c32 => k_is); (case k32 => k_is)
    (case a33 => k_is); (case l33 => k_is); (case c33 => k_is); (case k33 => k_is); (case a34 => k_is); (case l34 => k_is)
    (case c34 => k_is); (case k34 => k_is); (case a35 => k_is); (case l35 => k_is); (case c35 => k_is); (case k35 => k_is)
    (case a36 => k_is); (case l36 => k_is); (case c36 => k_is); (case k36 => k_is); (case a37 => k_is); (case l37 => k_is)
    (case c37 => k_is); (case k37 => k_is); (case a38 => k_is); (case l38 => k_is); (case c38 => k_is); (case k38 => k_is)
    (case a39 => k_is); (case l39 => k_is); (case c39 => k_is); (case k39 => k_is); (case z_len => k_is); (case z_range => k_is)
    (case z_isinstance => k_is); (case z_all => k_is); (case z_any => k_is); (case z_sum => k_is); (case z_tuple => k_is); (case z_list => k_is)
    (case z_sorted => k_is); (case z_abs => k_is); (case z_int => k_is); (case z_min => k_is); (case z_bool => k_is); (case z_str => k_is)
    (case y_MOST_DIVISOR => k_is); (case y_MOST_FIRSTS => k_is); (case y_MOST_PARTIES => k_is); (case y_MOST_VOTES => k_is); (case y_MOST_SEATS => k_is); (case aC => k_is)
    (case aS => k_is); (case xL => k_is); (case sa => k_is); (case ga => k_is); (case gg => k_is); (case nw => k_is)
    (case aI => k_is); (case tI => k_is); (case lI => k_is); (case cI => k_is); (case kI => k_is); (case kC => k_is)
    (case eC => k_is); (case tC => k_is); (case hC => k_is); (case sC => first | rfl | k_is); (case caC => k_is); (case gdC => k_is)
    (case tkC => k_is); (case moC => k_is); (case iS => k_is); (case tS => k_is); (case sS => k_is)
#print axioms PySem.Challenge.cw_dividedseats_k09_whole_seat_by_seat_holds
