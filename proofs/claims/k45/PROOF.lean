import PyProof.Rows.All
import Wide.All
import OpenK.AllK
import Wide.FinOn
import HandS.ForMost
import HandS.Evl
import HandS.NoneIn
import HandS.Style
import HandS.Wide
import HandS.More
import HandS.Conv
import HandS.SetFor
import PySem.Challenge.RW_fewcounters_k45_whole_parts_by_themselve
set_option Elab.async false
set_option linter.all false
set_option maxRecDepth 100000
set_option maxHeartbeats 4000000
namespace FC
abbrev Ed := Nat × Nat

/-! ways counted on a graph -/
def cnt (b : Nat) (es : List Ed) : Nat → Nat → Int
  | 0, p => if p = b then 1 else 0
  | k+1, p => if p = b then 1 else ((es.filter (fun e => decide (e.1 = p))).map (fun e => cnt b es k e.2)).sum

def Ranked (es : List Ed) (rk : Nat → Nat) : Prop := ∀ e ∈ es, rk e.1 < rk e.2 ∧ rk e.2 < 16

theorem map_congr_mem {α β : Type} {l : List α} {f g : α → β} (h : ∀ a ∈ l, f a = g a) : l.map f = l.map g := List.map_congr_left h

theorem cnt_stable {b : Nat} {es : List Ed} {rk : Nat → Nat} (h : Ranked es rk) : ∀ (k p : Nat), 16 ≤ rk p + k → cnt b es k p = cnt b es (k+1) p
  | 0, p, hk => by
    have : es.filter (fun e => decide (e.1 = p)) = [] := by
      rw [List.filter_eq_nil_iff]
      intro e he hp
      have := h e he
      simp at hp
      subst hp
      omega
    simp only [cnt, this]
    split <;> rfl
  | k+1, p, hk => by
    have e : (es.filter (fun e => decide (e.1 = p))).map (fun e => cnt b es k e.2) = (es.filter (fun e => decide (e.1 = p))).map (fun e => cnt b es (k+1) e.2) := by
      apply map_congr_mem
      intro e he
      rw [List.mem_filter] at he
      have := h e he.1
      have hp : e.1 = p := by simpa using he.2
      subst hp
      exact cnt_stable h k e.2 (by omega)
    rw [cnt, e, cnt]

/-- how many ways lead on from p to b -/
def nway (b : Nat) (es : List Ed) (p : Nat) : Int := cnt b es 16 p

theorem nway_fix {b : Nat} {es : List Ed} {rk : Nat → Nat} (h : Ranked es rk) (p : Nat) :
    nway b es p = if p = b then 1 else ((es.filter (fun e => decide (e.1 = p))).map (fun e => nway b es e.2)).sum := by
  unfold nway
  rw [cnt_stable h 16 p (by omega), cnt]

theorem sum_nonneg {l : List Int} (h : ∀ x ∈ l, 0 ≤ x) : 0 ≤ l.sum := by
  induction l with
  | nil => simp
  | cons a r ih =>
    rw [List.sum_cons]
    have := h a (by simp)
    have := ih (fun x hx => h x (by simp [hx]))
    omega

theorem sum_mem_le {l : List Int} (h : ∀ x ∈ l, 0 ≤ x) {x : Int} (hx : x ∈ l) : x ≤ l.sum := by
  induction l with
  | nil => simp at hx
  | cons a r ih =>
    rw [List.sum_cons]
    have h1 := h a (by simp)
    have h2 := sum_nonneg (l := r) (fun x hx => h x (by simp [hx]))
    rcases List.mem_cons.mp hx with rfl | hx
    · omega
    · have := ih (fun x hx => h x (by simp [hx])) hx
      omega

theorem cnt_nonneg (b : Nat) (es : List Ed) : ∀ (k p : Nat), 0 ≤ cnt b es k p
  | 0, p => by rw [cnt]; split <;> omega
  | k+1, p => by
    rw [cnt]
    split
    · omega
    · apply sum_nonneg
      intro x hx
      rw [List.mem_map] at hx
      obtain ⟨e, _, rfl⟩ := hx
      exact cnt_nonneg b es k e.2

theorem nway_nonneg (b : Nat) (es : List Ed) (p : Nat) : 0 ≤ nway b es p := cnt_nonneg b es 16 p

theorem sum_le_len {l : List Int} {B : Int} (h : ∀ x ∈ l, x ≤ B) : l.sum ≤ l.length * B := by
  induction l with
  | nil => simp
  | cons a r ih =>
    rw [List.sum_cons, List.length_cons]
    have h1 := h a (by simp)
    have h2 := ih (fun x hx => h x (by simp [hx]))
    have : ((r.length + 1 : Nat) : Int) * B = (r.length : Int) * B + B := by
      rw [Int.natCast_add, Int.add_mul]; simp
    omega

theorem cnt_le (b : Nat) (es : List Ed) (hl : es.length ≤ 64) : ∀ (k p : Nat), cnt b es k p ≤ 64 ^ k
  | 0, p => by rw [cnt]; split <;> simp
  | k+1, p => by
    have h1 : (1 : Int) ≤ 64 ^ (k+1) := by
      have : (0 : Int) < 64 ^ (k+1) := Int.pow_pos (by decide)
      omega
    rw [cnt]
    split
    · exact h1
    · have h2 := sum_le_len (l := (es.filter (fun e => decide (e.1 = p))).map (fun e => cnt b es k e.2)) (B := 64 ^ k) (by
        intro x hx
        rw [List.mem_map] at hx
        obtain ⟨e, _, rfl⟩ := hx
        exact cnt_le b es hl k e.2)
      rw [List.length_map] at h2
      have h3 : ((es.filter (fun e => decide (e.1 = p))).length : Int) ≤ 64 := by
        have := List.length_filter_le (fun e : Ed => decide (e.1 = p)) es
        omega
      have h4 : (0 : Int) ≤ 64 ^ k := Int.le_of_lt (Int.pow_pos (by decide))
      have h5 : ((es.filter (fun e => decide (e.1 = p))).length : Int) * 64 ^ k ≤ 64 * 64 ^ k := Int.mul_le_mul_of_nonneg_right h3 h4
      have h6 : (64 : Int) ^ (k+1) = 64 * 64 ^ k := by rw [Int.pow_succ, Int.mul_comm]
      omega

theorem nway_le {b : Nat} {es : List Ed} (hl : es.length ≤ 64) (p : Nat) : nway b es p ≤ 2 ^ 100 := by
  have := cnt_le b es hl 16 p
  have h2 : (64 : Int) ^ 16 ≤ 2 ^ 100 := by decide
  unfold nway
  omega

inductive Reach (es : List Ed) : Nat → Nat → Prop
  | refl (p) : Reach es p p
  | step {p q r} : (p, q) ∈ es → Reach es q r → Reach es p r

theorem Reach.trans {es : List Ed} {p q r : Nat} (h : Reach es p q) (h2 : Reach es q r) : Reach es p r := by
  induction h with
  | refl => exact h2
  | step e _ ih => exact .step e (ih h2)

theorem Reach.mono {es es' : List Ed} (hm : ∀ e ∈ es, e ∈ es') {p q : Nat} (h : Reach es p q) : Reach es' p q := by
  induction h with
  | refl => exact .refl _
  | step e _ ih => exact .step (hm _ e) ih

/-- by pieces -/
theorem Reach.via {es es' : List Ed} (hm : ∀ e ∈ es, Reach es' e.1 e.2) {p q : Nat} (h : Reach es p q) : Reach es' p q := by
  induction h with
  | refl => exact .refl _
  | step e _ ih => exact (hm _ e).trans ih

theorem Reach.map {es es' : List Ed} {f : Nat → Nat} (hm : ∀ e ∈ es, (f e.1, f e.2) ∈ es') {p q : Nat} (h : Reach es p q) : Reach es' (f p) (f q) := by
  induction h with
  | refl => exact .refl _
  | step e _ ih => exact .step (hm _ e) ih

theorem Reach.out {es : List Ed} {p r : Nat} (h : Reach es p r) (hne : p ≠ r) : ∃ q, (p, q) ∈ es ∧ Reach es q r := by
  cases h with
  | refl => exact absurd rfl hne
  | step e h => exact ⟨_, e, h⟩

/-- the last step -/
theorem Reach.into {es : List Ed} {p r : Nat} (h : Reach es p r) (hne : p ≠ r) : ∃ q, Reach es p q ∧ (q, r) ∈ es := by
  induction h with
  | refl => exact absurd rfl hne
  | @step p q r e h ih =>
    by_cases hq : q = r
    · subst hq; exact ⟨p, .refl _, e⟩
    · obtain ⟨x, hx, hr⟩ := ih hq
      exact ⟨x, .step e hx, hr⟩

/-- a set that holds p and is closed holds all that is come to -/
theorem Reach.closed {es : List Ed} {S : Nat → Prop} (hc : ∀ e ∈ es, S e.1 → S e.2) {p q : Nat} (h : Reach es p q) (hp : S p) : S q := by
  induction h with
  | refl => exact hp
  | step e _ ih => exact ih (hc _ e hp)

theorem Reach.closedB {es : List Ed} {S : Nat → Prop} (hc : ∀ e ∈ es, S e.2 → S e.1) {p q : Nat} (h : Reach es p q) (hq : S q) : S p := by
  induction h with
  | refl => exact hq
  | step e _ ih => exact hc _ e (ih hq)

structure GoodPart (n : Nat) (es : List Ed) : Prop where
  n2 : 2 ≤ n
  n16 : n ≤ 16
  ed : ∀ e ∈ es, e.1 < n ∧ e.2 < n ∧ e.1 ≠ 1
  rk : ∃ rk : Nat → Nat, (∀ e ∈ es, rk e.1 < rk e.2) ∧ ∀ p, p < n → rk p < 16
  from0 : ∀ p, p < n → Reach es 0 p
  to1 : ∀ p, p < n → Reach es p 1

theorem GoodPart.ranked {n : Nat} {es : List Ed} (G : GoodPart n es) : ∃ rk, Ranked es rk ∧ ∀ p, p < n → rk p < 16 := by
  obtain ⟨rk, h1, h2⟩ := G.rk
  exact ⟨rk, fun e he => ⟨h1 e he, h2 _ (G.ed e he).2.1⟩, h2⟩

theorem GoodPart.same {n : Nat} {es es' : List Ed} (G : GoodPart n es) (h : ∀ e, e ∈ es ↔ e ∈ es') : GoodPart n es' where
  n2 := G.n2
  n16 := G.n16
  ed := fun e he => G.ed e ((h e).mpr he)
  rk := by
    obtain ⟨rk, h1, h2⟩ := G.rk
    exact ⟨rk, fun e he => h1 e ((h e).mpr he), h2⟩
  from0 := fun p hp => (G.from0 p hp).mono fun e he => (h e).mp he
  to1 := fun p hp => (G.to1 p hp).mono fun e he => (h e).mp he

theorem nway_pos {b : Nat} {es : List Ed} {rk : Nat → Nat} (h : Ranked es rk) {p : Nat} (r : Reach es p b) : 1 ≤ nway b es p := by
  induction r with
  | refl => rw [nway_fix h]; simp
  | @step p q r e _ ih =>
    rw [nway_fix h]
    split
    · omega
    · have : nway r es q ≤ ((es.filter (fun e => decide (e.1 = p))).map (fun e => nway r es e.2)).sum := by
        apply sum_mem_le
        · intro x hx
          rw [List.mem_map] at hx
          obtain ⟨e, _, rfl⟩ := hx
          exact nway_nonneg _ _ _
        · rw [List.mem_map]
          exact ⟨(p, q), by rw [List.mem_filter]; exact ⟨e, by simp⟩, rfl⟩
      omega

/-! ### the sums that are needed for a row told twice -/
def sumTo (n : Nat) (f : Nat → Int) : Int := ((List.range n).map f).sum

theorem sumTo_succ (n : Nat) (f : Nat → Int) : sumTo (n+1) f = sumTo n f + f n := by
  unfold sumTo
  rw [List.range_succ, List.map_append, List.sum_append]
  simp

theorem sumTo_congr {n : Nat} {f g : Nat → Int} (h : ∀ i, i < n → f i = g i) : sumTo n f = sumTo n g := by
  unfold sumTo
  rw [map_congr_mem]
  intro a ha
  exact h a (List.mem_range.mp ha)

theorem sumTo_add (n : Nat) (f g : Nat → Int) : sumTo n (fun i => f i + g i) = sumTo n f + sumTo n g := by
  induction n with
  | zero => rfl
  | succ n ih => rw [sumTo_succ, sumTo_succ, sumTo_succ, ih]; omega

theorem sumTo_neg (n : Nat) (f : Nat → Int) : sumTo n (fun p => - f p) = - sumTo n f := by
  induction n with
  | zero => rfl
  | succ n ih => rw [sumTo_succ, sumTo_succ, ih]; omega

theorem sumTo_zero {n : Nat} {f : Nat → Int} (h : ∀ i, i < n → f i = 0) : sumTo n f = 0 := by
  induction n with
  | zero => rfl
  | succ n ih => rw [sumTo_succ, ih (fun i hi => h i (by omega)), h n (by omega)]; rfl

/-- one place alone -/
theorem sumTo_one {n : Nat} {f : Nat → Int} {a : Nat} (ha : a < n) (h : ∀ i, i < n → i ≠ a → f i = 0) : sumTo n f = f a := by
  induction n with
  | zero => omega
  | succ n ih =>
    rw [sumTo_succ]
    by_cases e : a = n
    · subst e
      rw [sumTo_zero (fun i hi => h i (by omega) (by omega))]; omega
    · rw [ih (by omega) (fun i hi hne => h i (by omega) hne), h n (by omega) (by omega)]; omega

theorem sumTo_mul (n : Nat) (f : Nat → Int) (c : Int) : sumTo n (fun i => f i * c) = sumTo n f * c := by
  induction n with
  | zero => simp [sumTo]
  | succ n ih => rw [sumTo_succ, sumTo_succ, ih, Int.add_mul]

/-- Σ over the places of f p times Σ over the rows from p of g = Σ over the rows -/
theorem swap_sum (n : Nat) (f g : Nat → Int) : ∀ es : List Ed, (∀ e ∈ es, e.1 < n) →
    sumTo n (fun p => f p * ((es.filter (fun e => decide (e.1 = p))).map (fun e => g e.2)).sum) = (es.map (fun e => f e.1 * g e.2)).sum
  | [], _ => by
    rw [sumTo_zero]
    · rfl
    · intro i _; simp
  | e :: r, h => by
    have ih := swap_sum n f g r (fun x hx => h x (by simp [hx]))
    rw [List.map_cons, List.sum_cons, ← ih]
    have e1 : sumTo n (fun p => f p * (((e :: r).filter (fun e => decide (e.1 = p))).map (fun e => g e.2)).sum)
        = sumTo n (fun p => (if e.1 = p then f p * g e.2 else 0) + f p * ((r.filter (fun e => decide (e.1 = p))).map (fun e => g e.2)).sum) := by
      apply sumTo_congr
      intro p _
      by_cases hp : e.1 = p
      · rw [List.filter_cons_of_pos (by simpa using hp), List.map_cons, List.sum_cons, if_pos hp, Int.mul_add]
      · rw [List.filter_cons_of_neg (by simpa using hp), if_neg hp]; omega
    rw [e1, sumTo_add]
    congr 1
    rw [sumTo_one (a := e.1) (h e (by simp))]
    · simp
    · intro i _ hne
      rw [if_neg (fun z => hne z.symm)]

theorem swap_sum2 (n : Nat) (f g : Nat → Int) : ∀ es : List Ed, (∀ e ∈ es, e.2 < n) →
    sumTo n (fun p => g p * ((es.filter (fun e => decide (e.2 = p))).map (fun e => f e.1)).sum) = (es.map (fun e => f e.1 * g e.2)).sum
  | [], _ => by
    rw [sumTo_zero]
    · rfl
    · intro i _; simp
  | e :: r, h => by
    have ih := swap_sum2 n f g r (fun x hx => h x (by simp [hx]))
    rw [List.map_cons, List.sum_cons, ← ih]
    have e1 : sumTo n (fun p => g p * (((e :: r).filter (fun e => decide (e.2 = p))).map (fun e => f e.1)).sum)
        = sumTo n (fun p => (if e.2 = p then f e.1 * g p else 0) + g p * ((r.filter (fun e => decide (e.2 = p))).map (fun e => f e.1)).sum) := by
      apply sumTo_congr
      intro p _
      by_cases hp : e.2 = p
      · rw [List.filter_cons_of_pos (by simpa using hp), List.map_cons, List.sum_cons, if_pos hp, Int.mul_add, Int.mul_comm (g p) (f e.1)]
      · rw [List.filter_cons_of_neg (by simpa using hp), if_neg hp]; omega
    rw [e1, sumTo_add]
    congr 1
    rw [sumTo_one (a := e.2) (h e (by simp))]
    · simp
    · intro i _ hne
      rw [if_neg (fun z => hne z.symm)]

def flip (es : List Ed) : List Ed := es.map (fun e => (e.2, e.1))
theorem flip_filter (es : List Ed) (p : Nat) (f : Nat → Int) : (((flip es).filter (fun e => decide (e.1 = p))).map (fun e => f e.2)) = ((es.filter (fun e => decide (e.2 = p))).map (fun e => f e.1)) := by
  unfold flip
  rw [List.filter_map, List.map_map]
  rfl

theorem flip_ranked {es : List Ed} {rk : Nat → Nat} (h : Ranked es rk) : Ranked (flip es) (fun p => 15 - rk p) := by
  intro e he
  unfold flip at he
  rw [List.mem_map] at he
  obtain ⟨x, hx, rfl⟩ := he
  have := h x hx
  dsimp only
  omega

/-- how many ways lead from place 0 to p -/
def before (es : List Ed) (p : Nat) : Int := nway 0 (flip es) p
theorem before_fix {es : List Ed} {rk : Nat → Nat} (h : Ranked es rk) (p : Nat) :
    before es p = if p = 0 then 1 else ((es.filter (fun e => decide (e.2 = p))).map (fun e => before es e.1)).sum := by
  unfold before
  rw [nway_fix (flip_ranked h), flip_filter]

theorem far_same {es : List Ed} {rk : Nat → Nat} (h : Ranked es rk) (a b c : Nat) : ∀ (k p : Nat), rk a < rk p → cnt c (es ++ [(a, b)]) k p = cnt c es k p
  | 0, p, _ => by rw [cnt, cnt]
  | k+1, p, hp => by
    rw [cnt, cnt]
    have e1 : (es ++ [(a, b)]).filter (fun e => decide (e.1 = p)) = es.filter (fun e => decide (e.1 = p)) := by
      rw [List.filter_append]
      have : a ≠ p := fun z => by subst z; omega
      simp [this]
    rw [e1]
    split
    · rfl
    · congr 1
      apply map_congr_mem
      intro e he
      rw [List.mem_filter] at he
      have h1 := h e he.1
      have h2 : e.1 = p := by simpa using he.2
      subst h2
      exact far_same h a b c k e.2 (by omega)

/-- THE COUNT with a row told twice -/
theorem twice {n : Nat} {es : List Ed} (G : GoodPart n es) {a b : Nat} (hab : (a, b) ∈ es) :
    nway 1 (es ++ [(a, b)]) 0 = nway 1 es 0 + before es a * nway 1 es b := by
  obtain ⟨rk, R, _⟩ := G.ranked
  have R' : Ranked (es ++ [(a, b)]) rk := by
    intro e he
    rw [List.mem_append] at he
    rcases he with he | he
    · exact R e he
    · rw [List.mem_singleton] at he
      subst he
      exact R _ hab
  have hb : nway 1 (es ++ [(a, b)]) b = nway 1 es b := far_same R a b 1 16 b (R _ hab).1
  have n0 : 0 < n := by have := G.n2; omega
  have n1 : 1 < n := by have := G.n2; omega
  have hE1 : ∀ e ∈ es, e.1 < n := fun e he => (G.ed e he).1
  have hE2 : ∀ e ∈ es, e.2 < n := fun e he => (G.ed e he).2.1
  -- for any N': Σ before p * (N' p - Σ rows from p of N') = N' 0
  have key : ∀ g : Nat → Int, sumTo n (fun p => before es p * (g p - ((es.filter (fun e => decide (e.1 = p))).map (fun e => g e.2)).sum)) = g 0 := by
    intro g
    have s1 := swap_sum n (before es) g es hE1
    have s2 := swap_sum2 n (before es) g es hE2
    have e1 : sumTo n (fun p => before es p * (g p - ((es.filter (fun e => decide (e.1 = p))).map (fun e => g e.2)).sum)) = sumTo n (fun p => before es p * g p) + sumTo n (fun p => - (before es p * ((es.filter (fun e => decide (e.1 = p))).map (fun e => g e.2)).sum)) := by
      rw [← sumTo_add]
      apply sumTo_congr
      intro p _
      rw [Int.mul_sub]; omega
    have e2 : sumTo n (fun p => before es p * g p) = sumTo n (fun p => (if p = 0 then g 0 else 0) + g p * ((es.filter (fun e => decide (e.2 = p))).map (fun e => before es e.1)).sum) := by
      apply sumTo_congr
      intro p _
      rw [before_fix R]
      by_cases hp : p = 0
      · subst hp
        have : es.filter (fun e => decide (e.2 = 0)) = [] := by
          rw [List.filter_eq_nil_iff]
          intro e he hz
          have hz : e.2 = 0 := by simpa using hz
          -- 0 reaches e.1, then back to 0: the rank would grow
          have h1 := R e he
          have grow : ∀ {x y : Nat}, Reach es x y → rk x ≤ rk y := by
            intro x y h
            induction h with
            | refl => exact Nat.le_refl _
            | step e _ ih => have := (R _ e).1; dsimp only at this; omega
          have h2 := grow (G.from0 e.1 (G.ed e he).1)
          rw [hz] at h1
          omega
        rw [this]
        simp
      · rw [if_neg hp, if_neg hp, Int.mul_comm]; omega
    rw [e1, sumTo_neg, s1, e2, sumTo_add, s2, sumTo_one (a := 0) n0 (fun i _ hi => if_neg hi), if_pos rfl]
    omega
  have k1 := key (nway 1 es)
  have k2 := key (nway 1 (es ++ [(a, b)]))
  have a1 : a ≠ 1 := (G.ed _ hab).2.2
  have an : a < n := (G.ed _ hab).1
  have no1 : es.filter (fun e => decide (e.1 = 1)) = [] := by
    rw [List.filter_eq_nil_iff]
    intro e he hz
    exact (G.ed e he).2.2 (by simpa using hz)
  have f1 : sumTo n (fun p => before es p * (nway 1 es p - ((es.filter (fun e => decide (e.1 = p))).map (fun e => nway 1 es e.2)).sum)) = before es 1 := by
    rw [sumTo_one (a := 1) n1]
    · rw [no1, nway_fix R]; simp
    · intro i _ hi
      rw [nway_fix R i, if_neg hi]; simp
  have f2 : sumTo n (fun p => before es p * (nway 1 (es ++ [(a, b)]) p - ((es.filter (fun e => decide (e.1 = p))).map (fun e => nway 1 (es ++ [(a, b)]) e.2)).sum))
      = before es 1 + before es a * nway 1 es b := by
    have : sumTo n (fun p => before es p * (nway 1 (es ++ [(a, b)]) p - ((es.filter (fun e => decide (e.1 = p))).map (fun e => nway 1 (es ++ [(a, b)]) e.2)).sum))
        = sumTo n (fun p => (if p = 1 then before es 1 else 0) + (if p = a then before es a * nway 1 es b else 0)) := by
      apply sumTo_congr
      intro p _
      rw [nway_fix R' p, List.filter_append]
      by_cases hp : p = 1
      · subst hp
        have a2 : 1 ≠ a := fun z => a1 z.symm
        rw [no1]
        simp [a1, a2]
      · by_cases hpa : p = a
        · subst hpa
          rw [if_neg hp, if_neg hp, if_pos rfl]
          simp [hb]
          rw [Int.add_comm, Int.add_sub_cancel]
        · have : (decide (a = p)) = false := by simpa using fun z : a = p => hpa z.symm
          rw [if_neg hp, if_neg hp, if_neg hpa]
          simp [this]
    rw [this, sumTo_add, sumTo_one (a := 1) n1 (fun i _ hi => if_neg hi), sumTo_one (a := a) an (fun i _ hi => if_neg hi)]
    simp
  rw [← k2, f2, ← k1, f1]
end FC
namespace FC
open PySem PySem.Spec PyProof.Rows L2
/-! ### the text -/
def topS (i : Nat) : Stmt := PySem.Challenge.pw_fewcounters_k45_whole_parts_by_themselve.main.body.getD i (.Pass ⟨0, 0, 0, 0⟩)
/-- a def of the text, where it stands behind the top -/
def D1 (K : PySem.W.Frag) (mg : Str → Option Value) (x : Str) (st : Stmt) (ps : List Str) : Prop :=
  ∃ (f : Addr) (fd : FuncData), Fun K x x st f fd ∧ Binds K fd ps [] ∧ mg x = some (.ref f)
/-- a def that keeps its promise, ready to be called -/
def Cal (P : Program) (w : World) (K : PySem.W.Frag) (mg : Str → Option Value) (base : Heap) (lv : Nat) (x : Str) (ps : List Str) (sp : Sp) : Prop :=
  ∃ (f : Addr) (fd : FuncData), FnOk P w K mg base CX0 lv f fd ps sp ∧ Binds K fd ps [] ∧ PySem.W.keepIn K (.ref f) = true ∧ mg x = some (.ref f)
theorem pe_cal {X : Cx} {lv : Nat} {x : Str} {ps : List Str} {sp : Sp} {p pos : Pos} {e : Expr} {es : List Expr} {t : TA} (C : Cal X.prog X.w X.K X.mg X.base lv x ps sp) (hr : Room lv X.A) (hg : Gl X x)
    (ha : PA X (e :: es) t) (hdb : (x == ("__debug__" : Str)) = false := by decide) (he : starEach (e :: es) X.env = (false, eval e X.env) :: starEach es X.env := by rfl) (hpl : (backTo pos (starEach es X.env)).any (·.1) = false := by rfl) :
    PE X (.Call (.Name x p) (e :: es) [] pos) (tCall sp [] E0 t) := by
  obtain ⟨f, fd, G, b, kp, gm⟩ := C
  exact pe_call G hr hg gm kp b .nil pass0 ha hdb he hpl
/-- what the top has written for the names that are read -/
structure Txt (K : PySem.W.Frag) (mg : Str → Option Value) : Prop where
  z_len : mg "len" = none
  z_range : mg "range" = none
  z_min : mg "min" = none
  z_max : mg "max" = none
  z_sum : mg "sum" = none
  z_all : mg "all" = none
  z_list : mg "list" = none
  z_tuple : mg "tuple" = none
  z_int : mg "int" = none
  g_MOST_PLACES : ∃ t, mg "MOST_PLACES" = some (.int 16 t)
  g_MOST_PARTS : ∃ t, mg "MOST_PARTS" = some (.int 4 t)
  g_MOST_ROWS : ∃ t, mg "MOST_ROWS" = some (.int 60 t)
theorem pe_gint {X : Cx} {x : Str} {i : Int} {pos : Pos} (h : ∃ t, X.mg x = some (.int i t)) (hg : Gl X x) (hd : (x == ("__debug__" : Str)) = false := by decide) : PE X (.Name x pos) (tC (.int i)) := by
  obtain ⟨t, h⟩ := h
  exact pe_glob hg h ⟨t, rfl⟩ hd
/-! ### readings by name -/
def rLenD : List V → Hp → VK → Prop := fun xs H Q => ∃ a kvs, xs = [V.ref a] ∧ H a = some (.dK kvs) ∧ Q (.int kvs.length) H
def rMin2 : List V → Hp → VK → Prop := fun xs H Q => ∃ i j, xs = [.int i, .int j] ∧ Q (.int (if j < i then j else i)) H
def rInt1 : List V → Hp → VK → Prop := fun xs H Q => (∃ i, xs = [.int i] ∧ Q (.int i) H) ∨ ∃ k, xs = [.bl k] ∧ Q (.int (if k then 1 else 0)) H
def rTupOf (K : PySem.W.Frag) : List V → Hp → VK → Prop := fun xs H Q => ∃ p ys, xs = [.ref p] ∧ ((SqL K H p ys ∧ ∀ l, H l = none → Q (.ref l) (upd H l (.tup ys))) ∨ (SqT K H p ys ∧ Q (.ref p) H))
def rInsert : V → List V → Hp → VK → Prop := fun x vs H Q => ∃ (l : Addr) (xs : List V) (i : Int) (y : V), x = .ref l ∧ vs = [.int i, y] ∧ H l = some (.lst xs) ∧ xs.length < sizeLine ∧ 0 ≤ i ∧ i < 2 ^ 63 ∧
    Q .non (upd H l (.lst (xs.take i.toNat ++ [y] ++ xs.drop i.toNat)))
/-! ### webs -/
structure Row where
  p : Nat
  f : Nat
  t : Nat
  c : Int
structure Web where
  ps : List Nat
  rs : List Row
def rowV (r : Row) : List V := [.int r.p, .int r.f, .int r.t, .int r.c]
/-- a list of naturals as values -/
def iv (l : List Nat) : List V := l.map fun (n : Nat) => V.int (n : Int)
structure WebAt (H : Hp) (wa : Addr) (W : Web) : Prop where
  ex : ∃ (pa ra : Addr) (rr : List Addr), H wa = some (.tup [.ref pa, .ref ra]) ∧ H pa = some (.lst (iv W.ps)) ∧ H ra = some (.lst (rr.map V.ref)) ∧ rr.length = W.rs.length ∧
    ∀ (i : Nat) (q : Addr) (r : Row), rr[i]? = some q → W.rs[i]? = some r → H q = some (.tup (rowV r))
def Web.row (W : Web) (k : Nat) : Row := W.rs.getD k ⟨0, 0, 0, 0⟩
def Web.fr (W : Web) (k : Nat) : Nat := (W.row k).f
def Web.to (W : Web) (k : Nat) : Nat := (W.row k).t
/-- the numbers of a part's rows -/
def own (W : Web) (p : Nat) : List Nat := (List.range W.rs.length).filter fun k => decide ((W.row k).p = p)
def es (W : Web) (p : Nat) : List Ed := (own W p).map fun k => (W.fr k, W.to k)
def pl (W : Web) (p : Nat) : Nat := W.ps.getD p 0
structure GoodWeb (W : Web) : Prop where
  np : 1 ≤ W.ps.length ∧ W.ps.length ≤ 4
  nr : 1 ≤ W.rs.length ∧ W.rs.length ≤ 60
  row : ∀ r ∈ W.rs, r.p < W.ps.length ∧ (r.c = -1 ∨ (r.p : Int) < r.c) ∧ r.c < W.ps.length
  call : ∀ p, 0 < p → p < W.ps.length → ∃ r ∈ W.rs, r.c = p
  part : ∀ p, p < W.ps.length → GoodPart (pl W p) (es W p)
/-- the rows of a part from a place -/
def rfrom (W : Web) (p q : Nat) : List Nat := (own W p).filter fun k => decide (W.fr k = q)
def ledTo (es : List Ed) (some : List Nat) : List Nat := (es.filter fun e => decide (e.1 ∈ some)).map fun e => e.2
def N (W : Web) (p q : Nat) : Int := nway 1 (es W p) q
/-- a row's worth -/
def wtK (W : Web) (p k : Nat) : Int := if k ∈ own W p then (((own W p).filter fun j => decide (j < k) && decide (W.fr j = W.fr k)).map fun j => N W p (W.to j)).sum else 0
def wtl (W : Web) (p : Nat) : List Int := (List.range W.rs.length).map (wtK W p)
def IsWay (W : Web) (p : Nat) : Nat → List Nat → Prop
  | here, [] => here = 1
  | here, k :: r => k ∈ own W p ∧ W.fr k = here ∧ IsWay W p (W.to k) r
/-- the way of a number, greedily -/
def wayK (W : Web) (p : Nat) : Nat → Nat → Int → List Nat
  | 0, _, _ => []
  | n + 1, here, num => if here = 1 then [] else match ((rfrom W p here).filter fun k => decide (wtK W p k ≤ num)).getLast? with
    | none => []
    | some k => k :: wayK W p n (W.to k) (num - wtK W p k)
/-- an order of the places, each ahead of those to which rows lead from it -/
structure Topo (n : Nat) (es : List Ed) (o : List Nat) : Prop where
  nd : o.Nodup
  mem : ∀ p, p ∈ o ↔ p < n
  ord : ∀ (j q : Nat), o[j]? = some q → ∀ p, (p, q) ∈ es → p ∈ o.take j
/-- a part of a web alone -/
def alone (W : Web) (p : Nat) : Web := ⟨[pl W p], (own W p).map fun k => ⟨0, W.fr k, W.to k, -1⟩⟩
/-! ### the purse -/
structure Purse (pu ce : Addr) (T : Nat) (H : Hp) : Prop where
  ex : ∃ (cells : List Int) (t : Nat), 1 ≤ cells.length ∧ cells.length ≤ 63 ∧ t ≤ T ∧ H pu = some (.lst [.ref ce, .int (t : Int)]) ∧ H ce = some (.lst (cells.map V.int))
/-- all but what S names stands as it stood -/
def Frm (S : List Addr) (H H' : Hp) : Prop := ∀ a o, a ∉ S → H a = some o → H' a = some o
/-! ### promises -/
/-- the dict of the ways on (or of others) -/
def MapsTo (kvs : List (Key × V)) (n : Nat) (f : Nat → Int) : Prop := ∀ q, q < n → valV kvs (Sum.inl (q : Int)) = some (.int (f q))
def RetD (n : Nat) (f : Nat → Int) (H : Hp) (Q : VK) : Prop := ∀ d H2 kvs, H d = none → Evl.Ex H H2 → H2 d = some (.dK kvs) → MapsTo kvs n f → Q (.ref d) H2
def sp_rows_of (K : PySem.W.Frag) : Sp := fun vs H Q _ => ∃ wa W, ∃ p : Nat, vs = [.ref wa, .int p] ∧ WebAt H wa W ∧ GoodWeb W ∧ p < W.ps.length ∧ Evl.RetL (iv (own W p)) H Q
def sp_reached (K : PySem.W.Frag) : Sp := fun vs H Q _ => ∃ wa W, ∃ (p st : Nat) (tu : Bool), vs = [.ref wa, .int p, .int st, .bl tu] ∧ WebAt H wa W ∧ GoodWeb W ∧ p < W.ps.length ∧ (st, tu) ∈ [(0, false), (1, true)] ∧
  ∀ d H2 kvs, H d = none → Evl.Ex H H2 → H2 d = some (.dK kvs) → kvs.length = pl W p → Q (.ref d) H2
def sp_fits_row (K : PySem.W.Frag) : Sp := fun vs H Q _ => ∃ wa W ra r, vs = [.ref wa, .ref ra] ∧ WebAt H wa W ∧ GoodWeb W ∧ H ra = some (.tup (rowV r)) ∧ r ∈ W.rs ∧ Evl.RetV (.bl true) H Q
def sp_is_web (K : PySem.W.Frag) : Sp := fun vs H Q _ => ∃ wa W, vs = [.ref wa] ∧ WebAt H wa W ∧ GoodWeb W ∧ Evl.RetV (.bl true) H Q
def sp_must_be_web (K : PySem.W.Frag) : Sp := fun vs H Q _ => ∃ wa W, vs = [.ref wa] ∧ WebAt H wa W ∧ GoodWeb W ∧ Evl.RetV .non H Q
def sp_must_be_part (K : PySem.W.Frag) : Sp := fun vs H Q _ => ∃ wa W, ∃ p : Nat, vs = [.ref wa, .int p] ∧ WebAt H wa W ∧ GoodWeb W ∧ p < W.ps.length ∧ Evl.RetV .non H Q
def sp_led_to (K : PySem.W.Frag) : Sp := fun vs H Q _ => ∃ wa W, ∃ (p : Nat) (sa : Addr) (sm : List Nat), vs = [.ref wa, .int p, .ref sa] ∧ WebAt H wa W ∧ GoodWeb W ∧ p < W.ps.length ∧ H sa = some (.lst (iv sm)) ∧ Evl.RetL (iv (ledTo (es W p) sm)) H Q
def sp_order_of (K : PySem.W.Frag) : Sp := fun vs H Q _ => ∃ wa W, ∃ p : Nat, vs = [.ref wa, .int p] ∧ WebAt H wa W ∧ GoodWeb W ∧ p < W.ps.length ∧ ∀ o, Topo (pl W p) (es W p) o → Evl.RetL (iv o) H Q
def sp_is_loose (K : PySem.W.Frag) : Sp := fun vs H Q _ => ∃ wa W, ∃ p : Nat, vs = [.ref wa, .int p] ∧ WebAt H wa W ∧ GoodWeb W ∧ p < W.ps.length ∧ Evl.RetV (.bl true) H Q
def sp_must_be_loose (K : PySem.W.Frag) : Sp := fun vs H Q _ => ∃ wa W, ∃ p : Nat, vs = [.ref wa, .int p] ∧ WebAt H wa W ∧ GoodWeb W ∧ p < W.ps.length ∧ Evl.RetV .non H Q
def sp_ways_on (K : PySem.W.Frag) : Sp := fun vs H Q _ => ∃ wa W, ∃ p : Nat, vs = [.ref wa, .int p] ∧ WebAt H wa W ∧ GoodWeb W ∧ p < W.ps.length ∧ RetD (pl W p) (N W p) H Q
def sp_ways (K : PySem.W.Frag) : Sp := fun vs H Q _ => ∃ wa W, ∃ p : Nat, vs = [.ref wa, .int p] ∧ WebAt H wa W ∧ GoodWeb W ∧ p < W.ps.length ∧ Evl.RetV (.int (N W p 0)) H Q
def sp_rows_from (K : PySem.W.Frag) : Sp := fun vs H Q _ => ∃ wa W, ∃ (p q : Nat), vs = [.ref wa, .int p, .int q] ∧ WebAt H wa W ∧ GoodWeb W ∧ p < W.ps.length ∧ Evl.RetL (iv (rfrom W p q)) H Q
def sp_weighed (K : PySem.W.Frag) : Sp := fun vs H Q _ => ∃ wa W, ∃ p : Nat, vs = [.ref wa, .int p] ∧ WebAt H wa W ∧ GoodWeb W ∧ p < W.ps.length ∧ Evl.RetL ((wtl W p).map V.int) H Q
def sp_worths (K : PySem.W.Frag) : Sp := sp_weighed K
def sp_is_going (K : PySem.W.Frag) : Sp := fun vs H Q _ => ∃ wa W, ∃ (p : Nat) (la : Addr) (way : List Nat), vs = [.ref wa, .int p, .ref la] ∧ WebAt H wa W ∧ GoodWeb W ∧ p < W.ps.length ∧ H la = some (.lst (iv way)) ∧ IsWay W p 0 way ∧ Evl.RetV (.bl true) H Q
def sp_number_of (K : PySem.W.Frag) : Sp := fun vs H Q _ => ∃ wa W, ∃ (p : Nat) (la : Addr) (way : List Nat), vs = [.ref wa, .int p, .ref la] ∧ WebAt H wa W ∧ GoodWeb W ∧ p < W.ps.length ∧ H la = some (.lst (iv way)) ∧ IsWay W p 0 way ∧
  Evl.RetV (.int (way.map (wtK W p)).sum) H Q
def sp_way_by (K : PySem.W.Frag) : Sp := fun vs H Q _ => ∃ wa W, ∃ (p : Nat) (wo : Addr) (num : Int), vs = [.ref wa, .int p, .ref wo, .int num] ∧ WebAt H wa W ∧ GoodWeb W ∧ p < W.ps.length ∧ H wo = some (.lst ((wtl W p).map V.int)) ∧ 0 ≤ num ∧
  Evl.RetL (iv (wayK W p 16 0 num)) H Q
def sp_way_of (K : PySem.W.Frag) : Sp := fun vs H Q _ => ∃ wa W, ∃ (p : Nat) (num : Int), vs = [.ref wa, .int p, .int num] ∧ WebAt H wa W ∧ GoodWeb W ∧ p < W.ps.length ∧ 0 ≤ num ∧ num < N W p 0 ∧ Evl.RetL (iv (wayK W p 16 0 num)) H Q
/-! the law's own -/
def sp_law_purse (K : PySem.W.Frag) : Sp := fun vs H Q _ => ∃ (a : Addr) (ns : List Int), vs = [.ref a] ∧ SqL K H a (ns.map V.int) ∧ ns.length ≤ 63 ∧ ∀ H2 pu ce, Purse pu ce 0 H2 → Q (.ref pu) H2
def sp_law_draw (K : PySem.W.Frag) : Sp := fun vs H Q _ => ∃ pu ce T, ∃ n : Int, vs = [.ref pu, .int n] ∧ Purse pu ce T H ∧ T ≤ 1000000 ∧ 0 < n ∧ n < 2 ^ 200 ∧ ∀ (i : Int) H', 0 ≤ i → i < n → Purse pu ce (T + 1) H' → Frm [pu, ce] H H' → Q (.int i) H'
def sp_law_order (K : PySem.W.Frag) : Sp := fun vs H Q _ => ∃ pu ce T, ∃ m : Nat, vs = [.ref pu, .int m] ∧ Purse pu ce T H ∧ T + m ≤ 1000000 ∧ m ≤ 1000 ∧ ∀ (o : List Nat) p H', o.Perm (List.range m) → H p = none → H' p = some (.lst (iv o)) → Purse pu ce (T + m) H' → Frm [pu, ce] H H' → Q (.ref p) H'
/-- a list of pairs of places, each a new list of two -/
def PairsAt (H0 H : Hp) (sa : Addr) (ls : List Ed) : Prop := ∃ rr : List Addr, H0 sa = none ∧ (∀ q ∈ rr, H0 q = none) ∧ H sa = some (.lst (rr.map V.ref)) ∧ rr.length = ls.length ∧ ∀ (i : Nat) (q : Addr) (e : Ed), rr[i]? = some q → ls[i]? = some e → H q = some (.lst [.int e.1, .int e.2])
def sp_law_part (K : PySem.W.Frag) : Sp := fun vs H Q _ => ∃ pu ce T, ∃ m : Nat, vs = [.ref pu, .int m, .bl true] ∧ Purse pu ce T H ∧ T ≤ 900000 ∧ m ≤ 100 ∧
  ∀ (n : Nat) (ls : List Ed) (tp sa : Addr) H', GoodPart n ls → ls.length = m + 1 → H' tp = some (.tup [.int n, .ref sa]) → PairsAt H H' sa ls → Purse pu ce (T + 3 * m + 16) H' → Frm [pu, ce] H H' → Q (.ref tp) H'
/-- a list of lists of four, all told apart -/
def FoursAt (H : Hp) (rr : List Addr) (rs : List Row) : Prop := rr.Nodup ∧ rr.length = rs.length ∧ ∀ (i : Nat) (q : Addr) (r : Row), rr[i]? = some q → rs[i]? = some r → H q = some (.lst (rowV r))
def sp_law_called (K : PySem.W.Frag) : Sp := fun vs H Q _ => ∃ pu ce T, ∃ (ra : Addr) (rr : List Addr) (rs : List Row) (m : Nat), vs = [.ref pu, .ref ra, .int m] ∧ Purse pu ce T H ∧ T ≤ 900000 ∧ 1 ≤ m ∧ m ≤ 4 ∧
  H ra = some (.lst (rr.map V.ref)) ∧ FoursAt H rr rs ∧ rs.length ≤ 60 ∧ pu ∉ rr ∧ ce ∉ rr ∧ ra ∉ rr ∧ ra ≠ pu ∧ ra ≠ ce ∧ (∀ r ∈ rs, r.p < m ∧ r.c = -1) ∧ (∀ p, p < m → ∃ r ∈ rs, r.p = p) ∧
  ∀ (rs' : List Row) H', rs'.map (fun r => (r.p, r.f, r.t)) = rs.map (fun r => (r.p, r.f, r.t)) → (∀ r ∈ rs', (r.c = -1 ∨ (r.p : Int) < r.c) ∧ r.c < m) → (∀ p : Nat, 0 < p → p < m → ∃ r ∈ rs', r.c = p) → FoursAt H' rr rs' →
    Purse pu ce (T + 64) H' → Frm (pu :: ce :: rr) H H' → Q .non H'
def sp_law_web (K : PySem.W.Frag) : Sp := fun vs H Q _ => ∃ pu ce T, vs = [.ref pu, .bl true] ∧ Purse pu ce T H ∧ T ≤ 1000 ∧
  ∀ (W : Web) wa H', GoodWeb W → W.rs.length ≤ 29 → WebAt H' wa W → (∀ H'', Frm [pu, ce] H' H'' → WebAt H'' wa W) → Purse pu ce (T + 2000) H' → Q (.ref wa) H'
def sp_law_from (K : PySem.W.Frag) : Sp := sp_rows_from K
def sp_law_on (K : PySem.W.Frag) : Sp := sp_ways_on K
def sp_law_goes (K : PySem.W.Frag) : Sp := sp_is_going K
def sp_law_alone (K : PySem.W.Frag) : Sp := fun vs H Q _ => ∃ wa W, ∃ p : Nat, vs = [.ref wa, .int p] ∧ WebAt H wa W ∧ GoodWeb W ∧ p < W.ps.length ∧
  ∀ tp oa wb H2, Evl.Ex H H2 → H2 tp = some (.tup [.ref oa, .ref wb]) → H oa = none → H2 oa = some (.lst (iv (own W p))) → WebAt H2 wb (alone W p) → (∀ H3, (∀ a o, H a = none → H2 a = some o → H3 a = some o) → WebAt H3 wb (alone W p)) → Q (.ref tp) H2
def sp_law_through (K : PySem.W.Frag) : Sp := fun vs H Q _ => ∃ wa W, ∃ (p k : Nat), vs = [.ref wa, .int p, .int k] ∧ WebAt H wa W ∧ GoodWeb W ∧ p < W.ps.length ∧ k ∈ own W p ∧ Evl.RetV (.int (before (es W p) (W.fr k) * N W p (W.to k))) H Q
def sp_law (K : PySem.W.Frag) : Sp := fun vs H Q _ => ∃ (a : Addr) (ns : List Int), vs = [.ref a] ∧ SqL K H a (ns.map V.int) ∧ ns.length ≤ 63 ∧ ∀ H', Q (.bl true) H'
end FC
namespace FC
open PySem PySem.Spec PyProof.Rows L2
/-! rows_of, level 1 -/
abbrev N_rows_of : List Str := ["web", "part", "k"]
def tr_rows_of (K : PySem.W.Frag) : TS :=
  (tRet (tLc (iRng1 (tCons (tCB (Evl.rLenS K) (tCons (tOp (rIxT K) (tVar 0) (tC (.int 1))) tNil)) tNil)) (gName 2) (tTest (tOp rEq (tOp (rIxT K) (tOp (rIxL K) (tOp (rIxT K) (tVar 0) (tC (.int 1))) (tVar 2)) (tC (.int 0))) (tVar 1))) (tVar 2) [2]))

/-! fits_row, level 1 -/
abbrev N_fits_row : List Str := ["web", "row", "places", "rows", "part", "start", "end", "calls"]
def tr_fits_row (K : PySem.W.Frag) : TS :=
  (tSeq (tAsg (tVar 0) (gTup K 2 (gCons (gName 2) (gCons (gName 3) gNil))))
  (tSeq (tAsg (tVar 1) (gTup K 4 (gCons (gName 4) (gCons (gName 5) (gCons (gName 6) (gCons (gName 7) gNil))))))
  (tSeq (tIfS (tOr (tTest (tOp (rI0 fun i j => .bl (decide (i < j))) (tVar 4) (tC (.int 0)))) (tOr (tTest (tOp (rI0 fun i j => .bl (decide (j ≤ i))) (tVar 4) (tCB (Evl.rLenS K) (tCons (tVar 2) tNil)))) (tOr (tTest (tOp (rI0 fun i j => .bl (decide (i < j))) (tCB rMin2 (tCons (tVar 5) (tCons (tVar 6) tNil))) (tC (.int 0)))) (tTest (tOp (rI0 fun i j => .bl (decide (j ≤ i))) (tCB Evl.rMax2 (tCons (tVar 5) (tCons (tVar 6) tNil))) (tOp (rIxL K) (tVar 2) (tVar 4))))))) (tRet (tC (.bl false))) tNext)
  (tRet (tAndV (tOp rNe (tVar 5) (tC (.int 1))) (tAndV (tOp (rI0 fun i j => .bl (decide (i < j))) (tVar 7) (tCB (Evl.rLenS K) (tCons (tVar 2) tNil))) (tOrV (tOp rEq (tVar 7) (tUn (rU fun i => .int (-i)) (tC (.int 1)))) (tOp (rI0 fun i j => .bl (decide (j < i))) (tVar 7) (tVar 4)))))))))

/-! _law_purse, level 1 -/
abbrev N_law_purse : List Str := ["_law_script", "_law_cells"]
def tr_law_purse (K : PySem.W.Frag) : TS :=
  (tSeq (tAsg (tSl (rSlL K) (tVar 0) tNoPart (tPart (tC (.int 63)))) (gName 1))
  (tSeq (tIfS (tTest (tOp (rEqD K) (tVar 1) (tLst tNil))) (tAsg (tLst (tCons (tC (.int 0)) tNil)) (gName 1)) tNext)
  (tRet (tLst (tCons (tVar 1) (tCons (tC (.int 0)) tNil))))))

/-! _law_draw, level 1 -/
abbrev N_law_draw : List Str := ["_law_purse_here", "_law_out_of", "_law_cells", "_law_turn", "_law_at", "_law_cell", "_law_number"]
def tr_law_draw (K : PySem.W.Frag) : TS :=
  (tSeq (tAsg (tVar 0) (gUnl K 2 (gCons (gName 2) (gCons (gName 3) gNil))))
  (tSeq (tAsg (tOp (rI (fun _ j => 0 < j) fun i j => .int (i % j)) (tVar 3) (tCB (Evl.rLenS K) (tCons (tVar 2) tNil))) (gName 4))
  (tSeq (tAsg (tOp (rIxL K) (tVar 2) (tVar 4)) (gName 5))
  (tSeq (tAsg (tOp (rI0 fun i j => .int (i + j)) (tVar 3) (tC (.int 1))) (gSub (tVar 0) (tC (.int 1)) rSetL))
  (tSeq (tIfS (tTest (tOp (rI0 fun i j => .bl (decide (j ≤ i))) (tVar 5) (tOp (rI CPow fun i j => .int (i ^ j.toNat)) (tC (.int 10)) (tC (.int 18))))) (tSeq (tAsg (tOp (rI CDivW fun i j => .int (i / j)) (tVar 5) (tVar 1)) (gSub (tVar 2) (tVar 4) rSetL))
  (tRet (tOp (rI (fun _ j => 0 < j) fun i j => .int (i % j)) (tVar 5) (tVar 1)))) tNext)
  (tSeq (tAsg (tOp (rI (fun _ j => 0 < j) fun i j => .int (i % j)) (tOp (rI0 fun i j => .int (i + j)) (tOp (rI0 fun i j => .int (i + j)) (tOp (rI CMul fun i j => .int (i * j)) (tVar 5) (tC (.int 48271))) (tOp (rI CMul fun i j => .int (i * j)) (tOp (rI CMul fun i j => .int (i * j)) (tVar 3) (tVar 3)) (tC (.int 69621)))) (tC (.int 7))) (tC (.int 2147483647))) (gName 6))
  (tSeq (tAsg (tOp (rI (fun _ j => 0 < j) fun i j => .int (i % j)) (tOp (rI CMul fun i j => .int (i * j)) (tVar 6) (tVar 6)) (tC (.int 2147483629))) (gName 6))
  (tRet (tOp (rI (fun _ j => 0 < j) fun i j => .int (i % j)) (tOp (rI (fun _ j => 0 < j) fun i j => .int (i % j)) (tOp (rI CMul fun i j => .int (i * j)) (tVar 6) (tVar 6)) (tC (.int 2147483587))) (tVar 1))))))))))

/-! _law_from, level 1 -/
abbrev N_law_from : List Str := ["_law_web_here", "_law_part_here", "_law_place", "_law_k"]
def tr_law_from (K : PySem.W.Frag) : TS :=
  (tRet (tLc (iRng1 (tCons (tCB (Evl.rLenS K) (tCons (tOp (rIxT K) (tVar 0) (tC (.int 1))) tNil)) tNil)) (gName 3) (tTest (tOp (rEqD K) (tSl (rSlT K) (tOp (rIxL K) (tOp (rIxT K) (tVar 0) (tC (.int 1))) (tVar 3)) tNoPart (tPart (tC (.int 2)))) (tTup (tCons (tVar 1) (tCons (tVar 2) tNil))))) (tVar 3) [3]))

/-! _law_alone, level 1 -/
abbrev N_law_alone : List Str := ["_law_web_here", "_law_part_here", "_law_own", "_law_k"]
def tr_law_alone (K : PySem.W.Frag) : TS :=
  (tSeq (tAsg (tLc (iRng1 (tCons (tCB (Evl.rLenS K) (tCons (tOp (rIxT K) (tVar 0) (tC (.int 1))) tNil)) tNil)) (gName 3) (tTest (tOp rEq (tOp (rIxT K) (tOp (rIxL K) (tOp (rIxT K) (tVar 0) (tC (.int 1))) (tVar 3)) (tC (.int 0))) (tVar 1))) (tVar 3) [3]) (gName 2))
  (tRet (tTup (tCons (tVar 2) (tCons (tTup (tCons (tLst (tCons (tOp (rIxL K) (tOp (rIxT K) (tVar 0) (tC (.int 0))) (tVar 1)) tNil)) (tCons (tLc (iList K (tVar 2)) (gName 3) tYes (tTup (tCons (tC (.int 0)) (tCons (tOp (rIxT K) (tOp (rIxL K) (tOp (rIxT K) (tVar 0) (tC (.int 1))) (tVar 3)) (tC (.int 1))) (tCons (tOp (rIxT K) (tOp (rIxL K) (tOp (rIxT K) (tVar 0) (tC (.int 1))) (tVar 3)) (tC (.int 2))) (tCons (tUn (rU fun i => .int (-i)) (tC (.int 1))) tNil))))) [3]) tNil))) tNil)))))

/-! reached, level 2 -/
abbrev N_reached : List Str := ["web", "part", "start", "turned", "found", "many", "k", "one", "other"]
def tr_reached (K : PySem.W.Frag) : TS :=
  (tSeq (tAsg (tDisp (((tVar 2), (tC (.bl true))) :: [])) (gName 4))
  (tSeq (tAsg (tC (.int 0)) (gName 5))
  (tSeq (tWhile (tTest (tOp (rI0 fun i j => .bl (decide (i < j))) (tVar 5) (tCB rLenD (tCons (tVar 4) tNil)))) (tSeq (tAsg (tCB rLenD (tCons (tVar 4) tNil)) (gName 5))
  (tFor (iList K (tCall (sp_rows_of K) [] E0 (tCons (tVar 0) (tCons (tVar 1) tNil)))) (gName 6) (tSeq (tPar 7 8 (tCons (tOp (rIxT K) (tOp (rIxL K) (tOp (rIxT K) (tVar 0) (tC (.int 1))) (tVar 6)) (tC (.int 1))) (tCons (tOp (rIxT K) (tOp (rIxL K) (tOp (rIxT K) (tVar 0) (tC (.int 1))) (tVar 6)) (tC (.int 2))) tNil)))
  (tSeq (tIfS (tB (tVar 3)) (tPar 7 8 (tCons (tVar 8) (tCons (tVar 7) tNil))) tNext)
  (tIfS (tB (tDIn (tVar 7) (tVar 4))) (sDPut (tVar 4) (tVar 8) (tC (.bl true))) tNext))))))
  (tRet (tVar 4)))))

/-! led_to, level 2 -/
abbrev N_led_to : List Str := ["web", "part", "some", "k"]
def tr_led_to (K : PySem.W.Frag) : TS :=
  (tRet (tLc (iList K (tCall (sp_rows_of K) [] E0 (tCons (tVar 0) (tCons (tVar 1) tNil)))) (gName 3) (tTest (tOp (rIn K false) (tOp (rIxT K) (tOp (rIxL K) (tOp (rIxT K) (tVar 0) (tC (.int 1))) (tVar 3)) (tC (.int 1))) (tVar 2))) (tOp (rIxT K) (tOp (rIxL K) (tOp (rIxT K) (tVar 0) (tC (.int 1))) (tVar 3)) (tC (.int 2))) [3]))

/-! rows_from, level 2 -/
abbrev N_rows_from : List Str := ["web", "part", "place", "k"]
def tr_rows_from (K : PySem.W.Frag) : TS :=
  (tRet (tLc (iList K (tCall (sp_rows_of K) [] E0 (tCons (tVar 0) (tCons (tVar 1) tNil)))) (gName 3) (tTest (tOp rEq (tOp (rIxT K) (tOp (rIxL K) (tOp (rIxT K) (tVar 0) (tC (.int 1))) (tVar 3)) (tC (.int 1))) (tVar 2))) (tVar 3) [3]))

/-! _law_order, level 2 -/
abbrev N_law_order : List Str := ["_law_purse_here", "_law_many", "_law_found", "_law_k"]
def tr_law_order (K : PySem.W.Frag) : TS :=
  (tSeq (tAsg (tLst tNil) (gName 2))
  (tSeq (tFor (iRng1 (tCons (tVar 1) tNil)) (gName 3) (tDrop (tBM K "list" rInsert (tVar 2) (tCons (tCall (sp_law_draw K) [] E0 (tCons (tVar 0) (tCons (tOp (rI0 fun i j => .int (i + j)) (tVar 3) (tC (.int 1))) tNil))) (tCons (tVar 3) tNil)))))
  (tRet (tVar 2))))

/-! _law_called, level 2 -/
abbrev N_law_called : List Str := ["_law_purse_here", "_law_rows", "_law_parts", "_law_free", "_law_part_here", "_law_some", "_law_k", "_law_later", "_law_pick"]
def tr_law_called (K : PySem.W.Frag) : TS :=
  (tSeq (tAsg (tLstRg (tRg1 (tCB (Evl.rLenS K) (tCons (tVar 1) tNil)))) (gName 3))
  (tSeq (tFor (iRng2 (tCons (tC (.int 1)) (tCons (tVar 2) tNil))) (gName 4) (tSeq (tAsg (tLc (iList K (tVar 3)) (gName 6) (tTest (tOp (rI0 fun i j => .bl (decide (i < j))) (tOp (rIxL K) (tOp (rIxL K) (tVar 1) (tVar 6)) (tC (.int 0))) (tVar 4))) (tVar 6) [6]) (gName 5))
  (tSeq (tAsg (tOp (rIxL K) (tVar 5) (tCall (sp_law_draw K) [] E0 (tCons (tVar 0) (tCons (tCB (Evl.rLenS K) (tCons (tVar 5) tNil)) tNil)))) (gName 6))
  (tSeq (tAsg (tVar 4) (gSub (tOp (rIxL K) (tVar 1) (tVar 6)) (tC (.int 3)) rSetL))
  (tDrop (tBM K "list" rRemI (tVar 3) (tCons (tVar 6) tNil)))))))
  (tFor (iList K (tVar 3)) (gName 6) (tSeq (tAsg (tOp (rI0 fun i j => .int (i - j)) (tOp (rI0 fun i j => .int (i - j)) (tVar 2) (tC (.int 1))) (tOp (rIxL K) (tOp (rIxL K) (tVar 1) (tVar 6)) (tC (.int 0)))) (gName 7))
  (tSeq (tAsg (tCall (sp_law_draw K) [] E0 (tCons (tVar 0) (tCons (tOp (rI0 fun i j => .int (i + j)) (tOp (rI CMul fun i j => .int (i * j)) (tC (.int 3)) (tVar 7)) (tC (.int 1))) tNil))) (gName 8))
  (tIfS (tTest (tOp (rI0 fun i j => .bl (decide (i < j))) (tVar 8) (tVar 7))) (tAsg (tOp (rI0 fun i j => .int (i + j)) (tOp (rI0 fun i j => .int (i + j)) (tOp (rIxL K) (tOp (rIxL K) (tVar 1) (tVar 6)) (tC (.int 0))) (tC (.int 1))) (tVar 8)) (gSub (tOp (rIxL K) (tVar 1) (tVar 6)) (tC (.int 3)) rSetL)) tNext))))))

/-! _law_on, level 2 -/
abbrev N_law_on : List Str := ["_law_web_here", "_law_part_here", "_law_on_here", "_law_place", "_law_goals", "_law_k", "_law_goal"]
def tr_law_on (K : PySem.W.Frag) : TS :=
  (tSeq (tAsg (tDisp (((tC (.int 1)), (tC (.int 1))) :: [])) (gName 2))
  (tSeq (tWhile (tTest (tOp (rI0 fun i j => .bl (decide (i < j))) (tCB rLenD (tCons (tVar 2) tNil)) (tOp (rIxL K) (tOp (rIxT K) (tVar 0) (tC (.int 0))) (tVar 1)))) (tFor (iRng1 (tCons (tOp (rIxL K) (tOp (rIxT K) (tVar 0) (tC (.int 0))) (tVar 1)) tNil)) (gName 3) (tSeq (tAsg (tLc (iList K (tCall (sp_law_from K) [] E0 (tCons (tVar 0) (tCons (tVar 1) (tCons (tVar 3) tNil))))) (gName 5) tYes (tOp (rIxT K) (tOp (rIxL K) (tOp (rIxT K) (tVar 0) (tC (.int 1))) (tVar 5)) (tC (.int 2))) [5]) (gName 4))
  (tIfS (tAnd (tB (tDNotIn (tVar 3) (tVar 2))) (tB (tCB (rAll K) (tCons (tLc (iList K (tVar 4)) (gName 6) tYes (tDIn (tVar 6) (tVar 2)) [6]) tNil)))) (sDPut (tVar 2) (tVar 3) (tCB (rSum K) (tCons (tLc (iList K (tVar 4)) (gName 6) tYes (tDGet (tVar 2) (tVar 6)) [6]) tNil))) tNext))))
  (tRet (tVar 2))))

/-! _law_goes, level 2 -/
abbrev N_law_goes : List Str := ["_law_web_here", "_law_part_here", "_law_rows", "_law_here", "_law_k"]
def tr_law_goes (K : PySem.W.Frag) : TS :=
  (tSeq (tAsg (tC (.int 0)) (gName 3))
  (tSeq (tFor (iList K (tVar 2)) (gName 4) (tSeq (tIfS (tTest (tOp (rIn K true) (tVar 4) (tCall (sp_law_from K) [] E0 (tCons (tVar 0) (tCons (tVar 1) (tCons (tVar 3) tNil)))))) (tRet (tC (.bl false))) tNext)
  (tAsg (tOp (rIxT K) (tOp (rIxL K) (tOp (rIxT K) (tVar 0) (tC (.int 1))) (tVar 4)) (tC (.int 2))) (gName 3))))
  (tRet (tOp rEq (tVar 3) (tC (.int 1))))))

/-! is_web, level 3 -/
abbrev N_is_web : List Str := ["web", "places", "rows", "row", "part"]
def tr_is_web (K : PySem.W.Frag) : TS :=
  (tSeq (tAsg (tVar 0) (gTup K 2 (gCons (gName 1) (gCons (gName 2) gNil))))
  (tSeq (tIfS (tOr (tTest (tOp (rI0 fun i j => .bl (decide (i < j))) (tCB (Evl.rLenS K) (tCons (tVar 1) tNil)) (tC (.int 1)))) (tOr (tTest (tOp (rI0 fun i j => .bl (decide (j < i))) (tCB (Evl.rLenS K) (tCons (tVar 1) tNil)) (tC (.int 4)))) (tOr (tTest (tOp (rI0 fun i j => .bl (decide (i < j))) (tCB (Evl.rLenS K) (tCons (tVar 2) tNil)) (tC (.int 1)))) (tTest (tOp (rI0 fun i j => .bl (decide (j < i))) (tCB (Evl.rLenS K) (tCons (tVar 2) tNil)) (tC (.int 60))))))) (tRet (tC (.bl false))) tNext)
  (tSeq (tIfS (tOr (tTest (tOp (rI0 fun i j => .bl (decide (i < j))) (tCB (rMin K) (tCons (tVar 1) tNil)) (tC (.int 2)))) (tTest (tOp (rI0 fun i j => .bl (decide (j < i))) (tCB (rMax K) (tCons (tVar 1) tNil)) (tC (.int 16))))) (tRet (tC (.bl false))) tNext)
  (tSeq (tFor (iList K (tVar 2)) (gName 3) (tIfS (tNot (tB (tCall (sp_fits_row K) [] E0 (tCons (tVar 0) (tCons (tVar 3) tNil))))) (tRet (tC (.bl false))) tNext))
  (tSeq (tFor (iRng1 (tCons (tCB (Evl.rLenS K) (tCons (tVar 1) tNil)) tNil)) (gName 4) (tSeq (tIfS (tOr (tTest (tOp rNe (tCB rLenD (tCons (tCall (sp_reached K) [] E0 (tCons (tVar 0) (tCons (tVar 4) (tCons (tC (.int 0)) (tCons (tC (.bl false)) tNil))))) tNil)) (tOp (rIxL K) (tVar 1) (tVar 4)))) (tTest (tOp rNe (tCB rLenD (tCons (tCall (sp_reached K) [] E0 (tCons (tVar 0) (tCons (tVar 4) (tCons (tC (.int 1)) (tCons (tC (.bl true)) tNil))))) tNil)) (tOp (rIxL K) (tVar 1) (tVar 4))))) (tRet (tC (.bl false))) tNext)
  (tIfS (tAnd (tTest (tOp (rI0 fun i j => .bl (decide (j < i))) (tVar 4) (tC (.int 0)))) (tTest (tOp (rIn K true) (tVar 4) (tLc (iList K (tVar 2)) (gName 3) tYes (tOp (rIxT K) (tVar 3) (tC (.int 3))) [3])))) (tRet (tC (.bl false))) tNext)))
  (tRet (tC (.bl true))))))))

/-! order_of, level 3 -/
abbrev N_order_of : List Str := ["web", "part", "found", "left", "free", "goals", "place"]
def tr_order_of (K : PySem.W.Frag) : TS :=
  (tSeq (tAsg (tLst tNil) (gName 2))
  (tSeq (tAsg (tLstRg (tRg1 (tOp (rIxL K) (tOp (rIxT K) (tVar 0) (tC (.int 0))) (tVar 1)))) (gName 3))
  (tSeq (tAsg (tLc (iList K (tVar 3)) (gName 6) (tTest (tOp (rIn K true) (tVar 6) (tCall (sp_led_to K) [] E0 (tCons (tVar 0) (tCons (tVar 1) (tCons (tVar 3) tNil)))))) (tVar 6) [6]) (gName 4))
  (tSeq (tWhile (tTest (tOp (rI0 fun i j => .bl (decide (j < i))) (tCB (Evl.rLenS K) (tCons (tVar 4) tNil)) (tC (.int 0)))) (tSeq (tAsg (tOp rCat (tVar 2) (tVar 4)) (gName 2))
  (tSeq (tAsg (tLc (iList K (tVar 3)) (gName 6) (tTest (tOp (rIn K true) (tVar 6) (tVar 4))) (tVar 6) [6]) (gName 3))
  (tSeq (tAsg (tCall (sp_led_to K) [] E0 (tCons (tVar 0) (tCons (tVar 1) (tCons (tVar 3) tNil)))) (gName 5))
  (tAsg (tLc (iList K (tVar 3)) (gName 6) (tTest (tOp (rIn K true) (tVar 6) (tVar 5))) (tVar 6) [6]) (gName 4))))))
  (tRet (tVar 2))))))

/-! is_going, level 3 -/
abbrev N_is_going : List Str := ["web", "part", "rows", "here", "k"]
def tr_is_going (K : PySem.W.Frag) : TS :=
  (tSeq (tAsg (tC (.int 0)) (gName 3))
  (tSeq (tFor (iList K (tVar 2)) (gName 4) (tSeq (tIfS (tTest (tOp (rIn K true) (tVar 4) (tCall (sp_rows_from K) [] E0 (tCons (tVar 0) (tCons (tVar 1) (tCons (tVar 3) tNil)))))) (tRet (tC (.bl false))) tNext)
  (tAsg (tOp (rIxT K) (tOp (rIxL K) (tOp (rIxT K) (tVar 0) (tC (.int 1))) (tVar 4)) (tC (.int 2))) (gName 3))))
  (tRet (tOp rEq (tVar 3) (tC (.int 1))))))

/-! way_by, level 3 -/
abbrev N_way_by : List Str := ["web", "part", "worth", "number", "found", "here", "some", "k"]
def tr_way_by (K : PySem.W.Frag) : TS :=
  (tSeq (tAsg (tLst tNil) (gName 4))
  (tSeq (tAsg (tC (.int 0)) (gName 5))
  (tSeq (tWhile (tTest (tOp rNe (tVar 5) (tC (.int 1)))) (tSeq (tAsg (tLc (iList K (tCall (sp_rows_from K) [] E0 (tCons (tVar 0) (tCons (tVar 1) (tCons (tVar 5) tNil))))) (gName 7) (tTest (tOp (rI0 fun i j => .bl (decide (i ≤ j))) (tOp (rIxL K) (tVar 2) (tVar 7)) (tVar 3))) (tVar 7) [7]) (gName 6))
  (tSeq (tDrop (tBM K "list" rAppend (tVar 4) (tCons (tOp (rIxL K) (tVar 6) (tUn (rU fun i => .int (-i)) (tC (.int 1)))) tNil)))
  (tSeq (tAug 3 (tOp (rIxL K) (tVar 2) (tOp (rIxL K) (tVar 6) (tUn (rU fun i => .int (-i)) (tC (.int 1))))) (ipI fun i j => i - j))
  (tAsg (tOp (rIxT K) (tOp (rIxL K) (tOp (rIxT K) (tVar 0) (tC (.int 1))) (tOp (rIxL K) (tVar 6) (tUn (rU fun i => .int (-i)) (tC (.int 1))))) (tC (.int 2))) (gName 5))))))
  (tRet (tVar 4)))))

/-! _law_part, level 3 -/
abbrev N_law_part : List Str := ["_law_purse_here", "_law_many", "_law_loose", "_law_order_here", "_law_rows", "_law_k", "_law_size", "_law_at", "_law_one", "_law_other", "_law_low", "_law_names", "_law_place"]
def tr_law_part (K : PySem.W.Frag) : TS :=
  (tSeq (tAsg (tLst (tCons (tC (.int 0)) (tCons (tC (.int 1)) tNil))) (gName 3))
  (tSeq (tAsg (tLst (tCons (tLst (tCons (tC (.int 0)) (tCons (tC (.int 1)) tNil))) tNil)) (gName 4))
  (tSeq (tFor (iRng1 (tCons (tVar 1) tNil)) (gName 5) (tSeq (tAsg (tCB (Evl.rLenS K) (tCons (tVar 3) tNil)) (gName 6))
  (tIfS (tAnd (tTest (tOp (rI0 fun i j => .bl (decide (i < j))) (tVar 6) (tC (.int 16)))) (tTest (tOp rEq (tCall (sp_law_draw K) [] E0 (tCons (tVar 0) (tCons (tC (.int 2)) tNil))) (tC (.int 1))))) (tSeq (tAsg (tCall (sp_law_draw K) [] E0 (tCons (tVar 0) (tCons (tCB (Evl.rLenS K) (tCons (tVar 4) tNil)) tNil))) (gName 7))
  (tSeq (tAsg (tOp (rIxL K) (tVar 4) (tVar 7)) (gUnl K 2 (gCons (gName 8) (gCons (gName 9) gNil))))
  (tSeq (tIfS (tB (tVar 2)) (tSeq (tAsg (tBM K "list" (rIndex K) (tVar 3) (tCons (tVar 8) tNil)) (gName 10))
  (tDrop (tBM K "list" rInsert (tVar 3) (tCons (tOp (rI0 fun i j => .int (i + j)) (tOp (rI0 fun i j => .int (i + j)) (tVar 10) (tC (.int 1))) (tCall (sp_law_draw K) [] E0 (tCons (tVar 0) (tCons (tOp (rI0 fun i j => .int (i - j)) (tBM K "list" (rIndex K) (tVar 3) (tCons (tVar 9) tNil)) (tVar 10)) tNil)))) (tCons (tVar 6) tNil))))) (tDrop (tBM K "list" rInsert (tVar 3) (tCons (tOp (rI0 fun i j => .int (i + j)) (tC (.int 1)) (tCall (sp_law_draw K) [] E0 (tCons (tVar 0) (tCons (tOp (rI0 fun i j => .int (i - j)) (tVar 6) (tC (.int 1))) tNil)))) (tCons (tVar 6) tNil)))))
  (tSeq (tAsg (tLst (tCons (tVar 8) (tCons (tVar 6) tNil))) (gSub (tVar 4) (tVar 7) rSetL))
  (tDrop (tBM K "list" rAppend (tVar 4) (tCons (tLst (tCons (tVar 6) (tCons (tVar 9) tNil))) tNil))))))) (tIfS (tB (tVar 2)) (tSeq (tAsg (tCall (sp_law_draw K) [] E0 (tCons (tVar 0) (tCons (tOp (rI0 fun i j => .int (i - j)) (tVar 6) (tC (.int 1))) tNil))) (gName 10))
  (tDrop (tBM K "list" rAppend (tVar 4) (tCons (tLst (tCons (tOp (rIxL K) (tVar 3) (tVar 10)) (tCons (tOp (rIxL K) (tVar 3) (tOp (rI0 fun i j => .int (i + j)) (tOp (rI0 fun i j => .int (i + j)) (tVar 10) (tC (.int 1))) (tCall (sp_law_draw K) [] E0 (tCons (tVar 0) (tCons (tOp (rI0 fun i j => .int (i - j)) (tOp (rI0 fun i j => .int (i - j)) (tVar 6) (tC (.int 1))) (tVar 10)) tNil))))) tNil))) tNil)))) (tDrop (tBM K "list" rAppend (tVar 4) (tCons (tLst (tCons (tOp (rIxL K) (tVar 3) (tCall (sp_law_draw K) [] E0 (tCons (tVar 0) (tCons (tOp (rI0 fun i j => .int (i - j)) (tVar 6) (tC (.int 1))) tNil)))) (tCons (tOp (rIxL K) (tVar 3) (tCall (sp_law_draw K) [] E0 (tCons (tVar 0) (tCons (tVar 6) tNil)))) tNil))) tNil)))))))
  (tSeq (tAsg (tOp rCat (tLst (tCons (tC (.int 0)) (tCons (tC (.int 1)) tNil))) (tLc (iList K (tCall (sp_law_order K) [] E0 (tCons (tVar 0) (tCons (tOp (rI0 fun i j => .int (i - j)) (tCB (Evl.rLenS K) (tCons (tVar 3) tNil)) (tC (.int 2))) tNil)))) (gName 12) tYes (tOp (rI0 fun i j => .int (i + j)) (tC (.int 2)) (tVar 12)) [12])) (gName 11))
  (tRet (tTup (tCons (tCB (Evl.rLenS K) (tCons (tVar 3) tNil)) (tCons (tLc (iList K (tVar 4)) (gUnl K 2 (gCons (gName 8) (gCons (gName 9) gNil))) tYes (tLst (tCons (tOp (rIxL K) (tVar 11) (tVar 8)) (tCons (tOp (rIxL K) (tVar 11) (tVar 9)) tNil))) [8, 9]) tNil))))))))

/-! _law_through, level 3 -/
abbrev N_law_through : List Str := ["_law_web_here", "_law_part_here", "_law_k", "_law_before", "_law_own", "_law_place", "_law_rows", "_law_j"]
def tr_law_through (K : PySem.W.Frag) : TS :=
  (tSeq (tAsg (tDisp (((tC (.int 0)), (tC (.int 1))) :: [])) (gName 3))
  (tSeq (tAsg (tLc (iRng1 (tCons (tCB (Evl.rLenS K) (tCons (tOp (rIxT K) (tVar 0) (tC (.int 1))) tNil)) tNil)) (gName 7) (tTest (tOp rEq (tOp (rIxT K) (tOp (rIxL K) (tOp (rIxT K) (tVar 0) (tC (.int 1))) (tVar 7)) (tC (.int 0))) (tVar 1))) (tVar 7) [7]) (gName 4))
  (tSeq (tWhile (tTest (tOp (rI0 fun i j => .bl (decide (i < j))) (tCB rLenD (tCons (tVar 3) tNil)) (tOp (rIxL K) (tOp (rIxT K) (tVar 0) (tC (.int 0))) (tVar 1)))) (tFor (iRng1 (tCons (tOp (rIxL K) (tOp (rIxT K) (tVar 0) (tC (.int 0))) (tVar 1)) tNil)) (gName 5) (tSeq (tAsg (tLc (iList K (tVar 4)) (gName 7) (tTest (tOp rEq (tOp (rIxT K) (tOp (rIxL K) (tOp (rIxT K) (tVar 0) (tC (.int 1))) (tVar 7)) (tC (.int 2))) (tVar 5))) (tVar 7) [7]) (gName 6))
  (tIfS (tAnd (tB (tDNotIn (tVar 5) (tVar 3))) (tB (tCB (rAll K) (tCons (tLc (iList K (tVar 6)) (gName 7) tYes (tDIn (tOp (rIxT K) (tOp (rIxL K) (tOp (rIxT K) (tVar 0) (tC (.int 1))) (tVar 7)) (tC (.int 1))) (tVar 3)) [7]) tNil)))) (sDPut (tVar 3) (tVar 5) (tCB (rSum K) (tCons (tLc (iList K (tVar 6)) (gName 7) tYes (tDGet (tVar 3) (tOp (rIxT K) (tOp (rIxL K) (tOp (rIxT K) (tVar 0) (tC (.int 1))) (tVar 7)) (tC (.int 1)))) [7]) tNil))) tNext))))
  (tRet (tOp (rI CMulW fun i j => .int (i * j)) (tDGet (tVar 3) (tOp (rIxT K) (tOp (rIxL K) (tOp (rIxT K) (tVar 0) (tC (.int 1))) (tVar 2)) (tC (.int 1)))) (tDGet (tCall (sp_law_on K) [] E0 (tCons (tVar 0) (tCons (tVar 1) tNil))) (tOp (rIxT K) (tOp (rIxL K) (tOp (rIxT K) (tVar 0) (tC (.int 1))) (tVar 2)) (tC (.int 2)))))))))

/-! must_be_web, level 4 -/
abbrev N_must_be_web : List Str := ["web"]
def tr_must_be_web (K : PySem.W.Frag) : TS :=
  (tIfS (tNot (tB (tCall (sp_is_web K) [] E0 (tCons (tVar 0) tNil)))) tNever tNext)

/-! ways_on, level 4 -/
abbrev N_ways_on : List Str := ["web", "part", "found", "place", "goal"]
def tr_ways_on (K : PySem.W.Frag) : TS :=
  (tSeq (tAsg (tDisp (((tC (.int 1)), (tC (.int 1))) :: [])) (gName 2))
  (tSeq (tFor (iList K (tRevL K (tCall (sp_order_of K) [] E0 (tCons (tVar 0) (tCons (tVar 1) tNil))))) (gName 3) (tIfS (tTest (tOp rNe (tVar 3) (tC (.int 1)))) (sDPut (tVar 2) (tVar 3) (tCB (rSum K) (tCons (tLc (iList K (tCall (sp_led_to K) [] E0 (tCons (tVar 0) (tCons (tVar 1) (tCons (tLst (tCons (tVar 3) tNil)) tNil))))) (gName 4) tYes (tDGet (tVar 2) (tVar 4)) [4]) tNil))) tNext))
  (tRet (tVar 2))))

/-! _law_web, level 4 -/
abbrev N_law_web : List Str := ["_law_purse_here", "_law_loose", "_law_parts", "_law_left", "_law_places", "_law_rows", "_law_part_here", "_law_many", "_law_size", "_law_told", "_law_k", "_law_one", "_law_other"]
def tr_law_web (K : PySem.W.Frag) : TS :=
  (tSeq (tAsg (tOp (rI0 fun i j => .int (i + j)) (tC (.int 1)) (tCall (sp_law_draw K) [] E0 (tCons (tVar 0) (tCons (tC (.int 4)) tNil)))) (gName 2))
  (tSeq (tAsg (tOp (rI0 fun i j => .int (i - j)) (tC (.int 29)) (tVar 2)) (gName 3))
  (tSeq (tAsg (tLst tNil) (gName 4))
  (tSeq (tAsg (tLst tNil) (gName 5))
  (tSeq (tFor (iRng1 (tCons (tVar 2) tNil)) (gName 6) (tSeq (tAsg (tCB rMin2 (tCons (tVar 3) (tCons (tCall (sp_law_draw K) [] E0 (tCons (tVar 0) (tCons (tOp (rIxL K) (tLst (tCons (tC (.int 4)) (tCons (tC (.int 8)) (tCons (tC (.int 30)) tNil)))) (tCall (sp_law_draw K) [] E0 (tCons (tVar 0) (tCons (tC (.int 3)) tNil)))) tNil))) tNil))) (gName 7))
  (tSeq (tAsg (tOp (rI0 fun i j => .int (i - j)) (tVar 3) (tVar 7)) (gName 3))
  (tSeq (tAsg (tCall (sp_law_part K) [] E0 (tCons (tVar 0) (tCons (tVar 7) (tCons (tVar 1) tNil)))) (gTup K 2 (gCons (gName 8) (gCons (gName 9) gNil))))
  (tSeq (tDrop (tBM K "list" rAppend (tVar 4) (tCons (tVar 8) tNil)))
  (tAsg (tOp rCat (tVar 5) (tLc (iList K (tVar 9)) (gUnl K 2 (gCons (gName 11) (gCons (gName 12) gNil))) tYes (tLst (tCons (tVar 6) (tCons (tVar 11) (tCons (tVar 12) (tCons (tUn (rU fun i => .int (-i)) (tC (.int 1))) tNil))))) [11, 12])) (gName 5)))))))
  (tSeq (tDrop (tCall (sp_law_called K) [] E0 (tCons (tVar 0) (tCons (tVar 5) (tCons (tVar 2) tNil)))))
  (tRet (tTup (tCons (tVar 4) (tCons (tLc (iList K (tCall (sp_law_order K) [] E0 (tCons (tVar 0) (tCons (tCB (Evl.rLenS K) (tCons (tVar 5) tNil)) tNil)))) (gName 10) tYes (tCB (rTupOf K) (tCons (tOp (rIxL K) (tVar 5) (tVar 10)) tNil)) [10]) tNil))))))))))

/-! must_be_part, level 5 -/
abbrev N_must_be_part : List Str := ["web", "part"]
def tr_must_be_part (K : PySem.W.Frag) : TS :=
  (tSeq (tDrop (tCall (sp_must_be_web K) [] E0 (tCons (tVar 0) tNil)))
  (tIfS (tOr (tTest (tOp (rI0 fun i j => .bl (decide (i < j))) (tVar 1) (tC (.int 0)))) (tTest (tOp (rI0 fun i j => .bl (decide (j ≤ i))) (tVar 1) (tCB (Evl.rLenS K) (tCons (tOp (rIxT K) (tVar 0) (tC (.int 0))) tNil))))) tNever tNext))

/-! weighed, level 5 -/
abbrev N_weighed : List Str := ["web", "part", "on", "found", "place", "many", "k", "row"]
def tr_weighed (K : PySem.W.Frag) : TS :=
  (tSeq (tAsg (tCall (sp_ways_on K) [] E0 (tCons (tVar 0) (tCons (tVar 1) tNil))) (gName 2))
  (tSeq (tAsg (tLc (iList K (tOp (rIxT K) (tVar 0) (tC (.int 1)))) (gName 7) tYes (tC (.int 0)) [7]) (gName 3))
  (tSeq (tFor (iRng1 (tCons (tOp (rIxL K) (tOp (rIxT K) (tVar 0) (tC (.int 0))) (tVar 1)) tNil)) (gName 4) (tSeq (tAsg (tC (.int 0)) (gName 5))
  (tFor (iList K (tCall (sp_rows_from K) [] E0 (tCons (tVar 0) (tCons (tVar 1) (tCons (tVar 4) tNil))))) (gName 6) (tSeq (tAsg (tVar 5) (gSub (tVar 3) (tVar 6) rSetL))
  (tAug 5 (tDGet (tVar 2) (tOp (rIxT K) (tOp (rIxL K) (tOp (rIxT K) (tVar 0) (tC (.int 1))) (tVar 6)) (tC (.int 2)))) (ipI fun i j => i + j))))))
  (tRet (tVar 3)))))

/-! is_loose, level 6 -/
abbrev N_is_loose : List Str := ["web", "part"]
def tr_is_loose (K : PySem.W.Frag) : TS :=
  (tSeq (tDrop (tCall (sp_must_be_part K) [] E0 (tCons (tVar 0) (tCons (tVar 1) tNil))))
  (tRet (tOp rEq (tCB (Evl.rLenS K) (tCons (tCall (sp_order_of K) [] E0 (tCons (tVar 0) (tCons (tVar 1) tNil))) tNil)) (tOp (rIxL K) (tOp (rIxT K) (tVar 0) (tC (.int 0))) (tVar 1)))))

/-! must_be_loose, level 7 -/
abbrev N_must_be_loose : List Str := ["web", "part"]
def tr_must_be_loose (K : PySem.W.Frag) : TS :=
  (tIfS (tNot (tB (tCall (sp_is_loose K) [] E0 (tCons (tVar 0) (tCons (tVar 1) tNil))))) tNever tNext)

/-! ways, level 8 -/
abbrev N_ways : List Str := ["web", "part"]
def tr_ways (K : PySem.W.Frag) : TS :=
  (tSeq (tDrop (tCall (sp_must_be_loose K) [] E0 (tCons (tVar 0) (tCons (tVar 1) tNil))))
  (tRet (tDGet (tCall (sp_ways_on K) [] E0 (tCons (tVar 0) (tCons (tVar 1) tNil))) (tC (.int 0)))))

/-! worths, level 8 -/
abbrev N_worths : List Str := ["web", "part"]
def tr_worths (K : PySem.W.Frag) : TS :=
  (tSeq (tDrop (tCall (sp_must_be_loose K) [] E0 (tCons (tVar 0) (tCons (tVar 1) tNil))))
  (tRet (tCall (sp_weighed K) [] E0 (tCons (tVar 0) (tCons (tVar 1) tNil)))))

/-! number_of, level 8 -/
abbrev N_number_of : List Str := ["web", "part", "way", "found", "k"]
def tr_number_of (K : PySem.W.Frag) : TS :=
  (tSeq (tDrop (tCall (sp_must_be_loose K) [] E0 (tCons (tVar 0) (tCons (tVar 1) tNil))))
  (tSeq (tIfS (tNot (tB (tCall (sp_is_going K) [] E0 (tCons (tVar 0) (tCons (tVar 1) (tCons (tVar 2) tNil)))))) tNever tNext)
  (tSeq (tAsg (tCall (sp_weighed K) [] E0 (tCons (tVar 0) (tCons (tVar 1) tNil))) (gName 3))
  (tRet (tCB (rSum K) (tCons (tLc (iList K (tVar 2)) (gName 4) tYes (tOp (rIxL K) (tVar 3) (tVar 4)) [4]) tNil))))))

/-! way_of, level 8 -/
abbrev N_way_of : List Str := ["web", "part", "number"]
def tr_way_of (K : PySem.W.Frag) : TS :=
  (tSeq (tDrop (tCall (sp_must_be_loose K) [] E0 (tCons (tVar 0) (tCons (tVar 1) tNil))))
  (tSeq (tIfS (tOr (tTest (tOp (rI0 fun i j => .bl (decide (i < j))) (tVar 2) (tC (.int 0)))) (tTest (tOp (rI0 fun i j => .bl (decide (j ≤ i))) (tVar 2) (tDGet (tCall (sp_ways_on K) [] E0 (tCons (tVar 0) (tCons (tVar 1) tNil))) (tC (.int 0)))))) tNever tNext)
  (tRet (tCall (sp_way_by K) [] E0 (tCons (tVar 0) (tCons (tVar 1) (tCons (tCall (sp_weighed K) [] E0 (tCons (tVar 0) (tCons (tVar 1) tNil))) (tCons (tVar 2) tNil))))))))

/-! law, level 9 -/
abbrev N_law : List Str := ["_law_script", "_law_purse_here", "_law_web_here", "_law_part_here", "_law_own", "_law_alone_here", "_law_many", "_law_worth", "_law_number", "_law_way", "_law_k", "_law_wide", "_law_longer", "_law_j"]
def tr_law (K : PySem.W.Frag) : TS :=
  (tSeq (tAsg (tCall (sp_law_purse K) [] E0 (tCons (tVar 0) tNil)) (gName 1))
  (tSeq (tAsg (tCall (sp_law_web K) [] E0 (tCons (tVar 1) (tCons (tC (.bl true)) tNil))) (gName 2))
  (tSeq (tAsg (tCall (sp_law_draw K) [] E0 (tCons (tVar 1) (tCons (tCB (Evl.rLenS K) (tCons (tOp (rIxT K) (tVar 2) (tC (.int 0))) tNil)) tNil))) (gName 3))
  (tSeq (tAsg (tCall (sp_law_alone K) [] E0 (tCons (tVar 2) (tCons (tVar 3) tNil))) (gTup K 2 (gCons (gName 4) (gCons (gName 5) gNil))))
  (tSeq (tAsg (tCall (sp_ways K) [] E0 (tCons (tVar 2) (tCons (tVar 3) tNil))) (gName 6))
  (tSeq (tAsg (tCall (sp_worths K) [] E0 (tCons (tVar 2) (tCons (tVar 3) tNil))) (gName 7))
  (tSeq (tIfS (tOr (tTest (tOp rNe (tCall (sp_ways K) [] E0 (tCons (tVar 5) (tCons (tC (.int 0)) tNil))) (tVar 6))) (tTest (tOp (rNeD K) (tCall (sp_worths K) [] E0 (tCons (tVar 5) (tCons (tC (.int 0)) tNil))) (tLc (iList K (tVar 4)) (gName 10) tYes (tOp (rIxL K) (tVar 7) (tVar 10)) [10])))) (tRet (tC (.bl false))) tNext)
  (tSeq (tFor (iList K (tOp rCat (tLst (tCons (tC (.int 0)) (tCons (tOp (rI0 fun i j => .int (i - j)) (tVar 6) (tC (.int 1))) tNil))) (tLc (iRng1 (tCons (tC (.int 10)) tNil)) (gName 10) tYes (tCall (sp_law_draw K) [] E0 (tCons (tVar 1) (tCons (tVar 6) tNil))) [10]))) (gName 8) (tSeq (tAsg (tCall (sp_way_of K) [] E0 (tCons (tVar 5) (tCons (tC (.int 0)) (tCons (tVar 8) tNil)))) (gName 9))
  (tIfS (tTest (tOp (rNeD K) (tCall (sp_way_of K) [] E0 (tCons (tVar 2) (tCons (tVar 3) (tCons (tVar 8) tNil)))) (tLc (iList K (tVar 9)) (gName 10) tYes (tOp (rIxL K) (tVar 4) (tVar 10)) [10]))) (tRet (tC (.bl false))) tNext)))
  (tSeq (tAsg (tCall (sp_law_draw K) [] E0 (tCons (tVar 1) (tCons (tCB (Evl.rLenS K) (tCons (tVar 4) tNil)) tNil))) (gName 10))
  (tSeq (tAsg (tTup (tCons (tCB (Evl.rListS K) (tCons (tOp (rIxT K) (tVar 5) (tC (.int 0))) tNil)) (tCons (tOp rCat (tOp (rIxT K) (tVar 5) (tC (.int 1))) (tLst (tCons (tOp (rIxL K) (tOp (rIxT K) (tVar 5) (tC (.int 1))) (tVar 10)) tNil))) tNil))) (gName 11))
  (tSeq (tIfS (tTest (tOp rNe (tCall (sp_ways K) [] E0 (tCons (tVar 11) (tCons (tC (.int 0)) tNil))) (tOp (rI0 fun i j => .int (i + j)) (tVar 6) (tCall (sp_law_through K) [] E0 (tCons (tVar 2) (tCons (tVar 3) (tCons (tOp (rIxL K) (tVar 4) (tVar 10)) tNil))))))) (tRet (tC (.bl false))) tNext)
  (tSeq (tAsg (tCall (sp_way_of K) [] E0 (tCons (tVar 5) (tCons (tC (.int 0)) (tCons (tCall (sp_law_draw K) [] E0 (tCons (tVar 1) (tCons (tVar 6) tNil))) tNil)))) (gName 9))
  (tSeq (tAsg (tLc (iList K (tVar 9)) (gName 13) tYes (tOp (rIxL K) (tLst (tCons (tVar 13) (tCons (tCB (Evl.rLenS K) (tCons (tVar 4) tNil)) tNil))) (tCB rInt1 (tCons (tOp rEq (tVar 13) (tVar 10)) tNil))) [13]) (gName 12))
  (tSeq (tIfS (tTest (tOp (rI0 fun i j => .bl (decide (i < j))) (tCall (sp_number_of K) [] E0 (tCons (tVar 11) (tCons (tC (.int 0)) (tCons (tVar 12) tNil)))) (tCall (sp_number_of K) [] E0 (tCons (tVar 11) (tCons (tC (.int 0)) (tCons (tVar 9) tNil)))))) (tRet (tC (.bl false))) tNext)
  (tRet (tCall (sp_law_goes K) [] E0 (tCons (tVar 11) (tCons (tC (.int 0)) (tCons (tCall (sp_way_of K) [] E0 (tCons (tVar 11) (tCons (tC (.int 0)) (tCons (tOp (rI0 fun i j => .int (i - j)) (tCall (sp_ways K) [] E0 (tCons (tVar 11) (tCons (tC (.int 0)) tNil))) (tC (.int 1))) tNil)))) tNil)))))))))))))))))))

end FC
namespace FC
open PySem PySem.Spec PyProof.Rows L2
section
variable {P : Program} {w : World} {K : PySem.W.Frag} {mg : Str → Option Value} {base : Heap} {f : Addr} {cdv : Value} {A : Around} {outer : List Env} {s : Shared} {H : Hp} {E : XK}
abbrev s_rows_of : Stmt := topS 9
theorem sc_rows_of : FnScope N_rows_of ["web", "part"] (defScope s_rows_of) := ⟨rfl, rfl, rfl, by decide +kernel, rfl, by decide +kernel, by decide +kernel⟩
theorem der_rows_of (T : Txt K mg) {k : Nat} (hk : 0 ≤ k) (hr : Room k (A.deeper (envOfC "rows_of" (defScope s_rows_of) s.heap.objs.size f cdv))) : PSs (cxOf CX0 P w K mg base N_rows_of "rows_of" (defScope s_rows_of) f cdv A outer s H E).nox (defBody s_rows_of) (tr_rows_of K) := by
  have hr : Room 0 (A.deeper (envOfC "rows_of" (defScope s_rows_of) s.heap.objs.size f cdv)) := hr.mono hk
  have hu := hu_of hr
  exact (pss_one (ps_ret (pe_lc (own := [("k", 2)]) (g := (gName 2)) (tt := (tTest (tOp rEq (tOp (rIxT K) (tOp (rIxL K) (tOp (rIxT K) (tVar 0) (tC (.int 1))) (tVar 2)) (tC (.int 0))) (tVar 1)))) rfl sc_rows_of.nd (pi_range1 (by rfl) T.z_range (pa_cons (pe_callB call_len_seq (by rfl) T.z_len (by decide +kernel) (pa_cons (pe_ix ix_tup (pv 0) pe_int (fun _ _ => rfl)) pa_nil)) pa_nil)) (blkOk_by (N := N_rows_of) (sc := defScope s_rows_of) (by decide +kernel)) (fun _ _ _ _ _ => (pg_name (i := 2) sc_rows_of.nd rfl (.inl rfl))) (fun _ _ _ _ _ => (pts_one (pt_cmpR op_eq (pe_ix ix_tup (pe_ix ix_list (pe_ix ix_tup (pv 0) pe_int (fun _ _ => rfl)) (pv 2) (fun _ _ => rfl)) pe_int (fun _ _ => rfl)) (pv 1) (nomark _)))) (fun _ _ _ _ _ => (pv 2)))))

abbrev s_fits_row : Stmt := topS 11
theorem sc_fits_row : FnScope N_fits_row ["web", "row"] (defScope s_fits_row) := ⟨rfl, rfl, rfl, by decide +kernel, rfl, by decide +kernel, by decide +kernel⟩
theorem der_fits_row (T : Txt K mg) {k : Nat} (hk : 0 ≤ k) (hr : Room k (A.deeper (envOfC "fits_row" (defScope s_fits_row) s.heap.objs.size f cdv))) : PSs (cxOf CX0 P w K mg base N_fits_row "fits_row" (defScope s_fits_row) f cdv A outer s H E).nox (defBody s_fits_row) (tr_fits_row K) := by
  have hr : Room 0 (A.deeper (envOfC "fits_row" (defScope s_fits_row) s.heap.objs.size f cdv)) := hr.mono hk
  have hu := hu_of hr
  exact (pss_cons (ps_asg (pv 0) (pg_tup rfl (pgs_cons (pg_name (i := 2) sc_fits_row.nd rfl (.inl rfl)) (pgs_cons (pg_name (i := 3) sc_fits_row.nd rfl (.inl rfl)) pgs_nil))))
  (pss_cons (ps_asg (pv 1) (pg_tup rfl (pgs_cons (pg_name (i := 4) sc_fits_row.nd rfl (.inl rfl)) (pgs_cons (pg_name (i := 5) sc_fits_row.nd rfl (.inl rfl)) (pgs_cons (pg_name (i := 6) sc_fits_row.nd rfl (.inl rfl)) (pgs_cons (pg_name (i := 7) sc_fits_row.nd rfl (.inl rfl)) pgs_nil))))))
  (pss_cons (ps_if (PW.pt (pw_or (pt_cmpR op_lt (pv 4) pe_int (nomark _)) (pw_or (pt_cmpR op_ge (pv 4) (pe_callB call_len_seq (by rfl) T.z_len (by decide +kernel) (pa_cons (pv 2) pa_nil)) (nomark _)) (pw_or (pt_cmpR op_lt (pe_callB (call_min2 rfl) (by rfl) T.z_min (by decide +kernel) (pa_cons (pv 5) (pa_cons (pv 6) pa_nil))) pe_int (nomark _)) (pw_or1 (pt_cmpR op_ge (pe_callB (call_max2 rfl) (by rfl) T.z_max (by decide +kernel) (pa_cons (pv 5) (pa_cons (pv 6) pa_nil))) (pe_ix ix_list (pv 2) (pv 4) (fun _ _ => rfl)) (nomark _))))))) (pss_one (ps_ret pe_bl)) pss_nil)
  (pss_one (ps_ret (pe_and (pe_cmpR op_ne (pv 5) pe_int (nomark _)) (pe_and (pe_cmpR op_lt (pv 7) (pe_callB call_len_seq (by rfl) T.z_len (by decide +kernel) (pa_cons (pv 2) pa_nil)) (nomark _)) (pe_one (pe_or (pe_cmpR op_eq (pv 7) (pe_un un_neg pe_int) (nomark _)) (pe_one (pe_cmpR op_gt (pv 7) (pv 4) (nomark _))))))))))))

abbrev s_law_purse : Stmt := topS 31
theorem sc_law_purse : FnScope N_law_purse ["_law_script"] (defScope s_law_purse) := ⟨rfl, rfl, rfl, by decide +kernel, rfl, by decide +kernel, by decide +kernel⟩
theorem der_law_purse (T : Txt K mg) {k : Nat} (hk : 0 ≤ k) (hr : Room k (A.deeper (envOfC "_law_purse" (defScope s_law_purse) s.heap.objs.size f cdv))) : PSs (cxOf CX0 P w K mg base N_law_purse "_law_purse" (defScope s_law_purse) f cdv A outer s H E).nox (defBody s_law_purse) (tr_law_purse K) := by
  have hr : Room 0 (A.deeper (envOfC "_law_purse" (defScope s_law_purse) s.heap.objs.size f cdv)) := hr.mono hk
  have hu := hu_of hr
  exact (pss_cons (ps_set (i := 1) sc_law_purse.nd rfl (.inl rfl) (pe_slice sl_list (pv 0) po_none (po_some pe_int)))
  (pss_cons (ps_if (pt_cmpR (op_eqD hr.units) (pv 1) (pe_lst pa_nil) (nomark _)) (pss_one (ps_set (i := 1) sc_law_purse.nd rfl (.inl rfl) (pe_lst (pa_cons pe_int pa_nil)))) pss_nil)
  (pss_one (ps_ret (pe_lst (pa_cons (pv 1) (pa_cons pe_int pa_nil)))))))

abbrev s_law_draw : Stmt := topS 32
theorem sc_law_draw : FnScope N_law_draw ["_law_purse_here", "_law_out_of"] (defScope s_law_draw) := ⟨rfl, rfl, rfl, by decide +kernel, rfl, by decide +kernel, by decide +kernel⟩
theorem der_law_draw (T : Txt K mg) {k : Nat} (hk : 0 ≤ k) (hr : Room k (A.deeper (envOfC "_law_draw" (defScope s_law_draw) s.heap.objs.size f cdv))) : PSs (cxOf CX0 P w K mg base N_law_draw "_law_draw" (defScope s_law_draw) f cdv A outer s H E).nox (defBody s_law_draw) (tr_law_draw K) := by
  have hr : Room 0 (A.deeper (envOfC "_law_draw" (defScope s_law_draw) s.heap.objs.size f cdv)) := hr.mono hk
  have hu := hu_of hr
  exact (pss_cons (ps_asg (pv 0) (pg_unl rfl (pgs_cons (pg_name (i := 2) sc_law_draw.nd rfl (.inl rfl)) (pgs_cons (pg_name (i := 3) sc_law_draw.nd rfl (.inl rfl)) pgs_nil))))
  (pss_cons (ps_set (i := 4) sc_law_draw.nd rfl (.inl rfl) (pe_op op_mod (pv 3) (pe_callB call_len_seq (by rfl) T.z_len (by decide +kernel) (pa_cons (pv 2) pa_nil))))
  (pss_cons (ps_set (i := 5) sc_law_draw.nd rfl (.inl rfl) (pe_ix ix_list (pv 2) (pv 4) (fun _ _ => rfl)))
  (pss_cons (ps_asg (pe_op op_add (pv 3) pe_int) (pg_sub (pv 0) pe_int set_list))
  (pss_cons (ps_if (pt_cmpR op_ge (pv 5) (pe_op op_pow pe_int pe_int) (nomark _)) (pss_cons (ps_asg (pe_op op_fdivW (pv 5) (pv 1)) (pg_sub (pv 2) (pv 4) set_list))
  (pss_one (ps_ret (pe_op op_mod (pv 5) (pv 1))))) pss_nil)
  (pss_cons (ps_set (i := 6) sc_law_draw.nd rfl (.inl rfl) (pe_op op_mod (pe_op op_add (pe_op op_add (pe_op op_mul (pv 5) pe_int) (pe_op op_mul (pe_op op_mul (pv 3) (pv 3)) pe_int)) pe_int) pe_int))
  (pss_cons (ps_set (i := 6) sc_law_draw.nd rfl (.inl rfl) (pe_op op_mod (pe_op op_mul (pv 6) (pv 6)) pe_int))
  (pss_one (ps_ret (pe_op op_mod (pe_op op_mod (pe_op op_mul (pv 6) (pv 6)) pe_int) (pv 1)))))))))))

abbrev s_law_from : Stmt := topS 38
theorem sc_law_from : FnScope N_law_from ["_law_web_here", "_law_part_here", "_law_place"] (defScope s_law_from) := ⟨rfl, rfl, rfl, by decide +kernel, rfl, by decide +kernel, by decide +kernel⟩
theorem der_law_from (T : Txt K mg) {k : Nat} (hk : 0 ≤ k) (hr : Room k (A.deeper (envOfC "_law_from" (defScope s_law_from) s.heap.objs.size f cdv))) : PSs (cxOf CX0 P w K mg base N_law_from "_law_from" (defScope s_law_from) f cdv A outer s H E).nox (defBody s_law_from) (tr_law_from K) := by
  have hr : Room 0 (A.deeper (envOfC "_law_from" (defScope s_law_from) s.heap.objs.size f cdv)) := hr.mono hk
  have hu := hu_of hr
  exact (pss_one (ps_ret (pe_lc (own := [("_law_k", 3)]) (g := (gName 3)) (tt := (tTest (tOp (rEqD K) (tSl (rSlT K) (tOp (rIxL K) (tOp (rIxT K) (tVar 0) (tC (.int 1))) (tVar 3)) tNoPart (tPart (tC (.int 2)))) (tTup (tCons (tVar 1) (tCons (tVar 2) tNil)))))) rfl sc_law_from.nd (pi_range1 (by rfl) T.z_range (pa_cons (pe_callB call_len_seq (by rfl) T.z_len (by decide +kernel) (pa_cons (pe_ix ix_tup (pv 0) pe_int (fun _ _ => rfl)) pa_nil)) pa_nil)) (blkOk_by (N := N_law_from) (sc := defScope s_law_from) (by decide +kernel)) (fun _ _ _ _ _ => (pg_name (i := 3) sc_law_from.nd rfl (.inl rfl))) (fun _ _ _ _ _ => (pts_one (pt_cmpR (op_eqD hr.units) (pe_slice sl_tup (pe_ix ix_list (pe_ix ix_tup (pv 0) pe_int (fun _ _ => rfl)) (pv 3) (fun _ _ => rfl)) po_none (po_some pe_int)) (pe_tup (pa_cons (pv 1) (pa_cons (pv 2) pa_nil))) (nomark _)))) (fun _ _ _ _ _ => (pv 3)))))

abbrev s_law_alone : Stmt := topS 42
theorem sc_law_alone : FnScope N_law_alone ["_law_web_here", "_law_part_here"] (defScope s_law_alone) := ⟨rfl, rfl, rfl, by decide +kernel, rfl, by decide +kernel, by decide +kernel⟩
theorem der_law_alone (T : Txt K mg) {k : Nat} (hk : 0 ≤ k) (hr : Room k (A.deeper (envOfC "_law_alone" (defScope s_law_alone) s.heap.objs.size f cdv))) : PSs (cxOf CX0 P w K mg base N_law_alone "_law_alone" (defScope s_law_alone) f cdv A outer s H E).nox (defBody s_law_alone) (tr_law_alone K) := by
  have hr : Room 0 (A.deeper (envOfC "_law_alone" (defScope s_law_alone) s.heap.objs.size f cdv)) := hr.mono hk
  have hu := hu_of hr
  exact (pss_cons (ps_setLc (i := 2) (own := [("_law_k", 3)]) (g := (gName 3)) (tt := (tTest (tOp rEq (tOp (rIxT K) (tOp (rIxL K) (tOp (rIxT K) (tVar 0) (tC (.int 1))) (tVar 3)) (tC (.int 0))) (tVar 1)))) rfl sc_law_alone.nd rfl rfl (sw_true rfl rfl rfl (by decide +kernel)) (pi_range1 (by rfl) T.z_range (pa_cons (pe_callB call_len_seq (by rfl) T.z_len (by decide +kernel) (pa_cons (pe_ix ix_tup (pv 0) pe_int (fun _ _ => rfl)) pa_nil)) pa_nil)) (blkOk_by (N := N_law_alone) (sc := defScope s_law_alone) (by decide +kernel)) (fun _ _ _ _ _ => (pg_name (i := 3) sc_law_alone.nd rfl (.inl rfl))) (fun _ _ _ _ _ => (pts_one (pt_cmpR op_eq (pe_ix ix_tup (pe_ix ix_list (pe_ix ix_tup (pv 0) pe_int (fun _ _ => rfl)) (pv 3) (fun _ _ => rfl)) pe_int (fun _ _ => rfl)) (pv 1) (nomark _)))) (fun _ _ _ _ _ => (pv 3)))
  (pss_one (ps_ret (pe_tup (pa_cons (pv 2) (pa_cons (pe_tup (pa_cons (pe_lst (pa_cons (pe_ix ix_list (pe_ix ix_tup (pv 0) pe_int (fun _ _ => rfl)) (pv 1) (fun _ _ => rfl)) pa_nil)) (pa_cons (pe_lc (own := [("_law_k", 3)]) (g := (gName 3)) (tt := tYes) rfl sc_law_alone.nd (pi_list (pv 2)) (blkOk_by (N := N_law_alone) (sc := defScope s_law_alone) (by decide +kernel)) (fun _ _ _ _ _ => (pg_name (i := 3) sc_law_alone.nd rfl (.inl rfl))) (fun _ _ _ _ _ => pts_nil) (fun _ _ _ _ _ => (pe_tup (pa_cons pe_int (pa_cons (pe_ix ix_tup (pe_ix ix_list (pe_ix ix_tup (pv 0) pe_int (fun _ _ => rfl)) (pv 3) (fun _ _ => rfl)) pe_int (fun _ _ => rfl)) (pa_cons (pe_ix ix_tup (pe_ix ix_list (pe_ix ix_tup (pv 0) pe_int (fun _ _ => rfl)) (pv 3) (fun _ _ => rfl)) pe_int (fun _ _ => rfl)) (pa_cons (pe_un un_neg pe_int) pa_nil))))))) pa_nil))) pa_nil))))))

abbrev s_reached : Stmt := topS 10
theorem sc_reached : FnScope N_reached ["web", "part", "start", "turned"] (defScope s_reached) := ⟨rfl, rfl, rfl, by decide +kernel, rfl, by decide +kernel, by decide +kernel⟩
theorem der_reached (T : Txt K mg) (c_rows_of : Cal P w K mg base 1 "rows_of" ["web", "part"] (sp_rows_of K)) {k : Nat} (hk : 1 ≤ k) (hr : Room k (A.deeper (envOfC "reached" (defScope s_reached) s.heap.objs.size f cdv))) : PSs (cxOf CX0 P w K mg base N_reached "reached" (defScope s_reached) f cdv A outer s H E).nox (defBody s_reached) (tr_reached K) := by
  have hr : Room 1 (A.deeper (envOfC "reached" (defScope s_reached) s.heap.objs.size f cdv)) := hr.mono hk
  have hu := hu_of hr
  exact (pss_cons (ps_set (i := 4) sc_reached.nd rfl (.inl rfl) (pe_disp (pps_cons (pv 2) pe_bl pps_nil) (by rfl) (by rfl) (fun z => by cases z) (by decide)))
  (pss_cons (ps_set (i := 5) sc_reached.nd rfl (.inl rfl) pe_int)
  (pss_cons (ps_while PassesOwn.never (pt_cmpR op_lt (pv 5) (pe_callB call_lenD (by rfl) T.z_len (by decide +kernel) (pa_cons (pv 4) pa_nil)) (nomark _)) (pss_cons (ps_set (i := 5) sc_reached.nd rfl (.inl rfl) (pe_callB call_lenD (by rfl) T.z_len (by decide +kernel) (pa_cons (pv 4) pa_nil)))
  (pss_one (ps_for PassesOwn.never rfl (pi_list (pe_cal c_rows_of (hr.mono (by decide)) (by rfl) (pa_cons (pv 0) (pa_cons (pv 1) pa_nil)))) (pg_name (i := 6) sc_reached.nd rfl (.inl rfl)) (pss_cons (ps_par (i := 7) (j := 8) rfl sc_reached.nd rfl rfl (by decide) rfl rfl (pa_cons (pe_ix ix_tup (pe_ix ix_list (pe_ix ix_tup (pv 0) pe_int (fun _ _ => rfl)) (pv 6) (fun _ _ => rfl)) pe_int (fun _ _ => rfl)) (pa_cons (pe_ix ix_tup (pe_ix ix_list (pe_ix ix_tup (pv 0) pe_int (fun _ _ => rfl)) (pv 6) (fun _ _ => rfl)) pe_int (fun _ _ => rfl)) pa_nil)) (by rfl))
  (pss_cons (ps_if (pt_val (pv 3)) (pss_one (ps_par (i := 7) (j := 8) rfl sc_reached.nd rfl rfl (by decide) rfl rfl (pa_cons (pv 8) (pa_cons (pv 7) pa_nil)) (by rfl))) pss_nil)
  (pss_one (ps_if (pt_cmp (pc_din hu (pv 7) (pv 4)) (by rfl)) (pss_one (ps_dput hu (pv 4) (pv 8) pe_bl (by rfl))) pss_nil))))))))
  (pss_one (ps_ret (pv 4))))))

abbrev s_led_to : Stmt := topS 16
theorem sc_led_to : FnScope N_led_to ["web", "part", "some"] (defScope s_led_to) := ⟨rfl, rfl, rfl, by decide +kernel, rfl, by decide +kernel, by decide +kernel⟩
theorem der_led_to (T : Txt K mg) (c_rows_of : Cal P w K mg base 1 "rows_of" ["web", "part"] (sp_rows_of K)) {k : Nat} (hk : 1 ≤ k) (hr : Room k (A.deeper (envOfC "led_to" (defScope s_led_to) s.heap.objs.size f cdv))) : PSs (cxOf CX0 P w K mg base N_led_to "led_to" (defScope s_led_to) f cdv A outer s H E).nox (defBody s_led_to) (tr_led_to K) := by
  have hr : Room 1 (A.deeper (envOfC "led_to" (defScope s_led_to) s.heap.objs.size f cdv)) := hr.mono hk
  have hu := hu_of hr
  exact (pss_one (ps_ret (pe_lc (own := [("k", 3)]) (g := (gName 3)) (tt := (tTest (tOp (rIn K false) (tOp (rIxT K) (tOp (rIxL K) (tOp (rIxT K) (tVar 0) (tC (.int 1))) (tVar 3)) (tC (.int 1))) (tVar 2)))) rfl sc_led_to.nd (pi_list (pe_cal c_rows_of (hr.mono (by decide)) (by rfl) (pa_cons (pv 0) (pa_cons (pv 1) pa_nil)))) (blkOk_by (N := N_led_to) (sc := defScope s_led_to) (by decide +kernel)) (fun _ _ _ _ _ => (pg_name (i := 3) sc_led_to.nd rfl (.inl rfl))) (fun _ _ _ _ _ => (pts_one (pt_cmpR op_in_seq (pe_ix ix_tup (pe_ix ix_list (pe_ix ix_tup (pv 0) pe_int (fun _ _ => rfl)) (pv 3) (fun _ _ => rfl)) pe_int (fun _ _ => rfl)) (pv 2) (by rfl)))) (fun _ _ _ _ _ => (pe_ix ix_tup (pe_ix ix_list (pe_ix ix_tup (pv 0) pe_int (fun _ _ => rfl)) (pv 3) (fun _ _ => rfl)) pe_int (fun _ _ => rfl))))))

abbrev s_rows_from : Stmt := topS 22
theorem sc_rows_from : FnScope N_rows_from ["web", "part", "place"] (defScope s_rows_from) := ⟨rfl, rfl, rfl, by decide +kernel, rfl, by decide +kernel, by decide +kernel⟩
theorem der_rows_from (T : Txt K mg) (c_rows_of : Cal P w K mg base 1 "rows_of" ["web", "part"] (sp_rows_of K)) {k : Nat} (hk : 1 ≤ k) (hr : Room k (A.deeper (envOfC "rows_from" (defScope s_rows_from) s.heap.objs.size f cdv))) : PSs (cxOf CX0 P w K mg base N_rows_from "rows_from" (defScope s_rows_from) f cdv A outer s H E).nox (defBody s_rows_from) (tr_rows_from K) := by
  have hr : Room 1 (A.deeper (envOfC "rows_from" (defScope s_rows_from) s.heap.objs.size f cdv)) := hr.mono hk
  have hu := hu_of hr
  exact (pss_one (ps_ret (pe_lc (own := [("k", 3)]) (g := (gName 3)) (tt := (tTest (tOp rEq (tOp (rIxT K) (tOp (rIxL K) (tOp (rIxT K) (tVar 0) (tC (.int 1))) (tVar 3)) (tC (.int 1))) (tVar 2)))) rfl sc_rows_from.nd (pi_list (pe_cal c_rows_of (hr.mono (by decide)) (by rfl) (pa_cons (pv 0) (pa_cons (pv 1) pa_nil)))) (blkOk_by (N := N_rows_from) (sc := defScope s_rows_from) (by decide +kernel)) (fun _ _ _ _ _ => (pg_name (i := 3) sc_rows_from.nd rfl (.inl rfl))) (fun _ _ _ _ _ => (pts_one (pt_cmpR op_eq (pe_ix ix_tup (pe_ix ix_list (pe_ix ix_tup (pv 0) pe_int (fun _ _ => rfl)) (pv 3) (fun _ _ => rfl)) pe_int (fun _ _ => rfl)) (pv 2) (nomark _)))) (fun _ _ _ _ _ => (pv 3)))))

abbrev s_law_order : Stmt := topS 33
theorem sc_law_order : FnScope N_law_order ["_law_purse_here", "_law_many"] (defScope s_law_order) := ⟨rfl, rfl, rfl, by decide +kernel, rfl, by decide +kernel, by decide +kernel⟩
theorem der_law_order (T : Txt K mg) (c_law_draw : Cal P w K mg base 1 "_law_draw" ["_law_purse_here", "_law_out_of"] (sp_law_draw K)) {k : Nat} (hk : 1 ≤ k) (hr : Room k (A.deeper (envOfC "_law_order" (defScope s_law_order) s.heap.objs.size f cdv))) : PSs (cxOf CX0 P w K mg base N_law_order "_law_order" (defScope s_law_order) f cdv A outer s H E).nox (defBody s_law_order) (tr_law_order K) := by
  have hr : Room 1 (A.deeper (envOfC "_law_order" (defScope s_law_order) s.heap.objs.size f cdv)) := hr.mono hk
  have hu := hu_of hr
  exact (pss_cons (ps_set (i := 2) sc_law_order.nd rfl (.inl rfl) (pe_lst pa_nil))
  (pss_cons (ps_for PassesOwn.never rfl (pi_range1 (by rfl) T.z_range (pa_cons (pv 1) pa_nil)) (pg_name (i := 3) sc_law_order.nd rfl (.inl rfl)) (pss_one (ps_expr (pe_bm PySem.F.plainAttrs_list PySem.F.slot_list_insert PySem.F.type_list_insert mt_insert (pv 2) (pa_cons (pe_cal c_law_draw (hr.mono (by decide)) (by rfl) (pa_cons (pv 0) (pa_cons (pe_op op_add (pv 3) pe_int) pa_nil))) (pa_cons (pv 3) pa_nil))))))
  (pss_one (ps_ret (pv 2)))))

abbrev s_law_called : Stmt := topS 35
theorem sc_law_called : FnScope N_law_called ["_law_purse_here", "_law_rows", "_law_parts"] (defScope s_law_called) := ⟨rfl, rfl, rfl, by decide +kernel, rfl, by decide +kernel, by decide +kernel⟩
theorem der_law_called (T : Txt K mg) (c_law_draw : Cal P w K mg base 1 "_law_draw" ["_law_purse_here", "_law_out_of"] (sp_law_draw K)) {k : Nat} (hk : 1 ≤ k) (hr : Room k (A.deeper (envOfC "_law_called" (defScope s_law_called) s.heap.objs.size f cdv))) : PSs (cxOf CX0 P w K mg base N_law_called "_law_called" (defScope s_law_called) f cdv A outer s H E).nox (defBody s_law_called) (tr_law_called K) := by
  have hr : Room 1 (A.deeper (envOfC "_law_called" (defScope s_law_called) s.heap.objs.size f cdv)) := hr.mono hk
  have hu := hu_of hr
  exact (pss_cons (ps_set (i := 3) sc_law_called.nd rfl (.inl rfl) (pe_listRg rfl (by rfl) T.z_list (prg_1 (by rfl) T.z_range (pe_callB call_len_seq (by rfl) T.z_len (by decide +kernel) (pa_cons (pv 1) pa_nil)))))
  (pss_cons (ps_for PassesOwn.never rfl (pi_range2 (by rfl) T.z_range (pa_cons pe_int (pa_cons (pv 2) pa_nil))) (pg_name (i := 4) sc_law_called.nd rfl (.inr rfl)) (pss_cons (ps_setLc (i := 5) (own := [("_law_k", 6)]) (g := (gName 6)) (tt := (tTest (tOp (rI0 fun i j => .bl (decide (i < j))) (tOp (rIxL K) (tOp (rIxL K) (tVar 1) (tVar 6)) (tC (.int 0))) (tVar 4)))) rfl sc_law_called.nd rfl rfl (sw_true rfl rfl rfl (by decide +kernel)) (pi_list (pv 3)) (blkOk_by (N := N_law_called) (sc := defScope s_law_called) (by decide +kernel)) (fun _ _ _ _ _ => (pg_name (i := 6) sc_law_called.nd rfl (.inl rfl))) (fun _ _ _ _ _ => (pts_one (pt_cmpR op_lt (pe_ix ix_list (pe_ix ix_list (pv 1) (pv 6) (fun _ _ => rfl)) pe_int (fun _ _ => rfl)) (pv 4) (nomark _)))) (fun _ _ _ _ _ => (pv 6)))
  (pss_cons (ps_set (i := 6) sc_law_called.nd rfl (.inl rfl) (pe_ix ix_list (pv 5) (pe_cal c_law_draw (hr.mono (by decide)) (by rfl) (pa_cons (pv 0) (pa_cons (pe_callB call_len_seq (by rfl) T.z_len (by decide +kernel) (pa_cons (pv 5) pa_nil)) pa_nil))) (fun _ _ => rfl)))
  (pss_cons (ps_asg (pv 4) (pg_sub (pe_ix ix_list (pv 1) (pv 6) (fun _ _ => rfl)) pe_int set_list))
  (pss_one (ps_expr (pe_bm PySem.F.plainAttrs_list PySem.F.slot_list_remove PySem.F.type_list_remove mt_remove (pv 3) (pa_cons (pv 6) pa_nil))))))))
  (pss_one (ps_for PassesOwn.never rfl (pi_list (pv 3)) (pg_name (i := 6) sc_law_called.nd rfl (.inl rfl)) (pss_cons (ps_set (i := 7) sc_law_called.nd rfl (.inl rfl) (pe_op op_sub (pe_op op_sub (pv 2) pe_int) (pe_ix ix_list (pe_ix ix_list (pv 1) (pv 6) (fun _ _ => rfl)) pe_int (fun _ _ => rfl))))
  (pss_cons (ps_set (i := 8) sc_law_called.nd rfl (.inl rfl) (pe_cal c_law_draw (hr.mono (by decide)) (by rfl) (pa_cons (pv 0) (pa_cons (pe_op op_add (pe_op op_mul pe_int (pv 7)) pe_int) pa_nil))))
  (pss_one (ps_if (pt_cmpR op_lt (pv 8) (pv 7) (nomark _)) (pss_one (ps_asg (pe_op op_add (pe_op op_add (pe_ix ix_list (pe_ix ix_list (pv 1) (pv 6) (fun _ _ => rfl)) pe_int (fun _ _ => rfl)) pe_int) (pv 8)) (pg_sub (pe_ix ix_list (pv 1) (pv 6) (fun _ _ => rfl)) pe_int set_list))) pss_nil))))))))

abbrev s_law_on : Stmt := topS 39
theorem sc_law_on : FnScope N_law_on ["_law_web_here", "_law_part_here"] (defScope s_law_on) := ⟨rfl, rfl, rfl, by decide +kernel, rfl, by decide +kernel, by decide +kernel⟩
theorem der_law_on (T : Txt K mg) (c_law_from : Cal P w K mg base 1 "_law_from" ["_law_web_here", "_law_part_here", "_law_place"] (sp_law_from K)) {k : Nat} (hk : 1 ≤ k) (hr : Room k (A.deeper (envOfC "_law_on" (defScope s_law_on) s.heap.objs.size f cdv))) : PSs (cxOf CX0 P w K mg base N_law_on "_law_on" (defScope s_law_on) f cdv A outer s H E).nox (defBody s_law_on) (tr_law_on K) := by
  have hr : Room 1 (A.deeper (envOfC "_law_on" (defScope s_law_on) s.heap.objs.size f cdv)) := hr.mono hk
  have hu := hu_of hr
  exact (pss_cons (ps_set (i := 2) sc_law_on.nd rfl (.inr rfl) (pe_disp (pps_cons pe_int pe_int pps_nil) (by rfl) (by rfl) (fun z => by cases z) (by decide)))
  (pss_cons (ps_while PassesOwn.never (pt_cmpR op_lt (pe_callB call_lenD (by rfl) T.z_len (by decide +kernel) (pa_cons (pv 2) pa_nil)) (pe_ix ix_list (pe_ix ix_tup (pv 0) pe_int (fun _ _ => rfl)) (pv 1) (fun _ _ => rfl)) (nomark _)) (pss_one (ps_for PassesOwn.never rfl (pi_range1 (by rfl) T.z_range (pa_cons (pe_ix ix_list (pe_ix ix_tup (pv 0) pe_int (fun _ _ => rfl)) (pv 1) (fun _ _ => rfl)) pa_nil)) (pg_name (i := 3) sc_law_on.nd rfl (.inl rfl)) (pss_cons (ps_setLc (i := 4) (own := [("_law_k", 5)]) (g := (gName 5)) (tt := tYes) rfl sc_law_on.nd rfl rfl (sw_true rfl rfl rfl (by decide +kernel)) (pi_list (pe_cal c_law_from (hr.mono (by decide)) (by rfl) (pa_cons (pv 0) (pa_cons (pv 1) (pa_cons (pv 3) pa_nil))))) (blkOk_by (N := N_law_on) (sc := defScope s_law_on) (by decide +kernel)) (fun _ _ _ _ _ => (pg_name (i := 5) sc_law_on.nd rfl (.inl rfl))) (fun _ _ _ _ _ => pts_nil) (fun _ _ _ _ _ => (pe_ix ix_tup (pe_ix ix_list (pe_ix ix_tup (pv 0) pe_int (fun _ _ => rfl)) (pv 5) (fun _ _ => rfl)) pe_int (fun _ _ => rfl))))
  (pss_one (ps_if (PW.pt (pw_and (pt_cmp (pc_dnotin hu (pv 3) (pv 2)) (by rfl)) (pw_and1 (pt_val (pe_callB (cr_all rfl) (by rfl) T.z_all (by decide +kernel) (pa_cons (pe_lc (own := [("_law_goal", 6)]) (g := (gName 6)) (tt := tYes) rfl sc_law_on.nd (pi_list (pv 4)) (blkOk_by (N := N_law_on) (sc := defScope s_law_on) (by decide +kernel)) (fun _ _ _ _ _ => (pg_name (i := 6) sc_law_on.nd rfl (.inl rfl))) (fun _ _ _ _ _ => pts_nil) (fun _ _ _ _ _ => (pe_cmp (pc_din hu (pv 6) (pv 2)) (by rfl)))) pa_nil)))))) (pss_one (ps_dput hu (pv 2) (pv 3) (pe_callB (cr_sum rfl) (by rfl) T.z_sum (by decide +kernel) (pa_cons (pe_lc (own := [("_law_goal", 6)]) (g := (gName 6)) (tt := tYes) rfl sc_law_on.nd (pi_list (pv 4)) (blkOk_by (N := N_law_on) (sc := defScope s_law_on) (by decide +kernel)) (fun _ _ _ _ _ => (pg_name (i := 6) sc_law_on.nd rfl (.inl rfl))) (fun _ _ _ _ _ => pts_nil) (fun _ _ _ _ _ => (pe_dget hu (pv 2) (pv 6) (fun _ _ => rfl)))) pa_nil)) (by rfl))) pss_nil))))))
  (pss_one (ps_ret (pv 2)))))

abbrev s_law_goes : Stmt := topS 41
theorem sc_law_goes : FnScope N_law_goes ["_law_web_here", "_law_part_here", "_law_rows"] (defScope s_law_goes) := ⟨rfl, rfl, rfl, by decide +kernel, rfl, by decide +kernel, by decide +kernel⟩
theorem der_law_goes (T : Txt K mg) (c_law_from : Cal P w K mg base 1 "_law_from" ["_law_web_here", "_law_part_here", "_law_place"] (sp_law_from K)) {k : Nat} (hk : 1 ≤ k) (hr : Room k (A.deeper (envOfC "_law_goes" (defScope s_law_goes) s.heap.objs.size f cdv))) : PSs (cxOf CX0 P w K mg base N_law_goes "_law_goes" (defScope s_law_goes) f cdv A outer s H E).nox (defBody s_law_goes) (tr_law_goes K) := by
  have hr : Room 1 (A.deeper (envOfC "_law_goes" (defScope s_law_goes) s.heap.objs.size f cdv)) := hr.mono hk
  have hu := hu_of hr
  exact (pss_cons (ps_set (i := 3) sc_law_goes.nd rfl (.inl rfl) pe_int)
  (pss_cons (ps_for PassesOwn.never rfl (pi_list (pv 2)) (pg_name (i := 4) sc_law_goes.nd rfl (.inl rfl)) (pss_cons (ps_if (pt_cmpR op_notIn_seq (pv 4) (pe_cal c_law_from (hr.mono (by decide)) (by rfl) (pa_cons (pv 0) (pa_cons (pv 1) (pa_cons (pv 3) pa_nil)))) (by rfl)) (pss_one (ps_ret pe_bl)) pss_nil)
  (pss_one (ps_set (i := 3) sc_law_goes.nd rfl (.inl rfl) (pe_ix ix_tup (pe_ix ix_list (pe_ix ix_tup (pv 0) pe_int (fun _ _ => rfl)) (pv 4) (fun _ _ => rfl)) pe_int (fun _ _ => rfl))))))
  (pss_one (ps_ret (pe_cmpR op_eq (pv 3) pe_int (nomark _))))))

abbrev s_is_web : Stmt := topS 12
theorem sc_is_web : FnScope N_is_web ["web"] (defScope s_is_web) := ⟨rfl, rfl, rfl, by decide +kernel, rfl, by decide +kernel, by decide +kernel⟩
theorem der_is_web (T : Txt K mg) (c_fits_row : Cal P w K mg base 1 "fits_row" ["web", "row"] (sp_fits_row K)) (c_reached : Cal P w K mg base 2 "reached" ["web", "part", "start", "turned"] (sp_reached K)) {k : Nat} (hk : 2 ≤ k) (hr : Room k (A.deeper (envOfC "is_web" (defScope s_is_web) s.heap.objs.size f cdv))) : PSs (cxOf CX0 P w K mg base N_is_web "is_web" (defScope s_is_web) f cdv A outer s H E).nox (defBody s_is_web) (tr_is_web K) := by
  have hr : Room 2 (A.deeper (envOfC "is_web" (defScope s_is_web) s.heap.objs.size f cdv)) := hr.mono hk
  have hu := hu_of hr
  exact (pss_cons (ps_asg (pv 0) (pg_tup rfl (pgs_cons (pg_name (i := 1) sc_is_web.nd rfl (.inl rfl)) (pgs_cons (pg_name (i := 2) sc_is_web.nd rfl (.inl rfl)) pgs_nil))))
  (pss_cons (ps_if (PW.pt (pw_or (pt_cmpR op_lt (pe_callB call_len_seq (by rfl) T.z_len (by decide +kernel) (pa_cons (pv 1) pa_nil)) pe_int (nomark _)) (pw_or (pt_cmpR op_gt (pe_callB call_len_seq (by rfl) T.z_len (by decide +kernel) (pa_cons (pv 1) pa_nil)) (pe_gint T.g_MOST_PARTS (by rfl)) (nomark _)) (pw_or (pt_cmpR op_lt (pe_callB call_len_seq (by rfl) T.z_len (by decide +kernel) (pa_cons (pv 2) pa_nil)) pe_int (nomark _)) (pw_or1 (pt_cmpR op_gt (pe_callB call_len_seq (by rfl) T.z_len (by decide +kernel) (pa_cons (pv 2) pa_nil)) (pe_gint T.g_MOST_ROWS (by rfl)) (nomark _))))))) (pss_one (ps_ret pe_bl)) pss_nil)
  (pss_cons (ps_if (PW.pt (pw_or (pt_cmpR op_lt (pe_callB (cr_min rfl) (by rfl) T.z_min (by decide +kernel) (pa_cons (pv 1) pa_nil)) pe_int (nomark _)) (pw_or1 (pt_cmpR op_gt (pe_callB (cr_max rfl) (by rfl) T.z_max (by decide +kernel) (pa_cons (pv 1) pa_nil)) (pe_gint T.g_MOST_PLACES (by rfl)) (nomark _))))) (pss_one (ps_ret pe_bl)) pss_nil)
  (pss_cons (ps_for PassesOwn.never rfl (pi_list (pv 2)) (pg_name (i := 3) sc_is_web.nd rfl (.inl rfl)) (pss_one (ps_if (pt_not (pt_val (pe_cal c_fits_row (hr.mono (by decide)) (by rfl) (pa_cons (pv 0) (pa_cons (pv 3) pa_nil))))) (pss_one (ps_ret pe_bl)) pss_nil)))
  (pss_cons (ps_for PassesOwn.never rfl (pi_range1 (by rfl) T.z_range (pa_cons (pe_callB call_len_seq (by rfl) T.z_len (by decide +kernel) (pa_cons (pv 1) pa_nil)) pa_nil)) (pg_name (i := 4) sc_is_web.nd rfl (.inl rfl)) (pss_cons (ps_if (PW.pt (pw_or (pt_cmpR op_ne (pe_callB call_lenD (by rfl) T.z_len (by decide +kernel) (pa_cons (pe_cal c_reached (hr.mono (by decide)) (by rfl) (pa_cons (pv 0) (pa_cons (pv 4) (pa_cons pe_int (pa_cons pe_bl pa_nil))))) pa_nil)) (pe_ix ix_list (pv 1) (pv 4) (fun _ _ => rfl)) (nomark _)) (pw_or1 (pt_cmpR op_ne (pe_callB call_lenD (by rfl) T.z_len (by decide +kernel) (pa_cons (pe_cal c_reached (hr.mono (by decide)) (by rfl) (pa_cons (pv 0) (pa_cons (pv 4) (pa_cons pe_int (pa_cons pe_bl pa_nil))))) pa_nil)) (pe_ix ix_list (pv 1) (pv 4) (fun _ _ => rfl)) (nomark _))))) (pss_one (ps_ret pe_bl)) pss_nil)
  (pss_one (ps_if (PW.pt (pw_and (pt_cmpR op_gt (pv 4) pe_int (nomark _)) (pw_and1 (pt_cmpR op_notIn_seq (pv 4) (pe_lc (own := [("row", 3)]) (g := (gName 3)) (tt := tYes) rfl sc_is_web.nd (pi_list (pv 2)) (blkOk_by (N := N_is_web) (sc := defScope s_is_web) (by decide +kernel)) (fun _ _ _ _ _ => (pg_name (i := 3) sc_is_web.nd rfl (.inl rfl))) (fun _ _ _ _ _ => pts_nil) (fun _ _ _ _ _ => (pe_ix ix_tup (pv 3) pe_int (fun _ _ => rfl)))) (by rfl))))) (pss_one (ps_ret pe_bl)) pss_nil))))
  (pss_one (ps_ret pe_bl)))))))

abbrev s_order_of : Stmt := topS 17
theorem sc_order_of : FnScope N_order_of ["web", "part"] (defScope s_order_of) := ⟨rfl, rfl, rfl, by decide +kernel, rfl, by decide +kernel, by decide +kernel⟩
theorem der_order_of (T : Txt K mg) (c_led_to : Cal P w K mg base 2 "led_to" ["web", "part", "some"] (sp_led_to K)) {k : Nat} (hk : 2 ≤ k) (hr : Room k (A.deeper (envOfC "order_of" (defScope s_order_of) s.heap.objs.size f cdv))) : PSs (cxOf CX0 P w K mg base N_order_of "order_of" (defScope s_order_of) f cdv A outer s H E).nox (defBody s_order_of) (tr_order_of K) := by
  have hr : Room 2 (A.deeper (envOfC "order_of" (defScope s_order_of) s.heap.objs.size f cdv)) := hr.mono hk
  have hu := hu_of hr
  exact (pss_cons (ps_set (i := 2) sc_order_of.nd rfl (.inl rfl) (pe_lst pa_nil))
  (pss_cons (ps_set (i := 3) sc_order_of.nd rfl (.inr rfl) (pe_listRg rfl (by rfl) T.z_list (prg_1 (by rfl) T.z_range (pe_ix ix_list (pe_ix ix_tup (pv 0) pe_int (fun _ _ => rfl)) (pv 1) (fun _ _ => rfl)))))
  (pss_cons (ps_set (i := 4) sc_order_of.nd rfl (.inr rfl) (pe_lc (own := [("place", 6)]) (g := (gName 6)) (tt := (tTest (tOp (rIn K true) (tVar 6) (tCall (sp_led_to K) [] E0 (tCons (tVar 0) (tCons (tVar 1) (tCons (tVar 3) tNil))))))) rfl sc_order_of.nd (pi_list (pv 3)) (blkOk_by (N := N_order_of) (sc := defScope s_order_of) (by decide +kernel)) (fun _ _ _ _ _ => (pg_name (i := 6) sc_order_of.nd rfl (.inl rfl))) (fun _ _ _ _ _ => (pts_one (pt_cmpR op_notIn_seq (pv 6) (pe_cal c_led_to (hr.mono (by decide)) (by rfl) (pa_cons (pv 0) (pa_cons (pv 1) (pa_cons (pv 3) pa_nil)))) (by rfl)))) (fun _ _ _ _ _ => (pv 6))))
  (pss_cons (ps_while PassesOwn.never (pt_cmpR op_gt (pe_callB call_len_seq (by rfl) T.z_len (by decide +kernel) (pa_cons (pv 4) pa_nil)) pe_int (nomark _)) (pss_cons (ps_set (i := 2) sc_order_of.nd rfl (.inl rfl) (pe_op op_cat (pv 2) (pv 4)))
  (pss_cons (ps_set (i := 3) sc_order_of.nd rfl (.inr rfl) (pe_lc (own := [("place", 6)]) (g := (gName 6)) (tt := (tTest (tOp (rIn K true) (tVar 6) (tVar 4)))) rfl sc_order_of.nd (pi_list (pv 3)) (blkOk_by (N := N_order_of) (sc := defScope s_order_of) (by decide +kernel)) (fun _ _ _ _ _ => (pg_name (i := 6) sc_order_of.nd rfl (.inl rfl))) (fun _ _ _ _ _ => (pts_one (pt_cmpR op_notIn_seq (pv 6) (pv 4) (by rfl)))) (fun _ _ _ _ _ => (pv 6))))
  (pss_cons (ps_set (i := 5) sc_order_of.nd rfl (.inr rfl) (pe_cal c_led_to (hr.mono (by decide)) (by rfl) (pa_cons (pv 0) (pa_cons (pv 1) (pa_cons (pv 3) pa_nil)))))
  (pss_one (ps_set (i := 4) sc_order_of.nd rfl (.inr rfl) (pe_lc (own := [("place", 6)]) (g := (gName 6)) (tt := (tTest (tOp (rIn K true) (tVar 6) (tVar 5)))) rfl sc_order_of.nd (pi_list (pv 3)) (blkOk_by (N := N_order_of) (sc := defScope s_order_of) (by decide +kernel)) (fun _ _ _ _ _ => (pg_name (i := 6) sc_order_of.nd rfl (.inl rfl))) (fun _ _ _ _ _ => (pts_one (pt_cmpR op_notIn_seq (pv 6) (pv 5) (by rfl)))) (fun _ _ _ _ _ => (pv 6)))))))))
  (pss_one (ps_ret (pv 2)))))))

abbrev s_is_going : Stmt := topS 25
theorem sc_is_going : FnScope N_is_going ["web", "part", "rows"] (defScope s_is_going) := ⟨rfl, rfl, rfl, by decide +kernel, rfl, by decide +kernel, by decide +kernel⟩
theorem der_is_going (T : Txt K mg) (c_rows_from : Cal P w K mg base 2 "rows_from" ["web", "part", "place"] (sp_rows_from K)) {k : Nat} (hk : 2 ≤ k) (hr : Room k (A.deeper (envOfC "is_going" (defScope s_is_going) s.heap.objs.size f cdv))) : PSs (cxOf CX0 P w K mg base N_is_going "is_going" (defScope s_is_going) f cdv A outer s H E).nox (defBody s_is_going) (tr_is_going K) := by
  have hr : Room 2 (A.deeper (envOfC "is_going" (defScope s_is_going) s.heap.objs.size f cdv)) := hr.mono hk
  have hu := hu_of hr
  exact (pss_cons (ps_set (i := 3) sc_is_going.nd rfl (.inl rfl) pe_int)
  (pss_cons (ps_for PassesOwn.never rfl (pi_list (pv 2)) (pg_name (i := 4) sc_is_going.nd rfl (.inl rfl)) (pss_cons (ps_if (pt_cmpR op_notIn_seq (pv 4) (pe_cal c_rows_from (hr.mono (by decide)) (by rfl) (pa_cons (pv 0) (pa_cons (pv 1) (pa_cons (pv 3) pa_nil)))) (by rfl)) (pss_one (ps_ret pe_bl)) pss_nil)
  (pss_one (ps_set (i := 3) sc_is_going.nd rfl (.inl rfl) (pe_ix ix_tup (pe_ix ix_list (pe_ix ix_tup (pv 0) pe_int (fun _ _ => rfl)) (pv 4) (fun _ _ => rfl)) pe_int (fun _ _ => rfl))))))
  (pss_one (ps_ret (pe_cmpR op_eq (pv 3) pe_int (nomark _))))))

abbrev s_way_by : Stmt := topS 27
theorem sc_way_by : FnScope N_way_by ["web", "part", "worth", "number"] (defScope s_way_by) := ⟨rfl, rfl, rfl, by decide +kernel, rfl, by decide +kernel, by decide +kernel⟩
theorem der_way_by (T : Txt K mg) (c_rows_from : Cal P w K mg base 2 "rows_from" ["web", "part", "place"] (sp_rows_from K)) {k : Nat} (hk : 2 ≤ k) (hr : Room k (A.deeper (envOfC "way_by" (defScope s_way_by) s.heap.objs.size f cdv))) : PSs (cxOf CX0 P w K mg base N_way_by "way_by" (defScope s_way_by) f cdv A outer s H E).nox (defBody s_way_by) (tr_way_by K) := by
  have hr : Room 2 (A.deeper (envOfC "way_by" (defScope s_way_by) s.heap.objs.size f cdv)) := hr.mono hk
  have hu := hu_of hr
  exact (pss_cons (ps_set (i := 4) sc_way_by.nd rfl (.inl rfl) (pe_lst pa_nil))
  (pss_cons (ps_set (i := 5) sc_way_by.nd rfl (.inl rfl) pe_int)
  (pss_cons (ps_while PassesOwn.never (pt_cmpR op_ne (pv 5) pe_int (nomark _)) (pss_cons (ps_setLc (i := 6) (own := [("k", 7)]) (g := (gName 7)) (tt := (tTest (tOp (rI0 fun i j => .bl (decide (i ≤ j))) (tOp (rIxL K) (tVar 2) (tVar 7)) (tVar 3)))) rfl sc_way_by.nd rfl rfl (sw_true rfl rfl rfl (by decide +kernel)) (pi_list (pe_cal c_rows_from (hr.mono (by decide)) (by rfl) (pa_cons (pv 0) (pa_cons (pv 1) (pa_cons (pv 5) pa_nil))))) (blkOk_by (N := N_way_by) (sc := defScope s_way_by) (by decide +kernel)) (fun _ _ _ _ _ => (pg_name (i := 7) sc_way_by.nd rfl (.inl rfl))) (fun _ _ _ _ _ => (pts_one (pt_cmpR op_le (pe_ix ix_list (pv 2) (pv 7) (fun _ _ => rfl)) (pv 3) (nomark _)))) (fun _ _ _ _ _ => (pv 7)))
  (pss_cons (ps_expr (pe_bm PySem.F.plainAttrs_list PySem.F.slot_list_append PySem.F.type_list_append mt_append (pv 4) (pa_cons (pe_ix ix_list (pv 6) (pe_un un_neg pe_int) (fun _ _ => rfl)) pa_nil)))
  (pss_cons (ps_aug (i := 3) sc_way_by.nd rfl (.inr rfl) (pe_ix ix_list (pv 2) (pe_ix ix_list (pv 6) (pe_un un_neg pe_int) (fun _ _ => rfl)) (fun _ _ => rfl)) ip_sub)
  (pss_one (ps_set (i := 5) sc_way_by.nd rfl (.inl rfl) (pe_ix ix_tup (pe_ix ix_list (pe_ix ix_tup (pv 0) pe_int (fun _ _ => rfl)) (pe_ix ix_list (pv 6) (pe_un un_neg pe_int) (fun _ _ => rfl)) (fun _ _ => rfl)) pe_int (fun _ _ => rfl))))))))
  (pss_one (ps_ret (pv 4))))))

abbrev s_law_part : Stmt := topS 34
theorem sc_law_part : FnScope N_law_part ["_law_purse_here", "_law_many", "_law_loose"] (defScope s_law_part) := ⟨rfl, rfl, rfl, by decide +kernel, rfl, by decide +kernel, by decide +kernel⟩
theorem der_law_part (T : Txt K mg) (c_law_draw : Cal P w K mg base 1 "_law_draw" ["_law_purse_here", "_law_out_of"] (sp_law_draw K)) (c_law_order : Cal P w K mg base 2 "_law_order" ["_law_purse_here", "_law_many"] (sp_law_order K)) {k : Nat} (hk : 2 ≤ k) (hr : Room k (A.deeper (envOfC "_law_part" (defScope s_law_part) s.heap.objs.size f cdv))) : PSs (cxOf CX0 P w K mg base N_law_part "_law_part" (defScope s_law_part) f cdv A outer s H E).nox (defBody s_law_part) (tr_law_part K) := by
  have hr : Room 2 (A.deeper (envOfC "_law_part" (defScope s_law_part) s.heap.objs.size f cdv)) := hr.mono hk
  have hu := hu_of hr
  exact (pss_cons (ps_set (i := 3) sc_law_part.nd rfl (.inl rfl) (pe_lst (pa_cons pe_int (pa_cons pe_int pa_nil))))
  (pss_cons (ps_set (i := 4) sc_law_part.nd rfl (.inl rfl) (pe_lst (pa_cons (pe_lst (pa_cons pe_int (pa_cons pe_int pa_nil))) pa_nil)))
  (pss_cons (ps_for PassesOwn.never rfl (pi_range1 (by rfl) T.z_range (pa_cons (pv 1) pa_nil)) (pg_name (i := 5) sc_law_part.nd rfl (.inl rfl)) (pss_cons (ps_set (i := 6) sc_law_part.nd rfl (.inl rfl) (pe_callB call_len_seq (by rfl) T.z_len (by decide +kernel) (pa_cons (pv 3) pa_nil)))
  (pss_one (ps_if (PW.pt (pw_and (pt_cmpR op_lt (pv 6) pe_int (nomark _)) (pw_and1 (pt_cmpR op_eq (pe_cal c_law_draw (hr.mono (by decide)) (by rfl) (pa_cons (pv 0) (pa_cons pe_int pa_nil))) pe_int (nomark _))))) (pss_cons (ps_set (i := 7) sc_law_part.nd rfl (.inl rfl) (pe_cal c_law_draw (hr.mono (by decide)) (by rfl) (pa_cons (pv 0) (pa_cons (pe_callB call_len_seq (by rfl) T.z_len (by decide +kernel) (pa_cons (pv 4) pa_nil)) pa_nil))))
  (pss_cons (ps_asg (pe_ix ix_list (pv 4) (pv 7) (fun _ _ => rfl)) (pg_unl rfl (pgs_cons (pg_name (i := 8) sc_law_part.nd rfl (.inl rfl)) (pgs_cons (pg_name (i := 9) sc_law_part.nd rfl (.inl rfl)) pgs_nil))))
  (pss_cons (ps_if (pt_val (pv 2)) (pss_cons (ps_set (i := 10) sc_law_part.nd rfl (.inl rfl) (pe_bm PySem.F.plainAttrs_list PySem.F.slot_list_index PySem.F.type_list_index mt_index (pv 3) (pa_cons (pv 8) pa_nil)))
  (pss_one (ps_expr (pe_bm PySem.F.plainAttrs_list PySem.F.slot_list_insert PySem.F.type_list_insert mt_insert (pv 3) (pa_cons (pe_op op_add (pe_op op_add (pv 10) pe_int) (pe_cal c_law_draw (hr.mono (by decide)) (by rfl) (pa_cons (pv 0) (pa_cons (pe_op op_sub (pe_bm PySem.F.plainAttrs_list PySem.F.slot_list_index PySem.F.type_list_index mt_index (pv 3) (pa_cons (pv 9) pa_nil)) (pv 10)) pa_nil)))) (pa_cons (pv 6) pa_nil)))))) (pss_one (ps_expr (pe_bm PySem.F.plainAttrs_list PySem.F.slot_list_insert PySem.F.type_list_insert mt_insert (pv 3) (pa_cons (pe_op op_add pe_int (pe_cal c_law_draw (hr.mono (by decide)) (by rfl) (pa_cons (pv 0) (pa_cons (pe_op op_sub (pv 6) pe_int) pa_nil)))) (pa_cons (pv 6) pa_nil))))))
  (pss_cons (ps_asg (pe_lst (pa_cons (pv 8) (pa_cons (pv 6) pa_nil))) (pg_sub (pv 4) (pv 7) set_list))
  (pss_one (ps_expr (pe_bm PySem.F.plainAttrs_list PySem.F.slot_list_append PySem.F.type_list_append mt_append (pv 4) (pa_cons (pe_lst (pa_cons (pv 6) (pa_cons (pv 9) pa_nil))) pa_nil)))))))) (pss_one (ps_if (pt_val (pv 2)) (pss_cons (ps_set (i := 10) sc_law_part.nd rfl (.inl rfl) (pe_cal c_law_draw (hr.mono (by decide)) (by rfl) (pa_cons (pv 0) (pa_cons (pe_op op_sub (pv 6) pe_int) pa_nil))))
  (pss_one (ps_expr (pe_bm PySem.F.plainAttrs_list PySem.F.slot_list_append PySem.F.type_list_append mt_append (pv 4) (pa_cons (pe_lst (pa_cons (pe_ix ix_list (pv 3) (pv 10) (fun _ _ => rfl)) (pa_cons (pe_ix ix_list (pv 3) (pe_op op_add (pe_op op_add (pv 10) pe_int) (pe_cal c_law_draw (hr.mono (by decide)) (by rfl) (pa_cons (pv 0) (pa_cons (pe_op op_sub (pe_op op_sub (pv 6) pe_int) (pv 10)) pa_nil)))) (fun _ _ => rfl)) pa_nil))) pa_nil))))) (pss_one (ps_expr (pe_bm PySem.F.plainAttrs_list PySem.F.slot_list_append PySem.F.type_list_append mt_append (pv 4) (pa_cons (pe_lst (pa_cons (pe_ix ix_list (pv 3) (pe_cal c_law_draw (hr.mono (by decide)) (by rfl) (pa_cons (pv 0) (pa_cons (pe_op op_sub (pv 6) pe_int) pa_nil))) (fun _ _ => rfl)) (pa_cons (pe_ix ix_list (pv 3) (pe_cal c_law_draw (hr.mono (by decide)) (by rfl) (pa_cons (pv 0) (pa_cons (pv 6) pa_nil))) (fun _ _ => rfl)) pa_nil))) pa_nil))))))))))
  (pss_cons (ps_set (i := 11) sc_law_part.nd rfl (.inr rfl) (pe_op op_cat (pe_lst (pa_cons pe_int (pa_cons pe_int pa_nil))) (pe_lc (own := [("_law_place", 12)]) (g := (gName 12)) (tt := tYes) rfl sc_law_part.nd (pi_list (pe_cal c_law_order (hr.mono (by decide)) (by rfl) (pa_cons (pv 0) (pa_cons (pe_op op_sub (pe_callB call_len_seq (by rfl) T.z_len (by decide +kernel) (pa_cons (pv 3) pa_nil)) pe_int) pa_nil)))) (blkOk_by (N := N_law_part) (sc := defScope s_law_part) (by decide +kernel)) (fun _ _ _ _ _ => (pg_name (i := 12) sc_law_part.nd rfl (.inl rfl))) (fun _ _ _ _ _ => pts_nil) (fun _ _ _ _ _ => (pe_op op_add pe_int (pv 12))))))
  (pss_one (ps_ret (pe_tup (pa_cons (pe_callB call_len_seq (by rfl) T.z_len (by decide +kernel) (pa_cons (pv 3) pa_nil)) (pa_cons (pe_lc (own := [("_law_one", 8), ("_law_other", 9)]) (g := (gUnl K 2 (gCons (gName 8) (gCons (gName 9) gNil)))) (tt := tYes) rfl sc_law_part.nd (pi_list (pv 4)) (blkOk_by (N := N_law_part) (sc := defScope s_law_part) (by decide +kernel)) (fun _ _ _ _ _ => (pg_unl rfl (pgs_cons (pg_name (i := 8) sc_law_part.nd rfl (.inl rfl)) (pgs_cons (pg_name (i := 9) sc_law_part.nd rfl (.inl rfl)) pgs_nil)))) (fun _ _ _ _ _ => pts_nil) (fun _ _ _ _ _ => (pe_lst (pa_cons (pe_ix ix_list (pv 11) (pv 8) (fun _ _ => rfl)) (pa_cons (pe_ix ix_list (pv 11) (pv 9) (fun _ _ => rfl)) pa_nil))))) pa_nil)))))))))

abbrev s_law_through : Stmt := topS 43
theorem sc_law_through : FnScope N_law_through ["_law_web_here", "_law_part_here", "_law_k"] (defScope s_law_through) := ⟨rfl, rfl, rfl, by decide +kernel, rfl, by decide +kernel, by decide +kernel⟩
theorem der_law_through (T : Txt K mg) (c_law_on : Cal P w K mg base 2 "_law_on" ["_law_web_here", "_law_part_here"] (sp_law_on K)) {k : Nat} (hk : 2 ≤ k) (hr : Room k (A.deeper (envOfC "_law_through" (defScope s_law_through) s.heap.objs.size f cdv))) : PSs (cxOf CX0 P w K mg base N_law_through "_law_through" (defScope s_law_through) f cdv A outer s H E).nox (defBody s_law_through) (tr_law_through K) := by
  have hr : Room 2 (A.deeper (envOfC "_law_through" (defScope s_law_through) s.heap.objs.size f cdv)) := hr.mono hk
  have hu := hu_of hr
  exact (pss_cons (ps_set (i := 3) sc_law_through.nd rfl (.inr rfl) (pe_disp (pps_cons pe_int pe_int pps_nil) (by rfl) (by rfl) (fun z => by cases z) (by decide)))
  (pss_cons (ps_setLc (i := 4) (own := [("_law_j", 7)]) (g := (gName 7)) (tt := (tTest (tOp rEq (tOp (rIxT K) (tOp (rIxL K) (tOp (rIxT K) (tVar 0) (tC (.int 1))) (tVar 7)) (tC (.int 0))) (tVar 1)))) rfl sc_law_through.nd rfl rfl (sw_true rfl rfl rfl (by decide +kernel)) (pi_range1 (by rfl) T.z_range (pa_cons (pe_callB call_len_seq (by rfl) T.z_len (by decide +kernel) (pa_cons (pe_ix ix_tup (pv 0) pe_int (fun _ _ => rfl)) pa_nil)) pa_nil)) (blkOk_by (N := N_law_through) (sc := defScope s_law_through) (by decide +kernel)) (fun _ _ _ _ _ => (pg_name (i := 7) sc_law_through.nd rfl (.inl rfl))) (fun _ _ _ _ _ => (pts_one (pt_cmpR op_eq (pe_ix ix_tup (pe_ix ix_list (pe_ix ix_tup (pv 0) pe_int (fun _ _ => rfl)) (pv 7) (fun _ _ => rfl)) pe_int (fun _ _ => rfl)) (pv 1) (nomark _)))) (fun _ _ _ _ _ => (pv 7)))
  (pss_cons (ps_while PassesOwn.never (pt_cmpR op_lt (pe_callB call_lenD (by rfl) T.z_len (by decide +kernel) (pa_cons (pv 3) pa_nil)) (pe_ix ix_list (pe_ix ix_tup (pv 0) pe_int (fun _ _ => rfl)) (pv 1) (fun _ _ => rfl)) (nomark _)) (pss_one (ps_for PassesOwn.never rfl (pi_range1 (by rfl) T.z_range (pa_cons (pe_ix ix_list (pe_ix ix_tup (pv 0) pe_int (fun _ _ => rfl)) (pv 1) (fun _ _ => rfl)) pa_nil)) (pg_name (i := 5) sc_law_through.nd rfl (.inr rfl)) (pss_cons (ps_setLc (i := 6) (own := [("_law_j", 7)]) (g := (gName 7)) (tt := (tTest (tOp rEq (tOp (rIxT K) (tOp (rIxL K) (tOp (rIxT K) (tVar 0) (tC (.int 1))) (tVar 7)) (tC (.int 2))) (tVar 5)))) rfl sc_law_through.nd rfl rfl (sw_true rfl rfl rfl (by decide +kernel)) (pi_list (pv 4)) (blkOk_by (N := N_law_through) (sc := defScope s_law_through) (by decide +kernel)) (fun _ _ _ _ _ => (pg_name (i := 7) sc_law_through.nd rfl (.inl rfl))) (fun _ _ _ _ _ => (pts_one (pt_cmpR op_eq (pe_ix ix_tup (pe_ix ix_list (pe_ix ix_tup (pv 0) pe_int (fun _ _ => rfl)) (pv 7) (fun _ _ => rfl)) pe_int (fun _ _ => rfl)) (pv 5) (nomark _)))) (fun _ _ _ _ _ => (pv 7)))
  (pss_one (ps_if (PW.pt (pw_and (pt_cmp (pc_dnotin hu (pv 5) (pv 3)) (by rfl)) (pw_and1 (pt_val (pe_callB (cr_all rfl) (by rfl) T.z_all (by decide +kernel) (pa_cons (pe_lc (own := [("_law_j", 7)]) (g := (gName 7)) (tt := tYes) rfl sc_law_through.nd (pi_list (pv 6)) (blkOk_by (N := N_law_through) (sc := defScope s_law_through) (by decide +kernel)) (fun _ _ _ _ _ => (pg_name (i := 7) sc_law_through.nd rfl (.inl rfl))) (fun _ _ _ _ _ => pts_nil) (fun _ _ _ _ _ => (pe_cmp (pc_din hu (pe_ix ix_tup (pe_ix ix_list (pe_ix ix_tup (pv 0) pe_int (fun _ _ => rfl)) (pv 7) (fun _ _ => rfl)) pe_int (fun _ _ => rfl)) (pv 3)) (by rfl)))) pa_nil)))))) (pss_one (ps_dput hu (pv 3) (pv 5) (pe_callB (cr_sum rfl) (by rfl) T.z_sum (by decide +kernel) (pa_cons (pe_lc (own := [("_law_j", 7)]) (g := (gName 7)) (tt := tYes) rfl sc_law_through.nd (pi_list (pv 6)) (blkOk_by (N := N_law_through) (sc := defScope s_law_through) (by decide +kernel)) (fun _ _ _ _ _ => (pg_name (i := 7) sc_law_through.nd rfl (.inl rfl))) (fun _ _ _ _ _ => pts_nil) (fun _ _ _ _ _ => (pe_dget hu (pv 3) (pe_ix ix_tup (pe_ix ix_list (pe_ix ix_tup (pv 0) pe_int (fun _ _ => rfl)) (pv 7) (fun _ _ => rfl)) pe_int (fun _ _ => rfl)) (fun _ _ => rfl)))) pa_nil)) (by rfl))) pss_nil))))))
  (pss_one (ps_ret (pe_op op_mulW (pe_dget hu (pv 3) (pe_ix ix_tup (pe_ix ix_list (pe_ix ix_tup (pv 0) pe_int (fun _ _ => rfl)) (pv 2) (fun _ _ => rfl)) pe_int (fun _ _ => rfl)) (fun _ _ => rfl)) (pe_dget hu (pe_cal c_law_on (hr.mono (by decide)) (by rfl) (pa_cons (pv 0) (pa_cons (pv 1) pa_nil))) (pe_ix ix_tup (pe_ix ix_list (pe_ix ix_tup (pv 0) pe_int (fun _ _ => rfl)) (pv 2) (fun _ _ => rfl)) pe_int (fun _ _ => rfl)) (fun _ _ => rfl))))))))

abbrev s_must_be_web : Stmt := topS 13
theorem sc_must_be_web : FnScope N_must_be_web ["web"] (defScope s_must_be_web) := ⟨rfl, rfl, rfl, by decide +kernel, rfl, by decide +kernel, by decide +kernel⟩
theorem der_must_be_web (T : Txt K mg) (c_is_web : Cal P w K mg base 3 "is_web" ["web"] (sp_is_web K)) {k : Nat} (hk : 3 ≤ k) (hr : Room k (A.deeper (envOfC "must_be_web" (defScope s_must_be_web) s.heap.objs.size f cdv))) : PSs (cxOf CX0 P w K mg base N_must_be_web "must_be_web" (defScope s_must_be_web) f cdv A outer s H E).nox (defBody s_must_be_web) (tr_must_be_web K) := by
  have hr : Room 3 (A.deeper (envOfC "must_be_web" (defScope s_must_be_web) s.heap.objs.size f cdv)) := hr.mono hk
  have hu := hu_of hr
  exact (pss_one (ps_if (pt_not (pt_val (pe_cal c_is_web (hr.mono (by decide)) (by rfl) (pa_cons (pv 0) pa_nil)))) (pss_one ps_never) pss_nil))

abbrev s_ways_on : Stmt := topS 20
theorem sc_ways_on : FnScope N_ways_on ["web", "part"] (defScope s_ways_on) := ⟨rfl, rfl, rfl, by decide +kernel, rfl, by decide +kernel, by decide +kernel⟩
theorem der_ways_on (T : Txt K mg) (c_order_of : Cal P w K mg base 3 "order_of" ["web", "part"] (sp_order_of K)) (c_led_to : Cal P w K mg base 2 "led_to" ["web", "part", "some"] (sp_led_to K)) {k : Nat} (hk : 3 ≤ k) (hr : Room k (A.deeper (envOfC "ways_on" (defScope s_ways_on) s.heap.objs.size f cdv))) : PSs (cxOf CX0 P w K mg base N_ways_on "ways_on" (defScope s_ways_on) f cdv A outer s H E).nox (defBody s_ways_on) (tr_ways_on K) := by
  have hr : Room 3 (A.deeper (envOfC "ways_on" (defScope s_ways_on) s.heap.objs.size f cdv)) := hr.mono hk
  have hu := hu_of hr
  exact (pss_cons (ps_set (i := 2) sc_ways_on.nd rfl (.inr rfl) (pe_disp (pps_cons pe_int pe_int pps_nil) (by rfl) (by rfl) (fun z => by cases z) (by decide)))
  (pss_cons (ps_for PassesOwn.never rfl (pi_list (pe_revL (pe_cal c_order_of (hr.mono (by decide)) (by rfl) (pa_cons (pv 0) (pa_cons (pv 1) pa_nil))))) (pg_name (i := 3) sc_ways_on.nd rfl (.inl rfl)) (pss_one (ps_if (pt_cmpR op_ne (pv 3) pe_int (nomark _)) (pss_one (ps_dput hu (pv 2) (pv 3) (pe_callB (cr_sum rfl) (by rfl) T.z_sum (by decide +kernel) (pa_cons (pe_lc (own := [("goal", 4)]) (g := (gName 4)) (tt := tYes) rfl sc_ways_on.nd (pi_list (pe_cal c_led_to (hr.mono (by decide)) (by rfl) (pa_cons (pv 0) (pa_cons (pv 1) (pa_cons (pe_lst (pa_cons (pv 3) pa_nil)) pa_nil))))) (blkOk_by (N := N_ways_on) (sc := defScope s_ways_on) (by decide +kernel)) (fun _ _ _ _ _ => (pg_name (i := 4) sc_ways_on.nd rfl (.inl rfl))) (fun _ _ _ _ _ => pts_nil) (fun _ _ _ _ _ => (pe_dget hu (pv 2) (pv 4) (fun _ _ => rfl)))) pa_nil)) (by rfl))) pss_nil)))
  (pss_one (ps_ret (pv 2)))))

abbrev s_law_web : Stmt := topS 36
theorem sc_law_web : FnScope N_law_web ["_law_purse_here", "_law_loose"] (defScope s_law_web) := ⟨rfl, rfl, rfl, by decide +kernel, rfl, by decide +kernel, by decide +kernel⟩
theorem der_law_web (T : Txt K mg) (c_law_called : Cal P w K mg base 2 "_law_called" ["_law_purse_here", "_law_rows", "_law_parts"] (sp_law_called K)) (c_law_draw : Cal P w K mg base 1 "_law_draw" ["_law_purse_here", "_law_out_of"] (sp_law_draw K)) (c_law_part : Cal P w K mg base 3 "_law_part" ["_law_purse_here", "_law_many", "_law_loose"] (sp_law_part K)) (c_law_order : Cal P w K mg base 2 "_law_order" ["_law_purse_here", "_law_many"] (sp_law_order K)) {k : Nat} (hk : 3 ≤ k) (hr : Room k (A.deeper (envOfC "_law_web" (defScope s_law_web) s.heap.objs.size f cdv))) : PSs (cxOf CX0 P w K mg base N_law_web "_law_web" (defScope s_law_web) f cdv A outer s H E).nox (defBody s_law_web) (tr_law_web K) := by
  have hr : Room 3 (A.deeper (envOfC "_law_web" (defScope s_law_web) s.heap.objs.size f cdv)) := hr.mono hk
  have hu := hu_of hr
  exact (pss_cons (ps_set (i := 2) sc_law_web.nd rfl (.inl rfl) (pe_op op_add pe_int (pe_cal c_law_draw (hr.mono (by decide)) (by rfl) (pa_cons (pv 0) (pa_cons pe_int pa_nil)))))
  (pss_cons (ps_set (i := 3) sc_law_web.nd rfl (.inl rfl) (pe_op op_sub pe_int (pv 2)))
  (pss_cons (ps_set (i := 4) sc_law_web.nd rfl (.inl rfl) (pe_lst pa_nil))
  (pss_cons (ps_set (i := 5) sc_law_web.nd rfl (.inr rfl) (pe_lst pa_nil))
  (pss_cons (ps_for PassesOwn.never rfl (pi_range1 (by rfl) T.z_range (pa_cons (pv 2) pa_nil)) (pg_name (i := 6) sc_law_web.nd rfl (.inr rfl)) (pss_cons (ps_set (i := 7) sc_law_web.nd rfl (.inl rfl) (pe_callB (call_min2 rfl) (by rfl) T.z_min (by decide +kernel) (pa_cons (pv 3) (pa_cons (pe_cal c_law_draw (hr.mono (by decide)) (by rfl) (pa_cons (pv 0) (pa_cons (pe_ix ix_list (pe_lst (pa_cons pe_int (pa_cons pe_int (pa_cons pe_int pa_nil)))) (pe_cal c_law_draw (hr.mono (by decide)) (by rfl) (pa_cons (pv 0) (pa_cons pe_int pa_nil))) (fun _ _ => rfl)) pa_nil))) pa_nil))))
  (pss_cons (ps_set (i := 3) sc_law_web.nd rfl (.inl rfl) (pe_op op_sub (pv 3) (pv 7)))
  (pss_cons (ps_asg (pe_cal c_law_part (hr.mono (by decide)) (by rfl) (pa_cons (pv 0) (pa_cons (pv 7) (pa_cons (pv 1) pa_nil)))) (pg_tup rfl (pgs_cons (pg_name (i := 8) sc_law_web.nd rfl (.inl rfl)) (pgs_cons (pg_name (i := 9) sc_law_web.nd rfl (.inl rfl)) pgs_nil))))
  (pss_cons (ps_expr (pe_bm PySem.F.plainAttrs_list PySem.F.slot_list_append PySem.F.type_list_append mt_append (pv 4) (pa_cons (pv 8) pa_nil)))
  (pss_one (ps_set (i := 5) sc_law_web.nd rfl (.inr rfl) (pe_op op_cat (pv 5) (pe_lc (own := [("_law_one", 11), ("_law_other", 12)]) (g := (gUnl K 2 (gCons (gName 11) (gCons (gName 12) gNil)))) (tt := tYes) rfl sc_law_web.nd (pi_list (pv 9)) (blkOk_by (N := N_law_web) (sc := defScope s_law_web) (by decide +kernel)) (fun _ _ _ _ _ => (pg_unl rfl (pgs_cons (pg_name (i := 11) sc_law_web.nd rfl (.inl rfl)) (pgs_cons (pg_name (i := 12) sc_law_web.nd rfl (.inl rfl)) pgs_nil)))) (fun _ _ _ _ _ => pts_nil) (fun _ _ _ _ _ => (pe_lst (pa_cons (pv 6) (pa_cons (pv 11) (pa_cons (pv 12) (pa_cons (pe_un un_neg pe_int) pa_nil)))))))))))))))
  (pss_cons (ps_expr (pe_cal c_law_called (hr.mono (by decide)) (by rfl) (pa_cons (pv 0) (pa_cons (pv 5) (pa_cons (pv 2) pa_nil)))))
  (pss_one (ps_ret (pe_tup (pa_cons (pv 4) (pa_cons (pe_lc (own := [("_law_k", 10)]) (g := (gName 10)) (tt := tYes) rfl sc_law_web.nd (pi_list (pe_cal c_law_order (hr.mono (by decide)) (by rfl) (pa_cons (pv 0) (pa_cons (pe_callB call_len_seq (by rfl) T.z_len (by decide +kernel) (pa_cons (pv 5) pa_nil)) pa_nil)))) (blkOk_by (N := N_law_web) (sc := defScope s_law_web) (by decide +kernel)) (fun _ _ _ _ _ => (pg_name (i := 10) sc_law_web.nd rfl (.inl rfl))) (fun _ _ _ _ _ => pts_nil) (fun _ _ _ _ _ => (pe_callTy call_tuple_of (by rfl) T.z_tuple (by decide +kernel) (pa_cons (pe_ix ix_list (pv 5) (pv 10) (fun _ _ => rfl)) pa_nil)))) pa_nil)))))))))))

abbrev s_must_be_part : Stmt := topS 15
theorem sc_must_be_part : FnScope N_must_be_part ["web", "part"] (defScope s_must_be_part) := ⟨rfl, rfl, rfl, by decide +kernel, rfl, by decide +kernel, by decide +kernel⟩
theorem der_must_be_part (T : Txt K mg) (c_must_be_web : Cal P w K mg base 4 "must_be_web" ["web"] (sp_must_be_web K)) {k : Nat} (hk : 4 ≤ k) (hr : Room k (A.deeper (envOfC "must_be_part" (defScope s_must_be_part) s.heap.objs.size f cdv))) : PSs (cxOf CX0 P w K mg base N_must_be_part "must_be_part" (defScope s_must_be_part) f cdv A outer s H E).nox (defBody s_must_be_part) (tr_must_be_part K) := by
  have hr : Room 4 (A.deeper (envOfC "must_be_part" (defScope s_must_be_part) s.heap.objs.size f cdv)) := hr.mono hk
  have hu := hu_of hr
  exact (pss_cons (ps_expr (pe_cal c_must_be_web (hr.mono (by decide)) (by rfl) (pa_cons (pv 0) pa_nil)))
  (pss_one (ps_if (PW.pt (pw_or (pt_cmpR op_lt (pv 1) pe_int (nomark _)) (pw_or1 (pt_cmpR op_ge (pv 1) (pe_callB call_len_seq (by rfl) T.z_len (by decide +kernel) (pa_cons (pe_ix ix_tup (pv 0) pe_int (fun _ _ => rfl)) pa_nil)) (nomark _))))) (pss_one ps_never) pss_nil)))

abbrev s_weighed : Stmt := topS 23
theorem sc_weighed : FnScope N_weighed ["web", "part"] (defScope s_weighed) := ⟨rfl, rfl, rfl, by decide +kernel, rfl, by decide +kernel, by decide +kernel⟩
theorem der_weighed (T : Txt K mg) (c_ways_on : Cal P w K mg base 4 "ways_on" ["web", "part"] (sp_ways_on K)) (c_rows_from : Cal P w K mg base 2 "rows_from" ["web", "part", "place"] (sp_rows_from K)) {k : Nat} (hk : 4 ≤ k) (hr : Room k (A.deeper (envOfC "weighed" (defScope s_weighed) s.heap.objs.size f cdv))) : PSs (cxOf CX0 P w K mg base N_weighed "weighed" (defScope s_weighed) f cdv A outer s H E).nox (defBody s_weighed) (tr_weighed K) := by
  have hr : Room 4 (A.deeper (envOfC "weighed" (defScope s_weighed) s.heap.objs.size f cdv)) := hr.mono hk
  have hu := hu_of hr
  exact (pss_cons (ps_set (i := 2) sc_weighed.nd rfl (.inl rfl) (pe_cal c_ways_on (hr.mono (by decide)) (by rfl) (pa_cons (pv 0) (pa_cons (pv 1) pa_nil))))
  (pss_cons (ps_setLc (i := 3) (own := [("row", 7)]) (g := (gName 7)) (tt := tYes) rfl sc_weighed.nd rfl rfl (sw_true rfl rfl rfl (by decide +kernel)) (pi_list (pe_ix ix_tup (pv 0) pe_int (fun _ _ => rfl))) (blkOk_by (N := N_weighed) (sc := defScope s_weighed) (by decide +kernel)) (fun _ _ _ _ _ => (pg_name (i := 7) sc_weighed.nd rfl (.inl rfl))) (fun _ _ _ _ _ => pts_nil) (fun _ _ _ _ _ => pe_int))
  (pss_cons (ps_for PassesOwn.never rfl (pi_range1 (by rfl) T.z_range (pa_cons (pe_ix ix_list (pe_ix ix_tup (pv 0) pe_int (fun _ _ => rfl)) (pv 1) (fun _ _ => rfl)) pa_nil)) (pg_name (i := 4) sc_weighed.nd rfl (.inl rfl)) (pss_cons (ps_set (i := 5) sc_weighed.nd rfl (.inl rfl) pe_int)
  (pss_one (ps_for PassesOwn.never rfl (pi_list (pe_cal c_rows_from (hr.mono (by decide)) (by rfl) (pa_cons (pv 0) (pa_cons (pv 1) (pa_cons (pv 4) pa_nil))))) (pg_name (i := 6) sc_weighed.nd rfl (.inl rfl)) (pss_cons (ps_asg (pv 5) (pg_sub (pv 3) (pv 6) set_list))
  (pss_one (ps_aug (i := 5) sc_weighed.nd rfl (.inl rfl) (pe_dget hu (pv 2) (pe_ix ix_tup (pe_ix ix_list (pe_ix ix_tup (pv 0) pe_int (fun _ _ => rfl)) (pv 6) (fun _ _ => rfl)) pe_int (fun _ _ => rfl)) (fun _ _ => rfl)) ip_add)))))))
  (pss_one (ps_ret (pv 3))))))

abbrev s_is_loose : Stmt := topS 18
theorem sc_is_loose : FnScope N_is_loose ["web", "part"] (defScope s_is_loose) := ⟨rfl, rfl, rfl, by decide +kernel, rfl, by decide +kernel, by decide +kernel⟩
theorem der_is_loose (T : Txt K mg) (c_must_be_part : Cal P w K mg base 5 "must_be_part" ["web", "part"] (sp_must_be_part K)) (c_order_of : Cal P w K mg base 3 "order_of" ["web", "part"] (sp_order_of K)) {k : Nat} (hk : 5 ≤ k) (hr : Room k (A.deeper (envOfC "is_loose" (defScope s_is_loose) s.heap.objs.size f cdv))) : PSs (cxOf CX0 P w K mg base N_is_loose "is_loose" (defScope s_is_loose) f cdv A outer s H E).nox (defBody s_is_loose) (tr_is_loose K) := by
  have hr : Room 5 (A.deeper (envOfC "is_loose" (defScope s_is_loose) s.heap.objs.size f cdv)) := hr.mono hk
  have hu := hu_of hr
  exact (pss_cons (ps_expr (pe_cal c_must_be_part (hr.mono (by decide)) (by rfl) (pa_cons (pv 0) (pa_cons (pv 1) pa_nil))))
  (pss_one (ps_ret (pe_cmpR op_eq (pe_callB call_len_seq (by rfl) T.z_len (by decide +kernel) (pa_cons (pe_cal c_order_of (hr.mono (by decide)) (by rfl) (pa_cons (pv 0) (pa_cons (pv 1) pa_nil))) pa_nil)) (pe_ix ix_list (pe_ix ix_tup (pv 0) pe_int (fun _ _ => rfl)) (pv 1) (fun _ _ => rfl)) (nomark _)))))

abbrev s_must_be_loose : Stmt := topS 19
theorem sc_must_be_loose : FnScope N_must_be_loose ["web", "part"] (defScope s_must_be_loose) := ⟨rfl, rfl, rfl, by decide +kernel, rfl, by decide +kernel, by decide +kernel⟩
theorem der_must_be_loose (T : Txt K mg) (c_is_loose : Cal P w K mg base 6 "is_loose" ["web", "part"] (sp_is_loose K)) {k : Nat} (hk : 6 ≤ k) (hr : Room k (A.deeper (envOfC "must_be_loose" (defScope s_must_be_loose) s.heap.objs.size f cdv))) : PSs (cxOf CX0 P w K mg base N_must_be_loose "must_be_loose" (defScope s_must_be_loose) f cdv A outer s H E).nox (defBody s_must_be_loose) (tr_must_be_loose K) := by
  have hr : Room 6 (A.deeper (envOfC "must_be_loose" (defScope s_must_be_loose) s.heap.objs.size f cdv)) := hr.mono hk
  have hu := hu_of hr
  exact (pss_one (ps_if (pt_not (pt_val (pe_cal c_is_loose (hr.mono (by decide)) (by rfl) (pa_cons (pv 0) (pa_cons (pv 1) pa_nil))))) (pss_one ps_never) pss_nil))

abbrev s_ways : Stmt := topS 21
theorem sc_ways : FnScope N_ways ["web", "part"] (defScope s_ways) := ⟨rfl, rfl, rfl, by decide +kernel, rfl, by decide +kernel, by decide +kernel⟩
theorem der_ways (T : Txt K mg) (c_must_be_loose : Cal P w K mg base 7 "must_be_loose" ["web", "part"] (sp_must_be_loose K)) (c_ways_on : Cal P w K mg base 4 "ways_on" ["web", "part"] (sp_ways_on K)) {k : Nat} (hk : 7 ≤ k) (hr : Room k (A.deeper (envOfC "ways" (defScope s_ways) s.heap.objs.size f cdv))) : PSs (cxOf CX0 P w K mg base N_ways "ways" (defScope s_ways) f cdv A outer s H E).nox (defBody s_ways) (tr_ways K) := by
  have hr : Room 7 (A.deeper (envOfC "ways" (defScope s_ways) s.heap.objs.size f cdv)) := hr.mono hk
  have hu := hu_of hr
  exact (pss_cons (ps_expr (pe_cal c_must_be_loose (hr.mono (by decide)) (by rfl) (pa_cons (pv 0) (pa_cons (pv 1) pa_nil))))
  (pss_one (ps_ret (pe_dget hu (pe_cal c_ways_on (hr.mono (by decide)) (by rfl) (pa_cons (pv 0) (pa_cons (pv 1) pa_nil))) pe_int (fun _ _ => rfl)))))

abbrev s_worths : Stmt := topS 24
theorem sc_worths : FnScope N_worths ["web", "part"] (defScope s_worths) := ⟨rfl, rfl, rfl, by decide +kernel, rfl, by decide +kernel, by decide +kernel⟩
theorem der_worths (T : Txt K mg) (c_must_be_loose : Cal P w K mg base 7 "must_be_loose" ["web", "part"] (sp_must_be_loose K)) (c_weighed : Cal P w K mg base 5 "weighed" ["web", "part"] (sp_weighed K)) {k : Nat} (hk : 7 ≤ k) (hr : Room k (A.deeper (envOfC "worths" (defScope s_worths) s.heap.objs.size f cdv))) : PSs (cxOf CX0 P w K mg base N_worths "worths" (defScope s_worths) f cdv A outer s H E).nox (defBody s_worths) (tr_worths K) := by
  have hr : Room 7 (A.deeper (envOfC "worths" (defScope s_worths) s.heap.objs.size f cdv)) := hr.mono hk
  have hu := hu_of hr
  exact (pss_cons (ps_expr (pe_cal c_must_be_loose (hr.mono (by decide)) (by rfl) (pa_cons (pv 0) (pa_cons (pv 1) pa_nil))))
  (pss_one (ps_ret (pe_cal c_weighed (hr.mono (by decide)) (by rfl) (pa_cons (pv 0) (pa_cons (pv 1) pa_nil))))))

abbrev s_number_of : Stmt := topS 26
theorem sc_number_of : FnScope N_number_of ["web", "part", "way"] (defScope s_number_of) := ⟨rfl, rfl, rfl, by decide +kernel, rfl, by decide +kernel, by decide +kernel⟩
theorem der_number_of (T : Txt K mg) (c_must_be_loose : Cal P w K mg base 7 "must_be_loose" ["web", "part"] (sp_must_be_loose K)) (c_weighed : Cal P w K mg base 5 "weighed" ["web", "part"] (sp_weighed K)) (c_is_going : Cal P w K mg base 3 "is_going" ["web", "part", "rows"] (sp_is_going K)) {k : Nat} (hk : 7 ≤ k) (hr : Room k (A.deeper (envOfC "number_of" (defScope s_number_of) s.heap.objs.size f cdv))) : PSs (cxOf CX0 P w K mg base N_number_of "number_of" (defScope s_number_of) f cdv A outer s H E).nox (defBody s_number_of) (tr_number_of K) := by
  have hr : Room 7 (A.deeper (envOfC "number_of" (defScope s_number_of) s.heap.objs.size f cdv)) := hr.mono hk
  have hu := hu_of hr
  exact (pss_cons (ps_expr (pe_cal c_must_be_loose (hr.mono (by decide)) (by rfl) (pa_cons (pv 0) (pa_cons (pv 1) pa_nil))))
  (pss_cons (ps_if (pt_not (pt_val (pe_cal c_is_going (hr.mono (by decide)) (by rfl) (pa_cons (pv 0) (pa_cons (pv 1) (pa_cons (pv 2) pa_nil)))))) (pss_one ps_never) pss_nil)
  (pss_cons (ps_set (i := 3) sc_number_of.nd rfl (.inr rfl) (pe_cal c_weighed (hr.mono (by decide)) (by rfl) (pa_cons (pv 0) (pa_cons (pv 1) pa_nil))))
  (pss_one (ps_ret (pe_callB (cr_sum rfl) (by rfl) T.z_sum (by decide +kernel) (pa_cons (pe_lc (own := [("k", 4)]) (g := (gName 4)) (tt := tYes) rfl sc_number_of.nd (pi_list (pv 2)) (blkOk_by (N := N_number_of) (sc := defScope s_number_of) (by decide +kernel)) (fun _ _ _ _ _ => (pg_name (i := 4) sc_number_of.nd rfl (.inl rfl))) (fun _ _ _ _ _ => pts_nil) (fun _ _ _ _ _ => (pe_ix ix_list (pv 3) (pv 4) (fun _ _ => rfl)))) pa_nil)))))))

abbrev s_way_of : Stmt := topS 28
theorem sc_way_of : FnScope N_way_of ["web", "part", "number"] (defScope s_way_of) := ⟨rfl, rfl, rfl, by decide +kernel, rfl, by decide +kernel, by decide +kernel⟩
theorem der_way_of (T : Txt K mg) (c_must_be_loose : Cal P w K mg base 7 "must_be_loose" ["web", "part"] (sp_must_be_loose K)) (c_way_by : Cal P w K mg base 3 "way_by" ["web", "part", "worth", "number"] (sp_way_by K)) (c_weighed : Cal P w K mg base 5 "weighed" ["web", "part"] (sp_weighed K)) (c_ways_on : Cal P w K mg base 4 "ways_on" ["web", "part"] (sp_ways_on K)) {k : Nat} (hk : 7 ≤ k) (hr : Room k (A.deeper (envOfC "way_of" (defScope s_way_of) s.heap.objs.size f cdv))) : PSs (cxOf CX0 P w K mg base N_way_of "way_of" (defScope s_way_of) f cdv A outer s H E).nox (defBody s_way_of) (tr_way_of K) := by
  have hr : Room 7 (A.deeper (envOfC "way_of" (defScope s_way_of) s.heap.objs.size f cdv)) := hr.mono hk
  have hu := hu_of hr
  exact (pss_cons (ps_expr (pe_cal c_must_be_loose (hr.mono (by decide)) (by rfl) (pa_cons (pv 0) (pa_cons (pv 1) pa_nil))))
  (pss_cons (ps_if (PW.pt (pw_or (pt_cmpR op_lt (pv 2) pe_int (nomark _)) (pw_or1 (pt_cmpR op_ge (pv 2) (pe_dget hu (pe_cal c_ways_on (hr.mono (by decide)) (by rfl) (pa_cons (pv 0) (pa_cons (pv 1) pa_nil))) pe_int (fun _ _ => rfl)) (nomark _))))) (pss_one ps_never) pss_nil)
  (pss_one (ps_ret (pe_cal c_way_by (hr.mono (by decide)) (by rfl) (pa_cons (pv 0) (pa_cons (pv 1) (pa_cons (pe_cal c_weighed (hr.mono (by decide)) (by rfl) (pa_cons (pv 0) (pa_cons (pv 1) pa_nil))) (pa_cons (pv 2) pa_nil)))))))))

abbrev s_law : Stmt := topS 44
theorem sc_law : FnScope N_law ["_law_script"] (defScope s_law) := ⟨rfl, rfl, rfl, by decide +kernel, rfl, by decide +kernel, by decide +kernel⟩
theorem der_law (T : Txt K mg) (c_law_purse : Cal P w K mg base 1 "_law_purse" ["_law_script"] (sp_law_purse K)) (c_law_web : Cal P w K mg base 4 "_law_web" ["_law_purse_here", "_law_loose"] (sp_law_web K)) (c_law_draw : Cal P w K mg base 1 "_law_draw" ["_law_purse_here", "_law_out_of"] (sp_law_draw K)) (c_law_alone : Cal P w K mg base 1 "_law_alone" ["_law_web_here", "_law_part_here"] (sp_law_alone K)) (c_ways : Cal P w K mg base 8 "ways" ["web", "part"] (sp_ways K)) (c_worths : Cal P w K mg base 8 "worths" ["web", "part"] (sp_worths K)) (c_way_of : Cal P w K mg base 8 "way_of" ["web", "part", "number"] (sp_way_of K)) (c_law_goes : Cal P w K mg base 2 "_law_goes" ["_law_web_here", "_law_part_here", "_law_rows"] (sp_law_goes K)) (c_number_of : Cal P w K mg base 8 "number_of" ["web", "part", "way"] (sp_number_of K)) (c_law_through : Cal P w K mg base 3 "_law_through" ["_law_web_here", "_law_part_here", "_law_k"] (sp_law_through K)) {k : Nat} (hk : 8 ≤ k) (hr : Room k (A.deeper (envOfC "law" (defScope s_law) s.heap.objs.size f cdv))) : PSs (cxOf CX0 P w K mg base N_law "law" (defScope s_law) f cdv A outer s H E).nox (defBody s_law) (tr_law K) := by
  have hr : Room 8 (A.deeper (envOfC "law" (defScope s_law) s.heap.objs.size f cdv)) := hr.mono hk
  have hu := hu_of hr
  exact (pss_cons (ps_set (i := 1) sc_law.nd rfl (.inr rfl) (pe_cal c_law_purse (hr.mono (by decide)) (by rfl) (pa_cons (pv 0) pa_nil)))
  (pss_cons (ps_set (i := 2) sc_law.nd rfl (.inl rfl) (pe_cal c_law_web (hr.mono (by decide)) (by rfl) (pa_cons (pv 1) (pa_cons pe_bl pa_nil))))
  (pss_cons (ps_set (i := 3) sc_law.nd rfl (.inl rfl) (pe_cal c_law_draw (hr.mono (by decide)) (by rfl) (pa_cons (pv 1) (pa_cons (pe_callB call_len_seq (by rfl) T.z_len (by decide +kernel) (pa_cons (pe_ix ix_tup (pv 2) pe_int (fun _ _ => rfl)) pa_nil)) pa_nil))))
  (pss_cons (ps_asg (pe_cal c_law_alone (hr.mono (by decide)) (by rfl) (pa_cons (pv 2) (pa_cons (pv 3) pa_nil))) (pg_tup rfl (pgs_cons (pg_name (i := 4) sc_law.nd rfl (.inr rfl)) (pgs_cons (pg_name (i := 5) sc_law.nd rfl (.inl rfl)) pgs_nil))))
  (pss_cons (ps_set (i := 6) sc_law.nd rfl (.inr rfl) (pe_cal c_ways (hr.mono (by decide)) (by rfl) (pa_cons (pv 2) (pa_cons (pv 3) pa_nil))))
  (pss_cons (ps_set (i := 7) sc_law.nd rfl (.inr rfl) (pe_cal c_worths (hr.mono (by decide)) (by rfl) (pa_cons (pv 2) (pa_cons (pv 3) pa_nil))))
  (pss_cons (ps_if (PW.pt (pw_or (pt_cmpR op_ne (pe_cal c_ways (hr.mono (by decide)) (by rfl) (pa_cons (pv 5) (pa_cons pe_int pa_nil))) (pv 6) (nomark _)) (pw_or1 (pt_cmpR (op_neD hr.units) (pe_cal c_worths (hr.mono (by decide)) (by rfl) (pa_cons (pv 5) (pa_cons pe_int pa_nil))) (pe_lc (own := [("_law_k", 10)]) (g := (gName 10)) (tt := tYes) rfl sc_law.nd (pi_list (pv 4)) (blkOk_by (N := N_law) (sc := defScope s_law) (by decide +kernel)) (fun _ _ _ _ _ => (pg_name (i := 10) sc_law.nd rfl (.inl rfl))) (fun _ _ _ _ _ => pts_nil) (fun _ _ _ _ _ => (pe_ix ix_list (pv 7) (pv 10) (fun _ _ => rfl)))) (nomark _))))) (pss_one (ps_ret pe_bl)) pss_nil)
  (pss_cons (ps_for PassesOwn.never rfl (pi_list (pe_op op_cat (pe_lst (pa_cons pe_int (pa_cons (pe_op op_sub (pv 6) pe_int) pa_nil))) (pe_lc (own := [("_law_k", 10)]) (g := (gName 10)) (tt := tYes) rfl sc_law.nd (pi_range1 (by rfl) T.z_range (pa_cons pe_int pa_nil)) (blkOk_by (N := N_law) (sc := defScope s_law) (by decide +kernel)) (fun _ _ _ _ _ => (pg_name (i := 10) sc_law.nd rfl (.inl rfl))) (fun _ _ _ _ _ => pts_nil) (fun _ _ _ _ _ => (pe_cal c_law_draw (hr.mono (by decide)) (by rfl) (pa_cons (pv 1) (pa_cons (pv 6) pa_nil))))))) (pg_name (i := 8) sc_law.nd rfl (.inl rfl)) (pss_cons (ps_set (i := 9) sc_law.nd rfl (.inl rfl) (pe_cal c_way_of (hr.mono (by decide)) (by rfl) (pa_cons (pv 5) (pa_cons pe_int (pa_cons (pv 8) pa_nil)))))
  (pss_one (ps_if (pt_cmpR (op_neD hr.units) (pe_cal c_way_of (hr.mono (by decide)) (by rfl) (pa_cons (pv 2) (pa_cons (pv 3) (pa_cons (pv 8) pa_nil)))) (pe_lc (own := [("_law_k", 10)]) (g := (gName 10)) (tt := tYes) rfl sc_law.nd (pi_list (pv 9)) (blkOk_by (N := N_law) (sc := defScope s_law) (by decide +kernel)) (fun _ _ _ _ _ => (pg_name (i := 10) sc_law.nd rfl (.inl rfl))) (fun _ _ _ _ _ => pts_nil) (fun _ _ _ _ _ => (pe_ix ix_list (pv 4) (pv 10) (fun _ _ => rfl)))) (nomark _)) (pss_one (ps_ret pe_bl)) pss_nil))))
  (pss_cons (ps_set (i := 10) sc_law.nd rfl (.inr rfl) (pe_cal c_law_draw (hr.mono (by decide)) (by rfl) (pa_cons (pv 1) (pa_cons (pe_callB call_len_seq (by rfl) T.z_len (by decide +kernel) (pa_cons (pv 4) pa_nil)) pa_nil))))
  (pss_cons (ps_set (i := 11) sc_law.nd rfl (.inl rfl) (pe_tup (pa_cons (pe_callTy call_list_of (by rfl) T.z_list (by decide +kernel) (pa_cons (pe_ix ix_tup (pv 5) pe_int (fun _ _ => rfl)) pa_nil)) (pa_cons (pe_op op_cat (pe_ix ix_tup (pv 5) pe_int (fun _ _ => rfl)) (pe_lst (pa_cons (pe_ix ix_list (pe_ix ix_tup (pv 5) pe_int (fun _ _ => rfl)) (pv 10) (fun _ _ => rfl)) pa_nil))) pa_nil))))
  (pss_cons (ps_if (pt_cmpR op_ne (pe_cal c_ways (hr.mono (by decide)) (by rfl) (pa_cons (pv 11) (pa_cons pe_int pa_nil))) (pe_op op_add (pv 6) (pe_cal c_law_through (hr.mono (by decide)) (by rfl) (pa_cons (pv 2) (pa_cons (pv 3) (pa_cons (pe_ix ix_list (pv 4) (pv 10) (fun _ _ => rfl)) pa_nil))))) (nomark _)) (pss_one (ps_ret pe_bl)) pss_nil)
  (pss_cons (ps_set (i := 9) sc_law.nd rfl (.inl rfl) (pe_cal c_way_of (hr.mono (by decide)) (by rfl) (pa_cons (pv 5) (pa_cons pe_int (pa_cons (pe_cal c_law_draw (hr.mono (by decide)) (by rfl) (pa_cons (pv 1) (pa_cons (pv 6) pa_nil))) pa_nil)))))
  (pss_cons (ps_setLc (i := 12) (own := [("_law_j", 13)]) (g := (gName 13)) (tt := tYes) rfl sc_law.nd rfl rfl (sw_true rfl rfl rfl (by decide +kernel)) (pi_list (pv 9)) (blkOk_by (N := N_law) (sc := defScope s_law) (by decide +kernel)) (fun _ _ _ _ _ => (pg_name (i := 13) sc_law.nd rfl (.inl rfl))) (fun _ _ _ _ _ => pts_nil) (fun _ _ _ _ _ => (pe_ix ix_list (pe_lst (pa_cons (pv 13) (pa_cons (pe_callB call_len_seq (by rfl) T.z_len (by decide +kernel) (pa_cons (pv 4) pa_nil)) pa_nil))) (pe_callTy call_int1 (by rfl) T.z_int (by decide +kernel) (pa_cons (pe_cmpR op_eq (pv 13) (pv 10) (nomark _)) pa_nil)) (fun _ _ => rfl))))
  (pss_cons (ps_if (pt_cmpR op_lt (pe_cal c_number_of (hr.mono (by decide)) (by rfl) (pa_cons (pv 11) (pa_cons pe_int (pa_cons (pv 12) pa_nil)))) (pe_cal c_number_of (hr.mono (by decide)) (by rfl) (pa_cons (pv 11) (pa_cons pe_int (pa_cons (pv 9) pa_nil)))) (nomark _)) (pss_one (ps_ret pe_bl)) pss_nil)
  (pss_one (ps_ret (pe_cal c_law_goes (hr.mono (by decide)) (by rfl) (pa_cons (pv 11) (pa_cons pe_int (pa_cons (pe_cal c_way_of (hr.mono (by decide)) (by rfl) (pa_cons (pv 11) (pa_cons pe_int (pa_cons (pe_op op_sub (pe_cal c_ways (hr.mono (by decide)) (by rfl) (pa_cons (pv 11) (pa_cons pe_int pa_nil))) pe_int) pa_nil)))) pa_nil))))))))))))))))))))

end
end FC
namespace FC
open PySem PySem.Spec PyProof.Rows L2 Evl
section
variable {K : PySem.W.Frag} {σ : L2.St} {H H' : Hp} {wa : Addr} {W : Web} {tw tk : TE}
theorem WebAt.mono (h : WebAt H wa W) (e : Ex H H') : WebAt H' wa W := by
  obtain ⟨pa, ra, rr, h1, h2, h3, h4, h5⟩ := h.ex
  exact ⟨pa, ra, rr, e _ _ h1, e _ _ h2, e _ _ h3, h4, fun i q r a b => e _ _ (h5 i q r a b)⟩
theorem iv_get {l : List Nat} {i n : Nat} (h : l[i]? = some n) : (iv l)[i]? = some (.int n) := by
  unfold iv
  rw [List.getElem?_map, h]
  rfl
theorem iv_len (l : List Nat) : (iv l).length = l.length := by unfold iv; rw [List.length_map]
theorem Web.row_get {W : Web} {k : Nat} (h : k < W.rs.length) : W.rs[k]? = some (W.row k) := by
  unfold Web.row
  rw [List.getD_eq_getElem?_getD, List.getElem?_eq_getElem h]
  rfl
theorem pl_get {W : Web} {p : Nat} (h : p < W.ps.length) : W.ps[p]? = some (pl W p) := by
  unfold pl
  rw [List.getD_eq_getElem?_getD, List.getElem?_eq_getElem h]
  rfl
theorem ev_nrows (h : WebAt H wa W) (hw : Ev tw σ H (.ref wa)) : Ev (tCB (rLenS K) (tCons (tOp (rIxT K) tw (tC (.int 1))) tNil)) σ H (.int (W.rs.length : Int)) := by
  obtain ⟨pa, ra, rr, h1, h2, h3, h4, h5⟩ := h.ex
  have := ev_len (K := K) (ev_op hw ev_c (rv_ixT (K := K) (i := 1) (v := .ref ra) (st_of h1) rfl)) (sq_of h3)
  rw [List.length_map, h4] at this
  exact this
theorem ev_nplaces (h : WebAt H wa W) (hw : Ev tw σ H (.ref wa)) : Ev (tCB (rLenS K) (tCons (tOp (rIxT K) tw (tC (.int 0))) tNil)) σ H (.int (W.ps.length : Int)) := by
  obtain ⟨pa, ra, rr, h1, h2, h3, h4, h5⟩ := h.ex
  have := ev_len (K := K) (ev_op hw ev_c (rv_ixT (K := K) (i := 0) (v := .ref pa) (st_of h1) rfl)) (sq_of h2)
  rw [iv_len] at this
  exact this
theorem ev_pl {p : Nat} (h : WebAt H wa W) (hp : p < W.ps.length) (hw : Ev tw σ H (.ref wa)) (hi : Ev tk σ H (.int (p : Int))) : Ev (tOp (rIxL K) (tOp (rIxT K) tw (tC (.int 0))) tk) σ H (.int (pl W p : Int)) := by
  obtain ⟨pa, ra, rr, h1, h2, h3, h4, h5⟩ := h.ex
  exact ev_op (ev_op hw ev_c (rv_ixT (K := K) (i := 0) (v := .ref pa) (st_of h1) rfl)) hi (rv_ixL (sq_of h2) (atI_nat (iv_get (pl_get hp))))
theorem ev_rowk {k : Nat} (h : WebAt H wa W) (hk : k < W.rs.length) (hw : Ev tw σ H (.ref wa)) (hi : Ev tk σ H (.int (k : Int))) : ∃ q, H q = some (.tup (rowV (W.row k))) ∧ Ev (tOp (rIxL K) (tOp (rIxT K) tw (tC (.int 1))) tk) σ H (.ref q) := by
  obtain ⟨pa, ra, rr, h1, h2, h3, h4, h5⟩ := h.ex
  have hr : k < rr.length := by omega
  have g : rr[k]? = some rr[k] := List.getElem?_eq_getElem hr
  refine ⟨rr[k], h5 k _ _ g (Web.row_get hk), ?_⟩
  have g2 : (rr.map V.ref)[k]? = some (.ref rr[k]) := by rw [List.getElem?_map, g]; rfl
  exact ev_op (ev_op hw ev_c (rv_ixT (K := K) (i := 1) (v := .ref ra) (st_of h1) rfl)) hi (rv_ixL (sq_of h3) (atI_nat g2))
theorem ev_part {k : Nat} (h : WebAt H wa W) (hk : k < W.rs.length) (hw : Ev tw σ H (.ref wa)) (hi : Ev tk σ H (.int (k : Int))) :
    Ev (tOp (rIxT K) (tOp (rIxL K) (tOp (rIxT K) tw (tC (.int 1))) tk) (tC (.int 0))) σ H (.int ((W.row k).p : Int)) := by
  obtain ⟨q, g, e⟩ := ev_rowk (K := K) h hk hw hi
  exact ev_op e ev_c (rv_ixT (K := K) (i := 0) (st_of g) rfl)
theorem ev_from {k : Nat} (h : WebAt H wa W) (hk : k < W.rs.length) (hw : Ev tw σ H (.ref wa)) (hi : Ev tk σ H (.int (k : Int))) :
    Ev (tOp (rIxT K) (tOp (rIxL K) (tOp (rIxT K) tw (tC (.int 1))) tk) (tC (.int 1))) σ H (.int (W.fr k : Int)) := by
  obtain ⟨q, g, e⟩ := ev_rowk (K := K) h hk hw hi
  exact ev_op e ev_c (rv_ixT (K := K) (i := 1) (st_of g) rfl)
theorem ev_to {k : Nat} (h : WebAt H wa W) (hk : k < W.rs.length) (hw : Ev tw σ H (.ref wa)) (hi : Ev tk σ H (.int (k : Int))) :
    Ev (tOp (rIxT K) (tOp (rIxL K) (tOp (rIxT K) tw (tC (.int 1))) tk) (tC (.int 2))) σ H (.int (W.to k : Int)) := by
  obtain ⟨q, g, e⟩ := ev_rowk (K := K) h hk hw hi
  exact ev_op e ev_c (rv_ixT (K := K) (i := 2) (st_of g) rfl)
theorem dec_nat {a b : Nat} : decide (V.int (a : Int) = V.int (b : Int)) = decide (a = b) := by
  have : (V.int (a : Int) = V.int (b : Int)) ↔ a = b := ⟨fun h => by injection h with h; omega, fun h => by rw [h]⟩
  exact decide_eq_decide.mpr this
/-- == of two naturals -/
theorem et_eqN {ta tb : TE} {a b : Nat} (ha : Ev ta σ H (.int (a : Int))) (hb : Ev tb σ H (.int (b : Int))) : EvT (tTest (tOp rEq ta tb)) σ H (decide (a = b)) := by
  have := et_test (ev_op ha hb (rv_eq (by rfl)))
  rw [dec_nat] at this
  exact this
theorem et_neN {ta tb : TE} {a b : Nat} (ha : Ev ta σ H (.int (a : Int))) (hb : Ev tb σ H (.int (b : Int))) : EvT (tTest (tOp rNe ta tb)) σ H (!decide (a = b)) := by
  have := et_test (ev_op ha hb (rv_ne (by rfl)))
  rw [dec_nat] at this
  exact this
theorem own_lt {W : Web} {p k : Nat} (h : k ∈ own W p) : k < W.rs.length := by
  unfold own at h
  rw [List.mem_filter, List.mem_range] at h
  exact h.1
theorem own_part {W : Web} {p k : Nat} (h : k ∈ own W p) : (W.row k).p = p := by
  unfold own at h
  rw [List.mem_filter] at h
  simpa using h.2
theorem own_len (W : Web) (p : Nat) : (own W p).length ≤ W.rs.length := by
  unfold own
  have := List.length_filter_le (fun k => decide ((W.row k).p = p)) (List.range W.rs.length)
  rwa [List.length_range] at this
end
section
variable {K : PySem.W.Frag} {H : Hp} {vs : List V} {Q : VK} {E : XK}
/-- how a reading is wanted of a def -/
abbrev Rds (sp : Sp) (N : List Str) (tr : TS) : Prop := ∀ (vs : List V) (H : Hp) (Q : VK) (E : XK), sp vs H Q E → vs.length ≤ N.length → tr { nx := fun _ H' => Q .non H', rt := Q } (start N vs) H
theorem rd_rows_of (h : sp_rows_of K vs H Q E) : tr_rows_of K { nx := fun _ H' => Q .non H', rt := Q } (start N_rows_of vs) H := by
  obtain ⟨wa, W, p, rfl, hW, G, hp, q⟩ := h
  unfold tr_rows_of
  refine s_retL (xs := iv (own W p)) ?_ (fun pp H1 n e h1 => q pp H1 n e h1)
  have nr := G.nr
  exact el_lcR1 (f := fun i => decide ((W.row i).p = p)) (v := fun i => .int i) (ea_cons (ev_nrows hW (ev_var rfl)) ea_nil) ⟨by omega, by omega⟩ (fun x => rfl)
    (fun i H1 e hi => et_eqN (ev_part (hW.mono e) (by omega) (ev_var rfl) (ev_var rfl)) (ev_var rfl)) (fun i H1 e hi hf => ev_var rfl)
end
end FC
namespace FC
open PySem PySem.Spec PyProof.Rows L2 Evl
/-! ### helpers: lists of naturals -/
theorem range_getD (l : List Nat) : (List.range l.length).map (fun i => l.getD i 0) = l := by
  apply List.ext_getElem?
  intro i
  rw [List.getElem?_map]
  by_cases h : i < l.length
  · rw [List.getElem?_range h, Option.map_some, List.getD_eq_getElem?_getD, List.getElem?_eq_getElem h]; rfl
  · rw [List.getElem?_eq_none (by simp; omega), List.getElem?_eq_none (by omega)]; rfl
theorem given_iv (l : List Nat) (pN : Nat → Bool) (vN : Nat → V) : given l.length (fun i => pN (l.getD i 0)) (fun i => vN (l.getD i 0)) = (l.filter pN).map vN := by
  unfold given
  have h : (l.filter pN) = ((List.range l.length).filter (fun i => pN (l.getD i 0))).map (fun i => l.getD i 0) := by
    have := List.filter_map (f := fun i => l.getD i 0) (p := pN) (l := List.range l.length)
    rw [range_getD] at this
    exact this
  rw [h, List.map_map]
  rfl
theorem iv_at {l : List Nat} {i : Nat} {x : V} (h : (iv l)[i]? = some x) : ∃ k, l[i]? = some k ∧ x = .int k ∧ l.getD i 0 = k ∧ k ∈ l := by
  unfold iv at h
  rw [List.getElem?_map] at h
  cases g : l[i]? with
  | none => rw [g] at h; cases h
  | some k =>
    rw [g] at h
    refine ⟨k, rfl, (Option.some.inj h).symm, ?_, List.mem_of_getElem? g⟩
    rw [List.getD_eq_getElem?_getD, g]; rfl
section
variable {K : PySem.W.Frag} {σ : L2.St} {H H' : Hp} {tl te : TE} {t : TT} {j : Nat} {vs : List Nat}
theorem et_yes : EvT tYes σ H true := fun H1 e Q k => k H1 (Ex.refl _)
theorem el_lcIv {l : List Nat} (pN : Nat → Bool) (vN : Nat → V) (h : EvL tl σ H (iv l)) (hz : l.length ≤ 40000) (hw : ∀ x, wipe ((wipe σ vs).set j (some x)) vs = wipe σ vs)
    (ht : ∀ (k : Nat) H1, Ex H H1 → k ∈ l → EvT t ((wipe σ vs).set j (some (.int (k : Int)))) H1 (pN k)) (he : ∀ (k : Nat) H1, Ex H H1 → k ∈ l → pN k = true → Ev te ((wipe σ vs).set j (some (.int (k : Int)))) H1 (vN k)) :
    EvL (tLc (iList K tl) (gName j) t te vs) σ H ((l.filter pN).map vN) := by
  have := el_lcNL (K := K) (t := t) (te := te) (fun i => pN (l.getD i 0)) (fun i => vN (l.getD i 0)) h (by rw [iv_len]; exact hz) hw
    (fun i x H1 e hx => by obtain ⟨k, h1, rfl, h3, h4⟩ := iv_at hx; rw [h3]; exact ht k H1 e h4)
    (fun i x H1 e hx hf => by obtain ⟨k, h1, rfl, h3, h4⟩ := iv_at hx; rw [h3] at hf ⊢; exact he k H1 e h4 hf)
  rw [iv_len, given_iv] at this
  exact this
theorem el_lcIvE {l : List Nat} {a : Addr} (pN : Nat → Bool) (vN : Nat → V) (h : Ev tl σ H (.ref a)) (hx : H a = some (.lst (iv l))) (hz : l.length ≤ 40000) (hw : ∀ x, wipe ((wipe σ vs).set j (some x)) vs = wipe σ vs)
    (ht : ∀ (k : Nat) H1, Ex H H1 → k ∈ l → EvT t ((wipe σ vs).set j (some (.int (k : Int)))) H1 (pN k)) (he : ∀ (k : Nat) H1, Ex H H1 → k ∈ l → pN k = true → Ev te ((wipe σ vs).set j (some (.int (k : Int)))) H1 (vN k)) :
    EvL (tLc (iList K tl) (gName j) t te vs) σ H ((l.filter pN).map vN) := by
  have := el_lcL (K := K) (t := t) (te := te) (fun i => pN (l.getD i 0)) (fun i => vN (l.getD i 0)) h (sq_of hx) (by rw [iv_len]; exact hz) hw
    (fun i x H1 e hx => by obtain ⟨k, h1, rfl, h3, h4⟩ := iv_at hx; rw [h3]; exact ht k H1 e h4)
    (fun i x H1 e hx hf => by obtain ⟨k, h1, rfl, h3, h4⟩ := iv_at hx; rw [h3] at hf ⊢; exact he k H1 e h4 hf)
  rw [iv_len, given_iv] at this
  exact this
theorem inV_iv (a : Nat) (l : List Nat) : inV (.int (a : Int)) (iv l) = decide (a ∈ l) := by
  induction l with
  | nil => simp [iv, inV]
  | cons b r ih =>
    have : inV (.int (a : Int)) (iv (b :: r)) = ((((b : Int) == (a : Int))) || inV (.int (a : Int)) (iv r)) := rfl
    rw [this, ih]
    by_cases h : a = b
    · subst h; simp
    · have h2 : ¬ b = a := fun z => h z.symm
      have h3 : ((b : Int) == (a : Int)) = false := by
        rw [beq_eq_false_iff_ne]; omega
      simp [h3, h, h2]
theorem flat_iv (l : List Nat) : (iv l).all flatV = true := by
  unfold iv
  rw [List.all_map, List.all_eq_true]
  intro x _
  rfl
theorem et_inIv {ta tb : TE} {a : Nat} {p : Addr} {l : List Nat} (ha : Ev ta σ H (.int (a : Int))) (hb : Ev tb σ H (.ref p)) (hp : H p = some (.lst (iv l))) : EvT (tTest (tOp (rIn K false) ta tb)) σ H (decide (a ∈ l)) := by
  have := et_test (ev_op ha hb (rv_isL (K := K) (x := .int (a : Int)) (sq_of hp) rfl (flat_iv l)))
  rw [inV_iv] at this
  exact this
theorem et_niIv {ta tb : TE} {a : Nat} {p : Addr} {l : List Nat} (ha : Ev ta σ H (.int (a : Int))) (hb : Ev tb σ H (.ref p)) (hp : H p = some (.lst (iv l))) : EvT (tTest (tOp (rIn K true) ta tb)) σ H (!decide (a ∈ l)) := by
  have := et_test (ev_op ha hb (rv_niL (K := K) (x := .int (a : Int)) (sq_of hp) rfl (flat_iv l)))
  rw [inV_iv] at this
  exact this
theorem et_niNew {ta tb : TE} {a : Nat} {l : List Nat} (ha : Ev ta σ H (.int (a : Int))) (hb : EvL tb σ H (iv l)) : EvT (tTest (tOp (rIn K true) ta tb)) σ H (!decide (a ∈ l)) := by
  have := et_test (ev_opL (z := .bl (!decide (a ∈ l))) ha hb fun p H1 hp e => by
    have := rv_niL (K := K) (x := .int (a : Int)) (sq_of hp) rfl (flat_iv l)
    rw [inV_iv] at this
    exact this)
  exact this
end
/-! ### calls of what keeps the heap -/
section
variable {K : PySem.W.Frag} {σ : L2.St} {H : Hp} {wa : Addr} {W : Web} {p : Nat} {t0 t1 t2 t3 : TE}
theorem el_rows_of (hW : WebAt H wa W) (G : GoodWeb W) (hp : p < W.ps.length) (h0 : Ev t0 σ H (.ref wa)) (h1 : Ev t1 σ H (.int (p : Int))) : EvL (tCall (sp_rows_of K) [] E0 (tCons t0 (tCons t1 tNil))) σ H (iv (own W p)) :=
  el_call (ea_cons h0 (ea_cons h1 ea_nil)) fun H1 e Q k E => ⟨wa, W, p, rfl, hW.mono e, G, hp, k⟩
theorem el_led_to {sa : Addr} {sm : List Nat} (hW : WebAt H wa W) (G : GoodWeb W) (hp : p < W.ps.length) (hs : H sa = some (.lst (iv sm))) (h0 : Ev t0 σ H (.ref wa)) (h1 : Ev t1 σ H (.int (p : Int))) (h2 : Ev t2 σ H (.ref sa)) :
    EvL (tCall (sp_led_to K) [] E0 (tCons t0 (tCons t1 (tCons t2 tNil)))) σ H (iv (ledTo (es W p) sm)) :=
  el_call (ea_cons h0 (ea_cons h1 (ea_cons h2 ea_nil))) fun H1 e Q k E => ⟨wa, W, p, sa, sm, rfl, hW.mono e, G, hp, e _ _ hs, k⟩
theorem el_rows_from {q : Nat} (hW : WebAt H wa W) (G : GoodWeb W) (hp : p < W.ps.length) (h0 : Ev t0 σ H (.ref wa)) (h1 : Ev t1 σ H (.int (p : Int))) (h2 : Ev t2 σ H (.int (q : Int))) :
    EvL (tCall (sp_rows_from K) [] E0 (tCons t0 (tCons t1 (tCons t2 tNil)))) σ H (iv (rfrom W p q)) :=
  el_call (ea_cons h0 (ea_cons h1 (ea_cons h2 ea_nil))) fun H1 e Q k E => ⟨wa, W, p, q, rfl, hW.mono e, G, hp, k⟩
theorem ev_fits_row {ra : Addr} {r : Row} (hW : WebAt H wa W) (G : GoodWeb W) (hr : H ra = some (.tup (rowV r))) (hm : r ∈ W.rs) (h0 : Ev t0 σ H (.ref wa)) (h1 : Ev t1 σ H (.ref ra)) : Ev (tCall (sp_fits_row K) [] E0 (tCons t0 (tCons t1 tNil))) σ H (.bl true) :=
  ev_call (ea_cons h0 (ea_cons h1 ea_nil)) fun H1 e Q k E => ⟨wa, W, ra, r, rfl, hW.mono e, G, e _ _ hr, hm, k⟩
theorem ev_is_web (hW : WebAt H wa W) (G : GoodWeb W) (h0 : Ev t0 σ H (.ref wa)) : Ev (tCall (sp_is_web K) [] E0 (tCons t0 tNil)) σ H (.bl true) :=
  ev_call (ea_cons h0 ea_nil) fun H1 e Q k E => ⟨wa, W, rfl, hW.mono e, G, k⟩
theorem ev_must_be_web (hW : WebAt H wa W) (G : GoodWeb W) (h0 : Ev t0 σ H (.ref wa)) : Ev (tCall (sp_must_be_web K) [] E0 (tCons t0 tNil)) σ H .non :=
  ev_call (ea_cons h0 ea_nil) fun H1 e Q k E => ⟨wa, W, rfl, hW.mono e, G, k⟩
theorem ev_must_be_part (hW : WebAt H wa W) (G : GoodWeb W) (hp : p < W.ps.length) (h0 : Ev t0 σ H (.ref wa)) (h1 : Ev t1 σ H (.int (p : Int))) : Ev (tCall (sp_must_be_part K) [] E0 (tCons t0 (tCons t1 tNil))) σ H .non :=
  ev_call (ea_cons h0 (ea_cons h1 ea_nil)) fun H1 e Q k E => ⟨wa, W, p, rfl, hW.mono e, G, hp, k⟩
theorem ev_is_loose (hW : WebAt H wa W) (G : GoodWeb W) (hp : p < W.ps.length) (h0 : Ev t0 σ H (.ref wa)) (h1 : Ev t1 σ H (.int (p : Int))) : Ev (tCall (sp_is_loose K) [] E0 (tCons t0 (tCons t1 tNil))) σ H (.bl true) :=
  ev_call (ea_cons h0 (ea_cons h1 ea_nil)) fun H1 e Q k E => ⟨wa, W, p, rfl, hW.mono e, G, hp, k⟩
theorem ev_must_be_loose (hW : WebAt H wa W) (G : GoodWeb W) (hp : p < W.ps.length) (h0 : Ev t0 σ H (.ref wa)) (h1 : Ev t1 σ H (.int (p : Int))) : Ev (tCall (sp_must_be_loose K) [] E0 (tCons t0 (tCons t1 tNil))) σ H .non :=
  ev_call (ea_cons h0 (ea_cons h1 ea_nil)) fun H1 e Q k E => ⟨wa, W, p, rfl, hW.mono e, G, hp, k⟩
theorem ev_ways (hW : WebAt H wa W) (G : GoodWeb W) (hp : p < W.ps.length) (h0 : Ev t0 σ H (.ref wa)) (h1 : Ev t1 σ H (.int (p : Int))) : Ev (tCall (sp_ways K) [] E0 (tCons t0 (tCons t1 tNil))) σ H (.int (N W p 0)) :=
  ev_call (ea_cons h0 (ea_cons h1 ea_nil)) fun H1 e Q k E => ⟨wa, W, p, rfl, hW.mono e, G, hp, k⟩
theorem el_weighed (hW : WebAt H wa W) (G : GoodWeb W) (hp : p < W.ps.length) (h0 : Ev t0 σ H (.ref wa)) (h1 : Ev t1 σ H (.int (p : Int))) : EvL (tCall (sp_weighed K) [] E0 (tCons t0 (tCons t1 tNil))) σ H ((wtl W p).map V.int) :=
  el_call (ea_cons h0 (ea_cons h1 ea_nil)) fun H1 e Q k E => ⟨wa, W, p, rfl, hW.mono e, G, hp, k⟩
theorem el_worths (hW : WebAt H wa W) (G : GoodWeb W) (hp : p < W.ps.length) (h0 : Ev t0 σ H (.ref wa)) (h1 : Ev t1 σ H (.int (p : Int))) : EvL (tCall (sp_worths K) [] E0 (tCons t0 (tCons t1 tNil))) σ H ((wtl W p).map V.int) :=
  el_weighed hW G hp h0 h1
theorem ev_is_going {la : Addr} {way : List Nat} (hW : WebAt H wa W) (G : GoodWeb W) (hp : p < W.ps.length) (hl : H la = some (.lst (iv way))) (hw : IsWay W p 0 way) (h0 : Ev t0 σ H (.ref wa)) (h1 : Ev t1 σ H (.int (p : Int))) (h2 : Ev t2 σ H (.ref la)) :
    Ev (tCall (sp_is_going K) [] E0 (tCons t0 (tCons t1 (tCons t2 tNil)))) σ H (.bl true) :=
  ev_call (ea_cons h0 (ea_cons h1 (ea_cons h2 ea_nil))) fun H1 e Q k E => ⟨wa, W, p, la, way, rfl, hW.mono e, G, hp, e _ _ hl, hw, k⟩
theorem ev_number_of {la : Addr} {way : List Nat} (hW : WebAt H wa W) (G : GoodWeb W) (hp : p < W.ps.length) (hl : H la = some (.lst (iv way))) (hw : IsWay W p 0 way) (h0 : Ev t0 σ H (.ref wa)) (h1 : Ev t1 σ H (.int (p : Int))) (h2 : Ev t2 σ H (.ref la)) :
    Ev (tCall (sp_number_of K) [] E0 (tCons t0 (tCons t1 (tCons t2 tNil)))) σ H (.int (way.map (wtK W p)).sum) :=
  ev_call (ea_cons h0 (ea_cons h1 (ea_cons h2 ea_nil))) fun H1 e Q k E => ⟨wa, W, p, la, way, rfl, hW.mono e, G, hp, e _ _ hl, hw, k⟩
theorem el_way_by {wo : Addr} {num : Int} (hW : WebAt H wa W) (G : GoodWeb W) (hp : p < W.ps.length) (hl : H wo = some (.lst ((wtl W p).map V.int))) (hn : 0 ≤ num) (h0 : Ev t0 σ H (.ref wa)) (h1 : Ev t1 σ H (.int (p : Int))) (h2 : Ev t2 σ H (.ref wo)) (h3 : Ev t3 σ H (.int num)) :
    EvL (tCall (sp_way_by K) [] E0 (tCons t0 (tCons t1 (tCons t2 (tCons t3 tNil))))) σ H (iv (wayK W p 16 0 num)) :=
  el_call (ea_cons h0 (ea_cons h1 (ea_cons h2 (ea_cons h3 ea_nil)))) fun H1 e Q k E => ⟨wa, W, p, wo, num, rfl, hW.mono e, G, hp, e _ _ hl, hn, k⟩
theorem el_way_of {num : Int} (hW : WebAt H wa W) (G : GoodWeb W) (hp : p < W.ps.length) (hn : 0 ≤ num) (hm : num < N W p 0) (h0 : Ev t0 σ H (.ref wa)) (h1 : Ev t1 σ H (.int (p : Int))) (h2 : Ev t2 σ H (.int num)) :
    EvL (tCall (sp_way_of K) [] E0 (tCons t0 (tCons t1 (tCons t2 tNil)))) σ H (iv (wayK W p 16 0 num)) :=
  el_call (ea_cons h0 (ea_cons h1 (ea_cons h2 ea_nil))) fun H1 e Q k E => ⟨wa, W, p, num, rfl, hW.mono e, G, hp, hn, hm, k⟩
end
/-! ### the small ones -/
section
variable {K : PySem.W.Frag} {H : Hp} {vs : List V} {Q : VK} {E : XK}
theorem rd_rows_from (h : sp_rows_from K vs H Q E) : tr_rows_from K { nx := fun _ H' => Q .non H', rt := Q } (start N_rows_from vs) H := by
  obtain ⟨wa, W, p, q, rfl, hW, G, hp, k⟩ := h
  unfold tr_rows_from
  refine s_retL (xs := iv (rfrom W p q)) ?_ (fun pp H1 n e h1 => k pp H1 n e h1)
  have nr := G.nr
  have ol := own_len W p
  exact el_lcIv (fun k => decide (W.fr k = q)) (fun k => .int k) (el_rows_of hW G hp (ev_var rfl) (ev_var rfl)) (by omega) (fun x => rfl)
    (fun i H1 e hi => et_eqN (ev_from (hW.mono e) (own_lt hi) (ev_var rfl) (ev_var rfl)) (ev_var rfl)) (fun i H1 e hi hf => ev_var rfl)
theorem rd_led_to (h : sp_led_to K vs H Q E) : tr_led_to K { nx := fun _ H' => Q .non H', rt := Q } (start N_led_to vs) H := by
  obtain ⟨wa, W, p, sa, sm, rfl, hW, G, hp, hs, k⟩ := h
  unfold tr_led_to
  refine s_retL (xs := iv (ledTo (es W p) sm)) ?_ (fun pp H1 n e h1 => k pp H1 n e h1)
  have nr := G.nr
  have ol := own_len W p
  have e1 : iv (ledTo (es W p) sm) = ((own W p).filter (fun k => decide (W.fr k ∈ sm))).map (fun k => V.int (W.to k : Int)) := by
    unfold ledTo es iv
    rw [List.filter_map, List.map_map, List.map_map]
    rfl
  rw [e1]
  exact el_lcIv (fun k => decide (W.fr k ∈ sm)) (fun k => .int (W.to k : Int)) (el_rows_of hW G hp (ev_var rfl) (ev_var rfl)) (by omega) (fun x => rfl)
    (fun i H1 e hi => et_inIv (ev_from (hW.mono e) (own_lt hi) (ev_var rfl) (ev_var rfl)) (ev_var rfl) (e _ _ hs)) (fun i H1 e hi hf => ev_to (hW.mono e) (own_lt hi) (ev_var rfl) (ev_var rfl))
theorem rd_must_be_web (h : sp_must_be_web K vs H Q E) : tr_must_be_web K { nx := fun _ H' => Q .non H', rt := Q } (start N_must_be_web vs) H := by
  obtain ⟨wa, W, rfl, hW, G, k⟩ := h
  unfold tr_must_be_web
  exact s_when (et_not (et_B (ev_is_web hW G (ev_var rfl)))) (fun h => by cases h) (fun _ H1 e => k H1 e)
theorem rd_must_be_part (h : sp_must_be_part K vs H Q E) : tr_must_be_part K { nx := fun _ H' => Q .non H', rt := Q } (start N_must_be_part vs) H := by
  obtain ⟨wa, W, p, rfl, hW, G, hp, k⟩ := h
  unfold tr_must_be_part
  refine q_drop (ev_must_be_web hW G (ev_var rfl)) fun H1 e1 => ?_
  refine s_when (b := false) (et_is (et_or (a := false) (b := false) (et_is (et_test (ev_op (ev_var rfl) ev_c rv_I0)) ?_) fun _ => et_is (et_test (ev_op (ev_var rfl) (ev_nplaces (hW.mono e1) (ev_var rfl)) rv_I0)) ?_) rfl) (fun h => by cases h) (fun _ H2 e => k H2 (e1.trans e))
  · exact decide_eq_false (by omega)
  · exact decide_eq_false (by omega)
theorem rd_must_be_loose (h : sp_must_be_loose K vs H Q E) : tr_must_be_loose K { nx := fun _ H' => Q .non H', rt := Q } (start N_must_be_loose vs) H := by
  obtain ⟨wa, W, p, rfl, hW, G, hp, k⟩ := h
  unfold tr_must_be_loose
  exact s_when (et_not (et_B (ev_is_loose hW G hp (ev_var rfl) (ev_var rfl)))) (fun h => by cases h) (fun _ H1 e => k H1 e)
theorem rd_worths (h : sp_worths K vs H Q E) : tr_worths K { nx := fun _ H' => Q .non H', rt := Q } (start N_worths vs) H := by
  obtain ⟨wa, W, p, rfl, hW, G, hp, k⟩ := h
  unfold tr_worths
  refine q_drop (ev_must_be_loose hW G hp (ev_var rfl) (ev_var rfl)) fun H1 e1 => ?_
  exact s_retL (el_weighed (hW.mono e1) G hp (ev_var rfl) (ev_var rfl)) (fun pp H2 n e h => k.go e1 n e h)
end
end FC
namespace FC
open PySem PySem.Spec PyProof.Rows L2 Evl
/-! ### new lists and dicts of which something is known -/
def EvLP (te : TE) (σ : L2.St) (H : Hp) (P : List V → Prop) : Prop := ∀ H1, Ex H H1 → ∀ Q : VK, (∀ xs p H2, P xs → H1 p = none → Ex H1 H2 → H2 p = some (.lst xs) → Q (.ref p) H2) → te σ H1 Q
def EvD (te : TE) (σ : L2.St) (H : Hp) (P : List (Key × V) → Prop) : Prop := ∀ H1, Ex H H1 → ∀ Q : VK, (∀ d H2 kvs, H1 d = none → Ex H1 H2 → H2 d = some (.dK kvs) → P kvs → Q (.ref d) H2) → te σ H1 Q
section
variable {K : PySem.W.Frag} {σ : L2.St} {H : Hp} {ta td ty te : TE} {D : Ends} {i : Nat} {v : V}
theorem ev_lenP {P : List V → Prop} {n : Nat} (ha : EvLP ta σ H P) (hn : ∀ xs, P xs → xs.length = n) : Ev (tCB (rLenS K) (tCons ta tNil)) σ H (.int (n : Int)) := by
  intro H1 e Q k
  refine ha H1 e _ fun xs p H2 hP hp e2 h2 => ?_
  exact ⟨p, xs, rfl, Or.inl (sq_of h2), by rw [hn xs hP]; exact k H2 e2⟩
theorem ev_dgetNew {P : List (Key × V) → Prop} {q : Nat} (hd : EvD td σ H P) (hy : ∀ H1, Ex H H1 → Ev ty σ H1 (.int (q : Int))) (hv : ∀ kvs, P kvs → valV kvs (Sum.inl (q : Int)) = some v) : Ev (tDGet td ty) σ H v := by
  intro H1 e Q k
  refine hd H1 e _ fun d H2 kvs hn e2 h2 hP => ?_
  refine hy H2 (e.trans e2) H2 (Ex.refl _) _ fun H3 e3 => ?_
  refine ⟨d, v, rfl, ?_, k H3 (e2.trans e3)⟩
  rw [← hv kvs hP]
  exact DGet.k (k := Sum.inl (q : Int)) (e3 _ _ h2)
theorem ev_dget {d : Addr} {kvs : List (Key × V)} {q : Int} (hd : Ev td σ H (.ref d)) (hy : Ev ty σ H (.int q)) (h : H d = some (.dK kvs)) (hv : valV kvs (Sum.inl q) = some v) : Ev (tDGet td ty) σ H v := by
  intro H1 e Q k
  refine hd H1 e _ fun H2 e2 => ?_
  refine hy H2 (e.trans e2) _ fun H3 e3 => ?_
  refine ⟨d, v, rfl, ?_, k H3 (e2.trans e3)⟩
  rw [← hv]
  exact DGet.k (k := Sum.inl q) (e3 _ _ (e2 _ _ (e _ _ h)))
theorem ev_din {d : Addr} {kvs : List (Key × V)} {q : Int} (hy : Ev ty σ H (.int q)) (hd : Ev td σ H (.ref d)) (h : H d = some (.dK kvs)) : Ev (tDIn ty td) σ H (.bl (valV kvs (Sum.inl q)).isSome) := by
  intro H1 e Q k
  refine hy H1 e _ fun H2 e2 => ?_
  refine hd H2 (e.trans e2) _ fun H3 e3 => ?_
  exact ⟨d, _, rfl, DGet.k (k := Sum.inl q) (e3 _ _ (e2 _ _ (e _ _ h))), k H3 (e2.trans e3)⟩
theorem ev_dnotin {d : Addr} {kvs : List (Key × V)} {q : Int} (hy : Ev ty σ H (.int q)) (hd : Ev td σ H (.ref d)) (h : H d = some (.dK kvs)) : Ev (tDNotIn ty td) σ H (.bl (!(valV kvs (Sum.inl q)).isSome)) := by
  intro H1 e Q k
  refine hy H1 e _ fun H2 e2 => ?_
  refine hd H2 (e.trans e2) _ fun H3 e3 => ?_
  exact ⟨d, _, rfl, DGet.k (k := Sum.inl q) (e3 _ _ (e2 _ _ (e _ _ h))), k H3 (e2.trans e3)⟩
theorem ev_lenD {d : Addr} {kvs : List (Key × V)} (hd : Ev td σ H (.ref d)) (h : H d = some (.dK kvs)) : Ev (tCB rLenD (tCons td tNil)) σ H (.int (kvs.length : Int)) := by
  intro H1 e Q k
  refine hd H1 e _ fun H2 e2 => ?_
  exact ⟨d, kvs, rfl, e2 _ _ (e _ _ h), k H2 e2⟩
theorem ev_lenDnew {P : List (Key × V) → Prop} {n : Nat} (hd : EvD td σ H P) (hn : ∀ kvs, P kvs → kvs.length = n) : Ev (tCB rLenD (tCons td tNil)) σ H (.int (n : Int)) := by
  intro H1 e Q k
  refine hd H1 e _ fun d H2 kvs hnone e2 h2 hP => ?_
  exact ⟨d, kvs, rfl, h2, by rw [hn kvs hP]; exact k H2 e2⟩
theorem s_asgD {P : List (Key × V) → Prop} (h : EvD te σ H P) (k : ∀ d H1 kvs, H d = none → Ex H H1 → H1 d = some (.dK kvs) → P kvs → D.nx (σ.set i (some (.ref d))) H1) : tAsg te (gName i) D σ H :=
  h H (Ex.refl _) _ fun d H2 kvs hn e h2 hP => k d H2 kvs hn e h2 hP
theorem s_retD {P : List (Key × V) → Prop} (h : EvD te σ H P) (k : ∀ d H1 kvs, H d = none → Ex H H1 → H1 d = some (.dK kvs) → P kvs → D.rt (.ref d) H1) : tRet te D σ H :=
  h H (Ex.refl _) _ fun d H2 kvs hn e h2 hP => k d H2 kvs hn e h2 hP
theorem ev_eqT {tb : TE} {a : Int} (ha : Ev ta σ H (.int a)) (hb : Ev tb σ H (.int a)) : Ev (tOp rEq ta tb) σ H (.bl true) := by
  have := ev_op ha hb (rv_eq (x := .int a) (y := .int a) (by rfl))
  rw [decide_eq_true rfl] at this
  exact this
theorem ev_sumN {ns : List Int} (ha : EvL ta σ H (ns.map V.int)) : Ev (tCB (rSum K) (tCons ta tNil)) σ H (.int ns.sum) := by
  intro H1 e Q k
  refine ha H1 e _ fun p H2 hp e2 h2 => ?_
  exact ⟨p, ns, rfl, sq_of h2, k H2 e2⟩
theorem ev_allN {bs : List Bool} (ha : EvL ta σ H (bs.map V.bl)) : Ev (tCB (rAll K) (tCons ta tNil)) σ H (.bl (bs.all id)) := by
  intro H1 e Q k
  refine ha H1 e _ fun p H2 hp e2 h2 => ?_
  exact ⟨p, bs, rfl, sq_of h2, k H2 e2⟩
end
section
variable {K : PySem.W.Frag} {σ : L2.St} {H : Hp} {wa : Addr} {W : Web} {p : Nat} {t0 t1 t2 t3 : TE}
theorem ep_order_of (hW : WebAt H wa W) (G : GoodWeb W) (hp : p < W.ps.length) (h0 : Ev t0 σ H (.ref wa)) (h1 : Ev t1 σ H (.int (p : Int))) :
    EvLP (tCall (sp_order_of K) [] E0 (tCons t0 (tCons t1 tNil))) σ H (fun xs => ∃ o, Topo (pl W p) (es W p) o ∧ xs = iv o) := by
  intro H1 e Q k
  refine h0 H1 e _ fun H2 e2 => ?_
  refine h1 H2 (e.trans e2) _ fun H3 e3 => ?_
  exact ⟨wa, W, p, rfl, hW.mono (e.trans (e2.trans e3)), G, hp, fun o ho pp H4 n e4 h => k _ pp H4 ⟨o, ho, rfl⟩ (fresh_back (e2.trans e3) n) ((e2.trans e3).trans e4) h⟩
theorem ed_ways_on (hW : WebAt H wa W) (G : GoodWeb W) (hp : p < W.ps.length) (h0 : Ev t0 σ H (.ref wa)) (h1 : Ev t1 σ H (.int (p : Int))) :
    EvD (tCall (sp_ways_on K) [] E0 (tCons t0 (tCons t1 tNil))) σ H (fun kvs => MapsTo kvs (pl W p) (N W p)) := by
  intro H1 e Q k
  refine h0 H1 e _ fun H2 e2 => ?_
  refine h1 H2 (e.trans e2) _ fun H3 e3 => ?_
  exact ⟨wa, W, p, rfl, hW.mono (e.trans (e2.trans e3)), G, hp, fun d H4 kvs n e4 h hm => k d H4 kvs (fresh_back (e2.trans e3) n) ((e2.trans e3).trans e4) h hm⟩
theorem ed_reached {st : Nat} {tu : Bool} (hW : WebAt H wa W) (G : GoodWeb W) (hp : p < W.ps.length) (hs : (st, tu) ∈ [(0, false), (1, true)]) (h0 : Ev t0 σ H (.ref wa)) (h1 : Ev t1 σ H (.int (p : Int))) (h2 : Ev t2 σ H (.int (st : Int))) (h3 : Ev t3 σ H (.bl tu)) :
    EvD (tCall (sp_reached K) [] E0 (tCons t0 (tCons t1 (tCons t2 (tCons t3 tNil))))) σ H (fun kvs => kvs.length = pl W p) := by
  intro H1 e Q k
  refine h0 H1 e _ fun H2 e2 => ?_
  refine h1 H2 (e.trans e2) _ fun H3 e3 => ?_
  refine h2 H3 (e.trans (e2.trans e3)) _ fun H4 e4 => ?_
  refine h3 H4 (e.trans (e2.trans (e3.trans e4))) _ fun H5 e5 => ?_
  have e6 := e2.trans (e3.trans (e4.trans e5))
  exact ⟨wa, W, p, st, tu, rfl, hW.mono (e.trans e6), G, hp, hs, fun d H4 kvs n e4 h hm => k d H4 kvs (fresh_back e6 n) (e6.trans e4) h hm⟩
theorem el_way_byN {num : Int} (hW : WebAt H wa W) (G : GoodWeb W) (hp : p < W.ps.length) (hn : 0 ≤ num) (h0 : Ev t0 σ H (.ref wa)) (h1 : Ev t1 σ H (.int (p : Int))) (h2 : EvL t2 σ H ((wtl W p).map V.int)) (h3 : Ev t3 σ H (.int num)) :
    EvL (tCall (sp_way_by K) [] E0 (tCons t0 (tCons t1 (tCons t2 (tCons t3 tNil))))) σ H (iv (wayK W p 16 0 num)) := by
  intro H1 e Q k
  refine h0 H1 e _ fun H2 e2 => ?_
  refine h1 H2 (e.trans e2) _ fun H3 e3 => ?_
  refine h2 H3 (e.trans (e2.trans e3)) _ fun wo H4 nw e4 hwo => ?_
  refine h3 H4 (e.trans (e2.trans (e3.trans e4))) _ fun H5 e5 => ?_
  have e6 := e2.trans (e3.trans (e4.trans e5))
  exact ⟨wa, W, p, wo, num, rfl, hW.mono (e.trans e6), G, hp, e5 _ _ hwo, hn, fun pp H6 n e7 h => k pp H6 (fresh_back e6 n) (e6.trans e7) h⟩
end
section
variable {K : PySem.W.Frag} {H : Hp} {vs : List V} {Q : VK} {E : XK}
theorem Topo.len {n : Nat} {es : List Ed} {o : List Nat} (T : Topo n es o) : o.length = n := by
  have h1 : o.Perm (List.range n) := (List.perm_ext_iff_of_nodup T.nd List.nodup_range).mpr fun a => by rw [T.mem, List.mem_range]
  rw [h1.length_eq, List.length_range]
theorem rd_is_loose (h : sp_is_loose K vs H Q E) : tr_is_loose K { nx := fun _ H' => Q .non H', rt := Q } (start N_is_loose vs) H := by
  obtain ⟨wa, W, p, rfl, hW, G, hp, k⟩ := h
  unfold tr_is_loose
  refine q_drop (ev_must_be_part hW G hp (ev_var rfl) (ev_var rfl)) fun H1 e1 => ?_
  have hW1 := hW.mono e1
  refine s_ret (ev_eqT (a := (pl W p : Int)) (ev_lenP (n := pl W p) (ep_order_of hW1 G hp (ev_var rfl) (ev_var rfl)) ?_) (ev_pl hW1 hp (ev_var rfl) (ev_var rfl))) fun H2 e => k H2 (e1.trans e)
  rintro xs ⟨o, ho, rfl⟩
  rw [iv_len, ho.len]
theorem rd_ways (h : sp_ways K vs H Q E) : tr_ways K { nx := fun _ H' => Q .non H', rt := Q } (start N_ways vs) H := by
  obtain ⟨wa, W, p, rfl, hW, G, hp, k⟩ := h
  unfold tr_ways
  refine q_drop (ev_must_be_loose hW G hp (ev_var rfl) (ev_var rfl)) fun H1 e1 => ?_
  have hW1 := hW.mono e1
  have n2 := (G.part p hp).n2
  exact s_ret (ev_dgetNew (q := 0) (ed_ways_on hW1 G hp (ev_var rfl) (ev_var rfl)) (fun _ _ => ev_c) fun kvs hm => hm 0 (by omega)) fun H2 e => k H2 (e1.trans e)
theorem rd_way_of (h : sp_way_of K vs H Q E) : tr_way_of K { nx := fun _ H' => Q .non H', rt := Q } (start N_way_of vs) H := by
  obtain ⟨wa, W, p, num, rfl, hW, G, hp, hn, hm, k⟩ := h
  unfold tr_way_of
  refine q_drop (ev_must_be_loose hW G hp (ev_var rfl) (ev_var rfl)) fun H1 e1 => ?_
  have hW1 := hW.mono e1
  have n2 := (G.part p hp).n2
  refine q_when (b := false) (et_is (et_or (a := false) (b := false) (et_is (et_test (ev_op (ev_var rfl) ev_c rv_I0)) ?_) fun _ =>
    et_is (et_test (ev_op (ev_var rfl) (ev_dgetNew (q := 0) (ed_ways_on hW1 G hp (ev_var rfl) (ev_var rfl)) (fun _ _ => ev_c) fun kvs hm => hm 0 (by omega)) rv_I0)) ?_) rfl) (fun h => by cases h) (fun _ H2 e2 => ?_)
  · exact decide_eq_false (by omega)
  · exact decide_eq_false (by omega)
  · have hW2 := hW1.mono e2
    exact s_retL (el_way_byN hW2 G hp hn (ev_var rfl) (ev_var rfl) (el_weighed hW2 G hp (ev_var rfl) (ev_var rfl)) (ev_var rfl)) fun pp H3 n e h => k.go (e1.trans e2) n e h
theorem IsWay.mem {W : Web} {p : Nat} : ∀ {way : List Nat} {here : Nat}, IsWay W p here way → ∀ k ∈ way, k ∈ own W p
  | k :: r, here, h, j, hj => by
    obtain ⟨h1, h2, h3⟩ := h
    rcases List.mem_cons.mp hj with rfl | hj
    · exact h1
    · exact IsWay.mem h3 j hj
theorem es_mem {W : Web} {p k : Nat} (h : k ∈ own W p) : (W.fr k, W.to k) ∈ es W p := List.mem_map.mpr ⟨k, h, rfl⟩
theorem IsWay.len {W : Web} {p n : Nat} (G : GoodPart n (es W p)) {way : List Nat} {here : Nat} (h : IsWay W p here way) (hn : here < n) : way.length ≤ 16 := by
  obtain ⟨rk, R, R2⟩ := G.ranked
  have key : ∀ (way : List Nat) (here : Nat), IsWay W p here way → here < n → way.length + rk here ≤ 15 := by
    intro way
    induction way with
    | nil => intro here h hn; have := R2 here hn; simp; omega
    | cons k r ih =>
      intro here h hn
      obtain ⟨h1, h2, h3⟩ := h
      have m := es_mem h1
      have := R _ m
      have e2 := (G.ed _ m).2.1
      have := ih _ h3 e2
      rw [List.length_cons]
      dsimp only at *
      subst h2
      omega
  have := key way here h hn
  omega
theorem rd_is_going (h : sp_is_going K vs H Q E) : tr_is_going K { nx := fun _ H' => Q .non H', rt := Q } (start N_is_going vs) H := by
  obtain ⟨wa, W, p, la, way, rfl, hW, G, hp, hl, hway, k⟩ := h
  unfold tr_is_going
  refine q_asg ev_c fun H1 e1 => ?_
  refine q_forLn (xs := iv way) (ev_var rfl) (sq_of (e1 _ _ hl)) (fun i σ' H' => ∃ (here : Nat) (y : Option V), σ' = [some (.ref wa), some (.int (p : Int)), some (.ref la), some (.int (here : Int)), y] ∧ IsWay W p here (way.drop i) ∧ Ex H H')
    (fun H2 e2 => ⟨0, none, rfl, hway, e1.trans e2⟩) (fun i σ' H' _ hP => ?_) (fun i x σ' H' hx hP => ?_) (fun σ' H' hP => ?_)
  · obtain ⟨here, y, rfl, hw, e⟩ := hP
    exact sq_of (e _ _ hl)
  · obtain ⟨here, y, rfl, hw, e⟩ := hP
    obtain ⟨kk, g1, rfl, g3, g4⟩ := iv_at hx
    have hi : i < way.length := (List.getElem?_eq_some_iff.mp g1).1
    have hd : way.drop i = kk :: way.drop (i + 1) := by
      rw [List.drop_eq_getElem_cons hi]
      congr 1
      rw [List.getElem?_eq_getElem hi] at g1
      exact Option.some.inj g1
    rw [hd] at hw
    obtain ⟨w1, w2, w3⟩ := hw
    have hW' := hW.mono e
    have hm : kk ∈ rfrom W p here := by
      unfold rfrom
      rw [List.mem_filter]
      exact ⟨w1, by simpa using w2⟩
    refine q_when (et_niNew (a := kk) (ev_var rfl) (el_rows_from (q := here) hW' G hp (ev_var rfl) (ev_var rfl) (ev_var rfl))) (fun h => by rw [decide_eq_true hm] at h; cases h) (fun _ H2 e2 => ?_)
    refine s_asg (ev_to (hW'.mono e2) (own_lt w1) (ev_var rfl) (ev_var rfl)) fun H3 e3 => ?_
    exact ⟨W.to kk, _, rfl, w3, e.trans (e2.trans e3)⟩
  · obtain ⟨here, y, rfl, hw, e⟩ := hP
    rw [iv_len, List.drop_length] at hw
    have h1 : here = 1 := hw
    subst h1
    exact s_ret (ev_eqT (a := 1) (ev_var rfl) ev_c) fun H2 e2 => k H2 (e.trans e2)
theorem wtl_at {W : Web} {p k : Nat} (h : k < W.rs.length) : ((wtl W p).map V.int)[k]? = some (.int (wtK W p k)) := by
  unfold wtl
  rw [List.map_map, List.getElem?_map, List.getElem?_range h]
  rfl
theorem rd_number_of (h : sp_number_of K vs H Q E) : tr_number_of K { nx := fun _ H' => Q .non H', rt := Q } (start N_number_of vs) H := by
  obtain ⟨wa, W, p, la, way, rfl, hW, G, hp, hl, hway, k⟩ := h
  unfold tr_number_of
  refine q_drop (ev_must_be_loose hW G hp (ev_var rfl) (ev_var rfl)) fun H1 e1 => ?_
  refine q_when (et_not (et_B (ev_is_going (hW.mono e1) G hp (e1 _ _ hl) hway (ev_var rfl) (ev_var rfl) (ev_var rfl)))) (fun h => by cases h) (fun _ H2 e2 => ?_)
  have e12 := e1.trans e2
  refine q_asgL (el_weighed (hW.mono e12) G hp (ev_var rfl) (ev_var rfl)) fun fo H3 n3 e3 h3 => ?_
  have e13 := e12.trans e3
  refine s_ret (v := .int (way.map (wtK W p)).sum) (ev_sumN ?_) fun H4 e => k H4 (e13.trans e)
  have e1 : (way.map (wtK W p)).map V.int = (way.filter (fun _ => true)).map (fun k => V.int (wtK W p k)) := by
    rw [List.filter_eq_self.mpr (fun _ _ => rfl), List.map_map]
    rfl
  rw [e1]
  refine el_lcIvE (a := la) (fun _ => true) (fun k => .int (wtK W p k)) (ev_var rfl) (e13 _ _ hl) ?_ (fun x => rfl) (fun i H1 e hi => et_yes) (fun i H1 e hi hf => ev_op (ev_var rfl) (ev_var rfl) (rv_ixL (sq_of (e _ _ h3)) (atI_nat (wtl_at (own_lt (hway.mem i hi))))))
  have := hway.len (G.part p hp) (by have := (G.part p hp).n2; omega)
  omega
end
end FC
namespace FC
theorem mem_ledTo {es : List Ed} {l : List Nat} {q : Nat} : q ∈ ledTo es l ↔ ∃ p, p ∈ l ∧ (p, q) ∈ es := by
  unfold ledTo
  rw [List.mem_map]
  constructor
  · rintro ⟨e, he, rfl⟩
    rw [List.mem_filter] at he
    exact ⟨e.1, by simpa using he.2, he.1⟩
  · rintro ⟨p, hp, he⟩
    exact ⟨(p, q), by rw [List.mem_filter]; exact ⟨he, by simpa using hp⟩, rfl⟩
theorem least_of (rk : Nat → Nat) : ∀ l : List Nat, l ≠ [] → ∃ x ∈ l, ∀ y ∈ l, rk x ≤ rk y
  | [], h => absurd rfl h
  | [a], _ => ⟨a, by simp, by simp⟩
  | a :: b :: r, _ => by
    obtain ⟨x, hx, hm⟩ := least_of rk (b :: r) (by simp)
    by_cases h : rk a ≤ rk x
    · refine ⟨a, by simp, fun y hy => ?_⟩
      rcases List.mem_cons.mp hy with rfl | hy
      · exact Nat.le_refl _
      · exact Nat.le_trans h (hm y hy)
    · refine ⟨x, List.mem_cons_of_mem _ hx, fun y hy => ?_⟩
      rcases List.mem_cons.mp hy with rfl | hy
      · omega
      · exact hm y hy
structure OInv (n : Nat) (es : List Ed) (fo le fr : List Nat) : Prop where
  nd : (fo ++ le).Nodup
  mem : ∀ p, p ∈ fo ++ le ↔ p < n
  fr : fr = le.filter fun p => !decide (p ∈ ledTo es le)
  ord : ∀ (j q : Nat), fo[j]? = some q → ∀ p, (p, q) ∈ es → p ∈ fo.take j
theorem OInv.first (n : Nat) (es : List Ed) : OInv n es [] (List.range n) ((List.range n).filter fun p => !decide (p ∈ ledTo es (List.range n))) where
  nd := by simpa using List.nodup_range
  mem := by simp
  fr := rfl
  ord := by intro j q h; simp at h
theorem OInv.step {n : Nat} {es : List Ed} {fo le fr : List Nat} (hed : ∀ e ∈ es, e.1 < n ∧ e.2 < n) (h : OInv n es fo le fr) :
    OInv n es (fo ++ fr) (le.filter fun p => !decide (p ∈ fr)) ((le.filter fun p => !decide (p ∈ fr)).filter fun p => !decide (p ∈ ledTo es (le.filter fun p => !decide (p ∈ fr)))) where
  nd := by
    have hd := List.nodup_append.mp h.nd
    have hfr : fr.Nodup := by rw [h.fr]; exact hd.2.1.filter _
    rw [List.nodup_append]
    refine ⟨List.nodup_append.mpr ⟨hd.1, hfr, fun a ha b hb => ?_⟩, hd.2.1.filter _, fun a ha b hb => ?_⟩
    · rw [h.fr, List.mem_filter] at hb
      exact hd.2.2 a ha b hb.1
    · rw [List.mem_filter] at hb
      rcases List.mem_append.mp ha with ha | ha
      · exact hd.2.2 a ha b hb.1
      · rintro rfl
        simp [ha] at hb
  mem := by
    intro p
    rw [← h.mem p]
    simp only [List.mem_append, List.mem_filter]
    constructor
    · rintro ((h1 | h1) | h1)
      · exact .inl h1
      · rw [h.fr, List.mem_filter] at h1; exact .inr h1.1
      · exact .inr h1.1
    · rintro (h1 | h1)
      · exact .inl (.inl h1)
      · by_cases h2 : p ∈ fr
        · exact .inl (.inr h2)
        · exact .inr ⟨h1, by simpa using h2⟩
  fr := rfl
  ord := by
    intro j q hj p he
    by_cases hl : j < fo.length
    · rw [List.getElem?_append_left hl] at hj
      rw [List.take_append_of_le_length (by omega)]
      exact h.ord j q hj p he
    · rw [List.getElem?_append_right (by omega)] at hj
      have hq : q ∈ fr := List.mem_of_getElem? hj
      rw [h.fr, List.mem_filter] at hq
      have hp : p ∉ le := by
        intro hp
        have : q ∈ ledTo es le := mem_ledTo.mpr ⟨p, hp, he⟩
        simp [this] at hq
      have hp2 : p ∈ fo := by
        rcases List.mem_append.mp ((h.mem p).mpr (hed _ he).1) with h1 | h1
        · exact h1
        · exact absurd h1 hp
      rw [List.take_append]
      rw [List.take_of_length_le (by omega)]
      exact List.mem_append.mpr (.inl hp2)
theorem OInv.go {n : Nat} {es : List Ed} {fo le fr : List Nat} {rk : Nat → Nat} (R : ∀ e ∈ es, rk e.1 < rk e.2) (h : OInv n es fo le fr) (hl : le ≠ []) : fr ≠ [] := by
  obtain ⟨x, hx, hm⟩ := least_of rk le hl
  intro e
  have : x ∈ fr := by
    rw [h.fr, List.mem_filter]
    refine ⟨hx, ?_⟩
    have : x ∉ ledTo es le := by
      intro hz
      obtain ⟨p, hp, he⟩ := mem_ledTo.mp hz
      have h1 := R _ he
      have h2 := hm p hp
      dsimp only at h1
      omega
    simpa using this
  rw [e] at this
  cases this
theorem OInv.less {n : Nat} {es : List Ed} {fo le fr : List Nat} (h : OInv n es fo le fr) (hl : fr ≠ []) : (le.filter fun p => !decide (p ∈ fr)).length < le.length := by
  cases hf : fr with
  | nil => exact absurd hf hl
  | cons a r =>
    have ha : a ∈ fr := by rw [hf]; simp
    have ha2 : a ∈ le := by rw [h.fr, List.mem_filter] at ha; exact ha.1
    rw [← hf]
    apply List.length_filter_lt_length_iff_exists.mpr
    exact ⟨a, ha2, by simp [ha]⟩
theorem OInv.last {n : Nat} {es : List Ed} {fo le fr : List Nat} {rk : Nat → Nat} (R : ∀ e ∈ es, rk e.1 < rk e.2) (h : OInv n es fo le fr) (hf : fr = []) : Topo n es fo := by
  have hle : le = [] := by
    cases le with
    | nil => rfl
    | cons a r => exact absurd hf (h.go R (by simp))
  subst hle
  have e : fo ++ [] = fo := List.append_nil fo
  exact ⟨e ▸ h.nd, fun p => by have := h.mem p; rwa [e] at this, h.ord⟩
/-- behind it in the order -/
theorem Topo.behind {n : Nat} {es : List Ed} {o : List Nat} (T : Topo n es o) (hed : ∀ e ∈ es, e.1 < n ∧ e.2 < n) {j p q : Nat} (hj : o[j]? = some p) (he : (p, q) ∈ es) : q ∈ o.drop (j + 1) := by
  have hq : q ∈ o := (T.mem q).mpr (hed _ he).2
  obtain ⟨i, hi⟩ := List.getElem?_of_mem hq
  have h1 := T.ord i q hi p he
  obtain ⟨k, hk⟩ := List.getElem?_of_mem h1
  have hk2 : k < i := by
    have := (List.getElem?_eq_some_iff.mp hk).1
    rw [List.length_take] at this
    omega
  rw [List.getElem?_take, if_pos hk2] at hk
  have hjk : j = k := by
    obtain ⟨a1, a2⟩ := List.getElem?_eq_some_iff.mp hj
    obtain ⟨b1, b2⟩ := List.getElem?_eq_some_iff.mp hk
    exact (List.getElem_inj T.nd).mp (a2.trans b2.symm)
  subst hjk
  have : (o.drop (j + 1))[i - (j + 1)]? = some q := by
    rw [List.getElem?_drop, show j + 1 + (i - (j + 1)) = i by omega]
    exact hi
  exact List.mem_of_getElem? this
end FC
namespace FC
open PySem PySem.Spec PyProof.Rows L2 Evl
theorem sz5 {n : Nat} (h : n ≤ 5000) : n ≤ sizeLine := Nat.le_trans h (by decide)
section
variable {K : PySem.W.Frag} {σ : L2.St} {H : Hp} {ta tb : TE}
theorem el_cat {a b : Addr} {xs ys : List V} (ha : Ev ta σ H (.ref a)) (hb : Ev tb σ H (.ref b)) (h1 : H a = some (.lst xs)) (h2 : H b = some (.lst ys)) (hz : xs.length + ys.length ≤ 5000) : EvL (tOp rCat ta tb) σ H (xs ++ ys) := by
  intro H1 e Q k
  refine ha H1 e _ fun H2 e2 => ?_
  refine hb H2 (e.trans e2) _ fun H3 e3 => ?_
  exact ⟨a, b, xs, ys, rfl, rfl, e3 _ _ (e2 _ _ (e _ _ h1)), e3 _ _ (e2 _ _ (e _ _ h2)), sz5 hz, fun p hp => k p _ (fresh_back (e2.trans e3) hp) ((e2.trans e3).trans (Ex.new hp)) upd_same⟩
theorem rgV_iv (n : Nat) : rgV 0 (n : Int) = iv (List.range n) := by
  unfold rgV iv
  have : ((n : Int) - 0).toNat = n := by omega
  rw [this]
  apply List.map_congr_left
  intro i _
  rw [Int.zero_add]
theorem el_listRg {n : Nat} (ha : Ev ta σ H (.int (n : Int))) (hn : n ≤ 5000) : EvL (tLstRg (tRg1 ta)) σ H (iv (List.range n)) := by
  intro H1 e Q k
  refine ha H1 e _ fun H2 e2 => ?_
  refine ⟨(n : Int), rfl, RgOk.of_le (by omega) (by omega) (by omega) (by omega), fun p hp => ?_⟩
  rw [rgV_iv]
  exact k p _ (fresh_back e2 hp) (e2.trans (Ex.new hp)) upd_same
end
section
variable {K : PySem.W.Frag} {H : Hp} {vs : List V} {Q : VK} {E : XK}
theorem rd_order_of (h : sp_order_of K vs H Q E) : tr_order_of K { nx := fun _ H' => Q .non H', rt := Q } (start N_order_of vs) H := by
  obtain ⟨wa, W, p, rfl, hW, G, hp, k⟩ := h
  have GP := G.part p hp
  have n2 := GP.n2
  have n16 := GP.n16
  have hed : ∀ e ∈ es W p, e.1 < pl W p ∧ e.2 < pl W p := fun e he => ⟨(GP.ed e he).1, (GP.ed e he).2.1⟩
  obtain ⟨rk, R, _⟩ := GP.rk
  unfold tr_order_of
  refine q_asgL (el_lst ea_nil (by simp)) fun fa H1 n1 e1 h1 => ?_
  refine q_asgL (el_listRg (ev_pl (hW.mono e1) hp (ev_var rfl) (ev_var rfl)) (by omega)) fun la H2 n2 e2 h2 => ?_
  have e12 := e1.trans e2
  have eqf : ∀ (l : List Nat) (g : Nat → Bool), iv (l.filter g) = (l.filter g).map (fun (k : Nat) => V.int (k : Int)) := fun _ _ => rfl
  refine q_asgL (xs := iv ((List.range (pl W p)).filter fun q => !decide (q ∈ ledTo (es W p) (List.range (pl W p))))) ?_ fun ra H3 n3 e3 h3 => ?_
  · rw [eqf]
    exact el_lcIvE (a := la) _ _ (ev_var rfl) h2 (by simp; omega) (fun x => rfl) (fun q Hq eq hq => et_niNew (a := q) (ev_var rfl) (el_led_to (hW.mono (e12.trans eq)) G hp (eq _ _ h2) (ev_var rfl) (ev_var rfl) (ev_var rfl))) (fun q Hq eq hq hf => ev_var rfl)
  have e13 := e12.trans e3
  refine q_while (fun m σ' H' => ∃ (fa la ra : Addr) (fo le fr : List Nat) (y5 y6 : Option V), σ' = [some (.ref wa), some (.int (p : Int)), some (.ref fa), some (.ref la), some (.ref ra), y5, y6] ∧ H' fa = some (.lst (iv fo)) ∧ H' la = some (.lst (iv le)) ∧ H' ra = some (.lst (iv fr)) ∧
      H fa = none ∧ OInv (pl W p) (es W p) fo le fr ∧ Ex H H' ∧ m = le.length) (List.range (pl W p)).length
    ⟨fa, la, ra, [], _, _, none, none, rfl, e3 _ _ (e2 _ _ h1), e3 _ _ h2, h3, n1, OInv.first _ _, e13, rfl⟩ fun m σ' H' hI => ?_
  obtain ⟨fa, la, ra, fo, le, fr, y5, y6, rfl, hf, hl, hr, nf, I, eI, rfl⟩ := hI
  have len : fo.length + le.length = pl W p := by
    have h1 : (fo ++ le).Perm (List.range (pl W p)) := (List.perm_ext_iff_of_nodup I.nd List.nodup_range).mpr fun a => by rw [I.mem, List.mem_range]
    have := h1.length_eq
    rw [List.length_append, List.length_range] at this
    exact this
  have lfr : fr.length ≤ le.length := by rw [I.fr]; exact List.length_filter_le _ _
  have tst := ev_len (K := K) (ta := tVar 4) (σ := [some (.ref wa), some (.int (p : Int)), some (.ref fa), some (.ref la), some (.ref ra), y5, y6]) (ev_var (i := 4) (v := V.ref ra) rfl) (sq_of hr)
  rw [iv_len] at tst
  refine ⟨decide ((0 : Int) < (fr.length : Int)), et_test (ev_op tst ev_c rv_I0), fun hb H4 e4 => ?_, fun hb H4 e4 => ?_⟩
  · have hne : fr ≠ [] := by
      rintro rfl
      simp at hb
    refine ⟨_, fun σ2 H2 h => h, ?_⟩
    refine q_asgL (el_cat (ev_var rfl) (ev_var rfl) (e4 _ _ hf) (e4 _ _ hr) (by rw [iv_len, iv_len]; omega)) fun fa2 H5 n5 e5 h5 => ?_
    have e45 := e4.trans e5
    refine q_asgL (xs := iv (le.filter fun q => !decide (q ∈ fr))) ?_ fun la2 H6 n6 e6 h6 => ?_
    · rw [eqf]
      exact el_lcIvE (a := la) _ _ (ev_var rfl) (e45 _ _ hl) (by omega) (fun x => rfl) (fun q Hq eq hq => et_niIv (a := q) (ev_var rfl) (ev_var rfl) (eq _ _ (e45 _ _ hr))) (fun q Hq eq hq hf => ev_var rfl)
    have e46 := e45.trans e6
    refine q_asgL (el_led_to (hW.mono (eI.trans e46)) G hp h6 (ev_var rfl) (ev_var rfl) (ev_var rfl)) fun ga H7 n7 e7 h7 => ?_
    have e47 := e46.trans e7
    refine s_asgL (xs := iv ((le.filter fun q => !decide (q ∈ fr)).filter fun q => !decide (q ∈ ledTo (es W p) (le.filter fun q => !decide (q ∈ fr))))) ?_ fun ra2 H8 n8 e8 h8 => ?_
    · rw [eqf]
      refine el_lcIvE (a := la2) _ _ (ev_var rfl) (e7 _ _ h6) ?_ (fun x => rfl) (fun q Hq eq hq => et_niIv (a := q) (ev_var rfl) (ev_var rfl) (eq _ _ h7)) (fun q Hq eq hq hf => ev_var rfl)
      have := List.length_filter_le (fun q => !decide (q ∈ fr)) le
      omega
    refine ⟨_, I.less hne, fa2, la2, ra2, _, _, _, some (.ref ga), y6, rfl, e8 _ _ (e7 _ _ (e6 _ _ ?_)), e8 _ _ (e7 _ _ h6), h8, fresh_back (eI.trans e4) n5, I.step hed, eI.trans (e47.trans e8), rfl⟩
    rw [h5]
    unfold iv
    rw [List.map_append]
  · have hz : fr = [] := by
      cases fr with
      | nil => rfl
      | cons a r => simp at hb
    exact s_ret (ev_var rfl) fun H5 e5 => k fo (I.last R hz) fa H5 nf (eI.trans (e4.trans e5)) (e5 _ _ (e4 _ _ hf))
end
end FC
namespace FC
theorem own_lt' {W : Web} {p k : Nat} (h : k ∈ own W p) : k < W.rs.length := by
  unfold own at h
  rw [List.mem_filter, List.mem_range] at h
  exact h.1
theorem own_sorted (W : Web) (p : Nat) : (own W p).Pairwise (· < ·) := by
  unfold own
  exact List.pairwise_lt_range.filter _
theorem es_mem' {W : Web} {p k : Nat} (h : k ∈ own W p) : (W.fr k, W.to k) ∈ es W p := List.mem_map.mpr ⟨k, h, rfl⟩
theorem mem_es {W : Web} {p : Nat} {e : Ed} (h : e ∈ es W p) : ∃ k ∈ own W p, e = (W.fr k, W.to k) := by
  obtain ⟨k, h1, h2⟩ := List.mem_map.mp h
  exact ⟨k, h1, h2.symm⟩
/-- a sorted list's lesser ones stand ahead -/
theorem filter_lt_take : ∀ {l : List Nat} {j k : Nat}, l.Pairwise (· < ·) → l[j]? = some k → l.filter (fun x => decide (x < k)) = l.take j
  | [], j, k, _, h => by simp at h
  | a :: r, 0, k, hs, h => by
    have e : a = k := Option.some.inj h
    subst e
    rw [List.take_zero, List.filter_eq_nil_iff]
    intro x hx
    rcases List.mem_cons.mp hx with rfl | hx
    · simp
    · have := List.rel_of_pairwise_cons hs hx; simp; omega
  | a :: r, j + 1, k, hs, h => by
    have h2 : r[j]? = some k := by simpa using h
    have hk : k ∈ r := List.mem_of_getElem? h2
    have := List.rel_of_pairwise_cons hs hk
    rw [List.filter_cons_of_pos (by simpa using this), filter_lt_take (List.Pairwise.of_cons hs) h2, List.take_succ_cons]
theorem rfrom_sorted (W : Web) (p q : Nat) : (rfrom W p q).Pairwise (· < ·) := (own_sorted W p).filter _
theorem mem_rfrom {W : Web} {p q k : Nat} : k ∈ rfrom W p q ↔ k ∈ own W p ∧ W.fr k = q := by
  unfold rfrom
  rw [List.mem_filter]
  simp
theorem wtK_own {W : Web} {p k : Nat} (h : k ∈ own W p) : wtK W p k = (((rfrom W p (W.fr k)).filter fun j => decide (j < k)).map fun j => N W p (W.to j)).sum := by
  unfold wtK rfrom
  rw [if_pos h, List.filter_filter]
theorem wtK_at {W : Web} {p q j k : Nat} (h : (rfrom W p q)[j]? = some k) : wtK W p k = (((rfrom W p q).take j).map fun j => N W p (W.to j)).sum := by
  have hm := mem_rfrom.mp (List.mem_of_getElem? h)
  rw [wtK_own hm.1, hm.2, filter_lt_take (rfrom_sorted W p q) h]
theorem N_nonneg (W : Web) (p q : Nat) : 0 ≤ N W p q := nway_nonneg _ _ _
theorem wtK_nonneg (W : Web) (p k : Nat) : 0 ≤ wtK W p k := by
  unfold wtK
  split
  · apply sum_nonneg
    intro x hx
    rw [List.mem_map] at hx
    obtain ⟨j, _, rfl⟩ := hx
    exact N_nonneg _ _ _
  · exact Int.le_refl 0
theorem N_fix {W : Web} {p n : Nat} (G : GoodPart n (es W p)) (q : Nat) : N W p q = if q = 1 then 1 else ((rfrom W p q).map fun k => N W p (W.to k)).sum := by
  obtain ⟨rk, R, _⟩ := G.ranked
  unfold N
  rw [nway_fix R]
  have : ((es W p).filter (fun e => decide (e.1 = q))).map (fun e => nway 1 (es W p) e.2) = (rfrom W p q).map fun k => nway 1 (es W p) (W.to k) := by
    unfold rfrom
    conv => lhs; arg 2; arg 2; unfold es
    rw [List.filter_map, List.map_map]
    rfl
  rw [this]
/-- a place but the end has a row of worth 0 from it -/
theorem first_row {W : Web} {p n q : Nat} (G : GoodPart n (es W p)) (hq : q < n) (h1 : q ≠ 1) : ∃ k, k ∈ rfrom W p q ∧ wtK W p k = 0 := by
  obtain ⟨r, he, _⟩ := (G.to1 q hq).out h1
  obtain ⟨k, hk, hkk⟩ := mem_es he
  have hm : k ∈ rfrom W p q := mem_rfrom.mpr ⟨hk, by have := congrArg Prod.fst hkk; exact this.symm⟩
  cases hl : rfrom W p q with
  | nil => rw [hl] at hm; cases hm
  | cons a l =>
    have h0 : (rfrom W p q)[0]? = some a := by rw [hl]; rfl
    refine ⟨a, by simp, ?_⟩
    rw [wtK_at h0]
    rfl
theorem pick_some {W : Web} {p n q : Nat} {num : Int} (G : GoodPart n (es W p)) (hq : q < n) (h1 : q ≠ 1) (h0 : 0 ≤ num) : ∃ k, ((rfrom W p q).filter fun k => decide (wtK W p k ≤ num)).getLast? = some k ∧ k ∈ own W p ∧ W.fr k = q ∧ wtK W p k ≤ num := by
  obtain ⟨a, ha, hw⟩ := first_row G hq h1
  have hm : a ∈ (rfrom W p q).filter fun k => decide (wtK W p k ≤ num) := by
    rw [List.mem_filter]
    exact ⟨ha, by simp; omega⟩
  cases hl : ((rfrom W p q).filter fun k => decide (wtK W p k ≤ num)).getLast? with
  | none => rw [List.getLast?_eq_none_iff] at hl; rw [hl] at hm; cases hm
  | some k =>
    have hk := List.mem_of_getLast? hl
    rw [List.mem_filter] at hk
    obtain ⟨h2, h3⟩ := mem_rfrom.mp hk.1
    exact ⟨k, rfl, h2, h3, by simpa using hk.2⟩
theorem wayK_step {W : Web} {p m here k : Nat} {num : Int} (h1 : here ≠ 1) (hk : ((rfrom W p here).filter fun k => decide (wtK W p k ≤ num)).getLast? = some k) : wayK W p (m + 1) here num = k :: wayK W p m (W.to k) (num - wtK W p k) := by
  rw [wayK, if_neg h1, hk]
theorem wayK_end {W : Web} {p m : Nat} {num : Int} : wayK W p m 1 num = [] := by
  cases m with
  | zero => rfl
  | succ m => rw [wayK, if_pos rfl]
theorem wayK_way {W : Web} {p n : Nat} {rk : Nat → Nat} (G : GoodPart n (es W p)) (R : ∀ e ∈ es W p, rk e.1 < rk e.2) (R2 : ∀ q, q < n → rk q < 16) : ∀ (m here : Nat) (num : Int), here < n → 0 ≤ num → 16 ≤ rk here + m → IsWay W p here (wayK W p m here num)
  | 0, here, num, hn, _, hm => by
    have := R2 here hn
    omega
  | m + 1, here, num, hn, h0, hm => by
    by_cases h1 : here = 1
    · subst h1
      rw [wayK_end]
      rfl
    · obtain ⟨k, hk, ho, hf, hw⟩ := pick_some G hn h1 h0
      rw [wayK_step h1 hk]
      have hm' := es_mem' ho
      have := R _ hm'
      dsimp only at this
      subst hf
      exact ⟨ho, rfl, wayK_way G R R2 m _ _ (G.ed _ hm').2.1 (by omega) (by omega)⟩
theorem wayK_ok {W : Web} {p n : Nat} (G : GoodPart n (es W p)) {num : Int} (h0 : 0 ≤ num) : IsWay W p 0 (wayK W p 16 0 num) := by
  obtain ⟨rk, R, R2⟩ := G.rk
  have := G.n2
  exact wayK_way G R R2 16 0 num (by omega) h0 (by omega)
end FC
namespace FC
open PySem PySem.Spec PyProof.Rows L2 Evl
theorem sz5' {n : Nat} (h : n ≤ 5000) : n < sizeLine := Nat.lt_of_le_of_lt h (by decide)
section
variable {K : PySem.W.Frag} {σ : L2.St} {H : Hp} {tl ta tb tk tv td ty te : TE} {tu tz : TS} {D : Ends} {g : TG}
theorem q_forNLP {P : List V → Prop} (h : EvLP tl σ H P) (k : ∀ xs p H1, P xs → H p = none → Ex H H1 → H1 p = some (.lst xs) → ∃ Pv : Nat → L2.St → Hp → Prop, Pv 0 σ H1 ∧ (∀ i σ' H', i ≤ xs.length → Pv i σ' H' → SqL K H' p xs) ∧
    (∀ i x σ' H', xs[i]? = some x → Pv i σ' H' → g x σ' H' fun σ2 H2 => tu { D with nx := Pv (i + 1), ct := Pv (i + 1), bk := tz D } σ2 H2) ∧ (∀ σ' H', Pv xs.length σ' H' → tz D σ' H')) : tSeq (tFor (iList K tl) g tu) tz D σ H := by
  refine h H (Ex.refl _) _ fun xs p H1 hP hn e h1 => ?_
  obtain ⟨Pv, h0, hl, hs, hd⟩ := k xs p H1 hP hn e h1
  exact ⟨p, rfl, ⟨xs, sq_of h1⟩, for_list (K := K) (xs := xs) (D := { D with nx := tz D }) Pv h0 hl hs hd⟩
theorem ep_rev {P : List V → Prop} (h : EvLP te σ H P) : EvLP (tRevL K te) σ H (fun ys => ∃ xs, P xs ∧ ys = xs.reverse) := by
  intro H1 e Q k
  refine h H1 e _ fun xs p H2 hP hn e2 h2 => ?_
  exact ⟨p, xs, rfl, sq_of h2, fun q hq => k _ q _ ⟨xs, hP, rfl⟩ (fresh_back e2 hq) (e2.trans (Ex.new hq)) upd_same⟩
theorem q_disp {i : Nat} {a : Int} {v : V} (hk : Ev tk σ H (.int a)) (hv : Ev tv σ H v) (k : ∀ d H1, H d = none → Ex H H1 → H1 d = some (.dK [(Sum.inl a, v)]) → tz D (σ.set i (some (.ref d))) H1) : tSeq (tAsg (tDisp ((tk, tv) :: [])) (gName i)) tz D σ H := by
  intro d hd
  refine hk _ (Ex.new hd) _ fun H2 e2 => ?_
  refine hv _ ((Ex.new hd).trans e2) _ fun H3 e3 => ?_
  have h3 : H3 d = some (.dK []) := e3 _ _ (e2 _ _ upd_same)
  refine ⟨h3, [(Sum.inl a, v)], rfl, by simp, ?_⟩
  refine k d _ hd (Ex.mut ((Ex.new hd).trans (e2.trans e3)) hd) ?_
  rw [upd_same]
  rfl
theorem s_dput {d : Addr} {kvs : List (Key × V)} {q : Int} {v : V} (hv : Ev tv σ H v) (hd : Ev td σ H (.ref d)) (hy : Ev ty σ H (.int q)) (h : H d = some (.dK kvs)) (hz : kvs.length ≤ 5000) (k : ∀ H1, Ex H H1 → D.nx σ (upd H1 d (.dK (putK kvs (Sum.inl q) v)))) : sDPut td ty tv D σ H := by
  refine hv H (Ex.refl _) _ fun H2 e2 => ?_
  refine hd H2 e2 _ fun H3 e3 => ?_
  refine hy H3 (e2.trans e3) _ fun H4 e4 => ?_
  have e := e2.trans (e3.trans e4)
  exact ⟨d, _, rfl, DPut.k (k := Sum.inl q) (e _ _ h) (sz5' hz), k H4 e⟩
theorem el_led_toN {wa : Addr} {W : Web} {p : Nat} {t0 t1 t2 : TE} {sm : List Nat} (hW : WebAt H wa W) (G : GoodWeb W) (hp : p < W.ps.length) (h0 : Ev t0 σ H (.ref wa)) (h1 : Ev t1 σ H (.int (p : Int))) (h2 : EvL t2 σ H (iv sm)) :
    EvL (tCall (sp_led_to K) [] E0 (tCons t0 (tCons t1 (tCons t2 tNil)))) σ H (iv (ledTo (es W p) sm)) := by
  intro H1 e Q k
  refine h0 H1 e _ fun H2 e2 => ?_
  refine h1 H2 (e.trans e2) _ fun H3 e3 => ?_
  refine h2 H3 (e.trans (e2.trans e3)) _ fun sa H4 ns e4 hs => ?_
  have e6 := e2.trans (e3.trans e4)
  exact ⟨wa, W, p, sa, sm, rfl, hW.mono (e.trans e6), G, hp, hs, fun pp H6 n e7 h => k pp H6 (fresh_back e6 n) (e6.trans e7) h⟩
end
/-! ### the ways on: the values of a table that is filled from behind -/
theorem putK_len (kvs : List (Key × V)) (k : Key) (v : V) : (putK kvs k v).length ≤ kvs.length + 1 := length_putK kvs k v
theorem ledTo_one (es : List Ed) (q : Nat) : ledTo es [q] = (es.filter (fun e => decide (e.1 = q))).map (fun e => e.2) := by
  unfold ledTo
  have : (fun e : Ed => decide (e.1 ∈ [q])) = (fun e : Ed => decide (e.1 = q)) := by
    funext e
    simp
  rw [this]
theorem rd_ways_on {K : PySem.W.Frag} {H : Hp} {vs : List V} {Q : VK} {E : XK} (h : sp_ways_on K vs H Q E) : tr_ways_on K { nx := fun _ H' => Q .non H', rt := Q } (start N_ways_on vs) H := by
  obtain ⟨wa, W, p, rfl, hW, G, hp, k⟩ := h
  have GP := G.part p hp
  have n2 := GP.n2
  have n16 := GP.n16
  have hed : ∀ e ∈ es W p, e.1 < pl W p ∧ e.2 < pl W p := fun e he => ⟨(GP.ed e he).1, (GP.ed e he).2.1⟩
  obtain ⟨rk, R, _⟩ := GP.ranked
  unfold tr_ways_on
  refine q_disp ev_c ev_c fun d H1 n1 e1 h1 => ?_
  refine q_forNLP (ep_rev (ep_order_of (hW.mono e1) G hp (ev_var rfl) (ev_var rfl))) fun ys la H2 hP nl e2 hla => ?_
  obtain ⟨xs, ⟨o, T, rfl⟩, rfl⟩ := hP
  have hrev : (iv o).reverse = iv o.reverse := by unfold iv; rw [List.map_reverse]
  rw [hrev] at hla ⊢
  have olen := T.len
  have hne : d ≠ la := ne_of_none h1 nl
  refine ⟨fun i σ' H' => ∃ (y : Option V) (kvs : List (Key × V)), σ' = [some (.ref wa), some (.int (p : Int)), some (.ref d), y, none] ∧ H' d = some (.dK kvs) ∧ Ex H H' ∧ H' la = some (.lst (iv o.reverse)) ∧
    (∀ q, q ∈ o.reverse.take i ∨ q = 1 → valV kvs (Sum.inl (q : Int)) = some (.int (N W p q))) ∧ kvs.length ≤ i + 1,
    ⟨none, _, rfl, e2 _ _ h1, e1.trans e2, hla, ?_, Nat.le_refl 1⟩, ?_, ?_, ?_⟩
  · intro q hq
    rcases hq with hq | rfl
    · simp at hq
    · unfold N
      rw [nway_fix R, if_pos rfl]
      rfl
  · intro i σ' H' _ hI
    obtain ⟨y, kvs, rfl, hd, e, hl, hv, hz⟩ := hI
    exact sq_of hl
  · intro i x σ' H' hx hI
    obtain ⟨y, kvs, rfl, hd, e, hl, hv, hz⟩ := hI
    obtain ⟨q, g1, rfl, g3, g4⟩ := iv_at hx
    have hi : i < o.length := by
      have := (List.getElem?_eq_some_iff.mp g1).1
      rwa [List.length_reverse] at this
    have htk : o.reverse.take (i + 1) = o.reverse.take i ++ [q] := by
      rw [List.take_add_one, g1]
      rfl
    have hW' := hW.mono e
    have hoq : o[o.length - 1 - i]? = some q := by
      rw [List.getElem?_reverse hi] at g1
      exact g1
    refine s_when (et_neN (a := q) (b := 1) (ev_var rfl) ev_c) (fun hb H3 e3 => ?_) (fun hb H3 e3 => ?_)
    · have q1 : q ≠ 1 := by simpa using hb
      have hdb : valV kvs = valV kvs := rfl
      refine s_dput (d := d) (q := (q : Int)) (v := .int (N W p q)) ?_ (ev_var rfl) (ev_var rfl) (e3 _ _ hd) (by omega) fun H4 e4 => ?_
      · have e0 : N W p q = ((ledTo (es W p) [q]).map (N W p)).sum := by
          rw [ledTo_one, List.map_map]
          unfold N
          rw [nway_fix R, if_neg q1]
          rfl
        rw [e0]
        refine ev_sumN ?_
        have e1' : ((ledTo (es W p) [q]).map (N W p)).map V.int = ((ledTo (es W p) [q]).filter (fun _ => true)).map (fun t => V.int (N W p t)) := by
          rw [List.filter_eq_self.mpr (fun _ _ => rfl), List.map_map]
          rfl
        rw [e1']
        refine el_lcIv (fun _ => true) _ (el_led_toN (hW'.mono e3) G hp (ev_var rfl) (ev_var rfl) (el_lst (ea_cons (ev_var rfl) ea_nil) (by show 1 ≤ 100000; decide))) ?_ (fun x => rfl) (fun _ _ _ _ => et_yes) (fun t Ht et ht _ => ?_)
        · rw [ledTo_one, List.length_map]
          have l1 := List.length_filter_le (fun e : Ed => decide (e.1 = q)) (es W p)
          have l2 : (es W p).length = (own W p).length := by unfold es; rw [List.length_map]
          have l3 := own_len W p
          have l4 := G.nr
          omega
        · refine ev_dget (d := d) (ev_var rfl) (ev_var rfl) (et _ _ (e3 _ _ hd)) (hv t (.inl ?_))
          obtain ⟨q', hq', he⟩ := mem_ledTo.mp ht
          rw [List.mem_singleton] at hq'
          subst hq'
          have := T.behind hed hoq he
          rw [List.take_reverse, List.mem_reverse]
          rwa [show o.length - 1 - i + 1 = o.length - i by omega] at this
      · refine ⟨_, _, rfl, upd_same, Ex.mut (e.trans (e3.trans e4)) n1, ?_, ?_, ?_⟩
        · rw [upd_ne hne.symm]
          exact e4 _ _ (e3 _ _ hl)
        · intro t ht
          rw [valV_put]
          by_cases htq : (Sum.inl (t : Int) : Key) = Sum.inl (q : Int)
          · rw [if_pos htq]
            injection htq with htq
            have : t = q := by omega
            rw [this]
          · rw [if_neg htq]
            refine hv t ?_
            rw [htk, List.mem_append, List.mem_singleton] at ht
            rcases ht with (ht | rfl) | ht
            · exact .inl ht
            · exact absurd rfl htq
            · exact .inr ht
        · have := putK_len kvs (Sum.inl (q : Int)) (.int (N W p q))
          omega
    · have q1 : q = 1 := by simpa using hb
      subst q1
      refine ⟨_, kvs, rfl, e3 _ _ hd, e.trans e3, e3 _ _ hl, ?_, by omega⟩
      intro t ht
      refine hv t ?_
      rw [htk, List.mem_append, List.mem_singleton] at ht
      rcases ht with (ht | ht) | ht
      · exact .inl ht
      · exact .inr ht
      · exact .inr ht
  · intro σ' H' hI
    obtain ⟨y, kvs, rfl, hd, e, hl, hv, hz⟩ := hI
    refine s_ret (ev_var rfl) fun H3 e3 => k d H3 kvs n1 (e.trans e3) (e3 _ _ hd) fun q hq => hv q (.inl ?_)
    rw [iv_len, List.take_length, List.mem_reverse]
    exact (T.mem q).mpr hq
end FC
namespace FC
open PySem PySem.Spec PyProof.Rows L2 Evl
theorem atI_neg1 {xs : List V} {x : V} (h : xs.getLast? = some x) : atI xs (-1) = some x := by
  obtain ⟨ys, rfl⟩ := List.getLast?_eq_some_iff.mp h
  exact atI_last ys x
/-- a list told by a function of the place -/
def fl (R : Nat) (F : Nat → Int) : List V := (List.range R).map fun k => V.int (F k)
theorem fl_len (R : Nat) (F : Nat → Int) : (fl R F).length = R := by unfold fl; rw [List.length_map, List.length_range]
theorem fl_at {R k : Nat} {F : Nat → Int} (h : k < R) : (fl R F)[k]? = some (.int (F k)) := by
  unfold fl
  rw [List.getElem?_map, List.getElem?_range h]
  rfl
theorem fl_set {R k : Nat} {F : Nat → Int} {v : Int} : (fl R F).set k (.int v) = fl R (fun j => if j = k then v else F j) := by
  apply List.ext_getElem?
  intro j
  by_cases hj : j < R
  · rw [fl_at hj, List.getElem?_set]
    by_cases h : k = j
    · subst h
      rw [if_pos rfl, if_pos (by rw [fl_len]; exact hj), if_pos rfl]
    · rw [if_neg h, fl_at hj, if_neg (fun z => h z.symm)]
  · rw [List.getElem?_eq_none (by rw [List.length_set, fl_len]; omega), List.getElem?_eq_none (by rw [fl_len]; omega)]
theorem fl_congr {R : Nat} {F G : Nat → Int} (h : ∀ k, k < R → F k = G k) : fl R F = fl R G := by
  unfold fl
  apply List.map_congr_left
  intro k hk
  rw [h k (List.mem_range.mp hk)]
theorem wtl_fl (W : Web) (p : Nat) : (wtl W p).map V.int = fl W.rs.length (wtK W p) := by
  unfold wtl fl
  rw [List.map_map]
  rfl
section
variable {K : PySem.W.Frag} {σ : L2.St} {H : Hp} {wa : Addr} {W : Web} {tw te : TE} {j : Nat} {vs : List Nat}
theorem q_asgD {tz : TS} {D : Ends} {i : Nat} {P : List (Key × V) → Prop} (h : EvD te σ H P) (k : ∀ d H1 kvs, H d = none → Ex H H1 → H1 d = some (.dK kvs) → P kvs → tz D (σ.set i (some (.ref d))) H1) : tSeq (tAsg te (gName i)) tz D σ H :=
  s_asgD (D := { D with nx := tz D }) h k
theorem s_forNLn {xs : List V} {tl : TE} {tu : TS} {D : Ends} {j : Nat} (h : EvL tl σ H xs) (Pv : Addr → Nat → L2.St → Hp → Prop) (h0 : ∀ p H1, H p = none → Ex H H1 → H1 p = some (.lst xs) → Pv p 0 σ H1) (hl : ∀ p i σ' H', i ≤ xs.length → Pv p i σ' H' → SqL K H' p xs)
    (hs : ∀ p i x σ' H', xs[i]? = some x → Pv p i σ' H' → tu { D with nx := Pv p (i + 1), ct := Pv p (i + 1), bk := D.nx } (σ'.set j (some x)) H') (hd : ∀ p σ' H', Pv p xs.length σ' H' → D.nx σ' H') : tFor (iList K tl) (gName j) tu D σ H :=
  s_forNL (g := gName j) h Pv h0 hl hs hd
/-- [e for row in web[1]], whatever the rows are -/
theorem el_lcRows {v : V} (hW : WebAt H wa W) (hR : W.rs.length ≤ 100) (hw : Ev tw σ H (.ref wa)) (hx : ∀ x, wipe ((wipe σ vs).set j (some x)) vs = wipe σ vs) (he : ∀ x H1, Ex H H1 → Ev te ((wipe σ vs).set j (some x)) H1 v) :
    EvL (tLc (iList K (tOp (rIxT K) tw (tC (.int 1)))) (gName j) tYes te vs) σ H (List.replicate W.rs.length v) := by
  obtain ⟨pa, ra, rr, h1, h2, h3, h4, h5⟩ := hW.ex
  have := el_lcL (K := K) (t := tYes) (te := te) (fun _ => true) (fun _ => v) (ev_op hw ev_c (rv_ixT (K := K) (i := 1) (v := .ref ra) (st_of h1) rfl)) (sq_of h3) (by rw [List.length_map, h4]; omega) hx
    (fun i x H1 e hi => et_yes) (fun i x H1 e hi _ => he x H1 e)
  have eq : given (rr.map V.ref).length (fun _ => true) (fun _ => v) = List.replicate W.rs.length v := by
    unfold given
    rw [List.filter_eq_self.mpr (fun _ _ => rfl), List.length_map, h4, List.map_const', List.length_range]
  rw [eq] at this
  exact this
end
theorem rd_weighed {K : PySem.W.Frag} {H : Hp} {vs : List V} {Q : VK} {E : XK} (h : sp_weighed K vs H Q E) : tr_weighed K { nx := fun _ H' => Q .non H', rt := Q } (start N_weighed vs) H := by
  obtain ⟨wa, W, p, rfl, hW, G, hp, k⟩ := h
  have GP := G.part p hp
  have n2 := GP.n2
  have n16 := GP.n16
  have nr := G.nr
  unfold tr_weighed
  have hed : ∀ e ∈ es W p, e.1 < pl W p ∧ e.2 < pl W p := fun e he => ⟨(GP.ed e he).1, (GP.ed e he).2.1⟩
  refine q_asgD (ed_ways_on hW G hp (ev_var rfl) (ev_var rfl)) fun d H1 kvs n1 e1 h1 hm => ?_
  refine q_asgL (el_lcRows (hW.mono e1) (by omega) (ev_var rfl) (fun x => rfl) fun x H2 e2 => ev_c) fun fo H2 n2' e2 h2 => ?_
  have e12 := e1.trans e2
  have hrep : List.replicate W.rs.length (V.int 0) = fl W.rs.length (fun _ => 0) := by
    unfold fl
    rw [List.map_const', List.length_range]
  rw [hrep] at h2
  have hdf : d ≠ fo := ne_of_none h1 n2'
  have nfo : H fo = none := fresh_back e1 n2'
  refine q_forR1 (ea_cons (ev_pl (hW.mono e12) hp (ev_var rfl) (ev_var rfl)) ea_nil) ⟨by omega, by omega⟩
    (fun i σ' H' => ∃ (y4 y5 y6 : Option V) (F : Nat → Int), σ' = [some (.ref wa), some (.int (p : Int)), some (.ref d), some (.ref fo), y4, y5, y6, none] ∧ Ex H H' ∧ H' d = some (.dK kvs) ∧ H' fo = some (.lst (fl W.rs.length F)) ∧
      ∀ k, k < W.rs.length → F k = if k ∈ own W p ∧ W.fr k < i then wtK W p k else 0)
    (fun H3 e3 => ⟨none, none, none, _, rfl, e12.trans e3, e3 _ _ (e2 _ _ h1), e3 _ _ h2, fun k _ => by rw [if_neg (fun z => Nat.not_lt_zero _ z.2)]⟩) (fun i σ' H' hi hI => ?_) (fun σ' H' hI => ?_)
  · obtain ⟨y4, y5, y6, F, rfl, e, hd, hf, hF⟩ := hI
    have hin : i < pl W p := by omega
    refine q_asg ev_c fun H3 e3 => ?_
    have hW3 := hW.mono (e.trans e3)
    have lrf : (rfrom W p i).length ≤ W.rs.length := Nat.le_trans (List.length_filter_le _ _) (own_len W p)
    refine s_forNLn (el_rows_from (q := i) hW3 G hp (ev_var rfl) (ev_var rfl) (ev_var rfl))
      (fun la j σ' H' => ∃ (y6 : Option V) (F : Nat → Int), σ' = [some (.ref wa), some (.int (p : Int)), some (.ref d), some (.ref fo), some (.int (i : Int)), some (.int (((rfrom W p i).take j).map fun k => N W p (W.to k)).sum), y6, none] ∧ Ex H H' ∧ H' d = some (.dK kvs) ∧
        H' fo = some (.lst (fl W.rs.length F)) ∧ H' la = some (.lst (iv (rfrom W p i))) ∧ fo ≠ la ∧ ∀ k, k < W.rs.length → F k = if k ∈ own W p ∧ (W.fr k < i ∨ k ∈ (rfrom W p i).take j) then wtK W p k else 0)
      (fun la H4 n4 e4 h4 => ⟨_, F, rfl, e.trans (e3.trans e4), e4 _ _ (e3 _ _ hd), e4 _ _ (e3 _ _ hf), h4, ne_of_none (e3 _ _ hf) n4, fun k hk => by rw [hF k hk]; simp⟩) (fun la j σ' H' _ hI => ?_) (fun la j x σ' H' hx hI => ?_) (fun la σ' H' hI => ?_)
    · obtain ⟨y6, F, rfl, e, hd, hf, hl, hla, hF⟩ := hI
      exact sq_of hl
    · obtain ⟨y6, F', rfl, e', hd', hf', hl', hla, hF'⟩ := hI
      obtain ⟨kk, g1, rfl, g3, g4⟩ := iv_at hx
      obtain ⟨ho, hfr⟩ := mem_rfrom.mp g4
      have hk := own_lt ho
      have htk : (rfrom W p i).take (j + 1) = (rfrom W p i).take j ++ [kk] := by
        rw [List.take_add_one, g1]
        rfl
      have hw := wtK_at g1
      refine q_setL (l := fo) (j := kk) hf' (ev_var rfl) (ev_var rfl) (ev_var rfl) (by rw [fl_len]; exact hk) fun H5 e5 => ?_
      rw [fl_set]
      have ex5 : Ex H (upd H5 fo (.lst (fl W.rs.length fun j_1 => if j_1 = kk then (((rfrom W p i).take j).map fun k => N W p (W.to k)).sum else F' j_1))) := Ex.mut (e'.trans e5) nfo
      have hd5 : (upd H5 fo (.lst (fl W.rs.length fun j_1 => if j_1 = kk then (((rfrom W p i).take j).map fun k => N W p (W.to k)).sum else F' j_1))) d = some (.dK kvs) := by
        rw [upd_ne hdf]
        exact e5 _ _ hd'
      have hW5 := hW.mono ex5
      refine s_aug (b := N W p (W.to kk)) rfl (ev_dget (d := d) (ev_var rfl) (ev_to hW5 hk (ev_var rfl) (ev_var rfl)) hd5 (hm _ (hed _ (es_mem ho)).2)) fun H6 e6 => ?_
      refine ⟨some (.int (kk : Int)), _, ?_, ex5.trans e6, e6 _ _ hd5, e6 _ _ upd_same, e6 _ _ ?_, hla, fun k hk => ?_⟩
      · rw [htk, List.map_append, List.sum_append]
        simp
      · rw [upd_ne hla.symm]
        exact e5 _ _ hl'
      · by_cases hkk : k = kk
        · subst hkk
          rw [if_pos rfl, if_pos ⟨ho, .inr (by rw [htk]; simp)⟩, hw]
        · rw [if_neg hkk, hF' k hk, htk]
          simp [hkk]
    · obtain ⟨y6, F', rfl, e', hd', hf', hl', hla, hF'⟩ := hI
      refine ⟨_, _, _, F', rfl, e', hd', hf', fun k hk => ?_⟩
      rw [hF' k hk, iv_len, List.take_length]
      by_cases ho : k ∈ own W p
      · have : (k ∈ own W p ∧ (W.fr k < i ∨ k ∈ rfrom W p i)) ↔ (k ∈ own W p ∧ W.fr k < i + 1) := by
          rw [mem_rfrom]
          constructor
          · rintro ⟨h1, h2⟩
            exact ⟨h1, by omega⟩
          · rintro ⟨h1, h2⟩
            by_cases h3 : W.fr k < i
            · exact ⟨h1, .inl h3⟩
            · exact ⟨h1, .inr ⟨h1, by omega⟩⟩
        simp only [this]
      · simp [ho]
  · obtain ⟨y4, y5, y6, F, rfl, e, hd, hf, hF⟩ := hI
    refine s_ret (ev_var rfl) fun H3 e3 => k fo H3 nfo (e.trans e3) ?_
    rw [e3 _ _ hf, wtl_fl]
    congr 2
    apply fl_congr
    intro k hk
    rw [hF k hk]
    by_cases ho : k ∈ own W p
    · have := (hed _ (es_mem ho)).1
      dsimp only at this
      rw [if_pos ⟨ho, by simpa using this⟩]
    · rw [if_neg (fun z => ho z.1)]
      unfold wtK
      rw [if_neg ho]
theorem rd_way_by {K : PySem.W.Frag} {H : Hp} {vs : List V} {Q : VK} {E : XK} (h : sp_way_by K vs H Q E) : tr_way_by K { nx := fun _ H' => Q .non H', rt := Q } (start N_way_by vs) H := by
  obtain ⟨wa, W, p, wo, num, rfl, hW, G, hp, hwo, h0, k⟩ := h
  have GP := G.part p hp
  have n2 := GP.n2
  have nr := G.nr
  obtain ⟨rk, R, R2⟩ := GP.rk
  unfold tr_way_by
  refine q_asgL (xs := []) (el_lst ea_nil (by simp)) fun fo H1 n1 e1 h1 => ?_
  refine q_asg ev_c fun H2 e2 => ?_
  have e12 := e1.trans e2
  refine q_while (fun m σ' H' => ∃ (here : Nat) (nm : Int) (acc : List Nat) (y6 : Option V), σ' = [some (.ref wa), some (.int (p : Int)), some (.ref wo), some (.int nm), some (.ref fo), some (.int (here : Int)), y6, none] ∧ Ex H H' ∧ H' fo = some (.lst (iv acc)) ∧
      acc.length + m = 16 ∧ acc ++ wayK W p m here nm = wayK W p 16 0 num ∧ here < pl W p ∧ 0 ≤ nm ∧ 16 ≤ rk here + m) 16
    ⟨0, num, [], none, rfl, e12, e2 _ _ h1, rfl, rfl, by omega, h0, by omega⟩ fun m σ' H' hI => ?_
  obtain ⟨here, nm, acc, y6, rfl, e, hf, hlen, hacc, hn, hnm, hrk⟩ := hI
  refine ⟨!decide (here = 1), et_neN (a := here) (b := 1) (ev_var rfl) ev_c, fun hb H3 e3 => ?_, fun hb H3 e3 => ?_⟩
  · have h1' : here ≠ 1 := by simpa using hb
    obtain ⟨m', rfl⟩ : ∃ m', m = m' + 1 := ⟨m - 1, by have := R2 here hn; omega⟩
    obtain ⟨kk, hk, ho, hfr, hw⟩ := pick_some GP hn h1' hnm
    have hkl := own_lt ho
    refine ⟨_, fun σ2 H2 h => h, ?_⟩
    have hW3 := hW.mono (e.trans e3)
    refine q_asgL (xs := iv ((rfrom W p here).filter fun k => decide (wtK W p k ≤ nm))) ?_ fun la H4 n4 e4 h4 => ?_
    · have lrf : (rfrom W p here).length ≤ W.rs.length := Nat.le_trans (List.length_filter_le _ _) (own_len W p)
      exact el_lcIv (fun k => decide (wtK W p k ≤ nm)) (fun k => .int k) (el_rows_from (q := here) hW3 G hp (ev_var rfl) (ev_var rfl) (ev_var rfl)) (by omega) (fun x => rfl)
        (fun kq Hq eq hq => et_test (ev_op (ev_op (ev_var rfl) (ev_var rfl) (rv_ixL (sq_of (eq _ _ (e3 _ _ (e _ _ hwo)))) (atI_nat (wtl_at (own_lt (mem_rfrom.mp hq).1))))) (ev_var rfl) rv_I0)) (fun kq Hq eq hq _ => ev_var rfl)
    have e34 := e3.trans e4
    have hlast : atI (iv ((rfrom W p here).filter fun k => decide (wtK W p k ≤ nm))) (-1) = some (.int (kk : Int)) := by
      apply atI_neg1
      unfold iv
      rw [List.getLast?_map, hk]
      rfl
    have hne : fo ≠ la := ne_of_none (e3 _ _ hf) n4
    refine q_app (l := fo) (v := .int (kk : Int)) (e34 _ _ hf) (ev_var rfl) (ev_op (ev_var rfl) (ev_un ev_c ru_neg) (rv_ixL (sq_of h4) hlast)) (by rw [iv_len]; omega) fun H5 e5 => ?_
    have ex5 : Ex H (upd H5 fo (.lst (iv acc ++ [.int (kk : Int)]))) := Ex.mut (e.trans (e34.trans e5)) n1
    have h5 : (upd H5 fo (.lst (iv acc ++ [.int (kk : Int)]))) la = some (.lst (iv ((rfrom W p here).filter fun k => decide (wtK W p k ≤ nm)))) := by
      rw [upd_ne hne.symm]
      exact e5 _ _ h4
    refine q_aug (a := nm) (b := wtK W p kk) rfl (ev_op (ev_var rfl) (ev_op (ev_var rfl) (ev_un ev_c ru_neg) (rv_ixL (sq_of h5) hlast)) (rv_ixL (sq_of (ex5 _ _ hwo)) (atI_nat (wtl_at hkl)))) fun H6 e6 => ?_
    refine s_asg (ev_to (hW.mono (ex5.trans e6)) hkl (ev_var rfl) (ev_op (ev_var rfl) (ev_un ev_c ru_neg) (rv_ixL (sq_of (e6 _ _ h5)) hlast))) fun H7 e7 => ?_
    have hm' := es_mem ho
    have hrk2 := R _ hm'
    dsimp only at hrk2
    refine ⟨m', by omega, W.to kk, nm - wtK W p kk, acc ++ [kk], some (.ref la), rfl, ex5.trans (e6.trans e7), ?_, ?_, ?_, (GP.ed _ hm').2.1, by omega, by rw [hfr] at hrk2; omega⟩
    · rw [e7 _ _ (e6 _ _ upd_same)]
      unfold iv
      rw [List.map_append]
      rfl
    · rw [List.length_append]
      simp
      omega
    · rw [← hacc, wayK_step h1' hk, List.append_assoc]
      rfl
  · have h1' : here = 1 := by simpa using hb
    subst h1'
    rw [wayK_end, List.append_nil] at hacc
    subst hacc
    exact s_ret (ev_var rfl) fun H4 e4 => k fo H4 n1 (e.trans (e3.trans e4)) (e4 _ _ (e3 _ _ hf))
end FC
namespace FC
open PySem PySem.Spec PyProof.Rows L2 Evl
section
variable {K : PySem.W.Frag} {σ : L2.St} {H : Hp} {te ta tb : TE} {tz : TS} {D : Ends} {t : TA}
theorem q_tup2 {i j : Nat} {a : Addr} {x y : V} (h : Ev te σ H (.ref a)) (ht : H a = some (.tup [x, y])) (k : ∀ H1, Ex H H1 → tz D ((σ.set i (some x)).set j (some y)) H1) : tSeq (tAsg te (gTup K 2 (gCons (gName i) (gCons (gName j) gNil)))) tz D σ H := by
  refine h H (Ex.refl _) _ fun H1 e => ?_
  exact ⟨a, [x, y], rfl, st_of (e _ _ ht), rfl, x, [y], rfl, y, [], rfl, rfl, k H1 e⟩
theorem q_tup4 {i1 i2 i3 i4 : Nat} {a : Addr} {x y z u : V} (h : Ev te σ H (.ref a)) (ht : H a = some (.tup [x, y, z, u])) (k : ∀ H1, Ex H H1 → tz D ((((σ.set i1 (some x)).set i2 (some y)).set i3 (some z)).set i4 (some u)) H1) :
    tSeq (tAsg te (gTup K 4 (gCons (gName i1) (gCons (gName i2) (gCons (gName i3) (gCons (gName i4) gNil)))))) tz D σ H := by
  refine h H (Ex.refl _) _ fun H1 e => ?_
  exact ⟨a, _, rfl, st_of (e _ _ ht), rfl, x, _, rfl, y, _, rfl, z, _, rfl, u, _, rfl, rfl, k H1 e⟩
theorem q_unl2 {i j : Nat} {a : Addr} {x y : V} (h : Ev te σ H (.ref a)) (ht : H a = some (.lst [x, y])) (k : ∀ H1, Ex H H1 → tz D ((σ.set i (some x)).set j (some y)) H1) : tSeq (tAsg te (gUnl K 2 (gCons (gName i) (gCons (gName j) gNil)))) tz D σ H := by
  refine h H (Ex.refl _) _ fun H1 e => ?_
  exact ⟨a, [x, y], rfl, sq_of (e _ _ ht), rfl, x, [y], rfl, y, [], rfl, rfl, k H1 e⟩
theorem s_par {i j : Nat} {x y : V} (h : EvA t σ H [x, y]) (k : ∀ H1, Ex H H1 → D.nx ((σ.set i (some x)).set j (some y)) H1) : tPar i j t D σ H :=
  h H (Ex.refl _) _ fun H1 e => ⟨x, y, rfl, k H1 e⟩
theorem q_par {i j : Nat} {x y : V} (h : EvA t σ H [x, y]) (k : ∀ H1, Ex H H1 → tz D ((σ.set i (some x)).set j (some y)) H1) : tSeq (tPar i j t) tz D σ H :=
  h H (Ex.refl _) _ fun H1 e => ⟨x, y, rfl, k H1 e⟩
theorem ev_min2 {i j : Int} (ha : Ev ta σ H (.int i)) (hb : Ev tb σ H (.int j)) : Ev (tCB rMin2 (tCons ta (tCons tb tNil))) σ H (.int (if j < i then j else i)) :=
  ev_cb (ea_cons ha (ea_cons hb ea_nil)) fun H1 e Q k => ⟨i, j, rfl, k H1 (Ex.refl _)⟩
end
/-! ### a set of places as a dict -/
def kt (S : List Nat) : List (Key × V) := S.map fun (q : Nat) => ((Sum.inl (q : Int) : Key), V.bl true)
theorem kt_len (S : List Nat) : (kt S).length = S.length := by unfold kt; rw [List.length_map]
theorem key_ne {a b : Nat} (h : a ≠ b) : (Sum.inl (a : Int) : Key) ≠ Sum.inl (b : Int) := fun z => by injection z with z; omega
theorem kt_val (q : Nat) : ∀ S : List Nat, (valV (kt S) (Sum.inl (q : Int))).isSome = decide (q ∈ S)
  | [] => by simp [kt, valV]
  | a :: r => by
    have e : kt (a :: r) = (Sum.inl (a : Int), V.bl true) :: kt r := rfl
    rw [e]
    by_cases h : a = q
    · subst h
      rw [valV_pos rfl]
      simp
    · have h2 : q ≠ a := fun z => h z.symm
      rw [valV_neg (key_ne h), kt_val q r]
      simp [h2]
theorem kt_put_old {S : List Nat} {q : Nat} (h : q ∈ S) : putK (kt S) (Sum.inl (q : Int)) (.bl true) = kt S := by
  unfold putK
  rw [valV_any, kt_val, decide_eq_true h, if_pos rfl]
  unfold kt
  rw [List.map_map]
  apply List.map_congr_left
  intro a _
  dsimp only [Function.comp]
  split
  · rfl
  · rfl
theorem kt_put_new {S : List Nat} {q : Nat} (h : q ∉ S) : putK (kt S) (Sum.inl (q : Int)) (.bl true) = kt (S ++ [q]) := by
  have hv : valV (kt S) (Sum.inl (q : Int)) = none := by
    have := kt_val q S
    rw [decide_eq_false h] at this
    cases hv : valV (kt S) (Sum.inl (q : Int)) with
    | none => rfl
    | some v => rw [hv] at this; cases this
  rw [putK_new _ hv]
  unfold kt
  rw [List.map_append]
  rfl
theorem nodup_le {S : List Nat} {n : Nat} (hd : S.Nodup) (h : ∀ q ∈ S, q < n) : S.length ≤ n := by
  have : S.Perm ((List.range n).filter fun q => decide (q ∈ S)) := by
    rw [List.perm_ext_iff_of_nodup hd (List.nodup_range.filter _)]
    intro a
    rw [List.mem_filter, List.mem_range]
    simp
    exact fun ha => h a ha
  rw [this.length_eq]
  have := List.length_filter_le (fun q => decide (q ∈ S)) (List.range n)
  rwa [List.length_range] at this
theorem nodup_all {S : List Nat} {n : Nat} (hd : S.Nodup) (h : ∀ q, q ∈ S ↔ q < n) : S.length = n := by
  have : S.Perm (List.range n) := (List.perm_ext_iff_of_nodup hd List.nodup_range).mpr fun a => by rw [h, List.mem_range]
  rw [this.length_eq, List.length_range]
/-- a row's ends, turned -/
def oneK (W : Web) (tu : Bool) (k : Nat) : Nat := if tu then W.to k else W.fr k
def othK (W : Web) (tu : Bool) (k : Nat) : Nat := if tu then W.fr k else W.to k
theorem all_come {W : Web} {p n st : Nat} {tu : Bool} {S : List Nat} (G : GoodPart n (es W p)) (hs : (st, tu) ∈ [(0, false), (1, true)]) (hS : st ∈ S) (hc : ∀ k ∈ own W p, oneK W tu k ∈ S → othK W tu k ∈ S) : ∀ q, q < n → q ∈ S := by
  intro q hq
  simp only [List.mem_cons, List.mem_nil_iff, or_false, Prod.mk.injEq] at hs
  rcases hs with ⟨rfl, rfl⟩ | ⟨rfl, rfl⟩
  · refine (G.from0 q hq).closed (S := (· ∈ S)) (fun e he h => ?_) hS
    obtain ⟨k, hk, rfl⟩ := mem_es he
    exact hc k hk h
  · refine (G.to1 q hq).closedB (S := (· ∈ S)) (fun e he h => ?_) hS
    obtain ⟨k, hk, rfl⟩ := mem_es he
    exact hc k hk h
theorem rd_reached {K : PySem.W.Frag} {H : Hp} {vs : List V} {Q : VK} {E : XK} (h : sp_reached K vs H Q E) : tr_reached K { nx := fun _ H' => Q .non H', rt := Q } (start N_reached vs) H := by
  obtain ⟨wa, W, p, st, tu, rfl, hW, G, hp, hst, k⟩ := h
  have GP := G.part p hp
  have n2 := GP.n2
  have n16 := GP.n16
  have nr := G.nr
  have hed : ∀ k ∈ own W p, oneK W tu k < pl W p ∧ othK W tu k < pl W p := fun k hk => by
    have h1 := GP.ed _ (es_mem hk)
    unfold oneK othK
    cases tu
    · exact ⟨h1.1, h1.2.1⟩
    · exact ⟨h1.2.1, h1.1⟩
  have stn : st < pl W p := by
    simp only [List.mem_cons, List.mem_nil_iff, or_false, Prod.mk.injEq] at hst
    omega
  unfold tr_reached
  refine q_disp (a := (st : Int)) (v := .bl true) (ev_var rfl) ev_c fun d H1 n1 e1 h1 => ?_
  refine q_asg ev_c fun H2 e2 => ?_
  refine q_while (fun m σ' H' => ∃ (mv : Nat) (S : List Nat) (y6 y7 y8 : Option V), σ' = [some (.ref wa), some (.int (p : Int)), some (.int (st : Int)), some (.bl tu), some (.ref d), some (.int (mv : Int)), y6, y7, y8] ∧ Ex H H' ∧ H' d = some (.dK (kt S)) ∧
      S.Nodup ∧ (∀ q ∈ S, q < pl W p) ∧ st ∈ S ∧ mv ≤ S.length ∧ (mv = S.length → ∀ k ∈ own W p, oneK W tu k ∈ S → othK W tu k ∈ S) ∧ m = pl W p + 1 - mv) (pl W p + 1)
    ⟨0, [st], none, none, none, rfl, e1.trans e2, e2 _ _ h1, by simp, fun q hq => by rw [List.mem_singleton] at hq; omega, by simp, by simp, fun z => by simp at z, rfl⟩ fun m σ' H' hI => ?_
  obtain ⟨mv, S, y6, y7, y8, rfl, e, hd, nd, lt, hs, hmv, hcl, rfl⟩ := hI
  have hSn := nodup_le nd lt
  have hlen := ev_lenD (td := tVar 4) (σ := [some (.ref wa), some (.int (p : Int)), some (.int (st : Int)), some (.bl tu), some (.ref d), some (.int (mv : Int)), y6, y7, y8]) (ev_var (i := 4) (v := V.ref d) rfl) hd
  rw [kt_len] at hlen
  refine ⟨_, et_test (ev_op (ev_var rfl) hlen rv_I0), fun hb H3 e3 => ?_, fun hb H3 e3 => ?_⟩
  · have hlt : mv < S.length := by
      have := of_decide_eq_true hb
      omega
    refine ⟨_, fun σ2 H2 h => h, ?_⟩
    refine q_asg (hlen.mono e3) fun H4 e4 => ?_
    have e34 := e3.trans e4
    have ol := own_len W p
    refine s_forNLn (el_rows_of (hW.mono (e.trans e34)) G hp (ev_var rfl) (ev_var rfl))
      (fun la j σ' H' => ∃ (S' : List Nat) (y6 y7 y8 : Option V), σ' = [some (.ref wa), some (.int (p : Int)), some (.int (st : Int)), some (.bl tu), some (.ref d), some (.int (S.length : Int)), y6, y7, y8] ∧ Ex H H' ∧ H' d = some (.dK (kt S')) ∧ H' la = some (.lst (iv (own W p))) ∧ d ≠ la ∧
        S'.Nodup ∧ (∀ q ∈ S', q < pl W p) ∧ st ∈ S' ∧ S.length ≤ S'.length ∧ (S.length = S'.length → ∀ k ∈ (own W p).take j, oneK W tu k ∈ S' → othK W tu k ∈ S'))
      (fun la H5 n5 e5 h5 => ⟨S, y6, y7, y8, rfl, e.trans (e34.trans e5), e5 _ _ (e34 _ _ hd), h5, ne_of_none (e34 _ _ hd) n5, nd, lt, hs, Nat.le_refl _, fun _ k hk => by simp at hk⟩) (fun la j σ' H' _ hI => ?_) (fun la j x σ' H' hx hI => ?_) (fun la σ' H' hI => ?_)
    · obtain ⟨S', y6, y7, y8, rfl, e', hd', hl', hne, nd', lt', hs', hle, hcl'⟩ := hI
      exact sq_of hl'
    · obtain ⟨S', y6, y7, y8, rfl, e', hd', hl', hne, nd', lt', hs', hle, hcl'⟩ := hI
      obtain ⟨kk, g1, rfl, g3, ho⟩ := iv_at hx
      have hk := own_lt ho
      have htk : (own W p).take (j + 1) = (own W p).take j ++ [kk] := by
        rw [List.take_add_one, g1]
        rfl
      have hSn' := nodup_le nd' lt'
      have hW' := hW.mono e'
      refine q_par (x := .int (W.fr kk)) (y := .int (W.to kk)) (ea_cons (ev_from hW' hk (ev_var rfl) (ev_var rfl)) (ea_cons (ev_to hW' hk (ev_var rfl) (ev_var rfl)) ea_nil)) fun H6 e6 => ?_
      have hmid : ∀ (D : Ends) H7, Ex H' H7 → (∀ σ' H', (∃ (S' : List Nat) (y6 y7 y8 : Option V), σ' = [some (.ref wa), some (.int (p : Int)), some (.int (st : Int)), some (.bl tu), some (.ref d), some (.int (S.length : Int)), y6, y7, y8] ∧ Ex H H' ∧ H' d = some (.dK (kt S')) ∧ H' la = some (.lst (iv (own W p))) ∧ d ≠ la ∧
              S'.Nodup ∧ (∀ q ∈ S', q < pl W p) ∧ st ∈ S' ∧ S.length ≤ S'.length ∧ (S.length = S'.length → ∀ k ∈ (own W p).take (j + 1), oneK W tu k ∈ S' → othK W tu k ∈ S')) → D.nx σ' H') →
          tIfS (tB (tDIn (tVar 7) (tVar 4))) (sDPut (tVar 4) (tVar 8) (tC (.bl true))) tNext D
          [some (.ref wa), some (.int (p : Int)), some (.int (st : Int)), some (.bl tu), some (.ref d), some (.int (S.length : Int)), some (.int (kk : Int)), some (.int (oneK W tu kk : Int)), some (.int (othK W tu kk : Int))] H7 := by
        intro D H7 e7 hD
        refine s_when (et_B (ev_din (q := (oneK W tu kk : Int)) (ev_var rfl) (ev_var rfl) (e7 _ _ hd'))) (fun hb H8 e8 => ?_) (fun hb H8 e8 => ?_)
        · rw [kt_val] at hb
          have hin : oneK W tu kk ∈ S' := of_decide_eq_true hb
          refine s_dput (d := d) (q := (othK W tu kk : Int)) (v := .bl true) ev_c (ev_var rfl) (ev_var rfl) (e8 _ _ (e7 _ _ hd')) (by rw [kt_len]; omega) fun H9 e9 => ?_
          have ex9 : ∀ o, Ex H (upd H9 d o) := fun o => Ex.mut (e'.trans (e7.trans (e8.trans e9))) n1
          have hl9 : ∀ o, (upd H9 d o) la = some (.lst (iv (own W p))) := fun o => by
            rw [upd_ne hne.symm]
            exact e9 _ _ (e8 _ _ (e7 _ _ hl'))
          by_cases hoth : othK W tu kk ∈ S'
          · rw [kt_put_old hoth]
            refine hD _ _ ⟨S', _, _, _, rfl, ex9 _, upd_same, hl9 _, hne, nd', lt', hs', hle, fun hz k' hk' => ?_⟩
            rw [htk, List.mem_append, List.mem_singleton] at hk'
            rcases hk' with hk' | rfl
            · exact hcl' hz k' hk'
            · exact fun _ => hoth
          · rw [kt_put_new hoth]
            refine hD _ _ ⟨S' ++ [othK W tu kk], _, _, _, rfl, ex9 _, upd_same, hl9 _, hne, ?_, ?_, List.mem_append_left _ hs', by rw [List.length_append]; omega, fun hz => ?_⟩
            · rw [List.nodup_append]
              refine ⟨nd', by simp, fun a ha b hb => ?_⟩
              rw [List.mem_singleton] at hb
              subst hb
              rintro rfl
              exact hoth ha
            · intro q hq
              rw [List.mem_append, List.mem_singleton] at hq
              rcases hq with hq | rfl
              · exact lt' q hq
              · exact (hed kk ho).2
            · rw [List.length_append] at hz
              simp at hz
              omega
        · rw [kt_val] at hb
          have hin : oneK W tu kk ∉ S' := of_decide_eq_false hb
          refine hD _ _ ⟨S', _, _, _, rfl, e'.trans (e7.trans e8), e8 _ _ (e7 _ _ hd'), e8 _ _ (e7 _ _ hl'), hne, nd', lt', hs', hle, fun hz k' hk' => ?_⟩
          rw [htk, List.mem_append, List.mem_singleton] at hk'
          rcases hk' with hk' | rfl
          · exact hcl' hz k' hk'
          · exact fun z => absurd z hin
      cases tu with
      | false =>
        refine q_when (b := false) (et_B (ev_var rfl)) (fun hb => by cases hb) (fun _ H7 e7 => ?_)
        exact hmid _ H7 (e6.trans e7) fun _ _ h => h
      | true =>
        refine q_if (b := true) (et_B (ev_var rfl)) (fun _ H7 e7 => ?_) (fun hb => by cases hb)
        refine s_par (x := .int (W.to kk)) (y := .int (W.fr kk)) (ea_cons (ev_var rfl) (ea_cons (ev_var rfl) ea_nil)) fun H8 e8 => ?_
        exact hmid _ H8 (e6.trans (e7.trans e8)) fun _ _ h => h
    · obtain ⟨S', y6, y7, y8, rfl, e', hd', hl', hne, nd', lt', hs', hle, hcl'⟩ := hI
      rw [iv_len, List.take_length] at hcl'
      have := nodup_le nd' lt'
      exact ⟨_, by omega, S.length, S', y6, y7, y8, rfl, e', hd', nd', lt', hs', hle, hcl', rfl⟩
  · have hge : mv = S.length := by
      have := of_decide_eq_false hb
      omega
    refine s_ret (ev_var rfl) fun H4 e4 => k d H4 (kt S) n1 (e.trans (e3.trans e4)) (e4 _ _ (e3 _ _ hd)) ?_
    rw [kt_len]
    have hall := all_come GP hst hs (hcl hge)
    exact nodup_all nd fun q => ⟨lt q, hall q⟩
end FC
namespace FC
open PySem PySem.Spec PyProof.Rows L2 Evl
section
variable {K : PySem.W.Frag} {σ : L2.St} {H : Hp} {ta tb : TE}
theorem et_ltF {i j : Int} (ha : Ev ta σ H (.int i)) (hb : Ev tb σ H (.int j)) (h : ¬ i < j) : EvT (tTest (tOp (rI0 fun i j => .bl (decide (i < j))) ta tb)) σ H false :=
  et_is (et_test (ev_op ha hb rv_I0)) (decide_eq_false h)
theorem et_gtF {i j : Int} (ha : Ev ta σ H (.int i)) (hb : Ev tb σ H (.int j)) (h : ¬ j < i) : EvT (tTest (tOp (rI0 fun i j => .bl (decide (j < i))) ta tb)) σ H false :=
  et_is (et_test (ev_op ha hb rv_I0)) (decide_eq_false h)
theorem et_geF {i j : Int} (ha : Ev ta σ H (.int i)) (hb : Ev tb σ H (.int j)) (h : ¬ j ≤ i) : EvT (tTest (tOp (rI0 fun i j => .bl (decide (j ≤ i))) ta tb)) σ H false :=
  et_is (et_test (ev_op ha hb rv_I0)) (decide_eq_false h)
theorem et_orF {t u : TT} (h1 : EvT t σ H false) (h2 : EvT u σ H false) : EvT (tOr t u) σ H false := et_or h1 fun _ => h2
theorem et_minF {a : Addr} {ns : List Nat} {j : Int} (ha : Ev ta σ H (.ref a)) (h : H a = some (.lst (iv ns))) (hne : 0 < ns.length) (hb : ∀ n ∈ ns, ¬ (n : Int) < j) : EvT (tTest (tOp (rI0 fun i j => .bl (decide (i < j))) (tCB (rMin K) (tCons ta tNil)) (tC (.int j)))) σ H false := by
  intro H1 e Q k
  refine ha H1 e _ fun H2 e2 => ?_
  refine ⟨a, ns.map (fun (n : Nat) => (n : Int)), rfl, ?_, by rw [List.length_map]; exact hne, fun m hm _ => ?_⟩
  · have : (ns.map (fun (n : Nat) => (n : Int))).map V.int = iv ns := by rw [List.map_map]; rfl
    rw [this]
    exact sq_of (e2 _ _ (e _ _ h))
  · rw [List.mem_map] at hm
    obtain ⟨n, hn, rfl⟩ := hm
    refine ⟨_, _, rfl, rfl, false, ?_, k H2 e2⟩
    exact congrArg V.bl (decide_eq_false (hb n hn))
theorem et_maxF {a : Addr} {ns : List Nat} {j : Int} (ha : Ev ta σ H (.ref a)) (h : H a = some (.lst (iv ns))) (hne : 0 < ns.length) (hb : ∀ n ∈ ns, ¬ j < (n : Int)) : EvT (tTest (tOp (rI0 fun i j => .bl (decide (j < i))) (tCB (rMax K) (tCons ta tNil)) (tC (.int j)))) σ H false := by
  intro H1 e Q k
  refine ha H1 e _ fun H2 e2 => ?_
  refine ⟨a, ns.map (fun (n : Nat) => (n : Int)), rfl, ?_, by rw [List.length_map]; exact hne, fun m hm _ => ?_⟩
  · have : (ns.map (fun (n : Nat) => (n : Int))).map V.int = iv ns := by rw [List.map_map]; rfl
    rw [this]
    exact sq_of (e2 _ _ (e _ _ h))
  · rw [List.mem_map] at hm
    obtain ⟨n, hn, rfl⟩ := hm
    refine ⟨_, _, rfl, rfl, false, ?_, k H2 e2⟩
    exact congrArg V.bl (decide_eq_false (hb n hn))
theorem inV_ints (a : Int) (l : List Int) : inV (.int a) (l.map V.int) = decide (a ∈ l) := by
  induction l with
  | nil => simp [inV]
  | cons b r ih =>
    have : inV (.int a) ((b :: r).map V.int) = ((b == a) || inV (.int a) (r.map V.int)) := rfl
    rw [this, ih]
    by_cases h : a = b
    · subst h; simp
    · have h2 : ¬ b = a := fun z => h z.symm
      simp [h, h2]
theorem flat_ints (l : List Int) : (l.map V.int).all flatV = true := by
  rw [List.all_map, List.all_eq_true]
  intro x _
  rfl
end
section
variable {K : PySem.W.Frag} {H : Hp} {vs : List V} {Q : VK} {E : XK}
theorem row_ends {W : Web} (G : GoodWeb W) {r : Row} (hr : r ∈ W.rs) : r.f < pl W r.p ∧ r.t < pl W r.p ∧ r.f ≠ 1 := by
  obtain ⟨i, hi⟩ := List.getElem?_of_mem hr
  have hil : i < W.rs.length := (List.getElem?_eq_some_iff.mp hi).1
  have hrow : W.row i = r := by
    have := Web.row_get hil
    rw [hi] at this
    exact (Option.some.inj this).symm
  have ho : i ∈ own W r.p := by
    unfold own
    rw [List.mem_filter, List.mem_range]
    exact ⟨hil, by rw [hrow]; simp⟩
  have := (G.part r.p (G.row r hr).1).ed _ (es_mem ho)
  unfold Web.fr Web.to at this
  rw [hrow] at this
  exact this
theorem rd_fits_row (h : sp_fits_row K vs H Q E) : tr_fits_row K { nx := fun _ H' => Q .non H', rt := Q } (start N_fits_row vs) H := by
  obtain ⟨wa, W, ra, r, rfl, hW, G, hr, hm, k⟩ := h
  obtain ⟨pa, rra, rr, w1, w2, w3, w4, w5⟩ := hW.ex
  have gr := G.row r hm
  have ge := row_ends G hm
  unfold tr_fits_row
  refine q_tup2 (ev_var rfl) w1 fun H1 e1 => ?_
  refine q_tup4 (ev_var rfl) (e1 _ _ hr) fun H2 e2 => ?_
  have e12 := e1.trans e2
  have lenp : ∀ H', Ex H H' → Ev (tCB (rLenS K) (tCons (tVar 2) tNil)) [some (.ref wa), some (.ref ra), some (.ref pa), some (.ref rra), some (.int (r.p : Int)), some (.int (r.f : Int)), some (.int (r.t : Int)), some (.int r.c)] H' (.int (W.ps.length : Int)) := fun H' e => by
    have := ev_len (K := K) (ta := tVar 2) (σ := [some (.ref wa), some (.ref ra), some (.ref pa), some (.ref rra), some (.int (r.p : Int)), some (.int (r.f : Int)), some (.int (r.t : Int)), some (.int r.c)]) (ev_var (v := .ref pa) rfl) (sq_of (e _ _ w2))
    rwa [iv_len] at this
  refine q_when (b := false) ?_ (fun h => by cases h) (fun _ H3 e3 => ?_)
  · refine et_orF (et_ltF (i := (r.p : Int)) (ev_var rfl) ev_c (by omega)) (et_orF (et_geF (i := (r.p : Int)) (ev_var rfl) (lenp H2 e12) (by omega)) (et_orF (et_ltF (ev_min2 (i := (r.f : Int)) (j := (r.t : Int)) (ev_var rfl) (ev_var rfl)) ev_c (by split <;> omega)) ?_))
    refine et_geF (ev_max2 (i := (r.f : Int)) (j := (r.t : Int)) (ev_var rfl) (ev_var rfl)) (ev_op (ev_var rfl) (ev_var rfl) (rv_ixL (sq_of (e12 _ _ w2)) (atI_nat (iv_get (pl_get gr.1))))) ?_
    split <;> omega
  · have e13 := e12.trans e3
    refine s_ret (v := .bl true) ?_ fun H4 e4 => k H4 (e13.trans e4)
    have h1 : Ev (tOp rNe (tVar 5) (tC (.int 1))) [some (.ref wa), some (.ref ra), some (.ref pa), some (.ref rra), some (.int (r.p : Int)), some (.int (r.f : Int)), some (.int (r.t : Int)), some (.int r.c)] H3 (.bl true) := by
      refine ev_is (ev_op (x := .int (r.f : Int)) (y := .int 1) (ev_var rfl) ev_c (rv_ne (by rfl))) ?_
      congr 1
      have : ¬ (V.int (r.f : Int) = V.int 1) := fun z => by injection z with z; omega
      rw [decide_eq_false this]
      rfl
    refine ev_andV (a := true) (b := true) h1 fun _ => ev_andV (a := true) (b := true) (ev_is (ev_op (ev_var rfl) (lenp H3 e13) rv_I0) ?_) fun _ => ?_
    · congr 1
      exact decide_eq_true gr.2.2
    · by_cases hc : r.c = -1
      · refine ev_orV (a := true) (b := true) (ev_is (ev_op (x := .int r.c) (ev_var rfl) (ev_un (x := .int 1) ev_c ru_neg) (rv_eq (by rfl))) ?_) fun z => by cases z
        congr 1
        rw [hc]
        rfl
      · refine ev_orV (a := false) (b := true) (ev_is (ev_op (x := .int r.c) (ev_var rfl) (ev_un (x := .int 1) ev_c ru_neg) (rv_eq (by rfl))) ?_) fun _ => ev_is (ev_op (ev_var rfl) (ev_var rfl) rv_I0) ?_
        · congr 1
          exact decide_eq_false fun z => hc (by injection z)
        · congr 1
          refine decide_eq_true ?_
          rcases gr.2.1 with h | h
          · exact absurd h hc
          · exact h
theorem mem_pl {W : Web} (G : GoodWeb W) {n : Nat} (h : n ∈ W.ps) : 2 ≤ n ∧ n ≤ 16 := by
  obtain ⟨i, hi⟩ := List.getElem?_of_mem h
  have hil : i < W.ps.length := (List.getElem?_eq_some_iff.mp hi).1
  have := pl_get hil
  rw [hi] at this
  have e : n = pl W i := Option.some.inj this
  have GP := G.part i hil
  exact ⟨by rw [e]; exact GP.n2, by rw [e]; exact GP.n16⟩
theorem rd_is_web (h : sp_is_web K vs H Q E) : tr_is_web K { nx := fun _ H' => Q .non H', rt := Q } (start N_is_web vs) H := by
  obtain ⟨wa, W, rfl, hW, G, k⟩ := h
  obtain ⟨pa, rra, rr, w1, w2, w3, w4, w5⟩ := hW.ex
  have np := G.np
  have nr := G.nr
  unfold tr_is_web
  refine q_tup2 (ev_var rfl) w1 fun H1 e1 => ?_
  have lenp : ∀ H' y3 y4, Ex H H' → Ev (tCB (rLenS K) (tCons (tVar 1) tNil)) [some (.ref wa), some (.ref pa), some (.ref rra), y3, y4] H' (.int (W.ps.length : Int)) := fun H' y3 y4 e => by
    have := ev_len (K := K) (ta := tVar 1) (σ := [some (.ref wa), some (.ref pa), some (.ref rra), y3, y4]) (ev_var (v := .ref pa) rfl) (sq_of (e _ _ w2))
    rwa [iv_len] at this
  have lenr : ∀ H' y3 y4, Ex H H' → Ev (tCB (rLenS K) (tCons (tVar 2) tNil)) [some (.ref wa), some (.ref pa), some (.ref rra), y3, y4] H' (.int (W.rs.length : Int)) := fun H' y3 y4 e => by
    have := ev_len (K := K) (ta := tVar 2) (σ := [some (.ref wa), some (.ref pa), some (.ref rra), y3, y4]) (ev_var (v := .ref rra) rfl) (sq_of (e _ _ w3))
    rwa [List.length_map, w4] at this
  refine q_when (b := false) ?_ (fun h => by cases h) (fun _ H2 e2 => ?_)
  · exact et_orF (et_ltF (lenp _ _ _ e1) ev_c (by omega)) (et_orF (et_gtF (lenp _ _ _ e1) ev_c (by omega)) (et_orF (et_ltF (lenr _ _ _ e1) ev_c (by omega)) (et_gtF (lenr _ _ _ e1) ev_c (by omega))))
  have e12 := e1.trans e2
  refine q_when (b := false) ?_ (fun h => by cases h) (fun _ H3 e3 => ?_)
  · exact et_orF (et_minF (a := pa) (ev_var rfl) (e12 _ _ w2) (by omega) fun n hn => by have := mem_pl G hn; omega) (et_maxF (a := pa) (ev_var rfl) (e12 _ _ w2) (by omega) fun n hn => by have := mem_pl G hn; omega)
  have e13 := e12.trans e3
  refine q_forLn (xs := rr.map V.ref) (a := rra) (ev_var rfl) (sq_of (e13 _ _ w3)) (fun i σ' H' => ∃ (y3 : Option V), σ' = [some (.ref wa), some (.ref pa), some (.ref rra), y3, none] ∧ Ex H H') (fun H4 e4 => ⟨none, rfl, e13.trans e4⟩)
    (fun i σ' H' _ hI => ?_) (fun i x σ' H' hx hI => ?_) (fun σ' H' hI => ?_)
  · obtain ⟨y3, rfl, e⟩ := hI
    exact sq_of (e _ _ w3)
  · obtain ⟨y3, rfl, e⟩ := hI
    rw [List.getElem?_map] at hx
    cases hq : rr[i]? with
    | none => rw [hq] at hx; cases hx
    | some q =>
      rw [hq] at hx
      have ex : x = .ref q := (Option.some.inj hx).symm
      subst ex
      have hil : i < W.rs.length := by
        have := (List.getElem?_eq_some_iff.mp hq).1
        omega
      have hrow := Web.row_get hil
      exact s_when (et_not (et_B (ev_fits_row (hW.mono e) G (e _ _ (w5 i q _ hq hrow)) (List.mem_of_getElem? hrow) (ev_var rfl) (ev_var rfl)))) (fun h => by cases h) (fun _ H5 e5 => ⟨_, rfl, e.trans e5⟩)
  · obtain ⟨y3, rfl, e⟩ := hI
    refine q_forR1 (ea_cons (lenp _ _ _ e) ea_nil) ⟨by omega, by omega⟩ (fun i σ' H' => ∃ (y3 y4 : Option V), σ' = [some (.ref wa), some (.ref pa), some (.ref rra), y3, y4] ∧ Ex H H') (fun H4 e4 => ⟨y3, none, rfl, e.trans e4⟩) (fun i σ' H' hi hI => ?_) (fun σ' H' hI => ?_)
    · obtain ⟨y3, y4, rfl, e⟩ := hI
      have hip : i < W.ps.length := by omega
      have hW' := hW.mono e
      have tst : ∀ {st : Nat} {tu : Bool} {t2 t3 : TE}, (st, tu) ∈ [(0, false), (1, true)] → Ev t2 [some (.ref wa), some (.ref pa), some (.ref rra), y3, some (.int (i : Int))] H' (.int (st : Int)) → Ev t3 [some (.ref wa), some (.ref pa), some (.ref rra), y3, some (.int (i : Int))] H' (.bl tu) →
          EvT (tTest (tOp rNe (tCB rLenD (tCons (tCall (sp_reached K) [] E0 (tCons (tVar 0) (tCons (tVar 4) (tCons t2 (tCons t3 tNil))))) tNil)) (tOp (rIxL K) (tVar 1) (tVar 4)))) [some (.ref wa), some (.ref pa), some (.ref rra), y3, some (.int (i : Int))] H' false := by
        intro st tu t2 t3 hs h2 h3
        refine et_is (et_neN (ev_lenDnew (ed_reached hW' G hip hs (ev_var rfl) (ev_var rfl) h2 h3) fun _ h => h) (ev_op (ev_var rfl) (ev_var rfl) (rv_ixL (sq_of (e _ _ w2)) (atI_nat (iv_get (pl_get hip)))))) ?_
        simp
      refine q_when (b := false) (et_orF (tst (st := 0) (tu := false) (by simp) ev_c ev_c) (tst (st := 1) (tu := true) (by simp) ev_c ev_c)) (fun h => by cases h) (fun _ H5 e5 => ?_)
      by_cases hi0 : i = 0
      · refine s_when (b := false) (et_is (et_and (a := false) (b := false) (et_gtF (i := (i : Int)) (ev_var rfl) ev_c (by omega)) fun z => by cases z) rfl) (fun h => by cases h) (fun _ H6 e6 => ⟨_, _, rfl, e.trans (e5.trans e6)⟩)
      · obtain ⟨r, hr, hrc⟩ := G.call i (by omega) hip
        refine s_when (b := false) (et_is (et_and (a := true) (b := false) (et_is (et_test (ev_op (ev_var rfl) ev_c rv_I0)) (decide_eq_true (by omega))) fun _ => ?_) rfl) (fun h => by cases h) (fun _ H6 e6 => ⟨_, _, rfl, e.trans (e5.trans e6)⟩)
        have e15 := e.trans e5
        have hlist : EvL (tLc (iList K (tVar 2)) (gName 3) tYes (tOp (rIxT K) (tVar 3) (tC (.int 3))) [3]) [some (.ref wa), some (.ref pa), some (.ref rra), y3, some (.int (i : Int))] H5 ((W.rs.map fun r => r.c).map V.int) := by
          have := el_lcL (K := K) (tl := tVar 2) (a := rra) (j := 3) (vs := [3]) (t := tYes) (te := tOp (rIxT K) (tVar 3) (tC (.int 3))) (σ := [some (.ref wa), some (.ref pa), some (.ref rra), y3, some (.int (i : Int))]) (xs := rr.map V.ref) (fun _ => true) (fun m => .int (W.row m).c) (ev_var rfl) (sq_of (e15 _ _ w3)) (by rw [List.length_map]; omega) (fun x => rfl) (fun _ _ _ _ _ => et_yes)
            (fun m x H1 e1 hx _ => by
              rw [List.getElem?_map] at hx
              cases hq : rr[m]? with
              | none => rw [hq] at hx; cases hx
              | some q =>
                rw [hq] at hx
                have ex : x = .ref q := (Option.some.inj hx).symm
                subst ex
                have hil : m < W.rs.length := by
                  have := (List.getElem?_eq_some_iff.mp hq).1
                  omega
                exact ev_op (ev_var rfl) ev_c (rv_ixT (K := K) (i := 3) (st_of (e1 _ _ (e15 _ _ (w5 m q _ hq (Web.row_get hil))))) rfl))
          have eq : given (rr.map V.ref).length (fun _ => true) (fun m => V.int (W.row m).c) = (W.rs.map fun r => r.c).map V.int := by
            unfold given
            rw [List.filter_eq_self.mpr (fun _ _ => rfl), List.length_map, w4, List.map_map]
            apply List.ext_getElem?
            intro m
            rw [List.getElem?_map, List.getElem?_map]
            by_cases hm : m < W.rs.length
            · rw [List.getElem?_range hm, Web.row_get hm]
              rfl
            · rw [List.getElem?_eq_none (by rw [List.length_range]; omega), List.getElem?_eq_none (by omega)]
              rfl
          rwa [eq] at this
        refine et_test (ev_opL (ev_var rfl) hlist fun q H1 hq e1 => ?_)
        have := rv_niL (K := K) (x := .int (i : Int)) (H := H1) (sq_of hq) rfl (flat_ints _)
        rw [inV_ints, decide_eq_true (List.mem_map.mpr ⟨r, hr, hrc⟩)] at this
        exact this
    · obtain ⟨y3, y4, rfl, e⟩ := hI
      exact s_ret ev_c fun H4 e4 => k H4 (e.trans e4)
end
end FC
namespace FC
open PySem PySem.Spec PyProof.Rows L2 Evl
/-! ### == of lists of ints, of pairs of ints -/
theorem lay_ints : ∀ l : List Int, PyData.canLayAll0 (l.map PyData.int) = true ∧ PyData.depthAll (l.map PyData.int) ≤ 1
  | [] => by simp [PyData.canLayAll0, PyData.depthAll]
  | a :: r => by
    have := lay_ints r
    simp [PyData.canLayAll0, PyData.depthAll, PyData.canLay0, PyData.depth]
    exact ⟨by simpa using this.1, by simpa using this.2⟩
theorem shaped_list (l : List Int) : SeqAt.shaped (.list (l.map PyData.int)) = true := by
  have := lay_ints l
  unfold SeqAt.shaped
  simp only [PyData.canLay0, PyData.depth, this.1, Bool.true_and]
  exact decide_eq_true (by omega)
theorem shaped_tup (l : List Int) : SeqAt.shaped (.tuple (l.map PyData.int)) = true := by
  have := lay_ints l
  unfold SeqAt.shaped
  simp only [PyData.canLay0, PyData.depth, this.1, Bool.true_and]
  exact decide_eq_true (by omega)
theorem eqv_ints : ∀ l m : List Int, PyData.eqvAll (l.map PyData.int) (m.map PyData.int) = decide (l = m)
  | [], [] => by simp [PyData.eqvAll]
  | [], b :: s => by simp [PyData.eqvAll]
  | a :: r, [] => by simp [PyData.eqvAll]
  | a :: r, b :: s => by
    have := eqv_ints r s
    simp only [List.map_cons, PyData.eqvAll, PyData.eqv, this, List.cons.injEq]
    by_cases h : a = b
    · subst h; simp
    · simp [h]
theorem dp_ints {K : PySem.W.Frag} {H : Hp} : ∀ l : List Int, DpAll K H (l.map V.int) (l.map PyData.int)
  | [] => .nil
  | a :: r => .cons (.int a) (dp_ints r)
section
variable {K : PySem.W.Frag} {H : Hp} {a b : Addr} {l m : List Int}
theorem rv_eqL (h1 : SqL K H a (l.map V.int)) (h2 : SqL K H b (m.map V.int)) : RV (rEqD K) (.ref a) (.ref b) H (.bl (decide (l = m))) := by
  intro H1 e Q k
  refine ⟨_, _, .lst (ex_l e h1) (dp_ints l), .lst (ex_l e h2) (dp_ints m), shaped_list l, shaped_list m, ?_⟩
  have : PyData.eqv (.list (l.map PyData.int)) (.list (m.map PyData.int)) = decide (l = m) := by rw [PyData.eqv, eqv_ints]
  rw [this]
  exact k H1 (Ex.refl _)
theorem rv_neL (h1 : SqL K H a (l.map V.int)) (h2 : SqL K H b (m.map V.int)) : RV (rNeD K) (.ref a) (.ref b) H (.bl (!decide (l = m))) := by
  intro H1 e Q k
  refine ⟨_, _, .lst (ex_l e h1) (dp_ints l), .lst (ex_l e h2) (dp_ints m), shaped_list l, shaped_list m, ?_⟩
  have : PyData.eqv (.list (l.map PyData.int)) (.list (m.map PyData.int)) = decide (l = m) := by rw [PyData.eqv, eqv_ints]
  rw [this]
  exact k H1 (Ex.refl _)
theorem rv_eqT (h1 : SqT K H a (l.map V.int)) (h2 : SqT K H b (m.map V.int)) : RV (rEqD K) (.ref a) (.ref b) H (.bl (decide (l = m))) := by
  intro H1 e Q k
  refine ⟨_, _, .tup (ex_t e h1) (dp_ints l), .tup (ex_t e h2) (dp_ints m), shaped_tup l, shaped_tup m, ?_⟩
  have : PyData.eqv (.tuple (l.map PyData.int)) (.tuple (m.map PyData.int)) = decide (l = m) := by rw [PyData.eqv, eqv_ints]
  rw [this]
  exact k H1 (Ex.refl _)
end
/-! ### a law's rows from a place -/
section
variable {K : PySem.W.Frag} {σ : L2.St} {H : Hp} {te ta : TE} {tl th : TO}
theorem eu_slT {a : Addr} {xs : List V} {lo hi : Option Int} (h : Ev te σ H (.ref a)) (h1 : EvO tl σ H lo) (h2 : EvO th σ H hi) (hs : H a = some (.tup xs)) (hn : ¬ (HT.sIx xs.length 0 lo = 0 ∧ HT.sIx xs.length xs.length hi = xs.length)) : EvU (tSl (rSlT K) te tl th) σ H (cutV xs lo hi) := by
  intro H1 e Q k
  refine h H1 e _ fun H2 e2 => ?_
  refine h1 H2 (e.trans e2) _ fun H3 e3 => ?_
  refine h2 H3 (e.trans (e2.trans e3)) _ fun H4 e4 => ?_
  have e6 := e2.trans (e3.trans e4)
  exact ⟨a, xs, rfl, st_of (e6 _ _ (e _ _ hs)), hn, fun p hp => k p _ (fresh_back e6 hp) (e6.trans (Ex.new hp)) upd_same⟩
end
section
variable {K : PySem.W.Frag} {σ : L2.St} {H : Hp} {wa : Addr} {W : Web} {p : Nat} {t0 t1 t2 t3 : TE}
theorem el_law_from {q : Nat} (hW : WebAt H wa W) (G : GoodWeb W) (hp : p < W.ps.length) (h0 : Ev t0 σ H (.ref wa)) (h1 : Ev t1 σ H (.int (p : Int))) (h2 : Ev t2 σ H (.int (q : Int))) :
    EvL (tCall (sp_law_from K) [] E0 (tCons t0 (tCons t1 (tCons t2 tNil)))) σ H (iv (rfrom W p q)) := el_rows_from hW G hp h0 h1 h2
theorem ed_law_on (hW : WebAt H wa W) (G : GoodWeb W) (hp : p < W.ps.length) (h0 : Ev t0 σ H (.ref wa)) (h1 : Ev t1 σ H (.int (p : Int))) :
    EvD (tCall (sp_law_on K) [] E0 (tCons t0 (tCons t1 tNil))) σ H (fun kvs => MapsTo kvs (pl W p) (N W p)) := ed_ways_on hW G hp h0 h1
end
section
variable {K : PySem.W.Frag} {H : Hp} {vs : List V} {Q : VK} {E : XK}
theorem rd_law_from (h : sp_law_from K vs H Q E) : tr_law_from K { nx := fun _ H' => Q .non H', rt := Q } (start N_law_from vs) H := by
  obtain ⟨wa, W, p, q, rfl, hW, G, hp, k⟩ := h
  unfold tr_law_from
  have nr := G.nr
  have e1 : iv (rfrom W p q) = given (W.rs.length : Int).toNat (fun i => decide ((W.row i).p = p) && decide (W.fr i = q)) (fun i => .int (i : Int)) := by
    unfold rfrom own given iv
    rw [List.filter_filter]
    congr 1
    apply List.filter_congr
    intro x _
    rw [Bool.and_comm]
  rw [e1] at k
  refine s_retL ?_ (fun pp H1 n e h1 => k pp H1 n e h1)
  refine el_lcR1 (f := fun i => decide ((W.row i).p = p) && decide (W.fr i = q)) (v := fun i => .int i) (ea_cons (ev_nrows hW (ev_var rfl)) ea_nil) ⟨by omega, by omega⟩ (fun x => rfl) (fun i H1 e hi => ?_) (fun i H1 e hi hf => ev_var rfl)
  have hil : i < W.rs.length := by omega
  obtain ⟨ra, hra, hev⟩ := ev_rowk (K := K) (tw := tVar 0) (tk := tVar 3) (σ := [some (.ref wa), some (.int (p : Int)), some (.int (q : Int)), some (.int (i : Int))]) (hW.mono e) hil (ev_var rfl) (ev_var rfl)
  have hc : cutV (rowV (W.row i)) none (some 2) = ([((W.row i).p : Int), (W.fr i : Int)] : List Int).map V.int := rfl
  have hsl := eu_slT (K := K) (tl := tNoPart) (th := tPart (tC (.int 2))) hev eo_none (eo_some ev_c) hra (by
    show ¬ (0 = 0 ∧ 2 = 4)
    omega)
  rw [hc] at hsl
  have := et_test (ev_opUU hsl (eu_tup (ea_cons (x := .int (p : Int)) (ev_var (i := 1) rfl) (ea_cons (x := .int (q : Int)) (ev_var (i := 2) rfl) ea_nil)) (by show 2 ≤ 100000; decide)) (fun a b H1 h1 h2 e => rv_eqT (K := K) (l := [((W.row i).p : Int), (W.fr i : Int)]) (m := [(p : Int), (q : Int)]) (st_of h1) (st_of h2)))
  refine et_is this ?_
  rw [← Bool.decide_and]
  apply decide_eq_decide.mpr
  constructor
  · intro h
    injection h with h1 h2
    injection h2 with h2 _
    omega
  · rintro ⟨h1, h2⟩
    rw [h1, h2]
theorem rd_law_goes (h : sp_law_goes K vs H Q E) : tr_law_goes K { nx := fun _ H' => Q .non H', rt := Q } (start N_law_goes vs) H := rd_is_going h
end
end FC
namespace FC
open PySem PySem.Spec PyProof.Rows L2 Evl
/-! ### a table of places with values -/
def kf (f : Nat → Int) (S : List Nat) : List (Key × V) := S.map fun (q : Nat) => ((Sum.inl (q : Int) : Key), V.int (f q))
theorem kf_len (f : Nat → Int) (S : List Nat) : (kf f S).length = S.length := by unfold kf; rw [List.length_map]
theorem kf_val (f : Nat → Int) (q : Nat) : ∀ S : List Nat, valV (kf f S) (Sum.inl (q : Int)) = if q ∈ S then some (.int (f q)) else none
  | [] => by simp [kf, valV]
  | a :: r => by
    have e : kf f (a :: r) = (Sum.inl (a : Int), V.int (f a)) :: kf f r := rfl
    rw [e]
    by_cases h : a = q
    · subst h
      rw [valV_pos rfl]
      simp
    · have h2 : q ≠ a := fun z => h z.symm
      rw [valV_neg (key_ne h), kf_val f q r]
      simp [h2]
theorem kf_some (f : Nat → Int) (q : Nat) (S : List Nat) : (valV (kf f S) (Sum.inl (q : Int))).isSome = decide (q ∈ S) := by
  rw [kf_val]
  by_cases h : q ∈ S <;> simp [h]
theorem kf_put {f : Nat → Int} {S : List Nat} {q : Nat} (h : q ∉ S) : putK (kf f S) (Sum.inl (q : Int)) (.int (f q)) = kf f (S ++ [q]) := by
  rw [putK_new _ (by rw [kf_val, if_neg h])]
  unfold kf
  rw [List.map_append]
  rfl
/-! ### what lacks -/
theorem lacks_first {n : Nat} {S : List Nat} (rk : Nat → Nat) (nd : S.Nodup) (lt : ∀ q ∈ S, q < n) (hl : S.length < n) : ∃ x, x < n ∧ x ∉ S ∧ ∀ q, q < n → q ∉ S → rk x ≤ rk q := by
  have hne : (List.range n).filter (fun q => !decide (q ∈ S)) ≠ [] := by
    intro hz
    rw [List.filter_eq_nil_iff] at hz
    have hall : ∀ q, q ∈ S ↔ q < n := fun q => ⟨lt q, fun hq => by
      have := hz q (List.mem_range.mpr hq)
      simpa using this⟩
    have := nodup_all nd hall
    omega
  obtain ⟨x, hx, hm⟩ := least_of rk _ hne
  rw [List.mem_filter, List.mem_range] at hx
  refine ⟨x, hx.1, by simpa using hx.2, fun q hq hqS => hm q ?_⟩
  rw [List.mem_filter, List.mem_range]
  exact ⟨hq, by simpa using hqS⟩
section
variable {K : PySem.W.Frag} {H : Hp} {vs : List V} {Q : VK} {E : XK}
/-- a pass's word: S stood ahead, X has come; the place x is in once it was passed -/
structure Pass (n : Nat) (f : Nat → Int) (H H' : Hp) (d : Addr) (S : List Nat) (x i : Nat) (X : List Nat) : Prop where
  ex : Ex H H'
  at_ : H' d = some (.dK (kf f (S ++ X)))
  nd : (S ++ X).Nodup
  lt : ∀ q ∈ S ++ X, q < n
  inn : x < i → x ∈ S ++ X
theorem Pass.mono {n : Nat} {f : Nat → Int} {H H' H'' : Hp} {d : Addr} {S : List Nat} {x i : Nat} {X : List Nat} (h : Pass n f H H' d S x i X) (e : Ex H' H'') : Pass n f H H'' d S x i X :=
  ⟨h.ex.trans e, e _ _ h.at_, h.nd, h.lt, h.inn⟩
/-- the turn of place i: it comes in, if all that it needs (ns) is there -/
theorem Pass.turn {n : Nat} {f : Nat → Int} {H H' : Hp} {d : Addr} {S : List Nat} {x i : Nat} {X : List Nat} (h : Pass n f H H' d S x i X) (nH : H d = none) (hi : i < n) (hn : i ∉ S ++ X) :
    ∀ H1, Ex H' H1 → Pass n f H (upd H1 d (.dK (putK (kf f (S ++ X)) (Sum.inl (i : Int)) (.int (f i))))) d S x (i + 1) (X ++ [i]) := fun H1 e => by
  rw [kf_put hn]
  refine ⟨Ex.mut (h.ex.trans e) nH, ?_, ?_, ?_, fun hx => ?_⟩
  · rw [upd_same, List.append_assoc]
  · rw [← List.append_assoc, List.nodup_append]
    refine ⟨h.nd, by simp, fun a ha b hb => ?_⟩
    rw [List.mem_singleton] at hb
    subst hb
    rintro rfl
    exact hn ha
  · intro q hq
    rw [← List.append_assoc, List.mem_append, List.mem_singleton] at hq
    rcases hq with hq | rfl
    · exact h.lt q hq
    · exact hi
  · rw [← List.append_assoc, List.mem_append, List.mem_singleton]
    by_cases hxi : x = i
    · exact .inr hxi
    · exact .inl (h.inn (by omega))
theorem Pass.skip {n : Nat} {f : Nat → Int} {H H' : Hp} {d : Addr} {S : List Nat} {x i : Nat} {X : List Nat} (h : Pass n f H H' d S x i X) (hx : x = i → x ∈ S ++ X) : Pass n f H H' d S x (i + 1) X :=
  ⟨h.ex, h.at_, h.nd, h.lt, fun hl => by
    by_cases hxi : x = i
    · exact hx hxi
    · exact h.inn (by omega)⟩
theorem all_map {l S : List Nat} {g : Nat → Nat} : ((l.map fun k => decide (g k ∈ S)).all id) = true ↔ ∀ k ∈ l, g k ∈ S := by
  rw [List.all_map, List.all_eq_true]
  simp
theorem rd_law_on (h : sp_law_on K vs H Q E) : tr_law_on K { nx := fun _ H' => Q .non H', rt := Q } (start N_law_on vs) H := by
  obtain ⟨wa, W, p, rfl, hW, G, hp, k⟩ := h
  have GP := G.part p hp
  have n2 := GP.n2
  have n16 := GP.n16
  have nr := G.nr
  have ol := own_len W p
  have hed : ∀ e ∈ es W p, e.1 < pl W p ∧ e.2 < pl W p := fun e he => ⟨(GP.ed e he).1, (GP.ed e he).2.1⟩
  obtain ⟨rk, R, R2⟩ := GP.ranked
  have lrf : ∀ q, (rfrom W p q).length ≤ W.rs.length := fun q => Nat.le_trans (List.length_filter_le _ _) ol
  unfold tr_law_on
  refine q_disp ev_c ev_c fun d H1 n1 e1 h1 => ?_
  have hN1 : N W p 1 = 1 := by
    unfold N
    rw [nway_fix R, if_pos rfl]
  have h1' : H1 d = some (.dK (kf (N W p) [1])) := by
    rw [h1]
    show _ = some (HO.dK [(Sum.inl ((1 : Nat) : Int), V.int (N W p 1))])
    rw [hN1]
    rfl
  refine q_while (fun m σ' H' => ∃ (S : List Nat) (y3 y4 : Option V), σ' = [some (.ref wa), some (.int (p : Int)), some (.ref d), y3, y4, none, none] ∧ Ex H H' ∧ H' d = some (.dK (kf (N W p) S)) ∧ S.Nodup ∧ (∀ q ∈ S, q < pl W p) ∧ 1 ∈ S ∧ m = pl W p - S.length) (pl W p - 1)
    ⟨[1], none, none, rfl, e1, h1', by simp, fun q hq => by rw [List.mem_singleton] at hq; omega, by simp, rfl⟩ fun m σ' H' hI => ?_
  obtain ⟨S, y3, y4, rfl, e, hd, nd, lt, hs1, rfl⟩ := hI
  have hSn := nodup_le nd lt
  have hlen := ev_lenD (td := tVar 2) (σ := [some (.ref wa), some (.int (p : Int)), some (.ref d), y3, y4, none, none]) (ev_var (i := 2) (v := V.ref d) rfl) hd
  rw [kf_len] at hlen
  refine ⟨_, et_test (ev_op hlen (ev_pl (hW.mono e) hp (ev_var rfl) (ev_var rfl)) rv_I0), fun hb H3 e3 => ?_, fun hb H3 e3 => ?_⟩
  · have hlt : S.length < pl W p := by
      have := of_decide_eq_true hb
      omega
    obtain ⟨x, hxn, hxS, hxm⟩ := lacks_first (fun q => 16 - rk q) nd lt hlt
    have hneed : ∀ kk ∈ rfrom W p x, W.to kk ∈ S := fun kk hk => by
      obtain ⟨ho, hf⟩ := mem_rfrom.mp hk
      have hm := es_mem ho
      have h2 := (hed _ hm).2
      have hr := R _ hm
      dsimp only at hr h2
      by_cases hz : W.to kk ∈ S
      · exact hz
      · have := hxm _ h2 hz
        rw [hf] at hr
        omega
    refine ⟨_, fun σ2 H2 h => h, ?_⟩
    refine s_forR1 (ea_cons (ev_pl (hW.mono (e.trans e3)) hp (ev_var rfl) (ev_var rfl)) ea_nil) ⟨by omega, by omega⟩
      (fun i σ' H' => ∃ (X : List Nat) (y3 y4 : Option V), σ' = [some (.ref wa), some (.int (p : Int)), some (.ref d), y3, y4, none, none] ∧ Pass (pl W p) (N W p) H H' d S x i X)
      (fun H4 e4 => ⟨[], y3, y4, rfl, e.trans (e3.trans e4), by rw [List.append_nil]; exact e4 _ _ (e3 _ _ hd), by rw [List.append_nil]; exact nd, by rw [List.append_nil]; exact lt, fun z => absurd z (Nat.not_lt_zero _)⟩) (fun i σ' H' hi hI => ?_) (fun σ' H' hI => ?_)
    · obtain ⟨X, y3, y4, rfl, PS⟩ := hI
      have hin : i < pl W p := by omega
      have hW' := hW.mono PS.ex
      refine q_asgL (xs := iv ((rfrom W p i).map W.to)) ?_ fun la H5 n5 e5 h5 => ?_
      · have e1 : iv ((rfrom W p i).map W.to) = ((rfrom W p i).filter fun _ => true).map (fun k => V.int (W.to k : Int)) := by
          unfold iv
          rw [List.filter_eq_self.mpr (fun _ _ => rfl), List.map_map]
          rfl
        rw [e1]
        exact el_lcIv (fun _ => true) _ (el_law_from (q := i) hW' G hp (ev_var rfl) (ev_var rfl) (ev_var rfl)) (Nat.le_trans (lrf i) (by omega)) (fun x => rfl) (fun _ _ _ _ => et_yes) (fun kq Hq eq hq _ => ev_to (hW'.mono eq) (own_lt (mem_rfrom.mp hq).1) (ev_var rfl) (ev_var rfl))
      have PS5 := PS.mono e5
      have hgl : ((rfrom W p i).map W.to).length ≤ 40000 := by rw [List.length_map]; have := lrf i; omega
      have tst : EvT (tB (tCB (rAll K) (tCons (tLc (iList K (tVar 4)) (gName 6) tYes (tDIn (tVar 6) (tVar 2)) [6]) tNil))) [some (.ref wa), some (.int (p : Int)), some (.ref d), some (.int (i : Int)), some (.ref la), none, none] H5 ((((rfrom W p i).map W.to).map fun q => decide (q ∈ S ++ X)).all id) := by
        refine et_B (ev_allN ?_)
        have e1 : (((rfrom W p i).map W.to).map fun q => decide (q ∈ S ++ X)).map V.bl = (((rfrom W p i).map W.to).filter fun _ => true).map (fun q => V.bl (decide (q ∈ S ++ X))) := by
          rw [List.filter_eq_self.mpr (fun _ _ => rfl), List.map_map]
          rfl
        rw [e1]
        refine el_lcIvE (a := la) (fun _ => true) _ (ev_var rfl) h5 hgl (fun x => rfl) (fun _ _ _ _ => et_yes) (fun q Hq eq hq _ => ?_)
        have := ev_din (td := tVar 2) (ty := tVar 6) (q := (q : Int)) (σ := [some (.ref wa), some (.int (p : Int)), some (.ref d), some (.int (i : Int)), some (.ref la), none, some (.int (q : Int))]) (ev_var rfl) (ev_var (v := .ref d) rfl) (eq _ _ PS5.at_)
        rw [kf_some] at this
        exact this
      have tni := ev_dnotin (td := tVar 2) (ty := tVar 3) (q := (i : Int)) (σ := [some (.ref wa), some (.int (p : Int)), some (.ref d), some (.int (i : Int)), some (.ref la), none, none]) (ev_var rfl) (ev_var (v := .ref d) rfl) PS5.at_
      rw [kf_some] at tni
      refine s_when (et_and (et_B tni) fun _ => tst) (fun hb H6 e6 => ?_) (fun hb H6 e6 => ?_)
      · rw [Bool.and_eq_true] at hb
        have hnot : i ∉ S ++ X := by simpa using hb.1
        have hall := all_map.mp hb.2
        have hi1 : i ≠ 1 := by
          rintro rfl
          exact hnot (List.mem_append_left _ hs1)
        have PS6 := PS5.mono e6
        refine s_dput (d := d) (q := (i : Int)) (v := .int (N W p i)) ?_ (ev_var rfl) (ev_var rfl) PS6.at_ (by rw [kf_len]; have := nodup_le PS6.nd PS6.lt; omega) fun H7 e7 => ⟨_, _, _, rfl, PS6.turn n1 hin hnot H7 e7⟩
        have e0 : N W p i = (((rfrom W p i).map W.to).map (N W p)).sum := by
          rw [N_fix GP, if_neg hi1, List.map_map]
          rfl
        rw [e0]
        refine ev_sumN ?_
        have e1 : (((rfrom W p i).map W.to).map (N W p)).map V.int = (((rfrom W p i).map W.to).filter fun _ => true).map (fun q => V.int (N W p q)) := by
          rw [List.filter_eq_self.mpr (fun _ _ => rfl), List.map_map]
          rfl
        rw [e1]
        refine el_lcIvE (a := la) (fun _ => true) _ (ev_var rfl) (e6 _ _ h5) hgl (fun x => rfl) (fun _ _ _ _ => et_yes) (fun q Hq eq hq _ => ?_)
        refine ev_dget (d := d) (q := (q : Int)) (ev_var rfl) (ev_var rfl) (eq _ _ PS6.at_) ?_
        rw [kf_val, if_pos]
        obtain ⟨kk, hk1, rfl⟩ := List.mem_map.mp hq
        have := hall (W.to kk) (List.mem_map.mpr ⟨kk, hk1, rfl⟩)
        exact this
      · refine ⟨X, _, _, rfl, (PS5.mono e6).skip fun hxi => ?_⟩
        subst hxi
        by_cases hz : x ∈ S ++ X
        · exact hz
        · rw [decide_eq_false hz] at hb
          have hall : (((rfrom W p x).map W.to).map fun q => decide (q ∈ S ++ X)).all id = true := all_map.mpr fun q hq => by
            obtain ⟨kk, hk1, rfl⟩ := List.mem_map.mp hq
            exact List.mem_append_left _ (hneed kk hk1)
          rw [hall] at hb
          cases hb
    · obtain ⟨X, y3, y4, rfl, PS⟩ := hI
      have hx := PS.inn (by omega)
      have hX : 1 ≤ X.length := by
        rcases List.mem_append.mp hx with h | h
        · exact absurd h hxS
        · exact List.length_pos_of_mem h
      have hl := nodup_le PS.nd PS.lt
      rw [List.length_append] at hl
      exact ⟨_, by rw [List.length_append]; omega, S ++ X, y3, y4, rfl, PS.ex, PS.at_, PS.nd, PS.lt, List.mem_append_left _ hs1, rfl⟩
  · have hge : S.length = pl W p := by
      have := of_decide_eq_false hb
      omega
    refine s_ret (ev_var rfl) fun H4 e4 => k d H4 _ n1 (e.trans (e3.trans e4)) (e4 _ _ (e3 _ _ hd)) fun q hq => ?_
    rw [kf_val, if_pos]
    by_cases hz : q ∈ S
    · exact hz
    · have : (S ++ [q]).length ≤ pl W p := nodup_le (by
        rw [List.nodup_append]
        refine ⟨nd, by simp, fun a ha b hb => ?_⟩
        rw [List.mem_singleton] at hb
        subst hb
        rintro rfl
        exact hz ha) fun a ha => by
          rw [List.mem_append, List.mem_singleton] at ha
          rcases ha with ha | rfl
          · exact lt a ha
          · exact hq
      rw [List.length_append] at this
      simp at this
      omega
end
end FC
namespace FC
open PySem PySem.Spec PyProof.Rows L2 Evl
/-- the rows of a part to a place -/
def rto (W : Web) (p q : Nat) : List Nat := (own W p).filter fun k => decide (W.to k = q)
theorem mem_rto {W : Web} {p q k : Nat} : k ∈ rto W p q ↔ k ∈ own W p ∧ W.to k = q := by
  unfold rto
  rw [List.mem_filter]
  simp
theorem B_fix {W : Web} {p n : Nat} (G : GoodPart n (es W p)) (q : Nat) : before (es W p) q = if q = 0 then 1 else ((rto W p q).map fun k => before (es W p) (W.fr k)).sum := by
  obtain ⟨rk, R, _⟩ := G.ranked
  rw [before_fix R]
  have : ((es W p).filter (fun e => decide (e.2 = q))).map (fun e => before (es W p) e.1) = (rto W p q).map fun k => before (es W p) (W.fr k) := by
    unfold rto
    conv => lhs; arg 2; arg 2; unfold es
    rw [List.filter_map, List.map_map]
    rfl
  rw [this]
theorem es_len {W : Web} {p : Nat} (G : GoodWeb W) : (es W p).length ≤ 64 := by
  unfold es
  rw [List.length_map]
  have := own_len W p
  have := G.nr
  omega
theorem before_le {W : Web} {p q : Nat} (G : GoodWeb W) : before (es W p) q ≤ 2 ^ 100 := by
  unfold before
  refine nway_le ?_ q
  unfold flip
  rw [List.length_map]
  exact es_len G
theorem N_le {W : Web} {p q : Nat} (G : GoodWeb W) : N W p q ≤ 2 ^ 100 := nway_le (es_len G) q
theorem abs_lt {i : Int} (h0 : 0 ≤ i) (h : i ≤ 2 ^ 100) : i.natAbs < 2 ^ 101 := by
  have : i.natAbs ≤ 2 ^ 100 := by omega
  have h2 : (2 : Nat) ^ 100 < 2 ^ 101 := by decide
  omega
section
variable {K : PySem.W.Frag} {H : Hp} {vs : List V} {Q : VK} {E : XK}
theorem rd_law_through (h : sp_law_through K vs H Q E) : tr_law_through K { nx := fun _ H' => Q .non H', rt := Q } (start N_law_through vs) H := by
  obtain ⟨wa, W, p, kr, rfl, hW, G, hp, hkr, k⟩ := h
  have GP := G.part p hp
  have n2 := GP.n2
  have n16 := GP.n16
  have nr := G.nr
  have ol := own_len W p
  have hed : ∀ e ∈ es W p, e.1 < pl W p ∧ e.2 < pl W p := fun e he => ⟨(GP.ed e he).1, (GP.ed e he).2.1⟩
  obtain ⟨rk, R, R2⟩ := GP.ranked
  have lrt : ∀ q, (rto W p q).length ≤ W.rs.length := fun q => Nat.le_trans (List.length_filter_le _ _) ol
  unfold tr_law_through
  refine q_disp ev_c ev_c fun d H1 n1 e1 h1 => ?_
  have hB0 : before (es W p) 0 = 1 := by rw [before_fix R, if_pos rfl]
  have h1' : H1 d = some (.dK (kf (before (es W p)) [0])) := by
    rw [h1]
    show _ = some (HO.dK [(Sum.inl ((0 : Nat) : Int), V.int (before (es W p) 0))])
    rw [hB0]
    rfl
  refine q_asgL (xs := iv (own W p)) ?_ fun oa H2 no e2 h2 => ?_
  · exact el_lcR1 (f := fun i => decide ((W.row i).p = p)) (v := fun i => .int i) (ea_cons (ev_nrows (hW.mono e1) (ev_var rfl)) ea_nil) ⟨by omega, by omega⟩ (fun x => rfl)
      (fun i Hq e hi => et_eqN (ev_part (hW.mono (e1.trans e)) (by omega) (ev_var rfl) (ev_var rfl)) (ev_var rfl)) (fun i Hq e hi hf => ev_var rfl)
  have hdo : d ≠ oa := ne_of_none h1 no
  have noH : H oa = none := fresh_back e1 no
  refine q_while (fun m σ' H' => ∃ (S : List Nat) (y5 y6 : Option V), σ' = [some (.ref wa), some (.int (p : Int)), some (.int (kr : Int)), some (.ref d), some (.ref oa), y5, y6, none] ∧ Ex H H' ∧ H' oa = some (.lst (iv (own W p))) ∧ H' d = some (.dK (kf (before (es W p)) S)) ∧ S.Nodup ∧ (∀ q ∈ S, q < pl W p) ∧ 0 ∈ S ∧ m = pl W p - S.length) (pl W p - 1)
    ⟨[0], none, none, rfl, e1.trans e2, h2, e2 _ _ h1', by simp, fun q hq => by rw [List.mem_singleton] at hq; omega, by simp, rfl⟩ fun m σ' H' hI => ?_
  obtain ⟨S, y5, y6, rfl, e, ho, hd, nd, lt, hs0, rfl⟩ := hI
  have hSn := nodup_le nd lt
  have hlen := ev_lenD (td := tVar 3) (σ := [some (.ref wa), some (.int (p : Int)), some (.int (kr : Int)), some (.ref d), some (.ref oa), y5, y6, none]) (ev_var (i := 3) (v := V.ref d) rfl) hd
  rw [kf_len] at hlen
  refine ⟨_, et_test (ev_op hlen (ev_pl (hW.mono e) hp (ev_var rfl) (ev_var rfl)) rv_I0), fun hb H3 e3 => ?_, fun hb H3 e3 => ?_⟩
  · have hlt : S.length < pl W p := by
      have := of_decide_eq_true hb
      omega
    obtain ⟨x, hxn, hxS, hxm⟩ := lacks_first rk nd lt hlt
    have hneed : ∀ kk ∈ rto W p x, W.fr kk ∈ S := fun kk hk => by
      obtain ⟨ho, hf⟩ := mem_rto.mp hk
      have hm := es_mem ho
      have h2 := (hed _ hm).1
      have hr := R _ hm
      dsimp only at hr h2
      by_cases hz : W.fr kk ∈ S
      · exact hz
      · have := hxm _ h2 hz
        rw [hf] at hr
        omega
    refine ⟨_, fun σ2 H2 h => h, ?_⟩
    refine s_forR1 (ea_cons (ev_pl (hW.mono (e.trans e3)) hp (ev_var rfl) (ev_var rfl)) ea_nil) ⟨by omega, by omega⟩
      (fun i σ' H' => ∃ (X : List Nat) (y5 y6 : Option V), σ' = [some (.ref wa), some (.int (p : Int)), some (.int (kr : Int)), some (.ref d), some (.ref oa), y5, y6, none] ∧ H' oa = some (.lst (iv (own W p))) ∧ Pass (pl W p) (before (es W p)) H H' d S x i X)
      (fun H4 e4 => ⟨[], y5, y6, rfl, e4 _ _ (e3 _ _ ho), e.trans (e3.trans e4), by rw [List.append_nil]; exact e4 _ _ (e3 _ _ hd), by rw [List.append_nil]; exact nd, by rw [List.append_nil]; exact lt, fun z => absurd z (Nat.not_lt_zero _)⟩) (fun i σ' H' hi hI => ?_) (fun σ' H' hI => ?_)
    · obtain ⟨X, y5, y6, rfl, hoa, PS⟩ := hI
      have hin : i < pl W p := by omega
      have hW' := hW.mono PS.ex
      refine q_asgL (xs := iv (rto W p i)) ?_ fun la H5 n5 e5 h5 => ?_
      · exact el_lcIvE (a := oa) (fun k => decide (W.to k = i)) (fun k => .int k) (ev_var rfl) hoa (by omega) (fun x => rfl) (fun kq Hq eq hq => et_eqN (ev_to (hW'.mono eq) (own_lt hq) (ev_var rfl) (ev_var rfl)) (ev_var rfl)) (fun kq Hq eq hq _ => ev_var rfl)
      have PS5 := PS.mono e5
      have hW5 := hW.mono PS5.ex
      have hgl : (rto W p i).length ≤ 40000 := by have := lrt i; omega
      have tst : EvT (tB (tCB (rAll K) (tCons (tLc (iList K (tVar 6)) (gName 7) tYes (tDIn (tOp (rIxT K) (tOp (rIxL K) (tOp (rIxT K) (tVar 0) (tC (.int 1))) (tVar 7)) (tC (.int 1))) (tVar 3)) [7]) tNil))) [some (.ref wa), some (.int (p : Int)), some (.int (kr : Int)), some (.ref d), some (.ref oa), some (.int (i : Int)), some (.ref la), none] H5 (((rto W p i).map fun k => decide (W.fr k ∈ S ++ X)).all id) := by
        refine et_B (ev_allN ?_)
        have e1 : ((rto W p i).map fun k => decide (W.fr k ∈ S ++ X)).map V.bl = ((rto W p i).filter fun _ => true).map (fun k => V.bl (decide (W.fr k ∈ S ++ X))) := by
          rw [List.filter_eq_self.mpr (fun _ _ => rfl), List.map_map]
          rfl
        rw [e1]
        refine el_lcIvE (a := la) (fun _ => true) _ (ev_var rfl) h5 hgl (fun x => rfl) (fun _ _ _ _ => et_yes) (fun q Hq eq hq _ => ?_)
        have := ev_din (td := tVar 3) (q := (W.fr q : Int)) (σ := [some (.ref wa), some (.int (p : Int)), some (.int (kr : Int)), some (.ref d), some (.ref oa), some (.int (i : Int)), some (.ref la), some (.int (q : Int))]) (ev_from (K := K) (tw := tVar 0) (tk := tVar 7) (hW5.mono eq) (own_lt (mem_rto.mp hq).1) (ev_var rfl) (ev_var rfl)) (ev_var (v := .ref d) rfl) (eq _ _ PS5.at_)
        rw [kf_some] at this
        exact this
      have tni := ev_dnotin (td := tVar 3) (ty := tVar 5) (q := (i : Int)) (σ := [some (.ref wa), some (.int (p : Int)), some (.int (kr : Int)), some (.ref d), some (.ref oa), some (.int (i : Int)), some (.ref la), none]) (ev_var rfl) (ev_var (v := .ref d) rfl) PS5.at_
      rw [kf_some] at tni
      refine s_when (et_and (et_B tni) fun _ => tst) (fun hb H6 e6 => ?_) (fun hb H6 e6 => ?_)
      · rw [Bool.and_eq_true] at hb
        have hnot : i ∉ S ++ X := by simpa using hb.1
        have hall := all_map.mp hb.2
        have hi1 : i ≠ 0 := by
          rintro rfl
          exact hnot (List.mem_append_left _ hs0)
        have PS6 := PS5.mono e6
        refine s_dput (d := d) (q := (i : Int)) (v := .int (before (es W p) i)) ?_ (ev_var rfl) (ev_var rfl) PS6.at_ (by rw [kf_len]; have := nodup_le PS6.nd PS6.lt; omega) fun H7 e7 => ⟨_, _, _, rfl, ?_, PS6.turn n1 hin hnot H7 e7⟩
        · have e0 : before (es W p) i = ((rto W p i).map fun k => before (es W p) (W.fr k)).sum := by
            rw [B_fix GP, if_neg hi1]
          rw [e0]
          refine ev_sumN ?_
          have e1 : ((rto W p i).map fun k => before (es W p) (W.fr k)).map V.int = ((rto W p i).filter fun _ => true).map (fun k => V.int (before (es W p) (W.fr k))) := by
            rw [List.filter_eq_self.mpr (fun _ _ => rfl), List.map_map]
            rfl
          rw [e1]
          refine el_lcIvE (a := la) (fun _ => true) _ (ev_var rfl) (e6 _ _ h5) hgl (fun x => rfl) (fun _ _ _ _ => et_yes) (fun q Hq eq hq _ => ?_)
          refine ev_dget (d := d) (q := (W.fr q : Int)) (ev_var rfl) (ev_from ((hW5.mono e6).mono eq) (own_lt (mem_rto.mp hq).1) (ev_var rfl) (ev_var rfl)) (eq _ _ PS6.at_) ?_
          rw [kf_val, if_pos]
          exact hall q hq
        · rw [upd_ne hdo.symm]
          exact e7 _ _ (e6 _ _ (e5 _ _ hoa))
      · refine ⟨X, _, _, rfl, e6 _ _ (e5 _ _ hoa), (PS5.mono e6).skip fun hxi => ?_⟩
        subst hxi
        by_cases hz : x ∈ S ++ X
        · exact hz
        · rw [decide_eq_false hz] at hb
          have hall : ((rto W p x).map fun k => decide (W.fr k ∈ S ++ X)).all id = true := all_map.mpr fun q hq => List.mem_append_left _ (hneed q hq)
          rw [hall] at hb
          cases hb
    · obtain ⟨X, y5, y6, rfl, hoa, PS⟩ := hI
      have hx := PS.inn (by omega)
      have hX : 1 ≤ X.length := by
        rcases List.mem_append.mp hx with h | h
        · exact absurd h hxS
        · exact List.length_pos_of_mem h
      have hl := nodup_le PS.nd PS.lt
      rw [List.length_append] at hl
      exact ⟨_, by rw [List.length_append]; omega, S ++ X, y5, y6, rfl, PS.ex, hoa, PS.at_, PS.nd, PS.lt, List.mem_append_left _ hs0, rfl⟩
  · have hge : S.length = pl W p := by
      have := of_decide_eq_false hb
      omega
    have hall : ∀ q, q < pl W p → q ∈ S := fun q hq => by
      by_cases hz : q ∈ S
      · exact hz
      · have : (S ++ [q]).length ≤ pl W p := nodup_le (by
          rw [List.nodup_append]
          refine ⟨nd, by simp, fun a ha b hb => ?_⟩
          rw [List.mem_singleton] at hb
          subst hb
          rintro rfl
          exact hz ha) fun a ha => by
            rw [List.mem_append, List.mem_singleton] at ha
            rcases ha with ha | rfl
            · exact lt a ha
            · exact hq
        rw [List.length_append] at this
        simp at this
        omega
    have hW3 := hW.mono (e.trans e3)
    have hm := hed _ (es_mem hkr)
    have hkl := own_lt hkr
    refine s_ret (v := .int (before (es W p) (W.fr kr) * N W p (W.to kr))) (ev_op (x := .int (before (es W p) (W.fr kr))) (y := .int (N W p (W.to kr)))
      (ev_dget (d := d) (q := (W.fr kr : Int)) (ev_var rfl) (ev_from hW3 hkl (ev_var rfl) (ev_var rfl)) (e3 _ _ hd) (by rw [kf_val, if_pos (hall _ hm.1)]))
      (ev_dgetNew (q := W.to kr) (ed_law_on hW3 G hp (ev_var rfl) (ev_var rfl)) (fun H4 e4 => ev_to (hW3.mono e4) hkl (ev_var rfl) (ev_var rfl)) fun kvs hk => hk _ hm.2)
      (rv_I (wide_mul (a := 101) (b := 101) (abs_lt (nway_nonneg _ _ _) (before_le G)) (abs_lt (N_nonneg _ _ _) (N_le G)) (by omega) (by omega) (by omega)))) fun H4 e4 => k H4 (e.trans (e3.trans e4))
end
end FC
namespace FC
open PySem PySem.Spec PyProof.Rows L2 Evl
/-! ### a comprehension that makes a new object a turn -/
/-- what is known of the list at D of such new objects: H1 the heap ahead -/
structure NewL (n : Nat) (o : Nat → HO) (H1 H2 : Hp) (D : Addr) (acc : List Addr) : Prop where
  ex : Ex H1 H2
  fr : H1 D = none
  at_ : H2 D = some (.lst (acc.map V.ref))
  len : acc.length = n
  nd : acc.Nodup
  new : ∀ q ∈ acc, H1 q = none
  out : D ∉ acc
  each : ∀ (i : Nat) (q : Addr), acc[i]? = some q → H2 q = some (o i)
section
variable {K : PySem.W.Frag} {σ : L2.St} {H : Hp} {tl te : TE} {g : TG} {vs : List Nat}
theorem lc_new {a : Addr} {xs : List V} {H1 : Hp} {Q : VK} (o : Nat → HO) (hx : SqL K H1 a xs) (hz : xs.length ≤ 5000)
    (he : ∀ i x H2, Ex H1 H2 → xs[i]? = some x → ∀ R : VK, (∀ q H3, H2 q = none → Ex H2 H3 → H3 q = some (o i) → R (.ref q) H3) → g x (wipe σ vs) H2 fun σ2 H3 => wipe σ2 vs = wipe σ vs ∧ te σ2 H3 R)
    (k : ∀ D H2 acc, NewL xs.length o H1 H2 D acc → Q (.ref D) H2) :
    ∀ D, H1 D = none → ∃ W : Nat → Nat → Hp → Prop, (∃ m, W 0 m (upd H1 D (.lst []))) ∧ ∀ i m H, W i m H →
      ((Itl K a).stop i H ∧ Q (.ref D) H) ∨ ((Itl K a).go i H ∧ ∃ Nx : Hp → Prop, (∀ H', Nx H' → ∃ m', m' < m ∧ W (i + 1) m' H') ∧ ∀ x H', (Itl K a).yld i H x H' → g x (wipe σ vs) H' fun σ2 H2 => wipe σ2 vs = wipe σ vs ∧ tYes σ2 H2 fun b H3 =>
        if b = true then te σ2 H3 fun y H4 => ∃ acc, H4 D = some (.lst acc) ∧ acc.length < sizeLine ∧ Nx (upd H4 D (.lst (acc ++ [y]))) else Nx H3) := by
  intro D hD
  refine lc_list (K := K) (a := a) (xs := xs) (Qd := Q (.ref D)) (fun i H' => ∃ acc, NewL i o H1 H' D acc) ⟨[], Ex.new hD, hD, upd_same, rfl, List.nodup_nil, by simp, by simp, by simp⟩ (fun i H' _ hI => ?_) (fun i x H' hi hI => ?_) (fun H' hI => ?_)
  · obtain ⟨acc, NL⟩ := hI
    exact ex_l NL.ex hx
  · obtain ⟨acc, NL⟩ := hI
    refine he i x H' NL.ex hi _ fun q H3 hq e3 h3 => ?_
    have hqD : q ≠ D := fun z => by
      subst z
      rw [NL.at_] at hq
      cases hq
    have hil := (List.getElem?_eq_some_iff.mp hi).1
    refine ⟨acc.map V.ref, e3 _ _ NL.at_, sz5' (by rw [List.length_map, NL.len]; omega), acc ++ [q], Ex.mut (NL.ex.trans e3) hD, hD, ?_, ?_, ?_, ?_, ?_, ?_⟩
    · rw [upd_same, List.map_append]
      rfl
    · rw [List.length_append, NL.len]
      rfl
    · rw [List.nodup_append]
      refine ⟨NL.nd, by simp, fun b hb c hc => ?_⟩
      rw [List.mem_singleton] at hc
      subst hc
      rintro rfl
      obtain ⟨j, hj⟩ := List.getElem?_of_mem hb
      rw [NL.each j _ hj] at hq
      cases hq
    · intro b hb
      rw [List.mem_append, List.mem_singleton] at hb
      rcases hb with hb | rfl
      · exact NL.new b hb
      · exact fresh_back NL.ex hq
    · rw [List.mem_append, List.mem_singleton]
      rintro (hb | hb)
      · exact NL.out hb
      · exact hqD hb.symm
    · intro j b hj
      by_cases hjl : j < acc.length
      · rw [List.getElem?_append_left hjl] at hj
        have hb : b ≠ D := fun z => NL.out (z ▸ List.mem_of_getElem? hj)
        rw [upd_ne hb]
        exact e3 _ _ (NL.each j b hj)
      · rw [List.getElem?_append_right (by omega)] at hj
        have hj0 : j - acc.length = 0 := by
          have := (List.getElem?_eq_some_iff.mp hj).1
          simp at this
          omega
        rw [hj0] at hj
        have hb : b = q := (Option.some.inj hj).symm
        subst hb
        rw [upd_ne hqD, show j = i by have := NL.len; omega]
        exact h3
  · obtain ⟨acc, NL⟩ := hI
    exact k D H' acc NL
/-- over a list that stands -/
theorem lc_newE {a : Addr} {xs : List V} {Q : VK} (o : Nat → HO) (h : Ev tl σ H (.ref a)) (hx : H a = some (.lst xs)) (hz : xs.length ≤ 5000)
    (he : ∀ i x H2, Ex H H2 → xs[i]? = some x → ∀ R : VK, (∀ q H3, H2 q = none → Ex H2 H3 → H3 q = some (o i) → R (.ref q) H3) → g x (wipe σ vs) H2 fun σ2 H3 => wipe σ2 vs = wipe σ vs ∧ te σ2 H3 R)
    (k : ∀ D H2 acc, NewL xs.length o H H2 D acc → Q (.ref D) H2) : tLc (iList K tl) g tYes te vs σ H Q := by
  refine h H (Ex.refl _) _ fun H1 e => ?_
  refine ⟨a, rfl, ⟨xs, sq_of (e _ _ hx)⟩, ?_⟩
  refine lc_new o (sq_of (e _ _ hx)) hz (fun i x H2 e2 hi R hR => he i x H2 (e.trans e2) hi R hR) fun D H2 acc NL => k D H2 acc ⟨e.trans NL.ex, fresh_back e NL.fr, NL.at_, NL.len, NL.nd, fun q hq => fresh_back e (NL.new q hq), NL.out, NL.each⟩
end
theorem use_L {te : TE} {σ : L2.St} {H : Hp} {xs : List V} {Q : VK} (h : EvL te σ H xs) (k : ∀ p H2, H p = none → Ex H H2 → H2 p = some (.lst xs) → Q (.ref p) H2) : te σ H Q := h H (Ex.refl _) Q k
theorem use_U {te : TE} {σ : L2.St} {H : Hp} {xs : List V} {Q : VK} (h : EvU te σ H xs) (k : ∀ p H2, H p = none → Ex H H2 → H2 p = some (.tup xs) → Q (.ref p) H2) : te σ H Q := h H (Ex.refl _) Q k
theorem use_V {te : TE} {σ : L2.St} {H : Hp} {v : V} {Q : VK} (h : Ev te σ H v) (k : ∀ H2, Ex H H2 → Q v H2) : te σ H Q := h H (Ex.refl _) Q k
theorem go_ret {te : TE} {D : Ends} {σ : L2.St} {H : Hp} (h : te σ H D.rt) : tRet te D σ H := h
theorem go_tup2 {ta tb : TE} {σ : L2.St} {H : Hp} {Q : VK} (h : ta σ H fun x H1 => tb σ H1 fun y H2 => 2 ≤ sizeLine ∧ ∀ p, H2 p = none → Q (.ref p) (upd H2 p (.tup [x, y]))) : tTup (tCons ta (tCons tb tNil)) σ H Q := h
theorem go_var {i : Nat} {σ : L2.St} {H : Hp} {Q : VK} {v : V} (hv : σ[i]? = some (some v)) (h : Q v H) : tVar i σ H Q := ⟨v, hv, h⟩
theorem rd_law_alone {K : PySem.W.Frag} {H : Hp} {vs : List V} {Q : VK} {E : XK} (h : sp_law_alone K vs H Q E) : tr_law_alone K { nx := fun _ H' => Q .non H', rt := Q } (start N_law_alone vs) H := by
  obtain ⟨wa, W, p, rfl, hW, G, hp, k⟩ := h
  have nr := G.nr
  have ol := own_len W p
  unfold tr_law_alone
  refine q_asgL (xs := iv (own W p)) ?_ fun oa H1 no e1 h1 => ?_
  · exact el_lcR1 (f := fun i => decide ((W.row i).p = p)) (v := fun i => .int i) (ea_cons (ev_nrows hW (ev_var rfl)) ea_nil) ⟨by omega, by omega⟩ (fun x => rfl)
      (fun i Hq e hi => et_eqN (ev_part (hW.mono e) (by omega) (ev_var rfl) (ev_var rfl)) (ev_var rfl)) (fun i Hq e hi hf => ev_var rfl)
  have hW1 := hW.mono e1
  -- the outer tuple's parts: own
  refine go_ret (go_tup2 (go_var (v := .ref oa) rfl (go_tup2 ?_)))
  have e2 : Ex H1 H1 := Ex.refl _
  have e12 := e1
  have hW2 := hW.mono e12
  -- [web[0][part]]
  apply use_L (xs := iv [pl W p])
  · exact el_lst (ea_cons (ev_pl hW2 hp (ev_var rfl) (ev_var rfl)) ea_nil) (by show 1 ≤ 100000; decide)
  intro pa H3 n3 e3 h3
  have e13 := e12.trans e3
  have hW3 := hW.mono e13
  refine lc_newE (a := oa) (xs := iv (own W p)) (fun i => .tup (rowV ⟨0, W.fr ((own W p).getD i 0), W.to ((own W p).getD i 0), -1⟩)) (ev_var rfl) (e3 _ _ (e2 _ _ h1)) (by rw [iv_len]; omega) (fun i x H4 e4 hx R hR => ?_) fun ra H4 acc NL => ?_
  · obtain ⟨kk, g1, rfl, g3, ho⟩ := iv_at hx
    refine ⟨rfl, ?_⟩
    rw [g3] at hR
    have hW4 := hW3.mono e4
    apply use_U (xs := rowV ⟨0, W.fr kk, W.to kk, -1⟩)
    · exact eu_tup (vs := rowV ⟨0, W.fr kk, W.to kk, -1⟩) (ea_cons ev_c (ea_cons (ev_from hW4 (own_lt ho) (ev_var rfl) (ev_var rfl)) (ea_cons (ev_to hW4 (own_lt ho) (ev_var rfl) (ev_var rfl)) (ea_cons (ev_un (x := .int 1) ev_c ru_neg) ea_nil)))) (by show 4 ≤ 100000; decide)
    · exact fun q H5 nq e5 h5 => hR q H5 nq e5 h5
  · have e34 := NL.ex
    refine ⟨by show 2 ≤ sizeLine; decide, fun wb nwb => ?_⟩
    refine ⟨by show 2 ≤ sizeLine; decide, fun tp ntp => ?_⟩
    have hne : wb ≠ tp := fun z => by
      subst z
      rw [upd_same] at ntp
      cases ntp
    have ntp' : H4 tp = none := by
      rw [upd_ne hne.symm] at ntp
      exact ntp
    have x4 : Ex H4 (upd (upd H4 wb (.tup [.ref pa, .ref ra])) tp (.tup [.ref oa, .ref wb])) := (Ex.new nwb).trans (Ex.new ntp)
    have hwb : (upd (upd H4 wb (.tup [.ref pa, .ref ra])) tp (.tup [.ref oa, .ref wb])) wb = some (.tup [.ref pa, .ref ra]) := by rw [upd_ne hne, upd_same]
    have mk : ∀ H5 : Hp, H5 wb = some (.tup [.ref pa, .ref ra]) → H5 pa = some (.lst (iv [pl W p])) → H5 ra = some (.lst (acc.map V.ref)) → (∀ (i : Nat) (q : Addr), acc[i]? = some q → H5 q = some (.tup (rowV ⟨0, W.fr ((own W p).getD i 0), W.to ((own W p).getD i 0), -1⟩))) → WebAt H5 wb (alone W p) := by
      intro H5 a1 a2 a3 a4
      refine ⟨pa, ra, acc, a1, a2, a3, ?_, fun i q r hi hr => ?_⟩
      · rw [NL.len, iv_len]
        unfold alone
        rw [List.length_map]
      · rw [a4 i q hi]
        unfold alone at hr
        rw [List.getElem?_map] at hr
        cases ho : (own W p)[i]? with
        | none => rw [ho] at hr; cases hr
        | some kk =>
          rw [ho] at hr
          have hr' := Option.some.inj hr
          rw [List.getD_eq_getElem?_getD, ho, ← hr']
          rfl
    have f13 := e12.trans e3
    have npa : H pa = none := fresh_back e12 n3
    have nra : H ra = none := fresh_back f13 NL.fr
    have nwbH : H wb = none := fresh_back (f13.trans e34) nwb
    refine k tp oa wb _ (f13.trans (e34.trans x4)) upd_same no (x4 _ _ (e34 _ _ (e3 _ _ (e2 _ _ h1)))) (mk _ hwb (x4 _ _ (e34 _ _ h3)) (x4 _ _ NL.at_) fun i q hi => x4 _ _ (NL.each i q hi)) fun H5 hH5 => ?_
    exact mk _ (hH5 _ _ nwbH hwb) (hH5 _ _ npa (x4 _ _ (e34 _ _ h3))) (hH5 _ _ nra (x4 _ _ NL.at_)) fun i q hi => hH5 _ _ (fresh_back f13 (NL.new q (List.mem_of_getElem? hi))) (x4 _ _ (NL.each i q hi))
end FC
namespace FC
open PySem PySem.Spec PyProof.Rows L2 Evl
/-! ### the purse -/
theorem Purse.mono {pu ce : Addr} {T T' : Nat} {H : Hp} (h : Purse pu ce T H) (ht : T ≤ T') : Purse pu ce T' H := by
  obtain ⟨cells, t, h1, h2, h3, h4, h5⟩ := h.ex
  exact ⟨cells, t, h1, h2, by omega, h4, h5⟩
theorem Purse.keep {pu ce : Addr} {T : Nat} {H H' : Hp} (h : Purse pu ce T H) (e : Ex H H') : Purse pu ce T H' := by
  obtain ⟨cells, t, h1, h2, h3, h4, h5⟩ := h.ex
  exact ⟨cells, t, h1, h2, h3, e _ _ h4, e _ _ h5⟩
theorem Purse.ne {pu ce : Addr} {T : Nat} {H : Hp} (h : Purse pu ce T H) : pu ≠ ce := by
  obtain ⟨cells, t, h1, h2, h3, h4, h5⟩ := h.ex
  rintro rfl
  rw [h4] at h5
  injection h5 with h5
  injection h5 with h5
  cases cells with
  | nil => cases h5
  | cons a r => injection h5 with h5; cases h5
theorem Purse.pu_some {pu ce : Addr} {T : Nat} {H : Hp} (h : Purse pu ce T H) : ∃ o, H pu = some o := by
  obtain ⟨cells, t, h1, h2, h3, h4, h5⟩ := h.ex
  exact ⟨_, h4⟩
theorem Purse.ce_some {pu ce : Addr} {T : Nat} {H : Hp} (h : Purse pu ce T H) : ∃ o, H ce = some o := by
  obtain ⟨cells, t, h1, h2, h3, h4, h5⟩ := h.ex
  exact ⟨_, h5⟩
/-- a new place is not the purse's -/
theorem Purse.new {pu ce a : Addr} {T : Nat} {H : Hp} (h : Purse pu ce T H) (n : H a = none) : a ≠ pu ∧ a ≠ ce := by
  obtain ⟨o, ho⟩ := h.pu_some
  obtain ⟨u, hu⟩ := h.ce_some
  exact ⟨fun z => (by subst z; rw [n] at ho; cases ho), fun z => (by subst z; rw [n] at hu; cases hu)⟩
theorem Frm.refl {S : List Addr} {H : Hp} : Frm S H H := fun _ _ _ h => h
theorem Frm.trans {S : List Addr} {H H1 H2 : Hp} (a : Frm S H H1) (b : Frm S H1 H2) : Frm S H H2 := fun p o hp h => b p o hp (a p o hp h)
theorem Frm.of_ex {S : List Addr} {H H1 : Hp} (e : Ex H H1) : Frm S H H1 := fun p o _ h => e p o h
theorem Frm.put {S : List Addr} {H H1 : Hp} {a : Addr} {o : HO} (e : Frm S H H1) (ha : a ∈ S) : Frm S H (upd H1 a o) := fun p u hp h => by
  rw [upd_ne (show p ≠ a from fun z => hp (by rw [z]; exact ha))]
  exact e p u hp h
theorem Frm.new {S : List Addr} {H H1 : Hp} {a : Addr} {o : HO} (e : Frm S H H1) (n : H a = none) : Frm S H (upd H1 a o) := fun p u hp h => by
  rw [upd_ne (ne_of_none h n)]
  exact e p u hp h
theorem Frm.at_ {pu ce a : Addr} {H H1 : Hp} {o : HO} (e : Frm [pu, ce] H H1) (h1 : a ≠ pu) (h2 : a ≠ ce) (h : H a = some o) : H1 a = some o := e a o (by simp [h1, h2]) h
theorem nat_mod {t n : Nat} : (t : Int) % (n : Int) = ((t % n : Nat) : Int) := rfl
section
variable {K : PySem.W.Frag} {H : Hp} {vs : List V} {Q : VK} {E : XK}
theorem cut63 {xs : List V} (h : xs.length ≤ 63) : cutV xs none (some 63) = xs := by
  unfold cutV
  rw [show HT.sIx xs.length xs.length (some 63) = min 63 xs.length from HT.sIx_nat xs.length xs.length 63, HT.sIx_none]
  rw [List.drop_zero, Nat.sub_zero, List.take_of_length_le (by omega)]
theorem rd_law_purse (h : sp_law_purse K vs H Q E) : tr_law_purse K { nx := fun _ H' => Q .non H', rt := Q } (start N_law_purse vs) H := by
  obtain ⟨a, ns, rfl, hS, hl, k⟩ := h
  unfold tr_law_purse
  refine q_asgL (el_sl (ev_var rfl) eo_none (eo_some ev_c) hS) fun ce H1 n1 e1 h1 => ?_
  rw [cut63 (by rw [List.length_map]; exact hl)] at h1
  have fin : ∀ (cells : List Int) (ce : Addr) (H2 : Hp), 1 ≤ cells.length → cells.length ≤ 63 → H2 ce = some (.lst (cells.map V.int)) → tRet (tLst (tCons (tVar 1) (tCons (tC (.int 0)) tNil))) { nx := fun _ H' => Q .non H', rt := Q } [some (.ref a), some (.ref ce)] H2 := by
    intro cells ce H2 c1 c2 c3
    refine s_retL (xs := [.ref ce, .int 0]) (el_lst (ea_cons (ev_var rfl) (ea_cons ev_c ea_nil)) (by show 2 ≤ 100000; decide)) fun pu H3 n3 e3 h3 => ?_
    exact k H3 pu ce ⟨cells, 0, c1, c2, Nat.le_refl _, h3, e3 _ _ c3⟩
  refine q_if (b := decide (ns = [])) (et_test (ev_opL (ev_var rfl) (el_lst ea_nil (by show 0 ≤ 100000; decide)) fun q H2 hq e2 => rv_eqL (m := []) (sq_of (e2 _ _ h1)) (sq_of hq))) (fun hb H2 e2 => ?_) (fun hb H2 e2 => ?_)
  · refine s_asgL (xs := [.int 0]) (el_lst (ea_cons ev_c ea_nil) (by show 1 ≤ 100000; decide)) fun ce2 H3 n3 e3 h3 => ?_
    exact fin [0] ce2 H3 (by decide) (by decide) h3
  · have hne : ns ≠ [] := of_decide_eq_false hb
    have hpos : 1 ≤ ns.length := List.length_pos_iff.mpr hne
    exact fin ns ce H2 hpos hl (e2 _ _ h1)
theorem rd_law_draw (h : sp_law_draw K vs H Q E) : tr_law_draw K { nx := fun _ H' => Q .non H', rt := Q } (start N_law_draw vs) H := by
  obtain ⟨pu, ce, T, n, rfl, P, hT, hn0, hn1, k⟩ := h
  have hne := P.ne
  obtain ⟨cells, t, c1, c2, ht, hp, hc⟩ := P.ex
  unfold tr_law_draw
  refine q_unl2 (ev_var rfl) hp fun H1 e1 => ?_
  have hlen := ev_len (K := K) (ta := tVar 2) (σ := [some (.ref pu), some (.int n), some (.ref ce), some (.int (t : Int)), none, none, none]) (ev_var (v := .ref ce) rfl) (sq_of (e1 _ _ hc))
  rw [List.length_map] at hlen
  refine q_asg (v := .int ((t % cells.length : Nat) : Int)) (ev_is (ev_op (ev_var rfl) hlen (rv_I (by omega))) (congrArg V.int nat_mod)) fun H2 e2 => ?_
  have e12 := e1.trans e2
  have hlt : t % cells.length < cells.length := Nat.mod_lt _ (by omega)
  have hget : (cells.map V.int)[t % cells.length]? = some (.int cells[t % cells.length]) := by
    rw [List.getElem?_map, List.getElem?_eq_getElem hlt]
    rfl
  refine q_asg (ev_op (ev_var rfl) (ev_var rfl) (rv_ixL (sq_of (e12 _ _ hc)) (atI_nat hget))) fun H3 e3 => ?_
  have e13 := e12.trans e3
  refine q_setL (l := pu) (j := 1) (xs := [.ref ce, .int (t : Int)]) (e13 _ _ hp) (ev_op (ev_var rfl) ev_c rv_I0) (ev_var rfl) ev_c (by show 1 < 2; decide) fun H4 e4 => ?_
  have e14 := e13.trans e4
  have hc4 : (upd H4 pu (.lst ([V.ref ce, V.int (t : Int)].set 1 (.int ((t : Int) + 1))))) ce = some (.lst (cells.map V.int)) := by
    rw [upd_ne hne.symm]
    exact e14 _ _ hc
  have hp4 : (upd H4 pu (.lst ([V.ref ce, V.int (t : Int)].set 1 (.int ((t : Int) + 1))))) pu = some (.lst [.ref ce, .int ((t + 1 : Nat) : Int)]) := upd_same
  have f4 : Frm [pu, ce] H (upd H4 pu (.lst ([V.ref ce, V.int (t : Int)].set 1 (.int ((t : Int) + 1))))) := (Frm.of_ex e14).put (by simp)
  generalize upd H4 pu (.lst ([V.ref ce, V.int (t : Int)].set 1 (.int ((t : Int) + 1)))) = H5 at hc4 hp4 f4
  generalize hcell : cells[t % cells.length] = cell at hget
  refine q_when (et_test (ev_op (ev_var rfl) (ev_op (x := .int 10) (y := .int 18) ev_c ev_c (rv_I ⟨by decide, by decide, by decide⟩)) rv_I0)) (fun _ H6 e6 => ?_) (fun _ H6 e6 => ?_)
  · refine q_setL (l := ce) (j := t % cells.length) (xs := cells.map V.int) (v := .int (cell / n)) (e6 _ _ hc4) (ev_op (ev_var rfl) (ev_var rfl) (rv_I (wide_div (b := 201) hn0 (by
      have : n.natAbs < 2 ^ 200 := by omega
      have h2 : (2 : Nat) ^ 200 < 2 ^ 201 := by decide
      omega) (by omega) (by omega)))) (ev_var rfl) (ev_var rfl) (by rw [List.length_map]; exact hlt) fun H7 e7 => ?_
    refine s_ret (ev_op (ev_var rfl) (ev_var rfl) (rv_I hn0)) fun H8 e8 => ?_
    refine k _ H8 (Int.emod_nonneg _ (by omega)) (Int.emod_lt_of_pos _ hn0) ?_ ?_
    · refine ⟨cells.set (t % cells.length) (cell / n), t + 1, by rw [List.length_set]; exact c1, by rw [List.length_set]; exact c2, by omega, e8 _ _ ?_, e8 _ _ ?_⟩
      · rw [upd_ne hne]
        exact e7 _ _ (e6 _ _ hp4)
      · rw [upd_same, List.map_set]
    · exact ((f4.trans (Frm.of_ex (e6.trans e7))).put (by simp)).trans (Frm.of_ex e8)
  · have bd : ∀ (x m : Int), 0 < m → m < 2 ^ 40 → -(2 ^ 64) < x % m ∧ x % m < 2 ^ 64 := fun x m h1 h2 => by
      have a1 := Int.emod_nonneg x (show m ≠ 0 by omega)
      have a2 := Int.emod_lt_of_pos x h1
      omega
    have tb : -(2 ^ 64) < (t : Int) ∧ (t : Int) < 2 ^ 64 := by omega
    refine q_asg (ev_op (ev_op (ev_op (ev_op (ev_var rfl) ev_c (rv_I (.inr (by decide)))) (ev_op (ev_op (ev_var rfl) (ev_var rfl) (rv_I (.inl tb))) ev_c (rv_I (.inr (by decide)))) rv_I0) ev_c rv_I0) ev_c (rv_I (by decide))) fun H7 e7 => ?_
    refine q_asg (ev_op (ev_op (ev_var rfl) (ev_var rfl) (rv_I (.inl (bd _ 2147483647 (by decide) (by decide))))) ev_c (rv_I (by decide))) fun H8 e8 => ?_
    refine s_ret (ev_op (ev_op (ev_op (ev_var rfl) (ev_var rfl) (rv_I (.inl (bd _ 2147483629 (by decide) (by decide))))) ev_c (rv_I (by decide))) (ev_var rfl) (rv_I hn0)) fun H9 e9 => ?_
    have e69 := e6.trans (e7.trans (e8.trans e9))
    refine k _ H9 (Int.emod_nonneg _ (by omega)) (Int.emod_lt_of_pos _ hn0) ⟨cells, t + 1, c1, c2, by omega, e69 _ _ hp4, e69 _ _ hc4⟩ (f4.trans (Frm.of_ex e69))
/-- a call of the draw -/
theorem use_draw {σ : L2.St} {t0 t1 : TE} {pu ce : Addr} {T : Nat} {n : Int} {Q : VK} (P : Purse pu ce T H) (hT : T ≤ 1000000) (h0 : 0 < n) (h1 : n < 2 ^ 200) (a0 : Ev t0 σ H (.ref pu)) (a1 : Ev t1 σ H (.int n))
    (k : ∀ (i : Nat) H', (i : Int) < n → Purse pu ce (T + 1) H' → Frm [pu, ce] H H' → Q (.int (i : Int)) H') : tCall (sp_law_draw K) [] E0 (tCons t0 (tCons t1 tNil)) σ H Q := by
  refine a0 H (Ex.refl _) _ fun H1 e1 => ?_
  refine a1 H1 e1 _ fun H2 e2 => ?_
  have e12 := e1.trans e2
  refine ⟨pu, ce, T, n, rfl, P.keep e12, hT, h0, h1, fun i H' hi0 hi1 P' f => ?_⟩
  obtain ⟨j, rfl⟩ : ∃ j : Nat, i = (j : Int) := ⟨i.toNat, by omega⟩
  exact k j H' hi1 P' ((Frm.of_ex e12).trans f)
theorem perm_insert {o : List Nat} {m d : Nat} (h : o.Perm (List.range m)) : (o.take d ++ [m] ++ o.drop d).Perm (List.range (m + 1)) := by
  rw [List.range_succ]
  have h1 : (o.take d ++ [m] ++ o.drop d).Perm (m :: (o.take d ++ o.drop d)) := by
    rw [List.append_assoc]
    exact List.perm_middle
  rw [List.take_append_drop] at h1
  exact h1.trans ((List.Perm.cons m h).trans (List.perm_append_comm (l₁ := [m])))
theorem rd_law_order (h : sp_law_order K vs H Q E) : tr_law_order K { nx := fun _ H' => Q .non H', rt := Q } (start N_law_order vs) H := by
  obtain ⟨pu, ce, T, m, rfl, P, hT, hm, k⟩ := h
  unfold tr_law_order
  refine q_asgL (xs := []) (el_lst ea_nil (by show 0 ≤ 100000; decide)) fun fo H1 n1 e1 h1 => ?_
  have hfo := P.new n1
  refine q_forR1 (ea_cons (ev_var rfl) ea_nil) ⟨by omega, by omega⟩ (fun i σ' H' => ∃ (y3 : Option V) (o : List Nat), σ' = [some (.ref pu), some (.int (m : Int)), some (.ref fo), y3] ∧ o.Perm (List.range i) ∧ H' fo = some (.lst (iv o)) ∧ Purse pu ce (T + i) H' ∧ Frm [pu, ce] H H')
    (fun H2 e2 => ⟨none, [], rfl, .nil, e2 _ _ h1, (P.keep (e1.trans e2)), Frm.of_ex (e1.trans e2)⟩) (fun i σ' H' hi hI => ?_) (fun σ' H' hI => ?_)
  · obtain ⟨y3, o, rfl, ho, hf, P', f⟩ := hI
    have ol := ho.length_eq
    rw [List.length_range] at ol
    refine ⟨.ref fo, rfl, .inl ⟨rfl, _, sq_of hf⟩, ?_⟩
    refine use_draw P' (by omega) (n := (i : Int) + 1) (by omega) (by omega) (ev_var rfl) (ev_op (ev_var rfl) ev_c rv_I0) fun d H2 hd P2 f2 => ?_
    have hf2 := f2.at_ hfo.1 hfo.2 hf
    refine ⟨.int (i : Int), rfl, fo, iv o, (d : Int), .int (i : Int), rfl, rfl, hf2, sz5' (by rw [iv_len]; omega), by omega, by omega, ?_⟩
    refine ⟨some (.int (i : Int)), o.take d ++ [i] ++ o.drop d, rfl, perm_insert ho, ?_, ?_, ?_⟩
    · rw [upd_same]
      unfold iv
      rw [List.map_append, List.map_append, List.map_take, List.map_drop]
      rfl
    · obtain ⟨cells, t, q1, q2, q3, q4, q5⟩ := P2.ex
      exact ⟨cells, t, q1, q2, by omega, by rw [upd_ne hfo.1.symm]; exact q4, by rw [upd_ne hfo.2.symm]; exact q5⟩
    · exact (f.trans f2).new n1
  · obtain ⟨y3, o, rfl, ho, hf, P', f⟩ := hI
    refine s_ret (ev_var rfl) fun H2 e2 => k o fo H2 ho n1 (e2 _ _ hf) (P'.keep e2) (f.trans (Frm.of_ex e2))
end
end FC
namespace FC
/-! ### a part grown -/
structure PartInv (order : List Nat) (rows : List Ed) : Prop where
  nd : order.Nodup
  mem : ∀ x, x ∈ order ↔ x < order.length
  len : 2 ≤ order.length ∧ order.length ≤ 16
  h0 : order[0]? = some 0
  h1 : order[order.length - 1]? = some 1
  ed : ∀ e ∈ rows, ∃ (i j : Nat), i < j ∧ order[i]? = some e.1 ∧ order[j]? = some e.2
  r0 : ∀ x, x < order.length → Reach rows 0 x
  r1 : ∀ x, x < order.length → Reach rows x 1
theorem PartInv.first : PartInv [0, 1] [(0, 1)] where
  nd := by simp
  mem := by intro x; simp; omega
  len := by simp
  h0 := rfl
  h1 := rfl
  ed := by
    intro e he
    rw [List.mem_singleton] at he
    subst he
    exact ⟨0, 1, by omega, rfl, rfl⟩
  r0 := by
    intro x hx
    have : x = 0 ∨ x = 1 := by simp at hx; omega
    rcases this with rfl | rfl
    · exact .refl _
    · exact .step (by simp) (.refl _)
  r1 := by
    intro x hx
    have : x = 0 ∨ x = 1 := by simp at hx; omega
    rcases this with rfl | rfl
    · exact .step (by simp) (.refl _)
    · exact .refl _
theorem pos_inj {l : List Nat} (nd : l.Nodup) {i j x : Nat} (hi : l[i]? = some x) (hj : l[j]? = some x) : i = j := by
  obtain ⟨a1, a2⟩ := List.getElem?_eq_some_iff.mp hi
  obtain ⟨b1, b2⟩ := List.getElem?_eq_some_iff.mp hj
  exact (List.getElem_inj nd).mp (a2.trans b2.symm)
/-- a place put into a list -/
theorem ins_get {l : List Nat} {q y i x : Nat} (h : l[i]? = some x) (hq : q ≤ l.length) : (l.take q ++ [y] ++ l.drop q)[if i < q then i else i + 1]? = some x := by
  have hi := (List.getElem?_eq_some_iff.mp h).1
  rw [List.append_assoc]
  by_cases hiq : i < q
  · rw [if_pos hiq, List.getElem?_append_left (by rw [List.length_take]; omega), List.getElem?_take, if_pos hiq]
    exact h
  · rw [if_neg hiq, List.getElem?_append_right (by rw [List.length_take]; omega), List.length_take]
    rw [show i + 1 - min q l.length = (i - q) + 1 by omega]
    show (l.drop q)[i - q]? = some x
    rw [List.getElem?_drop, show q + (i - q) = i by omega]
    exact h
theorem ins_new {l : List Nat} {q y : Nat} (hq : q ≤ l.length) : (l.take q ++ [y] ++ l.drop q)[q]? = some y := by
  rw [List.append_assoc, List.getElem?_append_right (by rw [List.length_take]; omega), List.length_take]
  rw [show q - min q l.length = 0 by omega]
  rfl
theorem ins_perm (l : List Nat) (q y : Nat) : (l.take q ++ [y] ++ l.drop q).Perm (y :: l) := by
  have h1 : (l.take q ++ [y] ++ l.drop q).Perm (y :: (l.take q ++ l.drop q)) := by
    rw [List.append_assoc]
    exact List.perm_middle
  rwa [List.take_append_drop] at h1
theorem ins_len (l : List Nat) (q y : Nat) : (l.take q ++ [y] ++ l.drop q).length = l.length + 1 := by
  rw [(ins_perm l q y).length_eq]
  rfl
/-- a place put into a row -/
theorem PartInv.split {order : List Nat} {rows : List Ed} (h : PartInv order rows) (hl : order.length < 16) {at_ : Nat} {a b i j q : Nat} (hr : rows[at_]? = some (a, b)) (hi : order[i]? = some a) (hj : order[j]? = some b) (h1 : i < q) (h2 : q ≤ j) :
    PartInv (order.take q ++ [order.length] ++ order.drop q) (rows.set at_ (a, order.length) ++ [(order.length, b)]) := by
  have hjl := (List.getElem?_eq_some_iff.mp hj).1
  have hql : q ≤ order.length := by omega
  have hlen := ins_len order q order.length
  have hperm := ins_perm order q order.length
  have hnew : order.length ∉ order := fun z => by
    have := (h.mem _).mp z
    omega
  have hal := (List.getElem?_eq_some_iff.mp hr).1
  have mem1 : (a, order.length) ∈ rows.set at_ (a, order.length) ++ [(order.length, b)] := by
    rw [List.mem_append]
    exact .inl (List.mem_iff_getElem?.mpr ⟨at_, by rw [List.getElem?_set, if_pos rfl, if_pos hal]⟩)
  have mem2 : (order.length, b) ∈ rows.set at_ (a, order.length) ++ [(order.length, b)] := by simp
  have via : ∀ e ∈ rows, Reach (rows.set at_ (a, order.length) ++ [(order.length, b)]) e.1 e.2 := by
    intro e he
    obtain ⟨m, hm⟩ := List.mem_iff_getElem?.mp he
    by_cases hma : m = at_
    · subst hma
      rw [hr] at hm
      have : e = (a, b) := (Option.some.inj hm).symm
      subst this
      exact .step mem1 (.step mem2 (.refl _))
    · refine .step (q := e.2) ?_ (.refl _)
      rw [List.mem_append]
      refine .inl (List.mem_iff_getElem?.mpr ⟨m, ?_⟩)
      rw [List.getElem?_set, if_neg (fun z => hma z.symm)]
      exact hm
  have ale : a < order.length := (h.mem a).mp (List.mem_of_getElem? hi)
  have ble : b < order.length := (h.mem b).mp (List.mem_of_getElem? hj)
  refine ⟨?_, ?_, ⟨by rw [hlen]; omega, by rw [hlen]; omega⟩, ?_, ?_, ?_, ?_, ?_⟩
  · rw [hperm.nodup_iff, List.nodup_cons]
    exact ⟨hnew, h.nd⟩
  · intro x
    rw [hperm.mem_iff, List.mem_cons, h.mem, hlen]
    omega
  · have := ins_get (q := q) (y := order.length) h.h0 hql
    rwa [if_pos (by omega)] at this
  · have := ins_get (q := q) (y := order.length) h.h1 hql
    rw [if_neg (by omega)] at this
    rw [hlen]
    rwa [show order.length + 1 - 1 = order.length - 1 + 1 by have := h.len; omega]
  · intro e he
    rw [List.mem_append, List.mem_singleton] at he
    rcases he with he | rfl
    · rcases List.mem_or_eq_of_mem_set he with he | rfl
      · obtain ⟨i', j', hij, hi', hj'⟩ := h.ed e he
        refine ⟨_, _, ?_, ins_get (q := q) (y := order.length) hi' hql, ins_get (q := q) (y := order.length) hj' hql⟩
        split <;> split <;> omega
      · refine ⟨_, q, ?_, ins_get (q := q) (y := order.length) hi hql, ins_new hql⟩
        rw [if_pos h1]
        exact h1
    · refine ⟨q, _, ?_, ins_new hql, ins_get (q := q) (y := order.length) hj hql⟩
      rw [if_neg (by omega)]
      omega
  · intro x hx
    rw [hlen] at hx
    by_cases hxs : x = order.length
    · subst hxs
      exact ((h.r0 a ale).via via).trans (.step mem1 (.refl _))
    · exact (h.r0 x (by omega)).via via
  · intro x hx
    rw [hlen] at hx
    by_cases hxs : x = order.length
    · subst hxs
      exact .step mem2 ((h.r1 b ble).via via)
    · exact (h.r1 x (by omega)).via via
/-- a row put in between two places -/
theorem PartInv.more {order : List Nat} {rows : List Ed} (h : PartInv order rows) {a b i j : Nat} (hi : order[i]? = some a) (hj : order[j]? = some b) (hij : i < j) : PartInv order (rows ++ [(a, b)]) := by
  refine ⟨h.nd, h.mem, h.len, h.h0, h.h1, fun e he => ?_, fun x hx => (h.r0 x hx).mono fun e he => List.mem_append_left _ he, fun x hx => (h.r1 x hx).mono fun e he => List.mem_append_left _ he⟩
  rw [List.mem_append, List.mem_singleton] at he
  rcases he with he | rfl
  · exact h.ed e he
  · exact ⟨i, j, hij, hi, hj⟩
/-- all numbered anew -/
theorem PartInv.named {order : List Nat} {rows : List Ed} (h : PartInv order rows) {names : List Nat} (nd : names.Nodup) (nm : ∀ x, x ∈ names ↔ x < order.length) (hl : names.length = order.length) (n0 : names[0]? = some 0) (n1 : names[1]? = some 1) :
    GoodPart order.length (rows.map fun e => (names.getD e.1 0, names.getD e.2 0)) := by
  have gt : ∀ x, x < order.length → names[x]? = some (names.getD x 0) := fun x hx => by
    rw [List.getD_eq_getElem?_getD, List.getElem?_eq_getElem (by omega)]
    rfl
  have idx : ∀ x, x < order.length → names.idxOf (names.getD x 0) = x := fun x hx => by
    have hx' : x < names.length := by omega
    have := nd.idxOf_getElem x hx'
    have e : names.getD x 0 = names[x] := by
      rw [List.getD_eq_getElem?_getD, List.getElem?_eq_getElem hx']
      rfl
    rw [e]
    exact this
  have lt : ∀ x, x < order.length → names.getD x 0 < order.length := fun x hx => (nm _).mp (List.mem_of_getElem? (gt x hx))
  have g0 : names.getD 0 0 = 0 := by
    rw [List.getD_eq_getElem?_getD, n0]
    rfl
  have g1 : names.getD 1 0 = 1 := by
    rw [List.getD_eq_getElem?_getD, n1]
    rfl
  have onto : ∀ y, y < order.length → ∃ x, x < order.length ∧ names.getD x 0 = y := fun y hy => by
    obtain ⟨x, hx⟩ := List.getElem?_of_mem ((nm y).mpr hy)
    refine ⟨x, ?_, ?_⟩
    · have := (List.getElem?_eq_some_iff.mp hx).1
      omega
    · rw [List.getD_eq_getElem?_getD, hx]
      rfl
  have oi : ∀ (i x : Nat), order[i]? = some x → order.idxOf x = i := fun i x hx => by
    obtain ⟨a1, a2⟩ := List.getElem?_eq_some_iff.mp hx
    rw [← a2]
    exact h.nd.idxOf_getElem i a1
  have hlen := h.len
  have mp : ∀ {p q : Nat}, Reach rows p q → Reach (rows.map fun e => (names.getD e.1 0, names.getD e.2 0)) (names.getD p 0) (names.getD q 0) := fun hr =>
    hr.map (f := fun x => names.getD x 0) fun e he => List.mem_map.mpr ⟨e, he, rfl⟩
  refine ⟨hlen.1, hlen.2, fun e' he' => ?_, ⟨fun y => order.idxOf (names.idxOf y), fun e' he' => ?_, fun y hy => ?_⟩, fun y hy => ?_, fun y hy => ?_⟩
  · obtain ⟨e, he, rfl⟩ := List.mem_map.mp he'
    obtain ⟨i, j, hij, hi, hj⟩ := h.ed e he
    have l1 := (h.mem _).mp (List.mem_of_getElem? hi)
    have l2 := (h.mem _).mp (List.mem_of_getElem? hj)
    refine ⟨lt _ l1, lt _ l2, fun hz => ?_⟩
    dsimp only at hz
    have e1 : e.1 = 1 := by
      have a := idx _ l1
      have b := idx 1 (by omega)
      rw [hz] at a
      rw [g1] at b
      exact a.symm.trans b
    rw [e1] at hi
    have := pos_inj h.nd hi h.h1
    have := (List.getElem?_eq_some_iff.mp hj).1
    omega
  · obtain ⟨e, he, rfl⟩ := List.mem_map.mp he'
    obtain ⟨i, j, hij, hi, hj⟩ := h.ed e he
    have l1 := (h.mem _).mp (List.mem_of_getElem? hi)
    have l2 := (h.mem _).mp (List.mem_of_getElem? hj)
    dsimp only
    rw [idx _ l1, idx _ l2, oi _ _ hi, oi _ _ hj]
    exact hij
  · obtain ⟨x, hx, rfl⟩ := onto y hy
    dsimp only
    rw [idx x hx]
    have : order.idxOf x < order.length := List.idxOf_lt_length_iff.mpr ((h.mem x).mpr hx)
    omega
  · obtain ⟨x, hx, rfl⟩ := onto y hy
    have := mp (h.r0 x hx)
    rwa [g0] at this
  · obtain ⟨x, hx, rfl⟩ := onto y hy
    have := mp (h.r1 x hx)
    rwa [g1] at this
theorem names_ok {o : List Nat} {n : Nat} (hn : 2 ≤ n) (h : o.Perm (List.range (n - 2))) : ([0, 1] ++ o.map (fun x => 2 + x)).Nodup ∧ (∀ x, x ∈ [0, 1] ++ o.map (fun x => 2 + x) ↔ x < n) ∧ ([0, 1] ++ o.map (fun x => 2 + x)).length = n := by
  have hnd : o.Nodup := h.nodup_iff.mpr List.nodup_range
  have hmem : ∀ x, x ∈ o ↔ x < n - 2 := fun x => by rw [h.mem_iff, List.mem_range]
  have hlen : o.length = n - 2 := by rw [h.length_eq, List.length_range]
  refine ⟨?_, fun x => ?_, ?_⟩
  · rw [List.nodup_append]
    refine ⟨by simp, ?_, fun a ha b hb => ?_⟩
    · unfold List.Nodup
      rw [List.pairwise_map]
      exact hnd.imp fun hne hz => hne (by omega)
    · obtain ⟨c, _, rfl⟩ := List.mem_map.mp hb
      simp at ha
      omega
  · rw [List.mem_append, List.mem_map]
    constructor
    · rintro (hx | ⟨c, hc, rfl⟩)
      · simp at hx
        omega
      · have := (hmem c).mp hc
        omega
    · intro hx
      by_cases h2 : x < 2
      · left
        simp
        omega
      · right
        exact ⟨x - 2, (hmem _).mpr (by omega), by omega⟩
  · rw [List.length_append, List.length_map, hlen]
    simp
    omega
end FC
namespace FC
open PySem PySem.Spec PyProof.Rows L2 Evl
section
variable {K : PySem.W.Frag} {σ : L2.St} {H : Hp} {te ta tb tl : TE} {tr : TA} {tz tu tw : TS} {D : Ends} {g : TG} {t u : TT} {vs : List Nat} {Q : VK} {r : R2}
theorem go_asg {i : Nat} (h : te σ H fun x H1 => tz D (σ.set i (some x)) H1) : tSeq (tAsg te (gName i)) tz D σ H := h
theorem go_asg1 {i : Nat} (h : te σ H fun x H1 => D.nx (σ.set i (some x)) H1) : tAsg te (gName i) D σ H := h
theorem go_drop (h : te σ H fun _ H1 => tz D σ H1) : tSeq (tDrop te) tz D σ H := h
theorem go_drop1 (h : te σ H fun _ H1 => D.nx σ H1) : tDrop te D σ H := h
theorem go_op (h : ta σ H fun x H1 => tb σ H1 fun y H2 => r x y H2 Q) : tOp r ta tb σ H Q := h
theorem go_call {sp : Sp} (h : tr σ H fun vs H1 => sp (vs ++ []) H1 Q E0) : tCall sp [] E0 tr σ H Q := h
theorem go_cons {Q : List V → Hp → Prop} (h : ta σ H fun x H1 => tr σ H1 fun xs H2 => Q (x :: xs) H2) : tCons ta tr σ H Q := h
theorem go_test {Q : Bool → Hp → Prop} (h : te σ H fun x H1 => ∃ k, x = .bl k ∧ Q k H1) : tTest te σ H Q := h
theorem go_lst (h : tr σ H fun xs H1 => xs.length ≤ sizeLine ∧ ∀ p, H1 p = none → Q (.ref p) (upd H1 p (.lst xs))) : tLst tr σ H Q := h
theorem go_bm {r : V → List V → Hp → VK → Prop} {a : Addr} (ha : Ev ta σ H (.ref a)) {xs : List V} (hx : H a = some (.lst xs)) (h : ∀ H1, Ex H H1 → tr σ H1 fun ys H2 => r (.ref a) ys H2 Q) : tBM K "list" r ta tr σ H Q := by
  refine ha H (Ex.refl _) _ fun H1 e => ?_
  exact ⟨.inl ⟨rfl, _, sq_of (e _ _ hx)⟩, h H1 e⟩
theorem go_if (h : t σ H fun b H1 => if b = true then tu D σ H1 else tw D σ H1) : tIfS t tu tw D σ H := h
theorem go_ifand {b : Bool} (ht : EvT t σ H b) (h0 : b = false → ∀ H1, Ex H H1 → tw D σ H1) (h1 : b = true → ∀ H1, Ex H H1 → u σ H1 fun c H2 => if c = true then tu D σ H2 else tw D σ H2) : tIfS (tAnd t u) tu tw D σ H := by
  refine ht H (Ex.refl _) _ fun H1 e => ?_
  cases b with
  | false => exact iteF (iteF (h0 rfl H1 e))
  | true => exact iteT (h1 rfl H1 e)
theorem lc_call {j : TT} (h : tl σ H fun x H1 => tLc (iList K (tC x)) g j te vs σ H1 Q) : tLc (iList K tl) g j te vs σ H Q := h
theorem ev_index {a : Addr} {l : List Nat} {j x : Nat} (h : H a = some (.lst (iv l))) (nd : l.Nodup) (hj : l[j]? = some x) (ha : Ev ta σ H (.ref a)) (hb : Ev tb σ H (.int (x : Int))) : Ev (tBM K "list" (rIndex K) ta (tCons tb tNil)) σ H (.int (j : Int)) := by
  intro H1 e Q k
  refine go_bm (ha.mono e) (e _ _ h) fun H2 e2 => ?_
  refine hb H2 (e.trans e2) _ fun H3 e3 => ?_
  refine ⟨a, iv l, .int (x : Int), j, .int (x : Int), rfl, rfl, sq_of (e3 _ _ (e2 _ _ (e _ _ h))), rfl, flat_iv l, iv_get hj, by simp [eqV], fun m z' hm hz => ?_, k H3 (e2.trans e3)⟩
  obtain ⟨y, hy, rfl, _, _⟩ := iv_at hz
  have hne : y ≠ x := fun z => by
    subst z
    have := pos_inj nd hy hj
    omega
  show (((y : Int) == (x : Int))) = false
  rw [beq_eq_false_iff_ne]
  omega
theorem q_setLN {l : Addr} {xs ys : List V} {j : Nat} (hl : H l = some (.lst xs)) (h : EvL te σ H ys) (ho : Ev ta σ H (.ref l)) (hi : Ev tb σ H (.int (j : Int))) (hj : j < xs.length) (k : ∀ p H1, H p = none → Ex H H1 → H1 p = some (.lst ys) → tz D σ (upd H1 l (.lst (xs.set j (.ref p))))) :
    tSeq (tAsg te (gSub ta tb rSetL)) tz D σ H := by
  refine h H (Ex.refl _) _ fun p H1 n e h1 => ?_
  refine ho H1 e _ fun H2 e2 => ?_
  refine hi H2 (e.trans e2) _ fun H3 e3 => ?_
  exact ⟨l, xs, (j : Int), j, rfl, rfl, e3 _ _ (e2 _ _ (e _ _ hl)), ixN_nat hj, k p H3 n (e.trans (e2.trans e3)) (e3 _ _ (e2 _ _ h1))⟩
end
/-! ### a part grown, over the heap -/
structure PState (pu ce : Addr) (T : Nat) (H0 H' : Hp) (oa ra : Addr) (order : List Nat) (rr : List Addr) (rows : List Ed) : Prop where
  P : Purse pu ce T H'
  f : Frm [pu, ce] H0 H'
  no : H0 oa = none
  nr : H0 ra = none
  nrr : ∀ q ∈ rr, H0 q = none
  ne : oa ≠ ra
  oo : oa ∉ rr
  ro : ra ∉ rr
  ho : H' oa = some (.lst (iv order))
  hr : H' ra = some (.lst (rr.map V.ref))
  len : rr.length = rows.length
  each : ∀ (i : Nat) (q : Addr) (e : Ed), rr[i]? = some q → rows[i]? = some e → H' q = some (.lst [.int e.1, .int e.2])
section
variable {pu ce oa ra : Addr} {T T' : Nat} {H0 H' H'' : Hp} {order : List Nat} {rr : List Addr} {rows : List Ed}
theorem PState.move (h : PState pu ce T H0 H' oa ra order rr rows) (P0 : Purse pu ce T' H0) {T2 : Nat} (f : Frm [pu, ce] H' H'') (P : Purse pu ce T2 H'') : PState pu ce T2 H0 H'' oa ra order rr rows := by
  have n1 := P0.new h.no
  have n2 := P0.new h.nr
  refine ⟨P, h.f.trans f, h.no, h.nr, h.nrr, h.ne, h.oo, h.ro, f.at_ n1.1 n1.2 h.ho, f.at_ n2.1 n2.2 h.hr, h.len, fun i q e hi he => ?_⟩
  have n3 := P0.new (h.nrr q (List.mem_of_getElem? hi))
  exact f.at_ n3.1 n3.2 (h.each i q e hi he)
theorem PState.ex (h : PState pu ce T H0 H' oa ra order rr rows) (P0 : Purse pu ce T' H0) (e : Ex H' H'') : PState pu ce T H0 H'' oa ra order rr rows := h.move P0 (Frm.of_ex e) (h.P.keep e)
theorem Purse.put {pu ce a : Addr} {T : Nat} {H : Hp} {o : HO} (h : Purse pu ce T H) (h1 : a ≠ pu) (h2 : a ≠ ce) : Purse pu ce T (upd H a o) := by
  obtain ⟨cells, t, q1, q2, q3, q4, q5⟩ := h.ex
  exact ⟨cells, t, q1, q2, q3, by rw [upd_ne h1.symm]; exact q4, by rw [upd_ne h2.symm]; exact q5⟩
/-- a row more: q is its new list -/
theorem PState.push (h : PState pu ce T H0 H' oa ra order rr rows) (P0 : Purse pu ce T' H0) {q : Addr} {a b : Nat} (nq : H' q = none) {H1 : Hp} (e : Ex H' H1) (hq : H1 q = some (.lst [.int (a : Int), .int (b : Int)])) :
    PState pu ce T H0 (upd H1 ra (.lst (rr.map V.ref ++ [.ref q]))) oa ra order (rr ++ [q]) (rows ++ [(a, b)]) := by
  have h1 := h.ex P0 e
  have n2 := P0.new h.nr
  have q1 : oa ≠ q := ne_of_none h.ho nq
  have q2 : ra ≠ q := ne_of_none h.hr nq
  have q3 : H0 q = none := by
    cases hz : H0 q with
    | none => rfl
    | some o =>
      have n0 := h.P.new nq
      have := h.f.at_ n0.1 n0.2 hz
      rw [nq] at this
      cases this
  refine ⟨h1.P.put n2.1 n2.2, h1.f.new h.nr, h.no, h.nr, fun x hx => ?_, h.ne, ?_, ?_, ?_, ?_, ?_, fun i x ed hi he => ?_⟩
  · rw [List.mem_append, List.mem_singleton] at hx
    rcases hx with hx | rfl
    · exact h.nrr x hx
    · exact q3
  · rw [List.mem_append, List.mem_singleton]
    rintro (hx | hx)
    · exact h.oo hx
    · exact q1 hx
  · rw [List.mem_append, List.mem_singleton]
    rintro (hx | hx)
    · exact h.ro hx
    · exact q2 hx
  · rw [upd_ne h.ne]
    exact h1.ho
  · rw [upd_same, List.map_append]
    rfl
  · rw [List.length_append, List.length_append, h.len]
    rfl
  · by_cases hil : i < rr.length
    · rw [List.getElem?_append_left hil] at hi
      rw [List.getElem?_append_left (by rw [← h.len]; exact hil)] at he
      have hx : x ≠ ra := fun z => h.ro (z ▸ List.mem_of_getElem? hi)
      rw [upd_ne hx]
      exact h1.each i x ed hi he
    · rw [List.getElem?_append_right (by omega)] at hi
      rw [List.getElem?_append_right (by rw [← h.len]; omega)] at he
      have h0 : i - rr.length = 0 := by
        have := (List.getElem?_eq_some_iff.mp hi).1
        simp at this
        omega
      rw [h0] at hi
      rw [← h.len, h0] at he
      have ex : x = q := (Option.some.inj hi).symm
      have ee : ed = (a, b) := (Option.some.inj he).symm
      subst ex ee
      rw [upd_ne q2.symm]
      exact hq
theorem PState.fresh (h : PState pu ce T H0 H' oa ra order rr rows) {q : Addr} (nq : H' q = none) : H0 q = none := by
  cases hz : H0 q with
  | none => rfl
  | some o =>
    have n0 := h.P.new nq
    have := h.f.at_ n0.1 n0.2 hz
    rw [nq] at this
    cases this
theorem PState.setOrder (h : PState pu ce T H0 H' oa ra order rr rows) (P0 : Purse pu ce T' H0) (order' : List Nat) : PState pu ce T H0 (upd H' oa (.lst (iv order'))) oa ra order' rr rows := by
  have n1 := P0.new h.no
  refine ⟨h.P.put n1.1 n1.2, h.f.new h.no, h.no, h.nr, h.nrr, h.ne, h.oo, h.ro, upd_same, by rw [upd_ne h.ne.symm]; exact h.hr, h.len, fun i q e hi he => ?_⟩
  have hq : q ≠ oa := fun z => h.oo (z ▸ List.mem_of_getElem? hi)
  rw [upd_ne hq]
  exact h.each i q e hi he
theorem PState.setRow (h : PState pu ce T H0 H' oa ra order rr rows) (P0 : Purse pu ce T' H0) {q : Addr} {a b at_ : Nat} (nq : H' q = none) {H1 : Hp} (e : Ex H' H1) (hq : H1 q = some (.lst [.int (a : Int), .int (b : Int)])) (hat : at_ < rows.length) :
    PState pu ce T H0 (upd H1 ra (.lst ((rr.map V.ref).set at_ (.ref q)))) oa ra order (rr.set at_ q) (rows.set at_ (a, b)) := by
  have h1 := h.ex P0 e
  have n2 := P0.new h.nr
  have q1 : oa ≠ q := ne_of_none h.ho nq
  have q2 : ra ≠ q := ne_of_none h.hr nq
  have q3 := h.fresh nq
  refine ⟨h1.P.put n2.1 n2.2, h1.f.new h.nr, h.no, h.nr, fun x hx => ?_, h.ne, ?_, ?_, ?_, ?_, ?_, fun i x ed hi he => ?_⟩
  · rcases List.mem_or_eq_of_mem_set hx with hx | rfl
    · exact h.nrr x hx
    · exact q3
  · intro hx
    rcases List.mem_or_eq_of_mem_set hx with hx | hx
    · exact h.oo hx
    · exact q1 hx
  · intro hx
    rcases List.mem_or_eq_of_mem_set hx with hx | hx
    · exact h.ro hx
    · exact q2 hx
  · rw [upd_ne h.ne]
    exact h1.ho
  · rw [upd_same, List.map_set]
  · rw [List.length_set, List.length_set, h.len]
  · rw [List.getElem?_set] at hi he
    by_cases hia : at_ = i
    · rw [if_pos hia, if_pos (by rw [h.len]; exact hat)] at hi
      rw [if_pos hia, if_pos hat] at he
      have ex : x = q := (Option.some.inj hi).symm
      have ee : ed = (a, b) := (Option.some.inj he).symm
      subst ex ee
      rw [upd_ne q2.symm]
      exact hq
    · rw [if_neg hia] at hi he
      have hx : x ≠ ra := fun z => h.ro (z ▸ List.mem_of_getElem? hi)
      rw [upd_ne hx]
      exact h1.each i x ed hi he
end
end FC
namespace FC
open PySem PySem.Spec PyProof.Rows L2 Evl
section
variable {K : PySem.W.Frag} {H : Hp} {vs : List V} {Q : VK} {E : XK}
theorem len_order {σ : L2.St} {H' : Hp} {oa : Addr} {order : List Nat} {ta : TE} (ha : Ev ta σ H' (.ref oa)) (h : H' oa = some (.lst (iv order))) : Ev (tCB (rLenS K) (tCons ta tNil)) σ H' (.int (order.length : Int)) := by
  have := ev_len (K := K) ha (sq_of h)
  rwa [iv_len] at this
theorem rd_law_part (h : sp_law_part K vs H Q E) : tr_law_part K { nx := fun _ H' => Q .non H', rt := Q } (start N_law_part vs) H := by
  obtain ⟨pu, ce, T, m, rfl, P0, hT, hm, k⟩ := h
  unfold tr_law_part
  refine q_asgL (xs := iv [0, 1]) (el_lst (ea_cons ev_c (ea_cons ev_c ea_nil)) (by show 2 ≤ 100000; decide)) fun oa H1 n1 e1 h1 => ?_
  -- rows = [[0, 1]]
  refine go_asg (go_lst (go_cons ?_))
  apply use_L (xs := [.int ((0 : Nat) : Int), .int ((1 : Nat) : Int)])
  · exact el_lst (ea_cons ev_c (ea_cons ev_c ea_nil)) (by show 2 ≤ 100000; decide)
  intro q0 H2 n2 e2 h2
  refine ⟨by show 1 ≤ sizeLine; decide, fun ra nra => ?_⟩
  have S0 : PState pu ce T H (upd H2 ra (.lst [.ref q0])) oa ra [0, 1] [q0] [(0, 1)] := by
    have e12 := e1.trans e2
    have nraH : H ra = none := fresh_back e12 nra
    have q0H : H q0 = none := fresh_back e1 n2
    have o1 : H2 oa = some (.lst (iv [0, 1])) := e2 _ _ h1
    have ne1 : oa ≠ ra := ne_of_none o1 nra
    have ne2 : oa ≠ q0 := ne_of_none h1 n2
    have ne3 : q0 ≠ ra := ne_of_none h2 nra
    have pn := P0.new nraH
    refine ⟨(P0.keep e12).put pn.1 pn.2, (Frm.of_ex e12).new nraH, n1, nraH, ?_, ne1, ?_, ?_, ?_, upd_same, rfl, ?_⟩
    · intro q hq
      rw [List.mem_singleton] at hq
      subst hq
      exact q0H
    · rw [List.mem_singleton]
      exact ne2
    · rw [List.mem_singleton]
      exact ne3.symm
    · rw [upd_ne ne1]
      exact o1
    · intro i q e hi he
      have h0 : i = 0 := by
        have := (List.getElem?_eq_some_iff.mp hi).1
        simp at this
        omega
      subst h0
      have a1 : q = q0 := (Option.some.inj hi).symm
      have a2 : e = (0, 1) := (Option.some.inj he).symm
      subst a1 a2
      rw [upd_ne ne3]
      exact h2
  generalize upd H2 ra (.lst [.ref q0]) = H3 at S0
  refine q_forR1 (ea_cons (ev_var (v := .int (m : Int)) rfl) ea_nil) ⟨by omega, by omega⟩
    (fun i σ' H' => ∃ (y5 y6 y7 y8 y9 y10 : Option V) (order : List Nat) (rr : List Addr) (rows : List Ed), σ' = [some (.ref pu), some (.int (m : Int)), some (.bl true), some (.ref oa), some (.ref ra), y5, y6, y7, y8, y9, y10, none, none] ∧
      PState pu ce (T + 3 * i) H H' oa ra order rr rows ∧ PartInv order rows ∧ rows.length = i + 1)
    (fun H4 e4 => ⟨none, none, none, none, none, none, _, _, _, rfl, S0.ex P0 e4, PartInv.first, rfl⟩) (fun i σ' H' hi hI => ?_) (fun σ' H' hI => ?_)
  · obtain ⟨y5, y6, y7, y8, y9, y10, order, rr, rows, rfl, S, I, hrl⟩ := hI
    have hlen := I.len
    refine q_asg (len_order (ev_var rfl) S.ho) fun H4 e4 => ?_
    have S4 := S.ex P0 e4
    -- a row between two places
    have hB : ∀ (D : Ends) (y7 y8 y9 y10 : Option V) H5, PState pu ce (T + 3 * i + 1) H H5 oa ra order rr rows →
        (∀ σ' H', (∃ (y5 y6 y7 y8 y9 y10 : Option V) (order : List Nat) (rr : List Addr) (rows : List Ed), σ' = [some (.ref pu), some (.int (m : Int)), some (.bl true), some (.ref oa), some (.ref ra), y5, y6, y7, y8, y9, y10, none, none] ∧
          PState pu ce (T + 3 * (i + 1)) H H' oa ra order rr rows ∧ PartInv order rows ∧ rows.length = i + 1 + 1) → D.nx σ' H') → ∀ tE,
        tIfS (tB (tVar 2)) (tSeq (tAsg (tCall (sp_law_draw K) [] E0 (tCons (tVar 0) (tCons (tOp (rI0 fun i j => .int (i - j)) (tVar 6) (tC (.int 1))) tNil))) (gName 10))
          (tDrop (tBM K "list" rAppend (tVar 4) (tCons (tLst (tCons (tOp (rIxL K) (tVar 3) (tVar 10)) (tCons (tOp (rIxL K) (tVar 3) (tOp (rI0 fun i j => .int (i + j)) (tOp (rI0 fun i j => .int (i + j)) (tVar 10) (tC (.int 1))) (tCall (sp_law_draw K) [] E0 (tCons (tVar 0) (tCons (tOp (rI0 fun i j => .int (i - j)) (tOp (rI0 fun i j => .int (i - j)) (tVar 6) (tC (.int 1))) (tVar 10)) tNil))))) tNil))) tNil)))) tE
          D [some (.ref pu), some (.int (m : Int)), some (.bl true), some (.ref oa), some (.ref ra), some (.int (i : Int)), some (.int (order.length : Int)), y7, y8, y9, y10, none, none] H5 := by
      intro D y7 y8 y9 y10 H5 S5 hD tE
      refine s_if (b := true) (et_B (ev_var rfl)) (fun _ H6 e6 => ?_) (fun h => by cases h)
      have S6 := S5.ex P0 e6
      refine go_asg ?_
      refine use_draw S6.P (by omega) (n := (order.length : Int) - 1) (by omega) (by omega) (ev_var rfl) (ev_op (ev_var rfl) ev_c rv_I0) fun low H7 hlow P7 f7 => ?_
      have S7 := S6.move P0 f7 P7
      refine go_drop1 (go_bm (ev_var rfl) S7.hr fun H8 e8 => go_cons (go_lst (go_cons ?_)))
      have S8 := S7.ex P0 e8
      have hlo : low < order.length := by omega
      apply use_V (v := .int ((order[low] : Nat) : Int))
      · exact ev_op (ev_var rfl) (ev_var rfl) (rv_ixL (sq_of S8.ho) (atI_nat (iv_get (List.getElem?_eq_getElem hlo))))
      intro H9 e9
      have S9 := S8.ex P0 e9
      refine go_cons (go_op (go_var (v := .ref oa) rfl (go_op ?_)))
      apply use_V (v := .int ((low : Int) + 1))
      · exact ev_op (ev_var rfl) ev_c rv_I0
      intro H10 e10
      have S10 := S9.ex P0 e10
      refine use_draw S10.P (by omega) (n := (order.length : Int) - 1 - (low : Int)) (by omega) (by omega) (ev_var rfl) (ev_op (ev_op (ev_var rfl) ev_c rv_I0) (ev_var rfl) rv_I0) fun d H11 hd P11 f11 => ?_
      have S11 := S10.move P0 f11 P11
      have hhi : low + 1 + d < order.length := by omega
      have hat : atI (iv order) ((low : Int) + 1 + (d : Int)) = some (.int ((order[low + 1 + d] : Nat) : Int)) := by
        rw [show (low : Int) + 1 + (d : Int) = ((low + 1 + d : Nat) : Int) by omega]
        exact atI_nat (iv_get (List.getElem?_eq_getElem hhi))
      refine ⟨_, _, rfl, rfl, oa, iv order, _, _, rfl, rfl, sq_of S11.ho, hat, ?_⟩
      refine ⟨by show 2 ≤ sizeLine; decide, fun q nq => ?_⟩
      have S12 := S11.push P0 nq (Ex.new nq) (a := order[low]) (b := order[low + 1 + d]) upd_same
      have hra : ra ≠ q := ne_of_none S11.hr nq
      refine ⟨ra, rr.map V.ref, .ref q, rfl, rfl, by rw [upd_ne hra]; exact S11.hr, sz5' (by rw [List.length_map, S11.len]; omega), ?_⟩
      exact hD _ _ ⟨_, _, _, _, _, _, _, _, _, rfl, S12, I.more (List.getElem?_eq_getElem hlo) (List.getElem?_eq_getElem hhi) (by omega), by rw [List.length_append, hrl]; rfl⟩
    refine go_ifand (et_test (ev_op (ev_var rfl) ev_c rv_I0)) (fun hb H5 e5 => ?_) (fun hb H5 e5 => ?_)
    · have S5 := S4.ex P0 e5
      exact hB _ y7 y8 y9 y10 H5 (S5.move P0 Frm.refl (S5.P.mono (by omega))) (fun _ _ h => h) _
    · have hl16 : order.length < 16 := by
        have := of_decide_eq_true hb
        omega
      have S5 := S4.ex P0 e5
      refine go_test (go_op ?_)
      refine use_draw S5.P (by omega) (n := 2) (by omega) (by omega) (ev_var rfl) ev_c fun c H6 hc P6 f6 => ?_
      have S6 := S5.move P0 f6 P6
      refine ⟨rfl, _, rfl, ite2 (fun _ => ?_) (fun _ => hB _ y7 y8 y9 y10 H6 S6 (fun _ _ h => h) _)⟩
      -- a place put into a row
      refine go_asg ?_
      have hrows := ev_len (K := K) (ta := tVar 4) (H := H6) (σ := [some (.ref pu), some (.int (m : Int)), some (.bl true), some (.ref oa), some (.ref ra), some (.int (i : Int)), some (.int (order.length : Int)), y7, y8, y9, y10, none, none]) (ev_var (v := .ref ra) rfl) (sq_of S6.hr)
      rw [List.length_map, S6.len] at hrows
      refine use_draw S6.P (by omega) (n := (rows.length : Int)) (by omega) (by omega) (ev_var rfl) hrows fun at_ H7 hat P7 f7 => ?_
      have S7 := S6.move P0 f7 P7
      have hatl : at_ < rows.length := by omega
      have hatr : at_ < rr.length := by rw [S7.len]; exact hatl
      obtain ⟨⟨a, b⟩, hab⟩ : ∃ e : Ed, rows[at_]? = some e := ⟨_, List.getElem?_eq_getElem hatl⟩
      have hq := S7.each at_ rr[at_] (a, b) (List.getElem?_eq_getElem hatr) hab
      have hrq : (rr.map V.ref)[at_]? = some (.ref rr[at_]) := by
        rw [List.getElem?_map, List.getElem?_eq_getElem hatr]
        rfl
      refine q_unl2 (ev_op (ev_var rfl) (ev_var rfl) (rv_ixL (sq_of S7.hr) (atI_nat hrq))) hq fun H8 e8 => ?_
      have S8 := S7.ex P0 e8
      obtain ⟨ia, ib, hiab, hia, hib⟩ := I.ed (a, b) (List.mem_of_getElem? hab)
      have hibl := (List.getElem?_eq_some_iff.mp hib).1
      refine q_if (b := true) (et_B (ev_var rfl)) (fun _ H9 e9 => ?_) (fun h => by cases h)
      have S9 := S8.ex P0 e9
      refine q_asg (ev_index S9.ho I.nd hia (ev_var rfl) (ev_var rfl)) fun H10 e10 => ?_
      have S10 := S9.ex P0 e10
      refine go_drop1 (go_bm (ev_var rfl) S10.ho fun H11 e11 => go_cons (go_op ?_))
      have S11 := S10.ex P0 e11
      apply use_V (v := .int ((ia : Int) + 1))
      · exact ev_op (ev_var rfl) ev_c rv_I0
      intro H12 e12
      have S12 := S11.ex P0 e12
      refine use_draw S12.P (by omega) (n := (ib : Int) - (ia : Int)) (by omega) (by omega) (ev_var rfl) (ev_op (ev_index S12.ho I.nd hib (ev_var rfl) (ev_var rfl)) (ev_var rfl) rv_I0) fun d H13 hd P13 f13 => ?_
      have S13 := S12.move P0 f13 P13
      refine ⟨_, _, rfl, rfl, ?_⟩
      refine ⟨.int (order.length : Int), rfl, oa, iv order, (ia : Int) + 1 + (d : Int), .int (order.length : Int), rfl, rfl, S13.ho, sz5' (by rw [iv_len]; omega), by omega, by omega, ?_⟩
      have hto : ((ia : Int) + 1 + (d : Int)).toNat = ia + 1 + d := by omega
      rw [hto]
      have hord : (iv order).take (ia + 1 + d) ++ [V.int (order.length : Int)] ++ (iv order).drop (ia + 1 + d) = iv (order.take (ia + 1 + d) ++ [order.length] ++ order.drop (ia + 1 + d)) := by
        unfold iv
        rw [List.map_append, List.map_append, List.map_take, List.map_drop]
        rfl
      rw [hord]
      have S14 := S13.setOrder P0 (order.take (ia + 1 + d) ++ [order.length] ++ order.drop (ia + 1 + d))
      generalize upd H13 oa (.lst (iv (order.take (ia + 1 + d) ++ [order.length] ++ order.drop (ia + 1 + d)))) = H14 at S14
      refine q_setLN (l := ra) (xs := rr.map V.ref) (ys := [.int (a : Int), .int (order.length : Int)]) (j := at_) S14.hr (el_lst (ea_cons (ev_var rfl) (ea_cons (ev_var rfl) ea_nil)) (by show 2 ≤ 100000; decide)) (ev_var rfl) (ev_var rfl) (by rw [List.length_map]; exact hatr) fun q1 H15 nq1 e15 h15 => ?_
      have S16 := S14.setRow P0 nq1 e15 h15 hatl
      generalize upd H15 ra (.lst ((rr.map V.ref).set at_ (.ref q1))) = H16 at S16
      refine s_appL (l := ra) (xs := (rr.set at_ q1).map V.ref) (ys := [.int (order.length : Int), .int (b : Int)]) S16.hr (ev_var rfl) (el_lst (ea_cons (ev_var rfl) (ea_cons (ev_var rfl) ea_nil)) (by show 2 ≤ 100000; decide)) (by rw [List.length_map, List.length_set, S14.len]; omega) fun q2 H17 nq2 e17 h17 => ?_
      have S18 := S16.push P0 nq2 e17 h17
      exact ⟨_, _, _, _, _, _, _, _, _, rfl, S18, I.split hl16 hab hia hib (by omega) (by omega), by rw [List.length_append, List.length_set, hrl]; rfl⟩
  · obtain ⟨y5, y6, y7, y8, y9, y10, order, rr, rows, rfl, S, I, hrl⟩ := hI
    have hlen := I.len
    have htn : (m : Int).toNat = m := by omega
    rw [htn] at S hrl
    refine go_asg (go_op ?_)
    apply use_L (xs := iv [0, 1])
    · exact el_lst (ea_cons ev_c (ea_cons ev_c ea_nil)) (by show 2 ≤ 100000; decide)
    intro p1 H4 np1 e4 h4
    have S4 := S.ex P0 e4
    have hp1 := S.P.new np1
    refine lc_call ?_
    -- law_order(purse, len(order) - 2)
    refine go_call (go_cons (go_var (v := .ref pu) rfl (go_cons ?_)))
    apply use_V (v := .int ((order.length - 2 : Nat) : Int))
    · refine ev_is (ev_op (len_order (ev_var rfl) S4.ho) ev_c rv_I0) ?_
      congr 1
      omega
    intro H5 e5
    have S5 := S4.ex P0 e5
    refine ⟨pu, ce, T + 3 * m, order.length - 2, rfl, S5.P, by omega, by omega, fun o pa H6 ho npa hpa P6 f6 => ?_⟩
    have S6 := S5.move P0 f6 P6
    have h6 := f6.at_ hp1.1 hp1.2 (e5 _ _ h4)
    obtain ⟨nmd, nmm, nml⟩ := names_ok hlen.1 ho
    show tLc (iList K (tC (V.ref pa))) (gName 12) tYes (tOp (rI0 fun i j => .int (i + j)) (tC (.int 2)) (tVar 12)) [12] _ H6 _
    apply use_L (xs := iv (o.map fun x => 2 + x))
    · have e1 : iv (o.map fun x => 2 + x) = (o.filter fun _ => true).map (fun (x : Nat) => V.int (2 + (x : Int))) := by
        unfold iv
        rw [List.filter_eq_self.mpr (fun _ _ => rfl), List.map_map]
        apply List.map_congr_left
        intro x _
        show V.int ((2 + x : Nat) : Int) = V.int (2 + (x : Int))
        congr 1
      rw [e1]
      have hol : o.length ≤ 40000 := by rw [ho.length_eq, List.length_range]; omega
      exact el_lcIvE (a := pa) (fun _ => true) _ ev_c hpa hol (fun x => rfl) (fun _ _ _ _ => et_yes) (fun x _ _ _ _ => ev_op ev_c (ev_var rfl) rv_I0)
    intro p2 H7 np2 e7 h7
    have S7 := S6.ex P0 e7
    have hol : o.length = order.length - 2 := by rw [ho.length_eq, List.length_range]
    refine ⟨p1, p2, iv [0, 1], iv (o.map fun x => 2 + x), rfl, rfl, e7 _ _ h6, h7, sz5 (by rw [iv_len, iv_len, List.length_map]; simp; omega), fun na nna => ?_⟩
    have hcat : iv [0, 1] ++ iv (o.map fun x => 2 + x) = iv ([0, 1] ++ o.map fun x => 2 + x) := by unfold iv; rw [List.map_append]
    rw [hcat]
    have S8 := S7.ex P0 (Ex.new (o := .lst (iv ([0, 1] ++ o.map fun x => 2 + x))) nna)
    have h8 : (upd H7 na (.lst (iv ([0, 1] ++ o.map fun x => 2 + x)))) na = some (.lst (iv ([0, 1] ++ o.map fun x => 2 + x))) := upd_same
    generalize upd H7 na (.lst (iv ([0, 1] ++ o.map fun x => 2 + x))) = H8 at S8 h8
    generalize hnames : [0, 1] ++ o.map (fun x => 2 + x) = names at h8 nmd nmm nml
    refine go_ret (go_tup2 ?_)
    apply use_V (v := .int (order.length : Int))
    · exact len_order (ev_var rfl) S8.ho
    intro H9 e9
    have S9 := S8.ex P0 e9
    have h9 := e9 _ _ h8
    have GP := I.named nmd nmm nml (by rw [← hnames]; rfl) (by rw [← hnames]; rfl)
    have gt : ∀ x, x < order.length → names[x]? = some (names.getD x 0) := fun x hx => by
      rw [List.getD_eq_getElem?_getD, List.getElem?_eq_getElem (by omega)]
      rfl
    refine lc_newE (a := ra) (xs := rr.map V.ref) (fun i => .lst [.int ((names.getD (rows.getD i (0, 0)).1 0 : Nat) : Int), .int ((names.getD (rows.getD i (0, 0)).2 0 : Nat) : Int)]) (ev_var rfl) S9.hr (by rw [List.length_map, S9.len]; omega) (fun i x H10 e10 hx R hR => ?_) fun sa H10 acc NL => ?_
    · rw [List.getElem?_map] at hx
      cases hq : rr[i]? with
      | none => rw [hq] at hx; cases hx
      | some q =>
        rw [hq] at hx
        have ex : x = .ref q := (Option.some.inj hx).symm
        subst ex
        have hil : i < rows.length := by
          have := (List.getElem?_eq_some_iff.mp hq).1
          rw [← S9.len]
          exact this
        have hrow : rows[i]? = some rows[i] := List.getElem?_eq_getElem hil
        have hgd : rows.getD i (0, 0) = rows[i] := by
          rw [List.getD_eq_getElem?_getD, hrow]
          rfl
        rw [hgd] at hR
        obtain ⟨ia, ib, hiab, hia, hib⟩ := I.ed rows[i] (List.mem_of_getElem? hrow)
        have la := (I.mem _).mp (List.mem_of_getElem? hia)
        have lb := (I.mem _).mp (List.mem_of_getElem? hib)
        refine ⟨q, _, rfl, sq_of (e10 _ _ (S9.each i q _ hq hrow)), rfl, _, _, rfl, _, _, rfl, rfl, rfl, ?_⟩
        apply use_L (xs := [.int ((names.getD rows[i].1 0 : Nat) : Int), .int ((names.getD rows[i].2 0 : Nat) : Int)])
        · exact el_lst (ea_cons (ev_op (ev_var rfl) (ev_var rfl) (rv_ixL (sq_of (e10 _ _ h9)) (atI_nat (iv_get (gt _ la))))) (ea_cons (ev_op (ev_var rfl) (ev_var rfl) (rv_ixL (sq_of (e10 _ _ h9)) (atI_nat (iv_get (gt _ lb))))) ea_nil)) (by show 2 ≤ 100000; decide)
        · exact fun p H11 np e11 h11 => hR p H11 np e11 h11
    · refine ⟨by show 2 ≤ sizeLine; decide, fun tp ntp => ?_⟩
      have S10 := S9.ex P0 NL.ex
      have x11 : Ex H10 (upd H10 tp (.tup [.int (order.length : Int), .ref sa])) := Ex.new ntp
      refine k order.length (rows.map fun e => (names.getD e.1 0, names.getD e.2 0)) tp sa _ GP (by rw [List.length_map, hrl]) upd_same ⟨acc, S9.fresh NL.fr, fun q hq => S9.fresh (NL.new q hq), x11 _ _ NL.at_, ?_, fun i q e hi he => ?_⟩ ((S10.P.keep x11).mono (by omega)) (S10.f.trans (Frm.of_ex x11))
      · rw [NL.len, List.length_map, List.length_map, S9.len]
      · rw [x11 _ _ (NL.each i q hi)]
        rw [List.getElem?_map] at he
        cases hr : rows[i]? with
        | none => rw [hr] at he; cases he
        | some ed =>
          rw [hr] at he
          have ee := Option.some.inj he
          have hgd : rows.getD i (0, 0) = ed := by
            rw [List.getD_eq_getElem?_getD, hr]
            rfl
          rw [hgd, ← ee]
end
end FC
namespace FC
/-! ### rows called -/
def key (r : Row) : Nat × Nat × Nat := (r.p, r.f, r.t)
def prt (rs : List Row) (k : Nat) : Nat := (rs.getD k ⟨0, 0, 0, 0⟩).p
theorem prt_of {rs : List Row} {k : Nat} {r : Row} (h : rs[k]? = some r) : prt rs k = r.p := by
  unfold prt
  rw [List.getD_eq_getElem?_getD, h]
  rfl
theorem filter_split (l : List Nat) (f : Nat → Nat) (Q : Nat) : (l.filter fun k => decide (f k < Q + 1)).length = (l.filter fun k => decide (f k < Q)).length + (l.filter fun k => decide (f k = Q)).length := by
  induction l with
  | nil => rfl
  | cons a r ih =>
    simp only [List.filter_cons]
    by_cases h1 : f a < Q
    · have h2 : f a < Q + 1 := by omega
      have h3 : ¬ f a = Q := by omega
      simp [h1, h2, h3]
      omega
    · by_cases h3 : f a = Q
      · have h2 : f a < Q + 1 := by omega
        simp [h3, ih]
        omega
      · have h2 : ¬ f a < Q + 1 := by omega
        simp [h1, h2, h3]
        omega
structure CInv (m : Nat) (rs rs' : List Row) (free : List Nat) (i : Nat) : Prop where
  sh : rs'.map key = rs.map key
  ok : ∀ r ∈ rs', (r.c = -1 ∨ (r.p : Int) < r.c) ∧ r.c < m
  as_ : ∀ q : Nat, 1 ≤ q → q ≤ i → ∃ (k : Nat) (r : Row), k ∉ free ∧ rs'[k]? = some r ∧ r.c = (q : Int)
  nd : free.Nodup
  lt : ∀ k ∈ free, k < rs.length
  cn : ∀ Q, Q ≤ m → Q ≤ (free.filter fun k => decide (prt rs k < Q)).length + i
theorem CInv.first {m : Nat} {rs : List Row} (hm : 1 ≤ m) (h1 : ∀ r ∈ rs, r.p < m ∧ r.c = -1) (h2 : ∀ p, p < m → ∃ r ∈ rs, r.p = p) : CInv m rs rs (List.range rs.length) 0 where
  sh := rfl
  ok := fun r hr => by
    have := (h1 r hr).2
    exact ⟨.inl this, by omega⟩
  as_ := fun q a b => by omega
  nd := List.nodup_range
  lt := fun k hk => List.mem_range.mp hk
  cn := by
    intro Q
    induction Q with
    | zero => intro _; omega
    | succ Q ih =>
      intro hQ
      have h3 := ih (by omega)
      rw [filter_split]
      obtain ⟨r, hr, hp⟩ := h2 Q (by omega)
      obtain ⟨k, hk⟩ := List.mem_iff_getElem?.mp hr
      have : k ∈ (List.range rs.length).filter fun k => decide (prt rs k = Q) := by
        rw [List.mem_filter, List.mem_range]
        refine ⟨(List.getElem?_eq_some_iff.mp hk).1, ?_⟩
        rw [prt_of hk]
        simpa using hp
      have := List.length_pos_of_mem this
      omega
theorem CInv.len {m : Nat} {rs rs' : List Row} {free : List Nat} {i : Nat} (h : CInv m rs rs' free i) : rs'.length = rs.length := by
  have := congrArg List.length h.sh
  simpa using this
theorem CInv.part {m : Nat} {rs rs' : List Row} {free : List Nat} {i k : Nat} {r : Row} (h : CInv m rs rs' free i) (hr : rs'[k]? = some r) : prt rs k = r.p := by
  have h1 : (rs'.map key)[k]? = some (key r) := by
    rw [List.getElem?_map, hr]
    rfl
  rw [h.sh, List.getElem?_map] at h1
  cases h2 : rs[k]? with
  | none => rw [h2] at h1; cases h1
  | some r0 =>
    rw [h2] at h1
    have h3 : key r0 = key r := Option.some.inj h1
    rw [prt_of h2]
    exact congrArg Prod.fst h3
theorem CInv.shape {m : Nat} {rs rs' : List Row} {free : List Nat} {i k : Nat} {r : Row} (h : CInv m rs rs' free i) (hr : rs'[k]? = some r) (c : Int) : (rs'.set k { r with c := c }).map key = rs.map key := by
  rw [← h.sh, List.map_set]
  apply List.ext_getElem?
  intro j
  rw [List.getElem?_set]
  by_cases hj : k = j
  · subst hj
    have hl : k < (rs'.map key).length := by
      rw [List.length_map]
      exact (List.getElem?_eq_some_iff.mp hr).1
    rw [if_pos rfl, if_pos hl, List.getElem?_map, hr]
    rfl
  · rw [if_neg hj]
theorem erase_filter {l : List Nat} {f : Nat → Bool} {j : Nat} : (l.filter f).length ≤ ((l.eraseIdx j).filter f).length + 1 := by
  induction l generalizing j with
  | nil => simp
  | cons a r ih =>
    cases j with
    | zero =>
      rw [List.eraseIdx_cons_zero, List.filter_cons]
      split
      · simp
      · omega
    | succ j =>
      rw [List.eraseIdx_cons_succ, List.filter_cons, List.filter_cons]
      have := ih (j := j)
      split
      · simp only [List.length_cons]
        omega
      · exact this
theorem not_mem_erase {l : List Nat} {j k : Nat} (nd : l.Nodup) (h : l[j]? = some k) : k ∉ l.eraseIdx j := by
  intro hk
  rw [List.mem_eraseIdx_iff_getElem?] at hk
  obtain ⟨i, hne, hi⟩ := hk
  exact hne (pos_inj nd hi h)
/-- the turn of part 1 + i: row k, in free at j, is to call it -/
theorem CInv.turn {m : Nat} {rs rs' : List Row} {free : List Nat} {i k j : Nat} {r : Row} (h : CInv m rs rs' free i) (hi : i + 1 < m) (hr : rs'[k]? = some r) (hj : free[j]? = some k) (hp : r.p < i + 1) :
    CInv m rs (rs'.set k { r with c := ((i + 1 : Nat) : Int) }) (free.eraseIdx j) (i + 1) where
  sh := h.shape hr _
  ok := fun x hx => by
    rcases List.mem_or_eq_of_mem_set hx with hx | rfl
    · exact h.ok x hx
    · exact ⟨.inr (by show (r.p : Int) < ((i + 1 : Nat) : Int); omega), by show ((i + 1 : Nat) : Int) < (m : Int); omega⟩
  as_ := fun q a b => by
    have hkl := (List.getElem?_eq_some_iff.mp hr).1
    by_cases hq : q = i + 1
    · subst hq
      refine ⟨k, { r with c := ((i + 1 : Nat) : Int) }, not_mem_erase h.nd hj, ?_, rfl⟩
      rw [List.getElem?_set, if_pos rfl, if_pos hkl]
    · obtain ⟨k0, r0, n0, g0, c0⟩ := h.as_ q a (by omega)
      have hne : k ≠ k0 := fun z => n0 (z ▸ List.mem_of_getElem? hj)
      refine ⟨k0, r0, fun z => n0 (List.mem_of_mem_eraseIdx z), ?_, c0⟩
      rw [List.getElem?_set, if_neg hne]
      exact g0
  nd := h.nd.sublist (List.eraseIdx_sublist _ _)
  lt := fun x hx => h.lt x (List.mem_of_mem_eraseIdx hx)
  cn := fun Q hQ => by
    have h1 := h.cn Q hQ
    have h2 := erase_filter (l := free) (f := fun k => decide (prt rs k < Q)) (j := j)
    omega
/-- a free row's later call -/
theorem CInv.later {m : Nat} {rs rs' : List Row} {free : List Nat} {i k : Nat} {r : Row} (h : CInv m rs rs' free i) (hr : rs'[k]? = some r) (hk : k ∈ free) {c : Int} (h1 : (r.p : Int) < c) (h2 : c < m) :
    CInv m rs (rs'.set k { r with c := c }) free i where
  sh := h.shape hr _
  ok := fun x hx => by
    rcases List.mem_or_eq_of_mem_set hx with hx | rfl
    · exact h.ok x hx
    · exact ⟨.inr h1, h2⟩
  as_ := fun q a b => by
    obtain ⟨k0, r0, n0, g0, c0⟩ := h.as_ q a b
    have hne : k ≠ k0 := fun z => n0 (z ▸ hk)
    refine ⟨k0, r0, n0, ?_, c0⟩
    rw [List.getElem?_set, if_neg hne]
    exact g0
  nd := h.nd
  lt := h.lt
  cn := h.cn
end FC
namespace FC
open PySem PySem.Spec PyProof.Rows L2 Evl
/-! ### lists of four that are changed -/
/-- over the heap: the rows rs' at rr, the free ones at fa -/
structure CState (pu ce : Addr) (T : Nat) (H0 H' : Hp) (ra fa : Addr) (rr : List Addr) (rs' : List Row) (free : List Nat) : Prop where
  P : Purse pu ce T H'
  f : Frm (pu :: ce :: rr) H0 H'
  nf : H0 fa = none
  hr : H' ra = some (.lst (rr.map V.ref))
  F : FoursAt H' rr rs'
  hf : H' fa = some (.lst (iv free))
theorem FoursAt.row {H : Hp} {rr : List Addr} {rs : List Row} (F : FoursAt H rr rs) {k : Nat} {r : Row} (hk : rs[k]? = some r) : ∃ q, rr[k]? = some q ∧ H q = some (.lst (rowV r)) := by
  have hl : k < rr.length := by
    rw [F.2.1]
    exact (List.getElem?_eq_some_iff.mp hk).1
  exact ⟨rr[k], List.getElem?_eq_getElem hl, F.2.2 k _ r (List.getElem?_eq_getElem hl) hk⟩
theorem FoursAt.set {H : Hp} {rr : List Addr} {rs : List Row} (F : FoursAt H rr rs) {k : Nat} {q : Addr} {r : Row} (hq : rr[k]? = some q) : FoursAt (upd H q (.lst (rowV r))) rr (rs.set k r) := by
  refine ⟨F.1, by rw [List.length_set]; exact F.2.1, fun i x ri hi hri => ?_⟩
  rw [List.getElem?_set] at hri
  by_cases hik : k = i
  · subst hik
    rw [hq] at hi
    have : x = q := (Option.some.inj hi).symm
    subst this
    rw [if_pos rfl] at hri
    split at hri
    · have : ri = r := (Option.some.inj hri).symm
      subst this
      exact upd_same
    · cases hri
  · rw [if_neg hik] at hri
    have hne : x ≠ q := fun z => by
      subst z
      obtain ⟨a1, a2⟩ := List.getElem?_eq_some_iff.mp hi
      obtain ⟨b1, b2⟩ := List.getElem?_eq_some_iff.mp hq
      exact hik ((List.getElem_inj F.1).mp (b2.trans a2.symm))
    rw [upd_ne hne]
    exact F.2.2 i x ri hi hri
theorem FoursAt.keep {H H' : Hp} {rr : List Addr} {rs : List Row} (F : FoursAt H rr rs) (h : ∀ q ∈ rr, ∀ o, H q = some o → H' q = some o) : FoursAt H' rr rs :=
  ⟨F.1, F.2.1, fun i q r hi hr => h q (List.mem_of_getElem? hi) _ (F.2.2 i q r hi hr)⟩
section
variable {pu ce ra fa : Addr} {T T' : Nat} {H0 H' H'' : Hp} {rr : List Addr} {rs' : List Row} {free : List Nat}
theorem CState.move (h : CState pu ce T H0 H' ra fa rr rs' free) (P0 : Purse pu ce T' H0) (hpu : pu ∉ rr) (hce : ce ∉ rr) (h1 : ra ≠ pu) (h2 : ra ≠ ce) {T2 : Nat} (f : Frm [pu, ce] H' H'') (P : Purse pu ce T2 H'') : CState pu ce T2 H0 H'' ra fa rr rs' free := by
  have n1 := P0.new h.nf
  have fr : Frm (pu :: ce :: rr) H' H'' := fun a o ha hh => f a o (fun z => ha (by
    simp only [List.mem_cons, List.mem_nil_iff, or_false] at z ⊢
    rcases z with z | z
    · exact .inl z
    · exact .inr (.inl z))) hh
  refine ⟨P, h.f.trans fr, h.nf, f.at_ h1 h2 h.hr, h.F.keep fun q hq o ho => ?_, f.at_ n1.1 n1.2 h.hf⟩
  exact f.at_ (fun z => hpu (z ▸ hq)) (fun z => hce (z ▸ hq)) ho
theorem CState.ex (h : CState pu ce T H0 H' ra fa rr rs' free) (e : Ex H' H'') : CState pu ce T H0 H'' ra fa rr rs' free :=
  ⟨h.P.keep e, h.f.trans (Frm.of_ex e), h.nf, e _ _ h.hr, h.F.keep fun q _ o ho => e _ _ ho, e _ _ h.hf⟩
theorem Frm.put' {S : List Addr} {H H1 : Hp} {a : Addr} {o : HO} (e : Frm S H H1) (ha : a ∈ S) : Frm S H (upd H1 a o) := e.put ha
/-- row k is changed -/
theorem CState.setRow (h : CState pu ce T H0 H' ra fa rr rs' free) (hpu : pu ∉ rr) (hce : ce ∉ rr) (hra : ra ∉ rr) (hfa : fa ∉ rr) {k : Nat} {q : Addr} {r : Row} (hq : rr[k]? = some q) :
    CState pu ce T H0 (upd H' q (.lst (rowV r))) ra fa rr (rs'.set k r) free := by
  have hm := List.mem_of_getElem? hq
  have e1 : q ≠ pu := fun z => hpu (z ▸ hm)
  have e2 : q ≠ ce := fun z => hce (z ▸ hm)
  have e3 : ra ≠ q := fun z => hra (z ▸ hm)
  have e4 : fa ≠ q := fun z => hfa (z ▸ hm)
  exact ⟨h.P.put e1 e2, h.f.put (by simp [hm]), h.nf, by rw [upd_ne e3]; exact h.hr, h.F.set hq, by rw [upd_ne e4]; exact h.hf⟩
theorem CState.setFree (h : CState pu ce T H0 H' ra fa rr rs' free) (P0 : Purse pu ce T' H0) (hfa : fa ∉ rr) (hfr : ra ≠ fa) (free' : List Nat) :
    CState pu ce T H0 (upd H' fa (.lst (iv free'))) ra fa rr rs' free' := by
  have n1 := P0.new h.nf
  refine ⟨h.P.put n1.1 n1.2, h.f.new h.nf, h.nf, by rw [upd_ne hfr]; exact h.hr, h.F.keep fun q hq o ho => ?_, upd_same⟩
  have hne : q ≠ fa := fun z => hfa (z ▸ hq)
  rw [upd_ne hne]
  exact ho
end
section
variable {K : PySem.W.Frag} {H : Hp} {vs : List V} {Q : VK} {E : XK}
theorem map_erase {α β : Type} (f : α → β) : ∀ (l : List α) (j : Nat), (l.map f).eraseIdx j = (l.eraseIdx j).map f
  | [], j => by simp
  | a :: r, 0 => rfl
  | a :: r, j + 1 => by
    rw [List.map_cons, List.eraseIdx_cons_succ, List.eraseIdx_cons_succ, List.map_cons, map_erase f r j]
theorem erase_iv (l : List Nat) (j : Nat) : ((l.map (fun (n : Nat) => (n : Int))).eraseIdx j).map V.int = iv (l.eraseIdx j) := by
  rw [map_erase, List.map_map]
  rfl
theorem rd_law_called (h : sp_law_called K vs H Q E) : tr_law_called K { nx := fun _ H' => Q .non H', rt := Q } (start N_law_called vs) H := by
  obtain ⟨pu, ce, T, ra, rr, rs, m, rfl, P0, hT, hm1, hm4, hra, F0, hrl, hpu, hce, hraN, hrp, hrc, hrs1, hrs2, k⟩ := h
  have hrrl : rr.length = rs.length := F0.2.1
  unfold tr_law_called
  have hrows : ∀ {σ : L2.St} {ta : TE} {H' : Hp}, Ev ta σ H' (.ref ra) → H' ra = some (.lst (rr.map V.ref)) → Ev (tCB (rLenS K) (tCons ta tNil)) σ H' (.int (rs.length : Int)) := fun ha hh => by
    have := ev_len (K := K) ha (sq_of hh)
    rwa [List.length_map, hrrl] at this
  refine q_asgL (el_listRg (n := rs.length) (hrows (ev_var rfl) hra) (by omega)) fun fa H1 nf e1 h1 => ?_
  have hfr : ra ≠ fa := ne_of_none hra nf
  have hfa : fa ∉ rr := fun z => by
    obtain ⟨j, hj⟩ := List.mem_iff_getElem?.mp z
    have hjl : j < rs.length := by
      rw [← hrrl]
      exact (List.getElem?_eq_some_iff.mp hj).1
    have := F0.2.2 j fa _ hj (List.getElem?_eq_getElem hjl)
    rw [nf] at this
    cases this
  have S0 : CState pu ce T H H1 ra fa rr rs (List.range rs.length) := ⟨P0.keep e1, Frm.of_ex e1, nf, e1 _ _ hra, F0.keep fun q _ o ho => e1 _ _ ho, h1⟩
  -- the row k of the rows, its list
  have rowEv : ∀ {σ : L2.St} {ta tk : TE} {H' : Hp} {T1 : Nat} {rs' : List Row} {free : List Nat} {kk : Nat} {r : Row}, CState pu ce T1 H H' ra fa rr rs' free → rs'[kk]? = some r → Ev ta σ H' (.ref ra) → Ev tk σ H' (.int (kk : Int)) →
      ∃ q, rr[kk]? = some q ∧ H' q = some (.lst (rowV r)) ∧ Ev (tOp (rIxL K) ta tk) σ H' (.ref q) := fun S hk ha hi => by
    obtain ⟨q, hq, hh⟩ := S.F.row hk
    refine ⟨q, hq, hh, ev_op ha hi (rv_ixL (sq_of S.hr) (atI_nat ?_))⟩
    rw [List.getElem?_map, hq]
    rfl
  refine q_forR2 (ea_cons ev_c (ea_cons (ev_var (v := .int (m : Int)) rfl) ea_nil)) ⟨by omega, by omega, by omega, by omega⟩
    (fun i σ' H' => ∃ (y4 y5 y6 : Option V) (rs' : List Row) (free : List Nat), σ' = [some (.ref pu), some (.ref ra), some (.int (m : Int)), some (.ref fa), y4, y5, y6, none, none] ∧ CState pu ce (T + i) H H' ra fa rr rs' free ∧ CInv m rs rs' free i)
    (fun H2 e2 => ⟨none, none, none, rs, _, rfl, S0.ex e2, CInv.first hm1 (fun r hr => hrs1 r hr) hrs2⟩) (fun i σ' H' hi hI => ?_) (fun σ' H' hI => ?_)
  · obtain ⟨y4, y5, y6, rs', free, rfl, S, I⟩ := hI
    have hi1 : i + 1 < m := by omega
    have hrsl := I.len
    have hfl : free.length ≤ 5000 := by
      have := nodup_le I.nd I.lt
      omega
    -- some = [k for k in free if rows[k][0] < part_here]
    refine q_asgL (xs := iv (free.filter fun k => decide (prt rs k < i + 1))) ?_ fun sa H2 ns e2 h2 => ?_
    · have e0 : iv (free.filter fun k => decide (prt rs k < i + 1)) = (free.filter fun k => decide (prt rs k < i + 1)).map (fun (k : Nat) => V.int (k : Int)) := rfl
      rw [e0]
      refine el_lcIvE (a := fa) _ _ (ev_var rfl) S.hf (by omega) (fun x => rfl) (fun kk Hq eq hkk => ?_) (fun kk Hq eq hkk _ => ev_var rfl)
      have hkl : kk < rs'.length := by
        rw [hrsl]
        exact I.lt kk hkk
      obtain ⟨q, hq, hh, hev⟩ := rowEv (σ := [some (.ref pu), some (.ref ra), some (.int (m : Int)), some (.ref fa), some (.int (1 + (i : Int))), y5, some (.int (kk : Int)), none, none]) (ta := tVar 1) (tk := tVar 6) (S.ex eq) (List.getElem?_eq_getElem hkl) (ev_var rfl) (ev_var rfl)
      refine et_is (et_test (ev_op (ev_op hev ev_c (rv_ixL (i := 0) (v := .int (rs'[kk].p : Int)) (sq_of hh) rfl)) (ev_var rfl) rv_I0)) ?_
      have hp := I.part (List.getElem?_eq_getElem hkl)
      rw [hp]
      exact decide_eq_decide.mpr (by omega)
    have S2 := S.ex e2
    have hpos : 1 ≤ (free.filter fun k => decide (prt rs k < i + 1)).length := by
      have := I.cn (i + 1) (by omega)
      omega
    have hsl : (free.filter fun k => decide (prt rs k < i + 1)).length ≤ 5000 := Nat.le_trans (List.length_filter_le _ _) hfl
    have hlen := ev_len (K := K) (ta := tVar 5) (H := H2) (σ := [some (.ref pu), some (.ref ra), some (.int (m : Int)), some (.ref fa), some (.int (1 + (i : Int))), some (.ref sa), y6, none, none]) (ev_var (v := .ref sa) rfl) (sq_of h2)
    rw [iv_len] at hlen
    have nsa := S.P.new ns
    refine go_asg (go_op (go_var (v := .ref sa) rfl ?_))
    refine use_draw S2.P (by omega) (n := ((free.filter fun k => decide (prt rs k < i + 1)).length : Int)) (by omega) (by omega) (ev_var rfl) hlen fun d H3 hd P3 f3 => ?_
    have S3 := S2.move P0 hpu hce hrp hrc f3 P3
    have h3 := f3.at_ nsa.1 nsa.2 h2
    have hdl : d < (free.filter fun k => decide (prt rs k < i + 1)).length := by omega
    obtain ⟨kk, hkk⟩ : ∃ kk, (free.filter fun k => decide (prt rs k < i + 1))[d]? = some kk := ⟨_, List.getElem?_eq_getElem hdl⟩
    have hkm := List.mem_of_getElem? hkk
    rw [List.mem_filter] at hkm
    refine ⟨sa, _, (d : Int), .int (kk : Int), rfl, rfl, sq_of h3, atI_nat (iv_get hkk), ?_⟩
    have hkl : kk < rs'.length := by
      rw [hrsl]
      exact I.lt kk hkm.1
    have hrk : rs'[kk]? = some rs'[kk] := List.getElem?_eq_getElem hkl
    have hp := I.part hrk
    have hplt : rs'[kk].p < i + 1 := by
      have := hkm.2
      rw [hp] at this
      exact of_decide_eq_true this
    -- rows[k][3] = part_here
    obtain ⟨q, hq, hh, hev⟩ := rowEv (σ := [some (.ref pu), some (.ref ra), some (.int (m : Int)), some (.ref fa), some (.int (1 + (i : Int))), some (.ref sa), some (.int (kk : Int)), none, none]) (ta := tVar 1) (tk := tVar 6) S3 hrk (ev_var rfl) (ev_var rfl)
    refine q_setL (l := q) (xs := rowV rs'[kk]) (j := 3) (v := .int (1 + (i : Int))) hh (ev_var rfl) hev ev_c (by show 3 < 4; decide) fun H4 e4 => ?_
    have S4 := S3.ex e4
    have hset : (rowV rs'[kk]).set 3 (.int (1 + (i : Int))) = rowV { rs'[kk] with c := ((i + 1 : Nat) : Int) } := by
      have : (1 + (i : Int)) = ((i + 1 : Nat) : Int) := by omega
      rw [this]
      rfl
    rw [hset]
    have S5 := S4.setRow hpu hce hraN hfa (r := { rs'[kk] with c := ((i + 1 : Nat) : Int) }) hq
    generalize upd H4 q (.lst (rowV { rs'[kk] with c := ((i + 1 : Nat) : Int) })) = H5 at S5
    -- free.remove(k)
    obtain ⟨j, hj⟩ := List.mem_iff_getElem?.mp hkm.1
    refine go_drop1 (go_bm (ev_var rfl) S5.hf fun H6 e6 => go_cons (go_var (v := .int (kk : Int)) rfl ?_))
    have S6 := S5.ex e6
    refine ⟨fa, free.map (fun (n : Nat) => (n : Int)), (kk : Int), j, rfl, rfl, ?_, ?_, fun m' hm' => ?_, ?_⟩
    · rw [S6.hf]
      unfold iv
      rw [List.map_map]
      rfl
    · rw [List.getElem?_map, hj]
      rfl
    · rw [List.getElem?_map]
      intro hz
      cases hg : free[m']? with
      | none => rw [hg] at hz; cases hz
      | some x =>
        rw [hg] at hz
        have hx : (x : Int) = (kk : Int) := Option.some.inj hz
        have hx' : x = kk := by omega
        subst hx'
        have := pos_inj I.nd hg hj
        omega
    · rw [erase_iv]
      have S7 := S6.setFree P0 hfa hfr (free.eraseIdx j)
      exact ⟨_, _, _, _, _, rfl, S7, I.turn hi1 hrk hj hplt⟩
  · obtain ⟨y4, y5, y6, rs', free, rfl, S, I⟩ := hI
    have hmn : ((m : Int) - 1).toNat = m - 1 := by omega
    rw [hmn] at S I
    have hfl := nodup_le I.nd I.lt
    refine s_forLn (xs := iv free) (ev_var rfl) (sq_of S.hf)
      (fun j σ' H' => ∃ (y4 y5 y6 y7 y8 : Option V) (rs' : List Row), σ' = [some (.ref pu), some (.ref ra), some (.int (m : Int)), some (.ref fa), y4, y5, y6, y7, y8] ∧ CState pu ce (T + (m - 1) + j) H H' ra fa rr rs' free ∧ CInv m rs rs' free (m - 1))
      (fun H2 e2 => ⟨y4, y5, y6, none, none, rs', rfl, S.ex e2, I⟩) (fun j σ' H' _ hI => ?_) (fun j x σ' H' hx hI => ?_) (fun σ' H' hI => ?_)
    · obtain ⟨y4, y5, y6, y7, y8, rs', rfl, S, I⟩ := hI
      exact sq_of S.hf
    · obtain ⟨y4, y5, y6, y7, y8, rs', rfl, S, I⟩ := hI
      obtain ⟨kk, g1, rfl, g3, hkf⟩ := iv_at hx
      have hjl := (List.getElem?_eq_some_iff.mp g1).1
      have hkl : kk < rs'.length := by
        rw [I.len]
        exact I.lt kk hkf
      have hrk : rs'[kk]? = some rs'[kk] := List.getElem?_eq_getElem hkl
      have hpm : rs'[kk].p < m := by
        have hp := I.part hrk
        have hkl0 : kk < rs.length := I.lt kk hkf
        have := prt_of (List.getElem?_eq_getElem hkl0)
        rw [← hp, this]
        exact (hrs1 _ (List.getElem_mem hkl0)).1
      have rowp : ∀ {σ : L2.St} {ta tk : TE} {H' : Hp} {T1 : Nat}, CState pu ce T1 H H' ra fa rr rs' free → Ev ta σ H' (.ref ra) → Ev tk σ H' (.int (kk : Int)) → Ev (tOp (rIxL K) (tOp (rIxL K) ta tk) (tC (.int 0))) σ H' (.int (rs'[kk].p : Int)) := fun S ha hi => by
        obtain ⟨q, hq, hh, hev⟩ := rowEv S hrk ha hi
        exact ev_op hev ev_c (rv_ixL (i := 0) (sq_of hh) rfl)
      refine q_asg (v := .int ((m : Int) - 1 - (rs'[kk].p : Int))) (ev_op (ev_op (ev_var rfl) ev_c rv_I0) (rowp S (ev_var rfl) (ev_var rfl)) rv_I0) fun H2 e2 => ?_
      have S2 := S.ex e2
      refine go_asg ?_
      refine use_draw S2.P (by omega) (n := 3 * ((m : Int) - 1 - (rs'[kk].p : Int)) + 1) (by omega) (by omega) (ev_var rfl) (ev_op (ev_op ev_c (ev_var rfl) (rv_I (.inl (by decide)))) ev_c rv_I0) fun d H3 hd P3 f3 => ?_
      have S3 := S2.move P0 hpu hce hrp hrc f3 P3
      refine s_when (et_test (ev_op (ev_var rfl) (ev_var rfl) rv_I0)) (fun hb H4 e4 => ?_) (fun hb H4 e4 => ?_)
      · have hdl : (d : Int) < (m : Int) - 1 - (rs'[kk].p : Int) := of_decide_eq_true hb
        have S4 := S3.ex e4
        obtain ⟨q, hq, hh, hev⟩ := rowEv (σ := [some (.ref pu), some (.ref ra), some (.int (m : Int)), some (.ref fa), y4, y5, some (.int (kk : Int)), some (.int ((m : Int) - 1 - (rs'[kk].p : Int))), some (.int (d : Int))]) (ta := tVar 1) (tk := tVar 6) S4 hrk (ev_var rfl) (ev_var rfl)
        refine s_setL (l := q) (xs := rowV rs'[kk]) (j := 3) (v := .int ((rs'[kk].p : Int) + 1 + (d : Int))) hh (ev_op (ev_op (rowp S4 (ev_var rfl) (ev_var rfl)) ev_c rv_I0) (ev_var rfl) rv_I0) hev ev_c (by show 3 < 4; decide) fun H5 e5 => ?_
        have S5 := (S4.ex e5).setRow hpu hce hraN hfa (r := { rs'[kk] with c := (rs'[kk].p : Int) + 1 + (d : Int) }) hq
        exact ⟨_, _, _, _, _, _, rfl, S5, I.later hrk hkf (by omega) (by omega)⟩
      · exact ⟨_, _, _, _, _, rs', rfl, S3.ex e4, I⟩
    · obtain ⟨y4, y5, y6, y7, y8, rs', rfl, S, I⟩ := hI
      rw [iv_len] at S
      refine k rs' H' ?_ I.ok (fun p h0 h1 => ?_) S.F (S.P.mono (by omega)) S.f
      · exact I.sh
      · obtain ⟨k0, r0, _, g0, c0⟩ := I.as_ p (by omega) (by omega)
        exact ⟨r0, List.mem_of_getElem? g0, c0⟩
end
end FC
namespace FC
/-! ### a web built -/
def esR (rs : List Row) (p : Nat) : List Ed := (rs.filter fun r => decide (r.p = p)).map fun r => (r.f, r.t)
theorem mem_esR {rs : List Row} {p : Nat} {e : Ed} : e ∈ esR rs p ↔ ∃ r ∈ rs, r.p = p ∧ e = (r.f, r.t) := by
  unfold esR
  rw [List.mem_map]
  constructor
  · rintro ⟨r, hr, rfl⟩
    rw [List.mem_filter] at hr
    exact ⟨r, hr.1, by simpa using hr.2, rfl⟩
  · rintro ⟨r, hr, hp, rfl⟩
    exact ⟨r, by rw [List.mem_filter]; exact ⟨hr, by simpa using hp⟩, rfl⟩
theorem mem_esW {W : Web} {p : Nat} {e : Ed} : e ∈ es W p ↔ ∃ r ∈ W.rs, r.p = p ∧ e = (r.f, r.t) := by
  constructor
  · intro h
    obtain ⟨k, hk, rfl⟩ := mem_es h
    have hl := own_lt' hk
    have hrow : W.rs[k]? = some (W.row k) := by
      unfold Web.row
      rw [List.getD_eq_getElem?_getD, List.getElem?_eq_getElem hl]
      rfl
    refine ⟨W.row k, List.mem_of_getElem? hrow, ?_, rfl⟩
    unfold own at hk
    rw [List.mem_filter] at hk
    simpa using hk.2
  · rintro ⟨r, hr, hp, rfl⟩
    obtain ⟨k, hk⟩ := List.mem_iff_getElem?.mp hr
    have hl := (List.getElem?_eq_some_iff.mp hk).1
    have hrow : W.row k = r := by
      unfold Web.row
      rw [List.getD_eq_getElem?_getD, hk]
      rfl
    have ho : k ∈ own W p := by
      unfold own
      rw [List.mem_filter, List.mem_range]
      exact ⟨hl, by rw [hrow]; simpa using hp⟩
    have := es_mem' ho
    unfold Web.fr Web.to at this
    rwa [hrow] at this
structure WInv (parts i : Nat) (ps : List Nat) (rs : List Row) (left : Int) : Prop where
  lp : ps.length = i
  good : ∀ j, j < i → GoodPart (ps.getD j 0) (esR rs j)
  row : ∀ r ∈ rs, r.p < i ∧ r.c = -1
  has : ∀ j, j < i → ∃ r ∈ rs, r.p = j
  cnt : (rs.length : Int) + left = 29 - parts + i
  l0 : 0 ≤ left
theorem WInv.first {parts : Nat} (h : parts ≤ 4) : WInv parts 0 [] [] (29 - parts) :=
  ⟨rfl, fun j hj => by omega, fun r hr => by simp at hr, fun j hj => by omega, by simp, by omega⟩
theorem WInv.step {parts i : Nat} {ps : List Nat} {rs : List Row} {left : Int} {n m : Nat} {ls : List Ed} (h : WInv parts i ps rs left) (G : GoodPart n ls) (hl : ls.length = m + 1) (hm : (m : Int) ≤ left) :
    WInv parts (i + 1) (ps ++ [n]) (rs ++ ls.map fun e => (⟨i, e.1, e.2, -1⟩ : Row)) (left - m) where
  lp := by rw [List.length_append, h.lp]; rfl
  good := fun j hj => by
    by_cases hji : j = i
    · subst hji
      have e1 : (ps ++ [n]).getD j 0 = n := by
        rw [List.getD_eq_getElem?_getD, List.getElem?_append_right (by rw [h.lp]; omega), h.lp, Nat.sub_self]
        rfl
      rw [e1]
      refine G.same fun e => ?_
      rw [mem_esR]
      constructor
      · intro he
        exact ⟨⟨j, e.1, e.2, -1⟩, List.mem_append_right _ (List.mem_map.mpr ⟨e, he, rfl⟩), rfl, rfl⟩
      · rintro ⟨r, hr, hp, rfl⟩
        rcases List.mem_append.mp hr with hr | hr
        · have := (h.row r hr).1
          omega
        · obtain ⟨e, he, rfl⟩ := List.mem_map.mp hr
          exact he
    · have e1 : (ps ++ [n]).getD j 0 = ps.getD j 0 := by
        rw [List.getD_eq_getElem?_getD, List.getElem?_append_left (by rw [h.lp]; omega), ← List.getD_eq_getElem?_getD]
      rw [e1]
      refine (h.good j (by omega)).same fun e => ?_
      rw [mem_esR, mem_esR]
      constructor
      · rintro ⟨r, hr, hp, rfl⟩
        exact ⟨r, List.mem_append_left _ hr, hp, rfl⟩
      · rintro ⟨r, hr, hp, rfl⟩
        rcases List.mem_append.mp hr with hr | hr
        · exact ⟨r, hr, hp, rfl⟩
        · obtain ⟨e, he, rfl⟩ := List.mem_map.mp hr
          exact absurd hp.symm hji
  row := fun r hr => by
    rcases List.mem_append.mp hr with hr | hr
    · have := h.row r hr
      exact ⟨by omega, this.2⟩
    · obtain ⟨e, he, rfl⟩ := List.mem_map.mp hr
      exact ⟨Nat.lt_succ_self i, rfl⟩
  has := fun j hj => by
    by_cases hji : j = i
    · subst hji
      cases ls with
      | nil => simp at hl
      | cons e r => exact ⟨⟨j, e.1, e.2, -1⟩, List.mem_append_right _ (List.mem_map.mpr ⟨e, by simp, rfl⟩), rfl⟩
    · obtain ⟨r, hr, hp⟩ := h.has j (by omega)
      exact ⟨r, List.mem_append_left _ hr, hp⟩
  cnt := by
    have := h.cnt
    rw [List.length_append, List.length_map, hl]
    omega
  l0 := by omega
/-- the web that is handed back -/
def made (ps : List Nat) (rs : List Row) (o : List Nat) : Web := ⟨ps, o.map fun k => rs.getD k ⟨0, 0, 0, 0⟩⟩
theorem made_mem {ps : List Nat} {rs : List Row} {o : List Nat} (ho : o.Perm (List.range rs.length)) {r : Row} : r ∈ (made ps rs o).rs ↔ r ∈ rs := by
  unfold made
  rw [List.mem_map]
  constructor
  · rintro ⟨k, hk, rfl⟩
    have hl : k < rs.length := by
      rw [ho.mem_iff, List.mem_range] at hk
      exact hk
    rw [List.getD_eq_getElem?_getD, List.getElem?_eq_getElem hl]
    exact List.getElem_mem hl
  · intro hr
    obtain ⟨k, hk⟩ := List.mem_iff_getElem?.mp hr
    refine ⟨k, ?_, ?_⟩
    · rw [ho.mem_iff, List.mem_range]
      exact (List.getElem?_eq_some_iff.mp hk).1
    · rw [List.getD_eq_getElem?_getD, hk]
      rfl
theorem made_good {parts : Nat} {ps : List Nat} {rs rs' : List Row} {o : List Nat} {left : Int} (h : WInv parts parts ps rs left) (h1 : 1 ≤ parts) (h4 : parts ≤ 4) (ho : o.Perm (List.range rs'.length)) (sh : rs'.map key = rs.map key)
    (ok : ∀ r ∈ rs', (r.c = -1 ∨ (r.p : Int) < r.c) ∧ r.c < parts) (as_ : ∀ p : Nat, 0 < p → p < parts → ∃ r ∈ rs', r.c = p) : GoodWeb (made ps rs' o) ∧ (made ps rs' o).rs.length ≤ 29 := by
  have hlen : rs'.length = rs.length := by
    have := congrArg List.length sh
    simpa using this
  have hml : (made ps rs' o).rs.length = rs.length := by
    unfold made
    rw [List.length_map, ho.length_eq, List.length_range, hlen]
  have hrl : rs.length ≤ 29 := by
    have := h.cnt
    have := h.l0
    omega
  have keys : ∀ (x : Nat × Nat × Nat), (∃ r ∈ rs', key r = x) ↔ ∃ r ∈ rs, key r = x := fun x => by
    rw [← List.mem_map, ← List.mem_map, sh]
  refine ⟨⟨⟨by unfold made; rw [h.lp]; exact h1, by unfold made; rw [h.lp]; exact h4⟩, ⟨?_, by omega⟩, fun r hr => ?_, fun p h0 hp => ?_, fun p hp => ?_⟩, by omega⟩
  · rw [hml]
    obtain ⟨r, hr, _⟩ := h.has 0 (by omega)
    exact List.length_pos_of_mem hr
  · rw [made_mem ho] at hr
    have h2 := ok r hr
    obtain ⟨r0, hr0, hk⟩ := (keys (key r)).mp ⟨r, hr, rfl⟩
    have h3 : r0.p = r.p := congrArg Prod.fst hk
    have h5 := (h.row r0 hr0).1
    unfold made
    dsimp only
    rw [h.lp]
    exact ⟨by omega, h2.1, h2.2⟩
  · unfold made at hp
    dsimp only at hp
    rw [h.lp] at hp
    obtain ⟨r, hr, hc⟩ := as_ p h0 hp
    exact ⟨r, (made_mem ho).mpr hr, hc⟩
  · unfold made at hp
    dsimp only at hp
    rw [h.lp] at hp
    refine (h.good p hp).same fun e => ?_
    rw [mem_esR, mem_esW]
    constructor
    · rintro ⟨r, hr, hrp, rfl⟩
      obtain ⟨r', hr', hk⟩ := (keys (key r)).mpr ⟨r, hr, rfl⟩
      have a1 : r'.p = r.p := congrArg Prod.fst hk
      have a2 : r'.f = r.f := congrArg (fun x => x.2.1) hk
      have a3 : r'.t = r.t := congrArg (fun x => x.2.2) hk
      exact ⟨r', (made_mem ho).mpr hr', by omega, by rw [a2, a3]⟩
    · rintro ⟨r', hr', hrp, rfl⟩
      rw [made_mem ho] at hr'
      obtain ⟨r, hr, hk⟩ := (keys (key r')).mp ⟨r', hr', rfl⟩
      have a1 : r.p = r'.p := congrArg Prod.fst hk
      have a2 : r.f = r'.f := congrArg (fun x => x.2.1) hk
      have a3 : r.t = r'.t := congrArg (fun x => x.2.2) hk
      exact ⟨r, hr, by omega, by rw [a2, a3]⟩
end FC
namespace FC
open PySem PySem.Spec PyProof.Rows L2 Evl
structure BState (pu ce : Addr) (T : Nat) (H0 H' : Hp) (pla ra : Addr) (ps : List Nat) (rr : List Addr) (rs : List Row) : Prop where
  P : Purse pu ce T H'
  f : Frm [pu, ce] H0 H'
  np : H0 pla = none
  nr : H0 ra = none
  nrr : ∀ q ∈ rr, H0 q = none
  ne : pla ≠ ra
  po : pla ∉ rr
  ro : ra ∉ rr
  hp : H' pla = some (.lst (iv ps))
  hr : H' ra = some (.lst (rr.map V.ref))
  F : FoursAt H' rr rs
section
variable {pu ce pla ra : Addr} {T T' : Nat} {H0 H' H'' : Hp} {ps : List Nat} {rr : List Addr} {rs : List Row}
theorem BState.move (h : BState pu ce T H0 H' pla ra ps rr rs) (P0 : Purse pu ce T' H0) {T2 : Nat} (f : Frm [pu, ce] H' H'') (P : Purse pu ce T2 H'') : BState pu ce T2 H0 H'' pla ra ps rr rs := by
  have n1 := P0.new h.np
  have n2 := P0.new h.nr
  refine ⟨P, h.f.trans f, h.np, h.nr, h.nrr, h.ne, h.po, h.ro, f.at_ n1.1 n1.2 h.hp, f.at_ n2.1 n2.2 h.hr, h.F.keep fun q hq o ho => ?_⟩
  have n3 := P0.new (h.nrr q hq)
  exact f.at_ n3.1 n3.2 ho
theorem BState.ex (h : BState pu ce T H0 H' pla ra ps rr rs) (P0 : Purse pu ce T' H0) (e : Ex H' H'') : BState pu ce T H0 H'' pla ra ps rr rs := h.move P0 (Frm.of_ex e) (h.P.keep e)
theorem BState.fresh (h : BState pu ce T H0 H' pla ra ps rr rs) {q : Addr} (nq : H' q = none) : H0 q = none := by
  cases hz : H0 q with
  | none => rfl
  | some o =>
    have n0 := h.P.new nq
    have := h.f.at_ n0.1 n0.2 hz
    rw [nq] at this
    cases this
theorem FoursAt.some {H : Hp} {rr : List Addr} {rs : List Row} (F : FoursAt H rr rs) {q : Addr} (hq : q ∈ rr) : ∃ o, H q = some o := by
  obtain ⟨i, hi⟩ := List.mem_iff_getElem?.mp hq
  have hil : i < rs.length := by
    rw [← F.2.1]
    exact (List.getElem?_eq_some_iff.mp hi).1
  exact ⟨_, F.2.2 i q _ hi (List.getElem?_eq_getElem hil)⟩
theorem BState.place (h : BState pu ce T H0 H' pla ra ps rr rs) (P0 : Purse pu ce T' H0) (n : Nat) : BState pu ce T H0 (upd H' pla (.lst (iv ps ++ [.int (n : Int)]))) pla ra (ps ++ [n]) rr rs := by
  have n1 := P0.new h.np
  refine ⟨h.P.put n1.1 n1.2, h.f.new h.np, h.np, h.nr, h.nrr, h.ne, h.po, h.ro, ?_, by rw [upd_ne h.ne.symm]; exact h.hr, h.F.keep fun q hq o ho => ?_⟩
  · rw [upd_same]
    unfold iv
    rw [List.map_append]
    rfl
  · have hne : q ≠ pla := fun z => h.po (z ▸ hq)
    rw [upd_ne hne]
    exact ho
/-- rows more, in a new list at p -/
theorem BState.rows (h : BState pu ce T H0 H' pla ra ps rr rs) (P0 : Purse pu ce T' H0) {H1 : Hp} {D p : Addr} {acc : List Addr} {more : List Row} {o : Nat → HO} {n : Nat} (NL : NewL n o H' H1 D acc) (hn : more.length = n) (hm : ∀ i r, more[i]? = some r → o i = .lst (rowV r)) (np : H1 p = none) :
    BState pu ce T H0 (upd H1 p (.lst (rr.map V.ref ++ acc.map V.ref))) pla p ps (rr ++ acc) (rs ++ more) := by
  have h1 := h.ex P0 NL.ex
  have h2 := h1.ex P0 (Ex.new (o := .lst (rr.map V.ref ++ acc.map V.ref)) np)
  have npp : pla ≠ p := ne_of_none h1.hp np
  have accSome : ∀ q ∈ acc, ∃ u, H1 q = some u := fun q hq => by
    obtain ⟨i, hi⟩ := List.mem_iff_getElem?.mp hq
    exact ⟨_, NL.each i q hi⟩
  have pacc : ∀ q ∈ acc, q ≠ p := fun q hq => by
    obtain ⟨u, hu⟩ := accSome q hq
    exact ne_of_none hu np
  have prr : ∀ q ∈ rr, q ≠ p := fun q hq => by
    obtain ⟨u, hu⟩ := h1.F.some hq
    exact ne_of_none hu np
  refine ⟨h2.P, h2.f, h.np, h1.fresh np, fun q hq => ?_, npp, ?_, ?_, h2.hp, by rw [upd_same, List.map_append], ⟨?_, ?_, fun i q r hi hr => ?_⟩⟩
  · rcases List.mem_append.mp hq with hq | hq
    · exact h.nrr q hq
    · exact h.fresh (NL.new q hq)
  · intro hq
    rcases List.mem_append.mp hq with hq | hq
    · exact h.po hq
    · have := NL.new _ hq
      rw [h.hp] at this
      cases this
  · intro hq
    rcases List.mem_append.mp hq with hq | hq
    · exact prr _ hq rfl
    · exact pacc _ hq rfl
  · rw [List.nodup_append]
    refine ⟨h.F.1, NL.nd, fun a ha b hb hab => ?_⟩
    subst hab
    obtain ⟨u, hu⟩ := h.F.some ha
    rw [NL.new _ hb] at hu
    cases hu
  · rw [List.length_append, List.length_append, h.F.2.1, NL.len, hn]
  · by_cases hil : i < rr.length
    · rw [List.getElem?_append_left hil] at hi
      rw [List.getElem?_append_left (by rw [← h.F.2.1]; exact hil)] at hr
      exact h2.F.2.2 i q r hi hr
    · rw [List.getElem?_append_right (by omega)] at hi
      rw [List.getElem?_append_right (by rw [← h.F.2.1]; omega), ← h.F.2.1] at hr
      rw [upd_ne (pacc q (List.mem_of_getElem? hi)), NL.each _ q hi, hm _ r hr]
end
section
variable {K : PySem.W.Frag} {H : Hp} {vs : List V} {Q : VK} {E : XK}
theorem go_asgG {te : TE} {g : TG} {tz : TS} {D : Ends} {σ : L2.St} (h : te σ H fun x H1 => g x σ H1 (tz D)) : tSeq (tAsg te g) tz D σ H := h
theorem go_c {v : V} {σ : L2.St} {Q : VK} (h : Q v H) : tC v σ H Q := h
theorem go_cb {r : List V → Hp → VK → Prop} {t : TA} {σ : L2.St} {Q : VK} (h : t σ H fun vs H1 => r vs H1 Q) : tCB r t σ H Q := h
theorem rd_law_web (h : sp_law_web K vs H Q E) : tr_law_web K { nx := fun _ H' => Q .non H', rt := Q } (start N_law_web vs) H := by
  obtain ⟨pu, ce, T, rfl, P0, hT, k⟩ := h
  unfold tr_law_web
  refine go_asg (go_op (go_c ?_))
  refine use_draw P0 (by omega) (n := 4) (by omega) (by omega) (ev_var rfl) ev_c fun d H1 hd P1 f1 => ?_
  refine ⟨_, _, rfl, rfl, ?_⟩
  have hpe : (1 : Int) + (d : Int) = ((1 + d : Nat) : Int) := by omega
  dsimp only
  rw [hpe]
  have hparts1 : 1 ≤ 1 + d := by omega
  have hparts4 : 1 + d ≤ 4 := by omega
  generalize 1 + d = parts at hparts1 hparts4
  refine q_asg (v := .int (29 - (parts : Int))) (ev_op ev_c (ev_var rfl) rv_I0) fun H2 e2 => ?_
  refine q_asgL (xs := iv []) (el_lst ea_nil (by show 0 ≤ 100000; decide)) fun pla H3 n3 e3 h3 => ?_
  refine q_asgL (xs := []) (el_lst ea_nil (by show 0 ≤ 100000; decide)) fun ra H4 n4 e4 h4 => ?_
  have e24 := e2.trans (e3.trans e4)
  have P4 := P1.keep e24
  have f4 : Frm [pu, ce] H H4 := f1.trans (Frm.of_ex e24)
  have fresh : ∀ (H5 : Hp) (a : Addr) (T5 : Nat), Purse pu ce T5 H5 → Frm [pu, ce] H H5 → H5 a = none → H a = none := fun H5 a T5 P5 f5 na => by
    cases hz : H a with
    | none => rfl
    | some o =>
      have n0 := P5.new na
      have := f5.at_ n0.1 n0.2 hz
      rw [na] at this
      cases this
  have S0 : BState pu ce (T + 1) H H4 pla ra [] [] [] := by
    have a1 := fresh H2 pla _ (P1.keep e2) (f1.trans (Frm.of_ex e2)) n3
    have a2 := fresh H3 ra _ (P1.keep (e2.trans e3)) (f1.trans (Frm.of_ex (e2.trans e3))) n4
    exact ⟨P4, f4, a1, a2, by simp, ne_of_none h3 n4, by simp, by simp, e4 _ _ h3, h4, ⟨List.nodup_nil, rfl, fun i q r hi _ => by simp at hi⟩⟩
  refine q_forR1 (ea_cons (ev_var (v := .int (parts : Int)) rfl) ea_nil) ⟨by omega, by omega⟩
    (fun i σ' H' => ∃ (left : Int) (ra : Addr) (y6 y7 y8 y9 : Option V) (ps : List Nat) (rr : List Addr) (rs : List Row), σ' = [some (.ref pu), some (.bl true), some (.int (parts : Int)), some (.int left), some (.ref pla), some (.ref ra), y6, y7, y8, y9, none, none, none] ∧
      BState pu ce (T + 1 + 118 * i) H H' pla ra ps rr rs ∧ WInv parts i ps rs left)
    (fun H5 e5 => ⟨_, ra, none, none, none, none, _, _, _, rfl, S0.ex P0 e5, WInv.first hparts4⟩) (fun i σ' H' hi hI => ?_) (fun σ' H' hI => ?_)
  · obtain ⟨left, ra, y6, y7, y8, y9, ps, rr, rs, rfl, S, I⟩ := hI
    have hcnt := I.cnt
    have hl0 := I.l0
    have hip : i < parts := by omega
    -- many = min(left, draw(..))
    refine go_asg (go_cb (go_cons (go_var (v := .int left) rfl (go_cons (go_call (go_cons (go_var (v := .ref pu) rfl (go_cons (go_op ?_)))))))))
    apply use_L (xs := [.int 4, .int 8, .int 30])
    · exact el_lst (ea_cons ev_c (ea_cons ev_c (ea_cons ev_c ea_nil))) (by show 3 ≤ 100000; decide)
    intro la H5 n5 e5 h5
    have S5 := S.ex P0 e5
    have nla := S.P.new n5
    refine use_draw S5.P (by omega) (n := 3) (by omega) (by omega) (ev_var rfl) ev_c fun c H6 hc P6 f6 => ?_
    have S6 := S5.move P0 f6 P6
    have h6 := f6.at_ nla.1 nla.2 h5
    obtain ⟨mx, hmx, hmx2⟩ : ∃ mx : Nat, ([.int 4, .int 8, .int 30] : List V)[c]? = some (.int (mx : Int)) ∧ 4 ≤ mx ∧ mx ≤ 30 := by
      have : c = 0 ∨ c = 1 ∨ c = 2 := by omega
      rcases this with rfl | rfl | rfl
      · exact ⟨4, rfl, by omega, by omega⟩
      · exact ⟨8, rfl, by omega, by omega⟩
      · exact ⟨30, rfl, by omega, by omega⟩
    refine ⟨la, _, (c : Int), .int (mx : Int), rfl, rfl, sq_of h6, atI_nat hmx, ?_⟩
    refine ⟨pu, ce, _, (mx : Int), rfl, S6.P, by omega, by omega, by omega, fun d0 H7 hd0 hd1 P7 f7 => ?_⟩
    have S7 := S6.move P0 f7 P7
    refine ⟨left, d0, rfl, ?_⟩
    obtain ⟨many, hmany, hm1, hm2⟩ : ∃ many : Nat, (if d0 < left then d0 else left) = (many : Int) ∧ (many : Int) ≤ left ∧ many ≤ 30 := by
      by_cases hlt : d0 < left
      · exact ⟨d0.toNat, by rw [if_pos hlt]; omega, by omega, by omega⟩
      · exact ⟨left.toNat, by rw [if_neg hlt]; omega, by omega, by omega⟩
    rw [hmany]
    refine q_asg (v := .int (left - (many : Int))) (ev_op (ev_var rfl) (ev_var rfl) rv_I0) fun H8 e8 => ?_
    have S8 := S7.ex P0 e8
    -- size, told = _law_part(..)
    refine go_asgG (go_call (go_cons (go_var (v := .ref pu) rfl (go_cons (go_var (v := .int (many : Int)) rfl (go_cons (go_var (v := .bl true) rfl ?_)))))))
    refine ⟨pu, ce, _, many, rfl, S8.P, by omega, by omega, fun n ls tp sa H9 GP hls htp hPA P9 f9 => ?_⟩
    have S9 := S8.move P0 f9 P9
    obtain ⟨rr2, nsa, nrr2, hsa, hrr2, hpairs⟩ := hPA
    refine ⟨tp, _, rfl, st_of htp, rfl, _, _, rfl, _, _, rfl, rfl, ?_⟩
    -- places.append(size)
    have hpla : pla ≠ sa := ne_of_none S8.hp nsa
    refine q_app (l := pla) (v := .int (n : Int)) S9.hp (ev_var rfl) (ev_var rfl) (by rw [iv_len, I.lp]; omega) fun H10 e10 => ?_
    have S11 := (S9.ex P0 e10).place P0 n
    have hsa11 : (upd H10 pla (.lst (iv ps ++ [.int (n : Int)]))) sa = some (.lst (rr2.map V.ref)) := by
      rw [upd_ne hpla.symm]
      exact e10 _ _ hsa
    have hp11 : ∀ (i : Nat) (q : Addr) (e : Ed), rr2[i]? = some q → ls[i]? = some e → (upd H10 pla (.lst (iv ps ++ [.int (n : Int)]))) q = some (.lst [.int e.1, .int e.2]) := fun i q e hi he => by
      have hne : pla ≠ q := ne_of_none S8.hp (nrr2 q (List.mem_of_getElem? hi))
      rw [upd_ne hne.symm]
      exact e10 _ _ (hpairs i q e hi he)
    generalize upd H10 pla (.lst (iv ps ++ [.int (n : Int)])) = H11 at S11 hsa11 hp11
    -- rows = rows + [..]
    refine go_asg1 (go_op (go_var (v := .ref ra) rfl ?_))
    refine lc_newE (a := sa) (xs := rr2.map V.ref) (fun j => .lst (rowV ⟨i, (ls.getD j (0, 0)).1, (ls.getD j (0, 0)).2, -1⟩)) (ev_var rfl) hsa11 (by rw [List.length_map, hrr2, hls]; omega) (fun j x H12 e12 hx R hR => ?_) fun D H12 acc NL => ?_
    · rw [List.getElem?_map] at hx
      cases hq : rr2[j]? with
      | none => rw [hq] at hx; cases hx
      | some q =>
        rw [hq] at hx
        have ex : x = .ref q := (Option.some.inj hx).symm
        subst ex
        have hjl : j < ls.length := by
          rw [← hrr2]
          exact (List.getElem?_eq_some_iff.mp hq).1
        have hrow : ls[j]? = some ls[j] := List.getElem?_eq_getElem hjl
        have hgd : ls.getD j (0, 0) = ls[j] := by
          rw [List.getD_eq_getElem?_getD, hrow]
          rfl
        rw [hgd] at hR
        refine ⟨q, _, rfl, sq_of (e12 _ _ (hp11 j q _ hq hrow)), rfl, _, _, rfl, _, _, rfl, rfl, rfl, ?_⟩
        apply use_L (xs := rowV ⟨i, ls[j].1, ls[j].2, -1⟩)
        · exact el_lst (vs := rowV ⟨i, ls[j].1, ls[j].2, -1⟩) (ea_cons (ev_var rfl) (ea_cons (ev_var rfl) (ea_cons (ev_var rfl) (ea_cons (ev_un (x := .int 1) ev_c ru_neg) ea_nil)))) (by show 4 ≤ 100000; decide)
        · exact fun p H13 np e13 h13 => hR p H13 np e13 h13
    · have S12 := S11.ex P0 NL.ex
      refine ⟨ra, D, rr.map V.ref, acc.map V.ref, rfl, rfl, S12.hr, NL.at_, sz5 ?_, fun p np => ?_⟩
      · rw [List.length_map, List.length_map, NL.len, List.length_map, hrr2, hls, S12.F.2.1]
        omega
      · have S13 := S11.rows P0 (more := ls.map fun e => (⟨i, e.1, e.2, -1⟩ : Row)) NL (by rw [List.length_map, List.length_map, hrr2]) (fun j r hr => by
          rw [List.getElem?_map] at hr
          cases hl : ls[j]? with
          | none => rw [hl] at hr; cases hr
          | some e =>
            rw [hl] at hr
            have hr' := Option.some.inj hr
            have hgd : ls.getD j (0, 0) = e := by
              rw [List.getD_eq_getElem?_getD, hl]
              rfl
            rw [hgd, ← hr']) np
        exact ⟨_, p, _, _, _, _, _, _, _, rfl, S13.move P0 Frm.refl (S13.P.mono (by omega)), I.step GP hls hm1⟩
  · obtain ⟨left, ra, y6, y7, y8, y9, ps, rr, rs, rfl, S, I⟩ := hI
    have hpn : (parts : Int).toNat = parts := by omega
    rw [hpn] at S I
    have hcnt := I.cnt
    have hl0 := I.l0
    have ncr : ra ≠ pu ∧ ra ≠ ce := P0.new S.nr
    refine go_drop (go_call (go_cons (go_var (v := .ref pu) rfl (go_cons (go_var (v := .ref ra) rfl (go_cons (go_var (v := .int (parts : Int)) rfl ?_)))))))
    refine ⟨pu, ce, _, ra, rr, rs, parts, rfl, S.P, by omega, hparts1, hparts4, S.hr, S.F, by omega, fun z => (P0.new (S.nrr _ z)).1 rfl, fun z => (P0.new (S.nrr _ z)).2 rfl, S.ro, ncr.1, ncr.2, I.row, I.has, fun rs' H5 sh ok as_ F5 P5 f5 => ?_⟩
    have npl := P0.new S.np
    have hpl5 : H5 pla = some (.lst (iv ps)) := f5 _ _ (by simp [npl.1, npl.2, S.po]) S.hp
    have hra5 : H5 ra = some (.lst (rr.map V.ref)) := f5 _ _ (by simp [ncr.1, ncr.2, S.ro]) S.hr
    have hlen' : rs'.length = rs.length := by
      have := congrArg List.length sh
      simpa using this
    -- the web
    refine go_ret (go_tup2 (go_var (v := .ref pla) rfl (lc_call ?_)))
    refine go_call (go_cons (go_var (v := .ref pu) rfl (go_cons ?_)))
    apply use_V (v := .int (rs'.length : Int))
    · have := ev_len (K := K) (ta := tVar 5) (H := H5) (σ := [some (.ref pu), some (.bl true), some (.int (parts : Int)), some (.int left), some (.ref pla), some (.ref ra), y6, y7, y8, y9, none, none, none]) (ev_var (v := .ref ra) rfl) (sq_of hra5)
      rwa [List.length_map, F5.2.1] at this
    intro H6 e6
    refine ⟨pu, ce, _, rs'.length, rfl, P5.keep e6, by omega, by omega, fun o pa H7 ho npa hpa P7 f7 => ?_⟩
    have fre : ∀ a o, a ≠ pu → a ≠ ce → H5 a = some o → H7 a = some o := fun a o h1 h2 hh => f7.at_ h1 h2 (e6 _ _ hh)
    have hpl7 := fre _ _ npl.1 npl.2 hpl5
    have hra7 := fre _ _ ncr.1 ncr.2 hra5
    have F7 : FoursAt H7 rr rs' := F5.keep fun q hq o' ho' => fre _ _ (P0.new (S.nrr q hq)).1 (P0.new (S.nrr q hq)).2 ho'
    have hol : o.length = rs'.length := by rw [ho.length_eq, List.length_range]
    show tLc (iList K (tC (V.ref pa))) (gName 10) tYes (tCB (rTupOf K) (tCons (tOp (rIxL K) (tVar 5) (tVar 10)) tNil)) [10] _ H7 _
    refine lc_newE (a := pa) (xs := iv o) (fun j => .tup (rowV (rs'.getD (o.getD j 0) ⟨0, 0, 0, 0⟩))) ev_c hpa (by rw [iv_len]; omega) (fun j x H8 e8 hx R hR => ?_) fun D H8 acc NL => ?_
    · obtain ⟨kk, g1, rfl, g3, hk⟩ := iv_at hx
      rw [g3] at hR
      have hkl : kk < rs'.length := by
        rw [ho.mem_iff, List.mem_range] at hk
        exact hk
      have hrow : rs'[kk]? = some rs'[kk] := List.getElem?_eq_getElem hkl
      have hgd : rs'.getD kk ⟨0, 0, 0, 0⟩ = rs'[kk] := by
        rw [List.getD_eq_getElem?_getD, hrow]
        rfl
      rw [hgd] at hR
      obtain ⟨q, hq, hh⟩ := F7.row hrow
      refine ⟨rfl, go_cb (go_cons ?_)⟩
      apply use_V (v := .ref q)
      · refine ev_op (ev_var rfl) (ev_var rfl) (rv_ixL (sq_of (e8 _ _ hra7)) (atI_nat ?_))
        rw [List.getElem?_map, hq]
        rfl
      intro H9 e9
      exact ⟨q, rowV rs'[kk], rfl, .inl ⟨sq_of (e9 _ _ (e8 _ _ hh)), fun l hl => hR l _ (fresh_back e9 hl) (e9.trans (Ex.new hl)) upd_same⟩⟩
    · refine ⟨by show 2 ≤ sizeLine; decide, fun wa nwa => ?_⟩
      obtain ⟨GW, hW29⟩ := made_good I hparts1 hparts4 ho sh ok as_
      have x9 : Ex H8 (upd H8 wa (.tup [.ref pla, .ref D])) := Ex.new nwa
      have hpl8 := NL.ex _ _ hpl7
      have mk : ∀ H9 : Hp, H9 wa = some (.tup [.ref pla, .ref D]) → H9 pla = some (.lst (iv ps)) → H9 D = some (.lst (acc.map V.ref)) → (∀ (i : Nat) (q : Addr), acc[i]? = some q → H9 q = some (.tup (rowV (rs'.getD (o.getD i 0) ⟨0, 0, 0, 0⟩)))) → WebAt H9 wa (made ps rs' o) := by
        intro H9 a1 a2 a3 a4
        refine ⟨pla, D, acc, a1, a2, a3, ?_, fun i q r hi hr => ?_⟩
        · rw [NL.len, iv_len]
          unfold made
          rw [List.length_map]
        · rw [a4 i q hi]
          unfold made at hr
          rw [List.getElem?_map] at hr
          cases hg : o[i]? with
          | none => rw [hg] at hr; cases hr
          | some kk =>
            rw [hg] at hr
            have hr' := Option.some.inj hr
            have hgd : o.getD i 0 = kk := by
              rw [List.getD_eq_getElem?_getD, hg]
              rfl
            rw [hgd]
            exact congrArg (fun z => some (HO.tup (rowV z))) hr'
      have P8 := P7.keep NL.ex
      have nwa' := P8.new nwa
      have nD := P7.new NL.fr
      refine k (made ps rs' o) wa _ GW hW29 (mk _ upd_same (x9 _ _ hpl8) (x9 _ _ NL.at_) fun i q hi => x9 _ _ (NL.each i q hi)) (fun H9 f9 => ?_) ((P8.keep x9).mono (by omega))
      refine mk _ (f9.at_ nwa'.1 nwa'.2 upd_same) (f9.at_ npl.1 npl.2 (x9 _ _ hpl8)) (f9.at_ nD.1 nD.2 (x9 _ _ NL.at_)) fun i q hi => ?_
      have nq := P7.new (NL.new q (List.mem_of_getElem? hi))
      exact f9.at_ nq.1 nq.2 (x9 _ _ (NL.each i q hi))
end
end FC
namespace FC
theorem row_get' {W : Web} {k : Nat} (h : k < W.rs.length) : W.rs[k]? = some (W.row k) := by
  unfold Web.row
  rw [List.getD_eq_getElem?_getD, List.getElem?_eq_getElem h]
  rfl
theorem row_of {W : Web} {k : Nat} {r : Row} (h : W.rs[k]? = some r) : W.row k = r := by
  unfold Web.row
  rw [List.getD_eq_getElem?_getD, h]
  rfl
/-- a web of one part that calls none -/
theorem one_good {n : Nat} {rs : List Row} (h1 : 1 ≤ rs.length) (h2 : rs.length ≤ 60) (hp : ∀ r ∈ rs, r.p = 0 ∧ r.c = -1) (G : GoodPart n (es ⟨[n], rs⟩ 0)) : GoodWeb ⟨[n], rs⟩ where
  np := ⟨Nat.le_refl 1, by show 1 ≤ 4; omega⟩
  nr := ⟨h1, h2⟩
  row := fun r hr => by
    have := hp r hr
    refine ⟨by show r.p < 1; omega, .inl this.2, by show r.c < ((1 : Nat) : Int); omega⟩
  call := fun p h0 h => by
    have : p < 1 := h
    omega
  part := fun p h => by
    have h' : p < 1 := h
    have : p = 0 := by omega
    subst this
    exact G
theorem one_own {n : Nat} {rs : List Row} (hp : ∀ r ∈ rs, r.p = 0) : own ⟨[n], rs⟩ 0 = List.range rs.length := by
  unfold own
  rw [List.filter_eq_self]
  intro k hk
  have hl := List.mem_range.mp hk
  have := row_get' (W := ⟨[n], rs⟩) hl
  have := hp _ (List.mem_of_getElem? this)
  simpa using this
section
variable {W : Web} {p : Nat}
/-- the j-th of a part's rows -/
def ow (W : Web) (p j : Nat) : Nat := (own W p).getD j 0
theorem ow_get {j : Nat} (h : j < (own W p).length) : (own W p)[j]? = some (ow W p j) := by
  unfold ow
  rw [List.getD_eq_getElem?_getD, List.getElem?_eq_getElem h]
  rfl
theorem ow_mem {j : Nat} (h : j < (own W p).length) : ow W p j ∈ own W p := List.mem_of_getElem? (ow_get h)
theorem own_map : own W p = (List.range (own W p).length).map (ow W p) := by
  apply List.ext_getElem?
  intro j
  rw [List.getElem?_map]
  by_cases h : j < (own W p).length
  · rw [List.getElem?_range h, ow_get h]
    rfl
  · rw [List.getElem?_eq_none (by omega), List.getElem?_eq_none (by rw [List.length_range]; omega)]
    rfl
theorem alone_len : (alone W p).rs.length = (own W p).length := by
  unfold alone
  rw [List.length_map]
theorem alone_row {j : Nat} (h : j < (own W p).length) : (alone W p).row j = ⟨0, W.fr (ow W p j), W.to (ow W p j), -1⟩ := by
  apply row_of
  unfold alone
  rw [List.getElem?_map, ow_get h]
  rfl
theorem alone_p0 : ∀ r ∈ (alone W p).rs, r.p = 0 ∧ r.c = -1 := by
  intro r hr
  unfold alone at hr
  obtain ⟨k, _, rfl⟩ := List.mem_map.mp hr
  exact ⟨rfl, rfl⟩
theorem alone_own : own (alone W p) 0 = List.range (own W p).length := by
  rw [← alone_len]
  exact one_own fun r hr => (alone_p0 r hr).1
theorem alone_fr {j : Nat} (h : j < (own W p).length) : (alone W p).fr j = W.fr (ow W p j) := by
  unfold Web.fr
  rw [alone_row h]
  rfl
theorem alone_to {j : Nat} (h : j < (own W p).length) : (alone W p).to j = W.to (ow W p j) := by
  unfold Web.to
  rw [alone_row h]
  rfl
theorem alone_es : es (alone W p) 0 = es W p := by
  unfold es
  rw [alone_own]
  conv => rhs; rw [own_map]
  rw [List.map_map]
  apply List.map_congr_left
  intro j hj
  have hl := List.mem_range.mp hj
  dsimp only [Function.comp]
  rw [alone_fr hl, alone_to hl]
theorem alone_pl : pl (alone W p) 0 = pl W p := rfl
theorem own_pos (G : GoodWeb W) (hp : p < W.ps.length) : 1 ≤ (own W p).length := by
  have GP := G.part p hp
  have := GP.n2
  obtain ⟨q, he, _⟩ := (GP.to1 0 (by omega)).out (by omega)
  obtain ⟨k, hk, _⟩ := mem_es he
  exact List.length_pos_of_mem hk
theorem alone_good (G : GoodWeb W) (hp : p < W.ps.length) (h29 : W.rs.length ≤ 29) : GoodWeb (alone W p) := by
  have ol : (own W p).length ≤ W.rs.length := by
    unfold own
    have := List.length_filter_le (fun k => decide ((W.row k).p = p)) (List.range W.rs.length)
    rwa [List.length_range] at this
  have hpos := own_pos G hp
  have hl := alone_len (W := W) (p := p)
  exact one_good (rs := (alone W p).rs) (by omega) (by omega) alone_p0 (by
    have : GoodPart (pl W p) (es (alone W p) 0) := by rw [alone_es]; exact G.part p hp
    exact this)
theorem alone_N (q : Nat) : N (alone W p) 0 q = N W p q := by
  unfold N
  rw [alone_es]
theorem alone_rfrom (q : Nat) : rfrom W p q = (rfrom (alone W p) 0 q).map (ow W p) := by
  unfold rfrom
  rw [alone_own]
  conv => lhs; rw [own_map]
  rw [List.filter_map]
  congr 1
  apply List.filter_congr
  intro j hj
  have hl := List.mem_range.mp hj
  dsimp only [Function.comp]
  rw [alone_fr hl]
theorem alone_mem {j : Nat} : j ∈ own (alone W p) 0 ↔ j < (own W p).length := by rw [alone_own, List.mem_range]
theorem alone_wt {j : Nat} (h : j < (own W p).length) : wtK (alone W p) 0 j = wtK W p (ow W p j) := by
  have hm : j ∈ rfrom (alone W p) 0 ((alone W p).fr j) := mem_rfrom.mpr ⟨alone_mem.mpr h, rfl⟩
  obtain ⟨i, hi⟩ := List.mem_iff_getElem?.mp hm
  have hi2 : (rfrom W p ((alone W p).fr j))[i]? = some (ow W p j) := by
    rw [alone_rfrom, List.getElem?_map, hi]
    rfl
  rw [wtK_at hi, wtK_at hi2, alone_rfrom (W := W) (p := p), ← List.map_take, List.map_map]
  congr 1
  apply List.map_congr_left
  intro x hx
  have hxl := alone_mem.mp (mem_rfrom.mp (List.mem_of_mem_take hx)).1
  dsimp only [Function.comp]
  rw [alone_N, alone_to hxl]
theorem alone_way : ∀ (n here : Nat) (num : Int), (wayK (alone W p) 0 n here num).map (ow W p) = wayK W p n here num
  | 0, _, _ => rfl
  | n + 1, here, num => by
    rw [wayK, wayK]
    by_cases h1 : here = 1
    · rw [if_pos h1, if_pos h1]
      rfl
    · rw [if_neg h1, if_neg h1]
      have e : ((rfrom W p here).filter fun k => decide (wtK W p k ≤ num)) = ((rfrom (alone W p) 0 here).filter fun j => decide (wtK (alone W p) 0 j ≤ num)).map (ow W p) := by
        rw [alone_rfrom, List.filter_map]
        congr 1
        apply List.filter_congr
        intro j hj
        have hl := alone_mem.mp (mem_rfrom.mp hj).1
        dsimp only [Function.comp]
        rw [alone_wt hl]
      rw [e, List.getLast?_map]
      cases hg : ((rfrom (alone W p) 0 here).filter fun j => decide (wtK (alone W p) 0 j ≤ num)).getLast? with
      | none => rfl
      | some j =>
        have hj := List.mem_of_getLast? hg
        rw [List.mem_filter] at hj
        have hl := alone_mem.mp (mem_rfrom.mp hj.1).1
        show ow W p j :: (wayK (alone W p) 0 n ((alone W p).to j) (num - wtK (alone W p) 0 j)).map (ow W p) = ow W p j :: wayK W p n (W.to (ow W p j)) (num - wtK W p (ow W p j))
        rw [alone_way n, alone_to hl, alone_wt hl]
/-! ### a row told twice -/
def wide (W : Web) (p k : Nat) : Web := ⟨[pl W p], (alone W p).rs ++ [(alone W p).row k]⟩
theorem wide_len (k : Nat) : (wide W p k).rs.length = (own W p).length + 1 := by
  unfold wide
  rw [List.length_append, alone_len]
  rfl
theorem wide_old {k j : Nat} (h : j < (own W p).length) : (wide W p k).row j = (alone W p).row j := by
  apply row_of
  unfold wide
  rw [List.getElem?_append_left (by rw [alone_len]; exact h)]
  exact row_get' (by rw [alone_len]; exact h)
theorem wide_new (k : Nat) : (wide W p k).row (own W p).length = (alone W p).row k := by
  apply row_of
  unfold wide
  rw [List.getElem?_append_right (by rw [alone_len]; omega), alone_len, Nat.sub_self]
  rfl
theorem wide_p0 {k : Nat} (hk : k < (own W p).length) : ∀ r ∈ (wide W p k).rs, r.p = 0 ∧ r.c = -1 := by
  intro r hr
  unfold wide at hr
  rcases List.mem_append.mp hr with hr | hr
  · exact alone_p0 r hr
  · rw [List.mem_singleton] at hr
    subst hr
    exact alone_p0 _ (List.mem_of_getElem? (row_get' (by rw [alone_len]; exact hk)))
theorem wide_own {k : Nat} (hk : k < (own W p).length) : own (wide W p k) 0 = List.range ((own W p).length + 1) := by
  rw [← wide_len k]
  exact one_own fun r hr => (wide_p0 hk r hr).1
theorem wide_fr {k j : Nat} (h : j < (own W p).length) : (wide W p k).fr j = (alone W p).fr j := by
  unfold Web.fr
  rw [wide_old h]
theorem wide_to {k j : Nat} (h : j < (own W p).length) : (wide W p k).to j = (alone W p).to j := by
  unfold Web.to
  rw [wide_old h]
theorem wide_frN (k : Nat) : (wide W p k).fr (own W p).length = (alone W p).fr k := by
  unfold Web.fr
  rw [wide_new]
theorem wide_toN (k : Nat) : (wide W p k).to (own W p).length = (alone W p).to k := by
  unfold Web.to
  rw [wide_new]
theorem wide_es {k : Nat} (hk : k < (own W p).length) : es (wide W p k) 0 = es W p ++ [(W.fr (ow W p k), W.to (ow W p k))] := by
  rw [← alone_es (W := W) (p := p)]
  unfold es
  rw [wide_own hk, alone_own, List.range_succ, List.map_append]
  congr 1
  · apply List.map_congr_left
    intro j hj
    have hl := List.mem_range.mp hj
    rw [wide_fr hl, wide_to hl]
  · show [((wide W p k).fr _, (wide W p k).to _)] = _
    rw [wide_frN, wide_toN, alone_fr hk, alone_to hk]
theorem wide_part (G : GoodWeb W) (hp : p < W.ps.length) {k : Nat} (hk : k < (own W p).length) : GoodPart (pl W p) (es (wide W p k) 0) := by
  refine (G.part p hp).same fun e => ?_
  rw [wide_es hk, List.mem_append, List.mem_singleton]
  constructor
  · exact .inl
  · rintro (h | rfl)
    · exact h
    · exact es_mem' (ow_mem hk)
theorem wide_good (G : GoodWeb W) (hp : p < W.ps.length) (h29 : W.rs.length ≤ 29) {k : Nat} (hk : k < (own W p).length) : GoodWeb (wide W p k) := by
  have ol : (own W p).length ≤ W.rs.length := by
    unfold own
    have := List.length_filter_le (fun k => decide ((W.row k).p = p)) (List.range W.rs.length)
    rwa [List.length_range] at this
  have hl := wide_len (W := W) (p := p) k
  exact one_good (rs := (wide W p k).rs) (by omega) (by omega) (wide_p0 hk) (wide_part G hp hk)
theorem wide_N (G : GoodWeb W) (hp : p < W.ps.length) {k : Nat} (hk : k < (own W p).length) : N (wide W p k) 0 0 = N W p 0 + before (es W p) (W.fr (ow W p k)) * N W p (W.to (ow W p k)) := by
  unfold N
  rw [wide_es hk]
  exact twice (G.part p hp) (es_mem' (ow_mem hk))
theorem wide_mem {k j : Nat} (hk : k < (own W p).length) : j ∈ own (wide W p k) 0 ↔ j < (own W p).length + 1 := by rw [wide_own hk, List.mem_range]
theorem wide_way {k : Nat} (hk : k < (own W p).length) : ∀ {way : List Nat} {here : Nat}, IsWay (alone W p) 0 here way → IsWay (wide W p k) 0 here way
  | [], _, h => h
  | j :: r, here, h => by
    obtain ⟨h1, h2, h3⟩ := h
    have hl := alone_mem.mp h1
    refine ⟨(wide_mem hk).mpr (by omega), by rw [wide_fr hl]; exact h2, ?_⟩
    rw [wide_to hl]
    exact wide_way hk h3
def swapK (m k j : Nat) : Nat := if j = k then m else j
theorem wide_long {k : Nat} (hk : k < (own W p).length) : ∀ {way : List Nat} {here : Nat}, IsWay (alone W p) 0 here way → IsWay (wide W p k) 0 here (way.map (swapK (own W p).length k))
  | [], _, h => h
  | j :: r, here, h => by
    obtain ⟨h1, h2, h3⟩ := h
    have hl := alone_mem.mp h1
    have ih := wide_long hk h3
    rw [List.map_cons]
    unfold swapK
    by_cases hj : j = k
    · subst hj
      rw [if_pos rfl]
      refine ⟨(wide_mem hk).mpr (by omega), by rw [wide_frN]; exact h2, ?_⟩
      rw [wide_toN]
      exact ih
    · rw [if_neg hj]
      refine ⟨(wide_mem hk).mpr (by omega), by rw [wide_fr hl]; exact h2, ?_⟩
      rw [wide_to hl]
      exact ih
theorem sum_filter_le (l : List Nat) (f : Nat → Int) (P Q : Nat → Bool) (h0 : ∀ x, 0 ≤ f x) (hPQ : ∀ x, P x = true → Q x = true) : ((l.filter P).map f).sum ≤ ((l.filter Q).map f).sum := by
  induction l with
  | nil => simp
  | cons a r ih =>
    rw [List.filter_cons, List.filter_cons]
    by_cases hp : P a = true
    · rw [if_pos hp, if_pos (hPQ a hp), List.map_cons, List.map_cons, List.sum_cons, List.sum_cons]
      omega
    · rw [if_neg hp]
      split
      · rw [List.map_cons, List.sum_cons]
        have := h0 a
        omega
      · exact ih
theorem wide_wt {k j : Nat} (hk : k < (own W p).length) (hj : j < (own W p).length) : wtK (wide W p k) 0 j ≤ wtK (wide W p k) 0 (swapK (own W p).length k j) := by
  unfold swapK
  split
  · rename_i h
    subst h
    rw [wtK_own ((wide_mem hk).mpr (by omega)), wtK_own ((wide_mem hk).mpr (by omega)), wide_frN, wide_fr hj]
    apply sum_filter_le
    · intro x
      exact N_nonneg _ _ _
    · intro x hx
      have : x < j := by simpa using hx
      exact decide_eq_true (by omega)
  · exact Int.le_refl _
theorem wide_sum {k : Nat} (hk : k < (own W p).length) : ∀ {way : List Nat}, (∀ j ∈ way, j < (own W p).length) → (way.map (wtK (wide W p k) 0)).sum ≤ ((way.map (swapK (own W p).length k)).map (wtK (wide W p k) 0)).sum
  | [], _ => Int.le_refl _
  | j :: r, h => by
    rw [List.map_cons, List.map_cons, List.map_cons, List.sum_cons, List.sum_cons]
    have h1 := wide_wt hk (h j (by simp))
    have h2 := wide_sum hk (way := r) fun x hx => h x (by simp [hx])
    omega
theorem N_pos (G : GoodWeb W) (hp : p < W.ps.length) : 1 ≤ N W p 0 := by
  have GP := G.part p hp
  obtain ⟨rk, R, _⟩ := GP.ranked
  have := GP.n2
  exact nway_pos R (GP.to1 0 (by omega))
end
end FC
namespace FC
open PySem PySem.Spec PyProof.Rows L2 Evl
/-! ### the heap without the purse -/
def hd (pu ce : Addr) (H : Hp) : Hp := fun b => if b = pu ∨ b = ce then none else H b
section
variable {pu ce : Addr} {H H' : Hp} {T : Nat}
theorem hd_at {a : Addr} (h1 : a ≠ pu) (h2 : a ≠ ce) : hd pu ce H a = H a := by
  unfold hd
  rw [if_neg (fun z => z.elim h1 h2)]
theorem hd_back : Ex (hd pu ce H) H := fun a o h => by
  unfold hd at h
  split at h
  · cases h
  · exact h
theorem hd_frm (f : Frm [pu, ce] H H') : Ex (hd pu ce H) (hd pu ce H') := fun a o h => by
  unfold hd at h ⊢
  split at h
  · cases h
  · rename_i hn
    rw [if_neg hn]
    exact f a o (by simpa using hn) h
theorem hd_ex (e : Ex H H') : Ex (hd pu ce H) (hd pu ce H') := hd_frm (Frm.of_ex e)
theorem frm_hd : Frm [pu, ce] H (hd pu ce H) := fun a o hn h => by
  rw [hd_at (fun z => hn (by simp [z])) (fun z => hn (by simp [z]))]
  exact h
theorem hd_new (P : Purse pu ce T H) {a : Addr} {o : HO} (n : H a = none) (h : H' a = some o) : hd pu ce H' a = some o := by
  have := P.new n
  rw [hd_at this.1 this.2]
  exact h
end
section
variable {K : PySem.W.Frag} {σ : L2.St} {H : Hp} {ta tb te : TE}
theorem go_forIt {tl : TE} {g : TG} {tu tz : TS} {D : Ends} (h : tl σ H fun x H1 => tSeq (tFor (iList K (tC x)) g tu) tz D σ H1) : tSeq (tFor (iList K tl) g tu) tz D σ H := h
theorem go_yes {A B : Hp → Prop} (h : A H) : tYes σ H (fun b H3 => if b = true then A H3 else B H3) := by
  show if true = true then A H else B H
  rw [if_pos rfl]
  exact h
theorem el_catN {a : Addr} {xs ys : List V} (ha : Ev ta σ H (.ref a)) (h1 : H a = some (.lst xs)) (hb : EvL tb σ H ys) (hz : xs.length + ys.length ≤ 5000) : EvL (tOp rCat ta tb) σ H (xs ++ ys) := by
  intro H1 e Q k
  refine ha H1 e _ fun H2 e2 => ?_
  refine hb H2 (e.trans e2) _ fun b H3 nb e3 h3 => ?_
  exact ⟨a, b, xs, ys, rfl, rfl, e3 _ _ (e2 _ _ (e _ _ h1)), h3, sz5 hz, fun p hp => k p _ (fresh_back (e2.trans e3) hp) ((e2.trans e3).trans (Ex.new hp)) upd_same⟩
theorem el_way_ofE {wa : Addr} {W : Web} {p : Nat} {t0 t1 t2 : TE} {num : Int} (hW : WebAt H wa W) (G : GoodWeb W) (hp : p < W.ps.length) (hn : 0 ≤ num) (hm : num < N W p 0) (h0 : Ev t0 σ H (.ref wa)) (h1 : Ev t1 σ H (.int (p : Int))) (h2 : Ev t2 σ H (.int num)) :
    EvL (tCall (sp_way_of K) [] E0 (tCons t0 (tCons t1 (tCons t2 tNil)))) σ H (iv (wayK W p 16 0 num)) := el_way_of hW G hp hn hm h0 h1 h2
theorem et_neF {a : Int} (ha : Ev ta σ H (.int a)) (hb : Ev tb σ H (.int a)) : EvT (tTest (tOp rNe ta tb)) σ H false := by
  refine et_is (et_test (ev_op ha hb (rv_ne (x := .int a) (y := .int a) (by rfl)))) ?_
  simp
theorem et_neLL {l m : List Int} (ha : EvL ta σ H (l.map V.int)) (hb : EvL tb σ H (m.map V.int)) (e : l = m) : EvT (tTest (tOp (rNeD K) ta tb)) σ H false := by
  refine et_is (et_test (ev_opLL ha hb fun p q H1 hp hq _ => rv_neL (sq_of hp) (sq_of hq))) ?_
  rw [decide_eq_true e]
  rfl
theorem ev_int1 {b : Bool} (h : Ev te σ H (.bl b)) : Ev (tCB rInt1 (tCons te tNil)) σ H (.int (if b then 1 else 0)) :=
  ev_cb (ea_cons h ea_nil) fun H1 e Q k => .inr ⟨b, rfl, k H1 (Ex.refl _)⟩
theorem iv_cast (l : List Nat) : iv l = (l.map fun (n : Nat) => (n : Int)).map V.int := by
  unfold iv
  rw [List.map_map]
  rfl
theorem ev_goesN {wa : Addr} {W : Web} {p : Nat} {t0 t1 t2 : TE} {way : List Nat} (hW : WebAt H wa W) (G : GoodWeb W) (hp : p < W.ps.length) (hw : IsWay W p 0 way) (h0 : Ev t0 σ H (.ref wa)) (h1 : Ev t1 σ H (.int (p : Int))) (h2 : EvL t2 σ H (iv way)) :
    Ev (tCall (sp_law_goes K) [] E0 (tCons t0 (tCons t1 (tCons t2 tNil)))) σ H (.bl true) := by
  intro H1 e Q k
  refine h0 H1 e _ fun H2 e2 => ?_
  refine h1 H2 (e.trans e2) _ fun H3 e3 => ?_
  refine h2 H3 (e.trans (e2.trans e3)) _ fun la H4 nl e4 hl => ?_
  have e6 := e2.trans (e3.trans e4)
  exact ⟨wa, W, p, la, way, rfl, hW.mono (e.trans e6), G, hp, hl, hw, fun H5 e5 => k H5 (e6.trans e5)⟩
theorem ev_through {wa : Addr} {W : Web} {p k : Nat} {t0 t1 t2 : TE} (hW : WebAt H wa W) (G : GoodWeb W) (hp : p < W.ps.length) (hk : k ∈ own W p) (h0 : Ev t0 σ H (.ref wa)) (h1 : Ev t1 σ H (.int (p : Int))) (h2 : Ev t2 σ H (.int (k : Int))) :
    Ev (tCall (sp_law_through K) [] E0 (tCons t0 (tCons t1 (tCons t2 tNil)))) σ H (.int (before (es W p) (W.fr k) * N W p (W.to k))) :=
  ev_call (ea_cons h0 (ea_cons h1 (ea_cons h2 ea_nil))) fun H1 e Q q E => ⟨wa, W, p, k, rfl, hW.mono e, G, hp, hk, q⟩
end
section
variable {K : PySem.W.Frag} {H : Hp} {vs : List V} {Q : VK} {E : XK}
theorem rd_law (h : sp_law K vs H Q E) : tr_law K { nx := fun _ H' => Q .non H', rt := Q } (start N_law vs) H := by
  obtain ⟨a, ns, rfl, hS, hns, k⟩ := h
  unfold tr_law
  refine go_asg (go_call (go_cons (go_var (v := .ref a) rfl ?_)))
  refine ⟨a, ns, rfl, hS, hns, fun H1 pu ce P1 => ?_⟩
  refine go_asg (go_call (go_cons (go_var (v := .ref pu) rfl (go_cons (go_c ?_)))))
  refine ⟨pu, ce, 0, rfl, P1, by omega, fun W wa H2 G h29 hW hWf P2 => ?_⟩
  have W2 : WebAt (hd pu ce H2) wa W := hWf _ frm_hd
  have np := G.np
  -- part
  refine go_asg ?_
  refine use_draw P2 (by omega) (n := (W.ps.length : Int)) (by omega) (by omega) (ev_var rfl) (ev_nplaces hW (ev_var rfl)) fun p H3 hp3 P3 f3 => ?_
  have hp : p < W.ps.length := by omega
  have W3 := W2.mono (hd_frm f3)
  have GP := G.part p hp
  have hA := alone_good G hp h29
  have hA0 : 0 < (alone W p).ps.length := by show 0 < 1; omega
  -- own, alone
  refine go_asgG (go_call (go_cons (go_var (v := .ref wa) rfl (go_cons (go_var (v := .int (p : Int)) rfl ?_)))))
  refine ⟨wa, W, p, rfl, W3.mono hd_back, G, hp, fun tp oa wb H4 e4 htp noa hoa hWb hst => ?_⟩
  refine ⟨tp, _, rfl, st_of htp, rfl, _, _, rfl, _, _, rfl, rfl, ?_⟩
  have P4 := P3.keep e4
  have W4 := W3.mono (hd_ex e4)
  have o4 : hd pu ce H4 oa = some (.lst (iv (own W p))) := hd_new P3 noa hoa
  have A4 : WebAt (hd pu ce H4) wb (alone W p) := hst _ fun a o na ha => hd_new P3 na ha
  -- many
  refine q_asg (ev_ways (W4.mono hd_back) G hp (ev_var rfl) (ev_var rfl)) fun H5 e5 => ?_
  have P5 := P4.keep e5
  have x45 := hd_ex (pu := pu) (ce := ce) e5
  -- worth
  refine q_asgL (el_worths ((W4.mono x45).mono hd_back) G hp (ev_var rfl) (ev_var rfl)) fun wo H6 nwo e6 hwo => ?_
  have P6 := P5.keep e6
  have x46 := x45.trans (hd_ex (pu := pu) (ce := ce) e6)
  have W6 := (W4.mono x46).mono hd_back
  have A6 := (A4.mono x46).mono hd_back
  have o6 := hd_back _ _ (x46 _ _ o4)
  have ol := own_len W p
  have hm := own_pos G hp
  have nr := G.nr
  refine q_when (b := false) (et_orF (et_neF (a := N W p 0) (ev_is (ev_ways A6 hA hA0 (ev_var rfl) ev_c) (congrArg V.int (alone_N 0))) (ev_var rfl)) ?_) (fun hb => by cases hb) (fun _ H7 e7 => ?_)
  · refine et_neLL (l := wtl (alone W p) 0) (m := (own W p).map (wtK W p)) (el_worths A6 hA hA0 (ev_var rfl) ev_c) ?_ ?_
    · have e1 : ((own W p).map (wtK W p)).map V.int = ((own W p).filter fun _ => true).map (fun k => V.int (wtK W p k)) := by
        rw [List.filter_eq_self.mpr (fun _ _ => rfl), List.map_map]
        rfl
      rw [e1]
      exact el_lcIvE (a := oa) (fun _ => true) _ (ev_var rfl) o6 (by omega) (fun x => rfl) (fun _ _ _ _ => et_yes) (fun kq Hq eq hq _ => ev_op (ev_var rfl) (ev_var rfl) (rv_ixL (sq_of (eq _ _ hwo)) (atI_nat (wtl_at (own_lt hq)))))
    · unfold wtl
      rw [alone_len]
      conv => rhs; rw [own_map]
      rw [List.map_map]
      apply List.map_congr_left
      intro j hj
      exact alone_wt (List.mem_range.mp hj)
  have P7 := P6.keep e7
  have x47 := x46.trans (hd_ex (pu := pu) (ce := ce) e7)
  have hN1 := N_pos G hp
  have hN2 := N_le (p := p) (q := 0) G
  have b200 : (2 : Int) ^ 100 < 2 ^ 200 := by decide
  -- for number in [0, many - 1] + [..]
  refine go_forIt (go_op ?_)
  apply use_L (xs := [.int 0, .int (N W p 0 - 1)])
  · exact el_lst (ea_cons ev_c (ea_cons (ev_op (ev_var rfl) ev_c rv_I0) ea_nil)) (by show 2 ≤ 100000; decide)
  intro la H8 nla e8 hla
  have P8 := P7.keep e8
  have nla' := P7.new nla
  show tLc (iRng1 (tCons (tC (.int 10)) tNil)) (gName 10) tYes (tCall (sp_law_draw K) [] E0 (tCons (tVar 1) (tCons (tVar 6) tNil))) [10] _ H8 _
  refine ⟨10, rfl, by decide, by decide, fun D hD => ?_⟩
  have nD := P8.new hD
  refine lc_range (lo := 0) (n := 10) (fun i H' => ∃ (xs : List Int), H' D = some (.lst (xs.map V.int)) ∧ xs.length = i ∧ (∀ x ∈ xs, 0 ≤ x ∧ x < N W p 0) ∧ Purse pu ce (2001 + i) H' ∧ Frm [pu, ce] H8 H')
    ⟨[], upd_same, rfl, by simp, P8.put nD.1 nD.2, Frm.refl.new hD⟩ (fun i H9 hi hI => ?_) (fun H9 hI => ?_)
  · obtain ⟨xs, hx, hxl, hxb, P9, f9⟩ := hI
    refine ⟨rfl, go_yes (A := fun H3 => tCall (sp_law_draw K) [] E0 (tCons (tVar 1) (tCons (tVar 6) tNil)) _ H3 _) ?_⟩
    refine use_draw P9 (by omega) (n := N W p 0) (by omega) (by omega) (ev_var rfl) (ev_var rfl) fun d H10 hd P10 f10 => ?_
    refine ⟨xs.map V.int, f10.at_ nD.1 nD.2 hx, sz5' (by rw [List.length_map]; omega), xs ++ [(d : Int)], ?_, by rw [List.length_append, hxl]; rfl, fun x hx => ?_, P10.put nD.1 nD.2, (f9.trans f10).new hD⟩
    · rw [upd_same, List.map_append]
      rfl
    · rw [List.mem_append, List.mem_singleton] at hx
      rcases hx with hx | rfl
      · exact hxb x hx
      · exact ⟨by omega, hd⟩
  obtain ⟨xs, hx, hxl, hxb, P9, f9⟩ := hI
  refine ⟨la, D, _, _, rfl, rfl, f9.at_ nla'.1 nla'.2 hla, hx, sz5 (by rw [List.length_map, hxl]; show 2 + 10 ≤ 5000; decide), fun q nq => ?_⟩
  have nq' := P9.new nq
  have hitems : ([.int 0, .int (N W p 0 - 1)] : List V) ++ xs.map V.int = ((0 : Int) :: (N W p 0 - 1) :: xs).map V.int := rfl
  rw [hitems]
  have hq : (upd H9 q (.lst (((0 : Int) :: (N W p 0 - 1) :: xs).map V.int))) q = some (.lst (((0 : Int) :: (N W p 0 - 1) :: xs).map V.int)) := upd_same
  have P10 := P9.put (o := .lst (((0 : Int) :: (N W p 0 - 1) :: xs).map V.int)) nq'.1 nq'.2
  have x410 : Ex (hd pu ce H4) (hd pu ce (upd H9 q (.lst (((0 : Int) :: (N W p 0 - 1) :: xs).map V.int)))) := x47.trans ((hd_ex e8).trans ((hd_frm f9).trans (hd_ex (Ex.new nq))))
  have hwo10 : (upd H9 q (.lst (((0 : Int) :: (N W p 0 - 1) :: xs).map V.int))) wo = some (.lst ((wtl W p).map V.int)) := by
    have n := P5.new nwo
    exact (Ex.new nq) _ _ (f9.at_ n.1 n.2 (e8 _ _ (e7 _ _ hwo)))
  have hitb : ∀ x ∈ ((0 : Int) :: (N W p 0 - 1) :: xs), 0 ≤ x ∧ x < N W p 0 := by
    intro x hx
    rcases List.mem_cons.mp hx with rfl | hx
    · exact ⟨by omega, by omega⟩
    rcases List.mem_cons.mp hx with rfl | hx
    · exact ⟨by omega, by omega⟩
    · exact hxb x hx
  generalize upd H9 q (.lst (((0 : Int) :: (N W p 0 - 1) :: xs).map V.int)) = H10 at hq P10 x410 hwo10
  generalize ((0 : Int) :: (N W p 0 - 1) :: xs) = items at hq hitb
  refine q_forLn (xs := items.map V.int) (a := q) ev_c (sq_of hq) (fun i σ' H' => ∃ (y8 y9 : Option V), σ' = [some (.ref a), some (.ref pu), some (.ref wa), some (.int (p : Int)), some (.ref oa), some (.ref wb), some (.int (N W p 0)), some (.ref wo), y8, y9, none, none, none, none] ∧ Ex H10 H')
    (fun H11 e11 => ⟨none, none, rfl, e11⟩) (fun i σ' H' _ hI => ?_) (fun i x σ' H' hx hI => ?_) (fun σ' H' hI => ?_)
  · obtain ⟨y8, y9, rfl, e⟩ := hI
    exact sq_of (e _ _ hq)
  · obtain ⟨y8, y9, rfl, e⟩ := hI
    rw [List.getElem?_map] at hx
    cases hg : items[i]? with
    | none => rw [hg] at hx; cases hx
    | some num =>
      rw [hg] at hx
      have ex : x = .int num := (Option.some.inj hx).symm
      subst ex
      obtain ⟨b0, b1⟩ := hitb num (List.mem_of_getElem? hg)
      have xx := x410.trans (hd_ex (pu := pu) (ce := ce) e)
      have A' := (A4.mono xx).mono hd_back
      have W' := (W4.mono xx).mono hd_back
      have o' := hd_back _ _ (xx _ _ o4)
      have hNA : num < N (alone W p) 0 0 := by rw [alone_N]; exact b1
      refine q_asgL (el_way_of A' hA hA0 b0 hNA (ev_var rfl) ev_c (ev_var rfl)) fun wy H12 nwy e12 hwy => ?_
      have hway := wayK_ok (W := alone W p) (p := 0) (hA.part 0 hA0) b0
      refine s_when (b := false) ?_ (fun hb => by cases hb) (fun _ H13 e13 => ⟨_, _, rfl, e.trans (e12.trans e13)⟩)
      refine et_neLL (l := (wayK W p 16 0 num).map fun (n : Nat) => (n : Int)) (m := ((wayK (alone W p) 0 16 0 num).map (ow W p)).map fun (n : Nat) => (n : Int)) ?_ ?_ (by rw [alone_way])
      · rw [← iv_cast]
        exact el_way_of (W'.mono e12) G hp b0 b1 (ev_var rfl) (ev_var rfl) (ev_var rfl)
      · rw [← iv_cast]
        have e1 : iv ((wayK (alone W p) 0 16 0 num).map (ow W p)) = ((wayK (alone W p) 0 16 0 num).filter fun _ => true).map (fun j => V.int (ow W p j : Int)) := by
          unfold iv
          rw [List.filter_eq_self.mpr (fun _ _ => rfl), List.map_map]
          rfl
        rw [e1]
        have hl16 := hway.len (hA.part 0 hA0) (by have := (hA.part 0 hA0).n2; omega)
        exact el_lcIvE (a := wy) (fun _ => true) _ (ev_var rfl) hwy (by omega) (fun x => rfl) (fun _ _ _ _ => et_yes) (fun j Hq eq hj _ => ev_op (ev_var rfl) (ev_var rfl) (rv_ixL (sq_of (eq _ _ (e12 _ _ o'))) (atI_nat (iv_get (ow_get (alone_mem.mp (hway.mem j hj)))))))
  obtain ⟨y8, y9, rfl, e11⟩ := hI
  -- k
  have P11 := P10.keep e11
  have x411 := x410.trans (hd_ex (pu := pu) (ce := ce) e11)
  have o11 := hd_back _ _ (x411 _ _ o4)
  have hlen : ∀ {σ : L2.St} {ta : TE} {H' : Hp}, Ev ta σ H' (.ref oa) → H' oa = some (.lst (iv (own W p))) → Ev (tCB (rLenS K) (tCons ta tNil)) σ H' (.int ((own W p).length : Int)) := fun ha hh => by
    have := ev_len (K := K) ha (sq_of hh)
    rwa [iv_len] at this
  refine go_asg ?_
  refine use_draw P11 (by omega) (n := ((own W p).length : Int)) (by omega) (by omega) (ev_var rfl) (hlen (ev_var rfl) o11) fun kk H12 hk12 P12 f12 => ?_
  have hk : kk < (own W p).length := by omega
  have x412 := x411.trans (hd_frm f12)
  -- wide
  have A12 := A4.mono x412
  obtain ⟨pa, ra, rr, a1, a2, a3, a4, a5⟩ := A12.ex
  have r1 := hd_back _ _ a1
  have r2 := hd_back _ _ a2
  have r3 := hd_back _ _ a3
  have hrl : rr.length = (own W p).length := by rw [a4, alone_len]
  have hkr : kk < rr.length := by omega
  have hgk : rr[kk]? = some rr[kk] := List.getElem?_eq_getElem hkr
  have hgk2 : (rr.map V.ref)[kk]? = some (.ref rr[kk]) := by
    rw [List.getElem?_map, hgk]
    rfl
  refine go_asg (go_tup2 ?_)
  apply use_L (xs := iv (alone W p).ps)
  · exact el_list (ev_op (ev_var rfl) ev_c (rv_ixT (K := K) (i := 0) (v := .ref pa) (st_of r1) rfl)) (sq_of r2)
  intro pa2 H13 npa2 e13 hpa2
  apply use_L (xs := (rr ++ [rr[kk]]).map V.ref)
  · rw [List.map_append]
    refine el_catN (ev_op (ev_var rfl) ev_c (rv_ixT (K := K) (i := 1) (v := .ref ra) (st_of (e13 _ _ r1)) rfl)) (e13 _ _ r3) (el_lst (vs := [.ref rr[kk]]) (ea_cons ?_ ea_nil) (by show 1 ≤ 100000; decide)) (by rw [List.length_map, hrl]; show (own W p).length + 1 ≤ 5000; omega)
    exact ev_op (ev_op (ev_var rfl) ev_c (rv_ixT (K := K) (i := 1) (v := .ref ra) (st_of (e13 _ _ r1)) rfl)) (ev_var rfl) (rv_ixL (sq_of (e13 _ _ r3)) (atI_nat hgk2))
  intro ra2 H14 nra2 e14 hra2
  refine ⟨by show 2 ≤ sizeLine; decide, fun wd nwd => ?_⟩
  have e15 : Ex H14 (upd H14 wd (.tup [.ref pa2, .ref ra2])) := Ex.new nwd
  have P13 := P12.keep e13
  have P14 := P13.keep e14
  have P15 := P14.keep e15
  have x1215 : Ex (hd pu ce H12) (hd pu ce (upd H14 wd (.tup [.ref pa2, .ref ra2]))) := hd_ex (e13.trans (e14.trans e15))
  have x415 := x412.trans x1215
  have B15 : WebAt (hd pu ce (upd H14 wd (.tup [.ref pa2, .ref ra2]))) wd (wide W p kk) := by
    refine ⟨pa2, ra2, rr ++ [rr[kk]], hd_new P14 nwd upd_same, hd_new P12 npa2 (e15 _ _ (e14 _ _ hpa2)), hd_new P13 nra2 (e15 _ _ hra2), ?_, fun i q r hi hr => ?_⟩
    · rw [List.length_append, hrl, wide_len]
      rfl
    · unfold wide at hr
      by_cases hil : i < rr.length
      · rw [List.getElem?_append_left hil] at hi
        rw [List.getElem?_append_left (by rw [← a4]; exact hil)] at hr
        exact x1215 _ _ (a5 i q r hi hr)
      · rw [List.getElem?_append_right (by omega)] at hi
        rw [List.getElem?_append_right (by rw [← a4]; omega), ← a4] at hr
        have h0 : i - rr.length = 0 := by
          have := (List.getElem?_eq_some_iff.mp hi).1
          simp at this
          omega
        rw [h0] at hi hr
        have eq1 : q = rr[kk] := (Option.some.inj hi).symm
        have eq2 : r = (alone W p).row kk := (Option.some.inj hr).symm
        subst eq1 eq2
        exact x1215 _ _ (a5 kk _ _ hgk (row_get' (by rw [alone_len]; exact hk)))
  generalize upd H14 wd (.tup [.ref pa2, .ref ra2]) = H15 at P15 x415 B15
  have hB := wide_good G hp h29 hk
  have hB0 : 0 < (wide W p kk).ps.length := by show 0 < 1; omega
  have W15 := (W4.mono x415).mono hd_back
  have o15 := hd_back _ _ (x415 _ _ o4)
  -- the count
  refine q_when (b := false) (et_neF (a := N (wide W p kk) 0 0) (ev_ways (B15.mono hd_back) hB hB0 (ev_var rfl) ev_c) (ev_is (ev_op (ev_var rfl) (ev_through W15 G hp (ow_mem hk) (ev_var rfl) (ev_var rfl) (ev_op (ev_var rfl) (ev_var rfl) (rv_ixL (sq_of o15) (atI_nat (iv_get (ow_get hk)))))) rv_I0) (congrArg V.int (wide_N G hp hk).symm))) (fun hb => by cases hb) (fun _ H16 e16 => ?_)
  have P16 := P15.keep e16
  have x1516 := hd_ex (pu := pu) (ce := ce) e16
  -- way
  refine go_asg (go_call (go_cons (go_var (v := .ref wb) rfl (go_cons (go_c (go_cons ?_))))))
  refine use_draw P16 (by omega) (n := N W p 0) (by omega) (by omega) (ev_var rfl) (ev_var rfl) fun d H17 hd17 P17 f17 => ?_
  have x1517 := x1516.trans (hd_frm f17)
  have A17 := (A4.mono (x415.trans x1517)).mono hd_back
  have hdA : (d : Int) < N (alone W p) 0 0 := by rw [alone_N]; exact hd17
  refine ⟨wb, alone W p, 0, (d : Int), rfl, A17, hA, hA0, by omega, hdA, fun wy H18 nwy e18 hwy => ?_⟩
  have x1518 := x1517.trans (hd_ex e18)
  have o18 := hd_back _ _ ((x415.trans x1518) _ _ o4)
  have hway := wayK_ok (W := alone W p) (p := 0) (hA.part 0 hA0) (num := (d : Int)) (by omega)
  have hl16 := hway.len (hA.part 0 hA0) (by have := (hA.part 0 hA0).n2; omega)
  have hlt : ∀ j ∈ wayK (alone W p) 0 16 0 (d : Int), j < (own W p).length := fun j hj => alone_mem.mp (hway.mem j hj)
  generalize wayK (alone W p) 0 16 0 (d : Int) = way at hwy hway hl16 hlt
  -- longer
  refine q_asgL (xs := iv (way.map (swapK (own W p).length kk))) ?_ fun lo H19 nlo e19 hlo => ?_
  · have e1 : iv (way.map (swapK (own W p).length kk)) = (way.filter fun _ => true).map (fun j => V.int (swapK (own W p).length kk j : Int)) := by
      unfold iv
      rw [List.filter_eq_self.mpr (fun _ _ => rfl), List.map_map]
      rfl
    rw [e1]
    refine el_lcIvE (a := wy) (fun _ => true) _ (ev_var rfl) hwy (by omega) (fun x => rfl) (fun _ _ _ _ => et_yes) (fun j Hq eq hj _ => ?_)
    refine ev_opL1 (xs := iv [j, (own W p).length]) (y := .int (if decide (j = kk) then 1 else 0)) (el_lst (vs := iv [j, (own W p).length]) (ea_cons (ev_var rfl) (ea_cons (hlen (ev_var rfl) (eq _ _ o18)) ea_nil)) (by show 2 ≤ 100000; decide)) (fun H1 e1 => ev_int1 (ev_is (ev_op (x := .int (j : Int)) (y := .int (kk : Int)) (ev_var rfl) (ev_var rfl) (rv_eq (by rfl))) (congrArg V.bl dec_nat))) (fun q H1 hq e1 => rv_ixL (sq_of hq) ?_)
    unfold swapK
    by_cases hj2 : j = kk
    · rw [if_pos hj2, decide_eq_true hj2]
      exact atI_nat (j := 1) rfl
    · rw [if_neg hj2, decide_eq_false hj2]
      exact atI_nat (j := 0) rfl
  have x1519 := x1518.trans (hd_ex (pu := pu) (ce := ce) e19)
  have B19 := (B15.mono x1519).mono hd_back
  refine q_when (b := false) (et_ltF (ev_number_of B19 hB hB0 hlo (wide_long hk hway) (ev_var rfl) ev_c (ev_var rfl)) (ev_number_of B19 hB hB0 (e19 _ _ hwy) (wide_way hk hway) (ev_var rfl) ev_c (ev_var rfl)) ?_) (fun hb => by cases hb) (fun _ H20 e20 => ?_)
  · have := wide_sum hk hlt
    omega
  have B20 := B19.mono e20
  have hNB := N_pos hB hB0
  refine s_ret (v := .bl true) (ev_goesN B20 hB hB0 (wayK_ok (hB.part 0 hB0) (num := N (wide W p kk) 0 0 - 1) (by omega)) (ev_var rfl) ev_c (el_way_ofE B20 hB hB0 (by omega) (by omega) (ev_var rfl) ev_c (ev_op (ev_ways B20 hB hB0 (ev_var rfl) ev_c) ev_c rv_I0))) fun H21 e21 => k H21
end
end FC
namespace FC
open PySem PySem.Spec PyProof.Rows L2
section
variable {P : Program} {w : World} {K : PySem.W.Frag} {mg : Str → Option Value} {base : Heap}
theorem ok_rows_of (T : Txt K mg) (d : D1 K mg "rows_of" s_rows_of ["web", "part"]) : Cal P w K mg base 1 "rows_of" ["web", "part"] (sp_rows_of K) := by
  obtain ⟨f, fd, F, b, g⟩ := d
  exact ⟨f, fd, F.ok (k := 0) sc_rows_of (fun vs H Q E h => by first | (obtain ⟨_, rfl, _⟩ := h; rfl) | (obtain ⟨_, _, rfl, _⟩ := h; rfl) | (obtain ⟨_, _, _, rfl, _⟩ := h; rfl) | (obtain ⟨_, _, _, _, rfl, _⟩ := h; rfl) | (obtain ⟨_, _, _, _, _, rfl, _⟩ := h; rfl) | (obtain ⟨_, _, _, _, _, _, rfl, _⟩ := h; rfl) | (obtain ⟨_, _, _, _, _, _, _, rfl, _⟩ := h; rfl) | (obtain ⟨_, _, _, _, _, _, _, _, rfl, _⟩ := h; rfl)) (fun cdv A outer s H vs Q E hr h => ⟨_, der_rows_of T (Nat.le_refl _) hr, rd_rows_of h⟩), b, F.kp, g⟩
theorem ok_fits_row (T : Txt K mg) (d : D1 K mg "fits_row" s_fits_row ["web", "row"]) : Cal P w K mg base 1 "fits_row" ["web", "row"] (sp_fits_row K) := by
  obtain ⟨f, fd, F, b, g⟩ := d
  exact ⟨f, fd, F.ok (k := 0) sc_fits_row (fun vs H Q E h => by first | (obtain ⟨_, rfl, _⟩ := h; rfl) | (obtain ⟨_, _, rfl, _⟩ := h; rfl) | (obtain ⟨_, _, _, rfl, _⟩ := h; rfl) | (obtain ⟨_, _, _, _, rfl, _⟩ := h; rfl) | (obtain ⟨_, _, _, _, _, rfl, _⟩ := h; rfl) | (obtain ⟨_, _, _, _, _, _, rfl, _⟩ := h; rfl) | (obtain ⟨_, _, _, _, _, _, _, rfl, _⟩ := h; rfl) | (obtain ⟨_, _, _, _, _, _, _, _, rfl, _⟩ := h; rfl)) (fun cdv A outer s H vs Q E hr h => ⟨_, der_fits_row T (Nat.le_refl _) hr, rd_fits_row h⟩), b, F.kp, g⟩
theorem ok_law_purse (T : Txt K mg) (d : D1 K mg "_law_purse" s_law_purse ["_law_script"]) : Cal P w K mg base 1 "_law_purse" ["_law_script"] (sp_law_purse K) := by
  obtain ⟨f, fd, F, b, g⟩ := d
  exact ⟨f, fd, F.ok (k := 0) sc_law_purse (fun vs H Q E h => by first | (obtain ⟨_, rfl, _⟩ := h; rfl) | (obtain ⟨_, _, rfl, _⟩ := h; rfl) | (obtain ⟨_, _, _, rfl, _⟩ := h; rfl) | (obtain ⟨_, _, _, _, rfl, _⟩ := h; rfl) | (obtain ⟨_, _, _, _, _, rfl, _⟩ := h; rfl) | (obtain ⟨_, _, _, _, _, _, rfl, _⟩ := h; rfl) | (obtain ⟨_, _, _, _, _, _, _, rfl, _⟩ := h; rfl) | (obtain ⟨_, _, _, _, _, _, _, _, rfl, _⟩ := h; rfl)) (fun cdv A outer s H vs Q E hr h => ⟨_, der_law_purse T (Nat.le_refl _) hr, rd_law_purse h⟩), b, F.kp, g⟩
theorem ok_law_draw (T : Txt K mg) (d : D1 K mg "_law_draw" s_law_draw ["_law_purse_here", "_law_out_of"]) : Cal P w K mg base 1 "_law_draw" ["_law_purse_here", "_law_out_of"] (sp_law_draw K) := by
  obtain ⟨f, fd, F, b, g⟩ := d
  exact ⟨f, fd, F.ok (k := 0) sc_law_draw (fun vs H Q E h => by first | (obtain ⟨_, rfl, _⟩ := h; rfl) | (obtain ⟨_, _, rfl, _⟩ := h; rfl) | (obtain ⟨_, _, _, rfl, _⟩ := h; rfl) | (obtain ⟨_, _, _, _, rfl, _⟩ := h; rfl) | (obtain ⟨_, _, _, _, _, rfl, _⟩ := h; rfl) | (obtain ⟨_, _, _, _, _, _, rfl, _⟩ := h; rfl) | (obtain ⟨_, _, _, _, _, _, _, rfl, _⟩ := h; rfl) | (obtain ⟨_, _, _, _, _, _, _, _, rfl, _⟩ := h; rfl)) (fun cdv A outer s H vs Q E hr h => ⟨_, der_law_draw T (Nat.le_refl _) hr, rd_law_draw h⟩), b, F.kp, g⟩
theorem ok_law_from (T : Txt K mg) (d : D1 K mg "_law_from" s_law_from ["_law_web_here", "_law_part_here", "_law_place"]) : Cal P w K mg base 1 "_law_from" ["_law_web_here", "_law_part_here", "_law_place"] (sp_law_from K) := by
  obtain ⟨f, fd, F, b, g⟩ := d
  exact ⟨f, fd, F.ok (k := 0) sc_law_from (fun vs H Q E h => by first | (obtain ⟨_, rfl, _⟩ := h; rfl) | (obtain ⟨_, _, rfl, _⟩ := h; rfl) | (obtain ⟨_, _, _, rfl, _⟩ := h; rfl) | (obtain ⟨_, _, _, _, rfl, _⟩ := h; rfl) | (obtain ⟨_, _, _, _, _, rfl, _⟩ := h; rfl) | (obtain ⟨_, _, _, _, _, _, rfl, _⟩ := h; rfl) | (obtain ⟨_, _, _, _, _, _, _, rfl, _⟩ := h; rfl) | (obtain ⟨_, _, _, _, _, _, _, _, rfl, _⟩ := h; rfl)) (fun cdv A outer s H vs Q E hr h => ⟨_, der_law_from T (Nat.le_refl _) hr, rd_law_from h⟩), b, F.kp, g⟩
theorem ok_law_alone (T : Txt K mg) (d : D1 K mg "_law_alone" s_law_alone ["_law_web_here", "_law_part_here"]) : Cal P w K mg base 1 "_law_alone" ["_law_web_here", "_law_part_here"] (sp_law_alone K) := by
  obtain ⟨f, fd, F, b, g⟩ := d
  exact ⟨f, fd, F.ok (k := 0) sc_law_alone (fun vs H Q E h => by first | (obtain ⟨_, rfl, _⟩ := h; rfl) | (obtain ⟨_, _, rfl, _⟩ := h; rfl) | (obtain ⟨_, _, _, rfl, _⟩ := h; rfl) | (obtain ⟨_, _, _, _, rfl, _⟩ := h; rfl) | (obtain ⟨_, _, _, _, _, rfl, _⟩ := h; rfl) | (obtain ⟨_, _, _, _, _, _, rfl, _⟩ := h; rfl) | (obtain ⟨_, _, _, _, _, _, _, rfl, _⟩ := h; rfl) | (obtain ⟨_, _, _, _, _, _, _, _, rfl, _⟩ := h; rfl)) (fun cdv A outer s H vs Q E hr h => ⟨_, der_law_alone T (Nat.le_refl _) hr, rd_law_alone h⟩), b, F.kp, g⟩
theorem ok_reached (T : Txt K mg) (d : D1 K mg "reached" s_reached ["web", "part", "start", "turned"]) (c_rows_of : Cal P w K mg base 1 "rows_of" ["web", "part"] (sp_rows_of K)) : Cal P w K mg base 2 "reached" ["web", "part", "start", "turned"] (sp_reached K) := by
  obtain ⟨f, fd, F, b, g⟩ := d
  exact ⟨f, fd, F.ok (k := 1) sc_reached (fun vs H Q E h => by first | (obtain ⟨_, rfl, _⟩ := h; rfl) | (obtain ⟨_, _, rfl, _⟩ := h; rfl) | (obtain ⟨_, _, _, rfl, _⟩ := h; rfl) | (obtain ⟨_, _, _, _, rfl, _⟩ := h; rfl) | (obtain ⟨_, _, _, _, _, rfl, _⟩ := h; rfl) | (obtain ⟨_, _, _, _, _, _, rfl, _⟩ := h; rfl) | (obtain ⟨_, _, _, _, _, _, _, rfl, _⟩ := h; rfl) | (obtain ⟨_, _, _, _, _, _, _, _, rfl, _⟩ := h; rfl)) (fun cdv A outer s H vs Q E hr h => ⟨_, der_reached T c_rows_of (Nat.le_refl _) hr, rd_reached h⟩), b, F.kp, g⟩
theorem ok_led_to (T : Txt K mg) (d : D1 K mg "led_to" s_led_to ["web", "part", "some"]) (c_rows_of : Cal P w K mg base 1 "rows_of" ["web", "part"] (sp_rows_of K)) : Cal P w K mg base 2 "led_to" ["web", "part", "some"] (sp_led_to K) := by
  obtain ⟨f, fd, F, b, g⟩ := d
  exact ⟨f, fd, F.ok (k := 1) sc_led_to (fun vs H Q E h => by first | (obtain ⟨_, rfl, _⟩ := h; rfl) | (obtain ⟨_, _, rfl, _⟩ := h; rfl) | (obtain ⟨_, _, _, rfl, _⟩ := h; rfl) | (obtain ⟨_, _, _, _, rfl, _⟩ := h; rfl) | (obtain ⟨_, _, _, _, _, rfl, _⟩ := h; rfl) | (obtain ⟨_, _, _, _, _, _, rfl, _⟩ := h; rfl) | (obtain ⟨_, _, _, _, _, _, _, rfl, _⟩ := h; rfl) | (obtain ⟨_, _, _, _, _, _, _, _, rfl, _⟩ := h; rfl)) (fun cdv A outer s H vs Q E hr h => ⟨_, der_led_to T c_rows_of (Nat.le_refl _) hr, rd_led_to h⟩), b, F.kp, g⟩
theorem ok_rows_from (T : Txt K mg) (d : D1 K mg "rows_from" s_rows_from ["web", "part", "place"]) (c_rows_of : Cal P w K mg base 1 "rows_of" ["web", "part"] (sp_rows_of K)) : Cal P w K mg base 2 "rows_from" ["web", "part", "place"] (sp_rows_from K) := by
  obtain ⟨f, fd, F, b, g⟩ := d
  exact ⟨f, fd, F.ok (k := 1) sc_rows_from (fun vs H Q E h => by first | (obtain ⟨_, rfl, _⟩ := h; rfl) | (obtain ⟨_, _, rfl, _⟩ := h; rfl) | (obtain ⟨_, _, _, rfl, _⟩ := h; rfl) | (obtain ⟨_, _, _, _, rfl, _⟩ := h; rfl) | (obtain ⟨_, _, _, _, _, rfl, _⟩ := h; rfl) | (obtain ⟨_, _, _, _, _, _, rfl, _⟩ := h; rfl) | (obtain ⟨_, _, _, _, _, _, _, rfl, _⟩ := h; rfl) | (obtain ⟨_, _, _, _, _, _, _, _, rfl, _⟩ := h; rfl)) (fun cdv A outer s H vs Q E hr h => ⟨_, der_rows_from T c_rows_of (Nat.le_refl _) hr, rd_rows_from h⟩), b, F.kp, g⟩
theorem ok_law_order (T : Txt K mg) (d : D1 K mg "_law_order" s_law_order ["_law_purse_here", "_law_many"]) (c_law_draw : Cal P w K mg base 1 "_law_draw" ["_law_purse_here", "_law_out_of"] (sp_law_draw K)) : Cal P w K mg base 2 "_law_order" ["_law_purse_here", "_law_many"] (sp_law_order K) := by
  obtain ⟨f, fd, F, b, g⟩ := d
  exact ⟨f, fd, F.ok (k := 1) sc_law_order (fun vs H Q E h => by first | (obtain ⟨_, rfl, _⟩ := h; rfl) | (obtain ⟨_, _, rfl, _⟩ := h; rfl) | (obtain ⟨_, _, _, rfl, _⟩ := h; rfl) | (obtain ⟨_, _, _, _, rfl, _⟩ := h; rfl) | (obtain ⟨_, _, _, _, _, rfl, _⟩ := h; rfl) | (obtain ⟨_, _, _, _, _, _, rfl, _⟩ := h; rfl) | (obtain ⟨_, _, _, _, _, _, _, rfl, _⟩ := h; rfl) | (obtain ⟨_, _, _, _, _, _, _, _, rfl, _⟩ := h; rfl)) (fun cdv A outer s H vs Q E hr h => ⟨_, der_law_order T c_law_draw (Nat.le_refl _) hr, rd_law_order h⟩), b, F.kp, g⟩
theorem ok_law_called (T : Txt K mg) (d : D1 K mg "_law_called" s_law_called ["_law_purse_here", "_law_rows", "_law_parts"]) (c_law_draw : Cal P w K mg base 1 "_law_draw" ["_law_purse_here", "_law_out_of"] (sp_law_draw K)) : Cal P w K mg base 2 "_law_called" ["_law_purse_here", "_law_rows", "_law_parts"] (sp_law_called K) := by
  obtain ⟨f, fd, F, b, g⟩ := d
  exact ⟨f, fd, F.ok (k := 1) sc_law_called (fun vs H Q E h => by first | (obtain ⟨_, rfl, _⟩ := h; rfl) | (obtain ⟨_, _, rfl, _⟩ := h; rfl) | (obtain ⟨_, _, _, rfl, _⟩ := h; rfl) | (obtain ⟨_, _, _, _, rfl, _⟩ := h; rfl) | (obtain ⟨_, _, _, _, _, rfl, _⟩ := h; rfl) | (obtain ⟨_, _, _, _, _, _, rfl, _⟩ := h; rfl) | (obtain ⟨_, _, _, _, _, _, _, rfl, _⟩ := h; rfl) | (obtain ⟨_, _, _, _, _, _, _, _, rfl, _⟩ := h; rfl)) (fun cdv A outer s H vs Q E hr h => ⟨_, der_law_called T c_law_draw (Nat.le_refl _) hr, rd_law_called h⟩), b, F.kp, g⟩
theorem ok_law_on (T : Txt K mg) (d : D1 K mg "_law_on" s_law_on ["_law_web_here", "_law_part_here"]) (c_law_from : Cal P w K mg base 1 "_law_from" ["_law_web_here", "_law_part_here", "_law_place"] (sp_law_from K)) : Cal P w K mg base 2 "_law_on" ["_law_web_here", "_law_part_here"] (sp_law_on K) := by
  obtain ⟨f, fd, F, b, g⟩ := d
  exact ⟨f, fd, F.ok (k := 1) sc_law_on (fun vs H Q E h => by first | (obtain ⟨_, rfl, _⟩ := h; rfl) | (obtain ⟨_, _, rfl, _⟩ := h; rfl) | (obtain ⟨_, _, _, rfl, _⟩ := h; rfl) | (obtain ⟨_, _, _, _, rfl, _⟩ := h; rfl) | (obtain ⟨_, _, _, _, _, rfl, _⟩ := h; rfl) | (obtain ⟨_, _, _, _, _, _, rfl, _⟩ := h; rfl) | (obtain ⟨_, _, _, _, _, _, _, rfl, _⟩ := h; rfl) | (obtain ⟨_, _, _, _, _, _, _, _, rfl, _⟩ := h; rfl)) (fun cdv A outer s H vs Q E hr h => ⟨_, der_law_on T c_law_from (Nat.le_refl _) hr, rd_law_on h⟩), b, F.kp, g⟩
theorem ok_law_goes (T : Txt K mg) (d : D1 K mg "_law_goes" s_law_goes ["_law_web_here", "_law_part_here", "_law_rows"]) (c_law_from : Cal P w K mg base 1 "_law_from" ["_law_web_here", "_law_part_here", "_law_place"] (sp_law_from K)) : Cal P w K mg base 2 "_law_goes" ["_law_web_here", "_law_part_here", "_law_rows"] (sp_law_goes K) := by
  obtain ⟨f, fd, F, b, g⟩ := d
  exact ⟨f, fd, F.ok (k := 1) sc_law_goes (fun vs H Q E h => by first | (obtain ⟨_, rfl, _⟩ := h; rfl) | (obtain ⟨_, _, rfl, _⟩ := h; rfl) | (obtain ⟨_, _, _, rfl, _⟩ := h; rfl) | (obtain ⟨_, _, _, _, rfl, _⟩ := h; rfl) | (obtain ⟨_, _, _, _, _, rfl, _⟩ := h; rfl) | (obtain ⟨_, _, _, _, _, _, rfl, _⟩ := h; rfl) | (obtain ⟨_, _, _, _, _, _, _, rfl, _⟩ := h; rfl) | (obtain ⟨_, _, _, _, _, _, _, _, rfl, _⟩ := h; rfl)) (fun cdv A outer s H vs Q E hr h => ⟨_, der_law_goes T c_law_from (Nat.le_refl _) hr, rd_law_goes h⟩), b, F.kp, g⟩
theorem ok_is_web (T : Txt K mg) (d : D1 K mg "is_web" s_is_web ["web"]) (c_fits_row : Cal P w K mg base 1 "fits_row" ["web", "row"] (sp_fits_row K)) (c_reached : Cal P w K mg base 2 "reached" ["web", "part", "start", "turned"] (sp_reached K)) : Cal P w K mg base 3 "is_web" ["web"] (sp_is_web K) := by
  obtain ⟨f, fd, F, b, g⟩ := d
  exact ⟨f, fd, F.ok (k := 2) sc_is_web (fun vs H Q E h => by first | (obtain ⟨_, rfl, _⟩ := h; rfl) | (obtain ⟨_, _, rfl, _⟩ := h; rfl) | (obtain ⟨_, _, _, rfl, _⟩ := h; rfl) | (obtain ⟨_, _, _, _, rfl, _⟩ := h; rfl) | (obtain ⟨_, _, _, _, _, rfl, _⟩ := h; rfl) | (obtain ⟨_, _, _, _, _, _, rfl, _⟩ := h; rfl) | (obtain ⟨_, _, _, _, _, _, _, rfl, _⟩ := h; rfl) | (obtain ⟨_, _, _, _, _, _, _, _, rfl, _⟩ := h; rfl)) (fun cdv A outer s H vs Q E hr h => ⟨_, der_is_web T c_fits_row c_reached (Nat.le_refl _) hr, rd_is_web h⟩), b, F.kp, g⟩
theorem ok_order_of (T : Txt K mg) (d : D1 K mg "order_of" s_order_of ["web", "part"]) (c_led_to : Cal P w K mg base 2 "led_to" ["web", "part", "some"] (sp_led_to K)) : Cal P w K mg base 3 "order_of" ["web", "part"] (sp_order_of K) := by
  obtain ⟨f, fd, F, b, g⟩ := d
  exact ⟨f, fd, F.ok (k := 2) sc_order_of (fun vs H Q E h => by first | (obtain ⟨_, rfl, _⟩ := h; rfl) | (obtain ⟨_, _, rfl, _⟩ := h; rfl) | (obtain ⟨_, _, _, rfl, _⟩ := h; rfl) | (obtain ⟨_, _, _, _, rfl, _⟩ := h; rfl) | (obtain ⟨_, _, _, _, _, rfl, _⟩ := h; rfl) | (obtain ⟨_, _, _, _, _, _, rfl, _⟩ := h; rfl) | (obtain ⟨_, _, _, _, _, _, _, rfl, _⟩ := h; rfl) | (obtain ⟨_, _, _, _, _, _, _, _, rfl, _⟩ := h; rfl)) (fun cdv A outer s H vs Q E hr h => ⟨_, der_order_of T c_led_to (Nat.le_refl _) hr, rd_order_of h⟩), b, F.kp, g⟩
theorem ok_is_going (T : Txt K mg) (d : D1 K mg "is_going" s_is_going ["web", "part", "rows"]) (c_rows_from : Cal P w K mg base 2 "rows_from" ["web", "part", "place"] (sp_rows_from K)) : Cal P w K mg base 3 "is_going" ["web", "part", "rows"] (sp_is_going K) := by
  obtain ⟨f, fd, F, b, g⟩ := d
  exact ⟨f, fd, F.ok (k := 2) sc_is_going (fun vs H Q E h => by first | (obtain ⟨_, rfl, _⟩ := h; rfl) | (obtain ⟨_, _, rfl, _⟩ := h; rfl) | (obtain ⟨_, _, _, rfl, _⟩ := h; rfl) | (obtain ⟨_, _, _, _, rfl, _⟩ := h; rfl) | (obtain ⟨_, _, _, _, _, rfl, _⟩ := h; rfl) | (obtain ⟨_, _, _, _, _, _, rfl, _⟩ := h; rfl) | (obtain ⟨_, _, _, _, _, _, _, rfl, _⟩ := h; rfl) | (obtain ⟨_, _, _, _, _, _, _, _, rfl, _⟩ := h; rfl)) (fun cdv A outer s H vs Q E hr h => ⟨_, der_is_going T c_rows_from (Nat.le_refl _) hr, rd_is_going h⟩), b, F.kp, g⟩
theorem ok_way_by (T : Txt K mg) (d : D1 K mg "way_by" s_way_by ["web", "part", "worth", "number"]) (c_rows_from : Cal P w K mg base 2 "rows_from" ["web", "part", "place"] (sp_rows_from K)) : Cal P w K mg base 3 "way_by" ["web", "part", "worth", "number"] (sp_way_by K) := by
  obtain ⟨f, fd, F, b, g⟩ := d
  exact ⟨f, fd, F.ok (k := 2) sc_way_by (fun vs H Q E h => by first | (obtain ⟨_, rfl, _⟩ := h; rfl) | (obtain ⟨_, _, rfl, _⟩ := h; rfl) | (obtain ⟨_, _, _, rfl, _⟩ := h; rfl) | (obtain ⟨_, _, _, _, rfl, _⟩ := h; rfl) | (obtain ⟨_, _, _, _, _, rfl, _⟩ := h; rfl) | (obtain ⟨_, _, _, _, _, _, rfl, _⟩ := h; rfl) | (obtain ⟨_, _, _, _, _, _, _, rfl, _⟩ := h; rfl) | (obtain ⟨_, _, _, _, _, _, _, _, rfl, _⟩ := h; rfl)) (fun cdv A outer s H vs Q E hr h => ⟨_, der_way_by T c_rows_from (Nat.le_refl _) hr, rd_way_by h⟩), b, F.kp, g⟩
theorem ok_law_part (T : Txt K mg) (d : D1 K mg "_law_part" s_law_part ["_law_purse_here", "_law_many", "_law_loose"]) (c_law_draw : Cal P w K mg base 1 "_law_draw" ["_law_purse_here", "_law_out_of"] (sp_law_draw K)) (c_law_order : Cal P w K mg base 2 "_law_order" ["_law_purse_here", "_law_many"] (sp_law_order K)) : Cal P w K mg base 3 "_law_part" ["_law_purse_here", "_law_many", "_law_loose"] (sp_law_part K) := by
  obtain ⟨f, fd, F, b, g⟩ := d
  exact ⟨f, fd, F.ok (k := 2) sc_law_part (fun vs H Q E h => by first | (obtain ⟨_, rfl, _⟩ := h; rfl) | (obtain ⟨_, _, rfl, _⟩ := h; rfl) | (obtain ⟨_, _, _, rfl, _⟩ := h; rfl) | (obtain ⟨_, _, _, _, rfl, _⟩ := h; rfl) | (obtain ⟨_, _, _, _, _, rfl, _⟩ := h; rfl) | (obtain ⟨_, _, _, _, _, _, rfl, _⟩ := h; rfl) | (obtain ⟨_, _, _, _, _, _, _, rfl, _⟩ := h; rfl) | (obtain ⟨_, _, _, _, _, _, _, _, rfl, _⟩ := h; rfl)) (fun cdv A outer s H vs Q E hr h => ⟨_, der_law_part T c_law_draw c_law_order (Nat.le_refl _) hr, rd_law_part h⟩), b, F.kp, g⟩
theorem ok_law_through (T : Txt K mg) (d : D1 K mg "_law_through" s_law_through ["_law_web_here", "_law_part_here", "_law_k"]) (c_law_on : Cal P w K mg base 2 "_law_on" ["_law_web_here", "_law_part_here"] (sp_law_on K)) : Cal P w K mg base 3 "_law_through" ["_law_web_here", "_law_part_here", "_law_k"] (sp_law_through K) := by
  obtain ⟨f, fd, F, b, g⟩ := d
  exact ⟨f, fd, F.ok (k := 2) sc_law_through (fun vs H Q E h => by first | (obtain ⟨_, rfl, _⟩ := h; rfl) | (obtain ⟨_, _, rfl, _⟩ := h; rfl) | (obtain ⟨_, _, _, rfl, _⟩ := h; rfl) | (obtain ⟨_, _, _, _, rfl, _⟩ := h; rfl) | (obtain ⟨_, _, _, _, _, rfl, _⟩ := h; rfl) | (obtain ⟨_, _, _, _, _, _, rfl, _⟩ := h; rfl) | (obtain ⟨_, _, _, _, _, _, _, rfl, _⟩ := h; rfl) | (obtain ⟨_, _, _, _, _, _, _, _, rfl, _⟩ := h; rfl)) (fun cdv A outer s H vs Q E hr h => ⟨_, der_law_through T c_law_on (Nat.le_refl _) hr, rd_law_through h⟩), b, F.kp, g⟩
theorem ok_must_be_web (T : Txt K mg) (d : D1 K mg "must_be_web" s_must_be_web ["web"]) (c_is_web : Cal P w K mg base 3 "is_web" ["web"] (sp_is_web K)) : Cal P w K mg base 4 "must_be_web" ["web"] (sp_must_be_web K) := by
  obtain ⟨f, fd, F, b, g⟩ := d
  exact ⟨f, fd, F.ok (k := 3) sc_must_be_web (fun vs H Q E h => by first | (obtain ⟨_, rfl, _⟩ := h; rfl) | (obtain ⟨_, _, rfl, _⟩ := h; rfl) | (obtain ⟨_, _, _, rfl, _⟩ := h; rfl) | (obtain ⟨_, _, _, _, rfl, _⟩ := h; rfl) | (obtain ⟨_, _, _, _, _, rfl, _⟩ := h; rfl) | (obtain ⟨_, _, _, _, _, _, rfl, _⟩ := h; rfl) | (obtain ⟨_, _, _, _, _, _, _, rfl, _⟩ := h; rfl) | (obtain ⟨_, _, _, _, _, _, _, _, rfl, _⟩ := h; rfl)) (fun cdv A outer s H vs Q E hr h => ⟨_, der_must_be_web T c_is_web (Nat.le_refl _) hr, rd_must_be_web h⟩), b, F.kp, g⟩
theorem ok_ways_on (T : Txt K mg) (d : D1 K mg "ways_on" s_ways_on ["web", "part"]) (c_order_of : Cal P w K mg base 3 "order_of" ["web", "part"] (sp_order_of K)) (c_led_to : Cal P w K mg base 2 "led_to" ["web", "part", "some"] (sp_led_to K)) : Cal P w K mg base 4 "ways_on" ["web", "part"] (sp_ways_on K) := by
  obtain ⟨f, fd, F, b, g⟩ := d
  exact ⟨f, fd, F.ok (k := 3) sc_ways_on (fun vs H Q E h => by first | (obtain ⟨_, rfl, _⟩ := h; rfl) | (obtain ⟨_, _, rfl, _⟩ := h; rfl) | (obtain ⟨_, _, _, rfl, _⟩ := h; rfl) | (obtain ⟨_, _, _, _, rfl, _⟩ := h; rfl) | (obtain ⟨_, _, _, _, _, rfl, _⟩ := h; rfl) | (obtain ⟨_, _, _, _, _, _, rfl, _⟩ := h; rfl) | (obtain ⟨_, _, _, _, _, _, _, rfl, _⟩ := h; rfl) | (obtain ⟨_, _, _, _, _, _, _, _, rfl, _⟩ := h; rfl)) (fun cdv A outer s H vs Q E hr h => ⟨_, der_ways_on T c_order_of c_led_to (Nat.le_refl _) hr, rd_ways_on h⟩), b, F.kp, g⟩
theorem ok_law_web (T : Txt K mg) (d : D1 K mg "_law_web" s_law_web ["_law_purse_here", "_law_loose"]) (c_law_called : Cal P w K mg base 2 "_law_called" ["_law_purse_here", "_law_rows", "_law_parts"] (sp_law_called K)) (c_law_draw : Cal P w K mg base 1 "_law_draw" ["_law_purse_here", "_law_out_of"] (sp_law_draw K)) (c_law_part : Cal P w K mg base 3 "_law_part" ["_law_purse_here", "_law_many", "_law_loose"] (sp_law_part K)) (c_law_order : Cal P w K mg base 2 "_law_order" ["_law_purse_here", "_law_many"] (sp_law_order K)) : Cal P w K mg base 4 "_law_web" ["_law_purse_here", "_law_loose"] (sp_law_web K) := by
  obtain ⟨f, fd, F, b, g⟩ := d
  exact ⟨f, fd, F.ok (k := 3) sc_law_web (fun vs H Q E h => by first | (obtain ⟨_, rfl, _⟩ := h; rfl) | (obtain ⟨_, _, rfl, _⟩ := h; rfl) | (obtain ⟨_, _, _, rfl, _⟩ := h; rfl) | (obtain ⟨_, _, _, _, rfl, _⟩ := h; rfl) | (obtain ⟨_, _, _, _, _, rfl, _⟩ := h; rfl) | (obtain ⟨_, _, _, _, _, _, rfl, _⟩ := h; rfl) | (obtain ⟨_, _, _, _, _, _, _, rfl, _⟩ := h; rfl) | (obtain ⟨_, _, _, _, _, _, _, _, rfl, _⟩ := h; rfl)) (fun cdv A outer s H vs Q E hr h => ⟨_, der_law_web T c_law_called c_law_draw c_law_part c_law_order (Nat.le_refl _) hr, rd_law_web h⟩), b, F.kp, g⟩
theorem ok_must_be_part (T : Txt K mg) (d : D1 K mg "must_be_part" s_must_be_part ["web", "part"]) (c_must_be_web : Cal P w K mg base 4 "must_be_web" ["web"] (sp_must_be_web K)) : Cal P w K mg base 5 "must_be_part" ["web", "part"] (sp_must_be_part K) := by
  obtain ⟨f, fd, F, b, g⟩ := d
  exact ⟨f, fd, F.ok (k := 4) sc_must_be_part (fun vs H Q E h => by first | (obtain ⟨_, rfl, _⟩ := h; rfl) | (obtain ⟨_, _, rfl, _⟩ := h; rfl) | (obtain ⟨_, _, _, rfl, _⟩ := h; rfl) | (obtain ⟨_, _, _, _, rfl, _⟩ := h; rfl) | (obtain ⟨_, _, _, _, _, rfl, _⟩ := h; rfl) | (obtain ⟨_, _, _, _, _, _, rfl, _⟩ := h; rfl) | (obtain ⟨_, _, _, _, _, _, _, rfl, _⟩ := h; rfl) | (obtain ⟨_, _, _, _, _, _, _, _, rfl, _⟩ := h; rfl)) (fun cdv A outer s H vs Q E hr h => ⟨_, der_must_be_part T c_must_be_web (Nat.le_refl _) hr, rd_must_be_part h⟩), b, F.kp, g⟩
theorem ok_weighed (T : Txt K mg) (d : D1 K mg "weighed" s_weighed ["web", "part"]) (c_ways_on : Cal P w K mg base 4 "ways_on" ["web", "part"] (sp_ways_on K)) (c_rows_from : Cal P w K mg base 2 "rows_from" ["web", "part", "place"] (sp_rows_from K)) : Cal P w K mg base 5 "weighed" ["web", "part"] (sp_weighed K) := by
  obtain ⟨f, fd, F, b, g⟩ := d
  exact ⟨f, fd, F.ok (k := 4) sc_weighed (fun vs H Q E h => by first | (obtain ⟨_, rfl, _⟩ := h; rfl) | (obtain ⟨_, _, rfl, _⟩ := h; rfl) | (obtain ⟨_, _, _, rfl, _⟩ := h; rfl) | (obtain ⟨_, _, _, _, rfl, _⟩ := h; rfl) | (obtain ⟨_, _, _, _, _, rfl, _⟩ := h; rfl) | (obtain ⟨_, _, _, _, _, _, rfl, _⟩ := h; rfl) | (obtain ⟨_, _, _, _, _, _, _, rfl, _⟩ := h; rfl) | (obtain ⟨_, _, _, _, _, _, _, _, rfl, _⟩ := h; rfl)) (fun cdv A outer s H vs Q E hr h => ⟨_, der_weighed T c_ways_on c_rows_from (Nat.le_refl _) hr, rd_weighed h⟩), b, F.kp, g⟩
theorem ok_is_loose (T : Txt K mg) (d : D1 K mg "is_loose" s_is_loose ["web", "part"]) (c_must_be_part : Cal P w K mg base 5 "must_be_part" ["web", "part"] (sp_must_be_part K)) (c_order_of : Cal P w K mg base 3 "order_of" ["web", "part"] (sp_order_of K)) : Cal P w K mg base 6 "is_loose" ["web", "part"] (sp_is_loose K) := by
  obtain ⟨f, fd, F, b, g⟩ := d
  exact ⟨f, fd, F.ok (k := 5) sc_is_loose (fun vs H Q E h => by first | (obtain ⟨_, rfl, _⟩ := h; rfl) | (obtain ⟨_, _, rfl, _⟩ := h; rfl) | (obtain ⟨_, _, _, rfl, _⟩ := h; rfl) | (obtain ⟨_, _, _, _, rfl, _⟩ := h; rfl) | (obtain ⟨_, _, _, _, _, rfl, _⟩ := h; rfl) | (obtain ⟨_, _, _, _, _, _, rfl, _⟩ := h; rfl) | (obtain ⟨_, _, _, _, _, _, _, rfl, _⟩ := h; rfl) | (obtain ⟨_, _, _, _, _, _, _, _, rfl, _⟩ := h; rfl)) (fun cdv A outer s H vs Q E hr h => ⟨_, der_is_loose T c_must_be_part c_order_of (Nat.le_refl _) hr, rd_is_loose h⟩), b, F.kp, g⟩
theorem ok_must_be_loose (T : Txt K mg) (d : D1 K mg "must_be_loose" s_must_be_loose ["web", "part"]) (c_is_loose : Cal P w K mg base 6 "is_loose" ["web", "part"] (sp_is_loose K)) : Cal P w K mg base 7 "must_be_loose" ["web", "part"] (sp_must_be_loose K) := by
  obtain ⟨f, fd, F, b, g⟩ := d
  exact ⟨f, fd, F.ok (k := 6) sc_must_be_loose (fun vs H Q E h => by first | (obtain ⟨_, rfl, _⟩ := h; rfl) | (obtain ⟨_, _, rfl, _⟩ := h; rfl) | (obtain ⟨_, _, _, rfl, _⟩ := h; rfl) | (obtain ⟨_, _, _, _, rfl, _⟩ := h; rfl) | (obtain ⟨_, _, _, _, _, rfl, _⟩ := h; rfl) | (obtain ⟨_, _, _, _, _, _, rfl, _⟩ := h; rfl) | (obtain ⟨_, _, _, _, _, _, _, rfl, _⟩ := h; rfl) | (obtain ⟨_, _, _, _, _, _, _, _, rfl, _⟩ := h; rfl)) (fun cdv A outer s H vs Q E hr h => ⟨_, der_must_be_loose T c_is_loose (Nat.le_refl _) hr, rd_must_be_loose h⟩), b, F.kp, g⟩
theorem ok_ways (T : Txt K mg) (d : D1 K mg "ways" s_ways ["web", "part"]) (c_must_be_loose : Cal P w K mg base 7 "must_be_loose" ["web", "part"] (sp_must_be_loose K)) (c_ways_on : Cal P w K mg base 4 "ways_on" ["web", "part"] (sp_ways_on K)) : Cal P w K mg base 8 "ways" ["web", "part"] (sp_ways K) := by
  obtain ⟨f, fd, F, b, g⟩ := d
  exact ⟨f, fd, F.ok (k := 7) sc_ways (fun vs H Q E h => by first | (obtain ⟨_, rfl, _⟩ := h; rfl) | (obtain ⟨_, _, rfl, _⟩ := h; rfl) | (obtain ⟨_, _, _, rfl, _⟩ := h; rfl) | (obtain ⟨_, _, _, _, rfl, _⟩ := h; rfl) | (obtain ⟨_, _, _, _, _, rfl, _⟩ := h; rfl) | (obtain ⟨_, _, _, _, _, _, rfl, _⟩ := h; rfl) | (obtain ⟨_, _, _, _, _, _, _, rfl, _⟩ := h; rfl) | (obtain ⟨_, _, _, _, _, _, _, _, rfl, _⟩ := h; rfl)) (fun cdv A outer s H vs Q E hr h => ⟨_, der_ways T c_must_be_loose c_ways_on (Nat.le_refl _) hr, rd_ways h⟩), b, F.kp, g⟩
theorem ok_worths (T : Txt K mg) (d : D1 K mg "worths" s_worths ["web", "part"]) (c_must_be_loose : Cal P w K mg base 7 "must_be_loose" ["web", "part"] (sp_must_be_loose K)) (c_weighed : Cal P w K mg base 5 "weighed" ["web", "part"] (sp_weighed K)) : Cal P w K mg base 8 "worths" ["web", "part"] (sp_worths K) := by
  obtain ⟨f, fd, F, b, g⟩ := d
  exact ⟨f, fd, F.ok (k := 7) sc_worths (fun vs H Q E h => by first | (obtain ⟨_, rfl, _⟩ := h; rfl) | (obtain ⟨_, _, rfl, _⟩ := h; rfl) | (obtain ⟨_, _, _, rfl, _⟩ := h; rfl) | (obtain ⟨_, _, _, _, rfl, _⟩ := h; rfl) | (obtain ⟨_, _, _, _, _, rfl, _⟩ := h; rfl) | (obtain ⟨_, _, _, _, _, _, rfl, _⟩ := h; rfl) | (obtain ⟨_, _, _, _, _, _, _, rfl, _⟩ := h; rfl) | (obtain ⟨_, _, _, _, _, _, _, _, rfl, _⟩ := h; rfl)) (fun cdv A outer s H vs Q E hr h => ⟨_, der_worths T c_must_be_loose c_weighed (Nat.le_refl _) hr, rd_worths h⟩), b, F.kp, g⟩
theorem ok_number_of (T : Txt K mg) (d : D1 K mg "number_of" s_number_of ["web", "part", "way"]) (c_must_be_loose : Cal P w K mg base 7 "must_be_loose" ["web", "part"] (sp_must_be_loose K)) (c_weighed : Cal P w K mg base 5 "weighed" ["web", "part"] (sp_weighed K)) (c_is_going : Cal P w K mg base 3 "is_going" ["web", "part", "rows"] (sp_is_going K)) : Cal P w K mg base 8 "number_of" ["web", "part", "way"] (sp_number_of K) := by
  obtain ⟨f, fd, F, b, g⟩ := d
  exact ⟨f, fd, F.ok (k := 7) sc_number_of (fun vs H Q E h => by first | (obtain ⟨_, rfl, _⟩ := h; rfl) | (obtain ⟨_, _, rfl, _⟩ := h; rfl) | (obtain ⟨_, _, _, rfl, _⟩ := h; rfl) | (obtain ⟨_, _, _, _, rfl, _⟩ := h; rfl) | (obtain ⟨_, _, _, _, _, rfl, _⟩ := h; rfl) | (obtain ⟨_, _, _, _, _, _, rfl, _⟩ := h; rfl) | (obtain ⟨_, _, _, _, _, _, _, rfl, _⟩ := h; rfl) | (obtain ⟨_, _, _, _, _, _, _, _, rfl, _⟩ := h; rfl)) (fun cdv A outer s H vs Q E hr h => ⟨_, der_number_of T c_must_be_loose c_weighed c_is_going (Nat.le_refl _) hr, rd_number_of h⟩), b, F.kp, g⟩
theorem ok_way_of (T : Txt K mg) (d : D1 K mg "way_of" s_way_of ["web", "part", "number"]) (c_must_be_loose : Cal P w K mg base 7 "must_be_loose" ["web", "part"] (sp_must_be_loose K)) (c_way_by : Cal P w K mg base 3 "way_by" ["web", "part", "worth", "number"] (sp_way_by K)) (c_weighed : Cal P w K mg base 5 "weighed" ["web", "part"] (sp_weighed K)) (c_ways_on : Cal P w K mg base 4 "ways_on" ["web", "part"] (sp_ways_on K)) : Cal P w K mg base 8 "way_of" ["web", "part", "number"] (sp_way_of K) := by
  obtain ⟨f, fd, F, b, g⟩ := d
  exact ⟨f, fd, F.ok (k := 7) sc_way_of (fun vs H Q E h => by first | (obtain ⟨_, rfl, _⟩ := h; rfl) | (obtain ⟨_, _, rfl, _⟩ := h; rfl) | (obtain ⟨_, _, _, rfl, _⟩ := h; rfl) | (obtain ⟨_, _, _, _, rfl, _⟩ := h; rfl) | (obtain ⟨_, _, _, _, _, rfl, _⟩ := h; rfl) | (obtain ⟨_, _, _, _, _, _, rfl, _⟩ := h; rfl) | (obtain ⟨_, _, _, _, _, _, _, rfl, _⟩ := h; rfl) | (obtain ⟨_, _, _, _, _, _, _, _, rfl, _⟩ := h; rfl)) (fun cdv A outer s H vs Q E hr h => ⟨_, der_way_of T c_must_be_loose c_way_by c_weighed c_ways_on (Nat.le_refl _) hr, rd_way_of h⟩), b, F.kp, g⟩
theorem ok_law (T : Txt K mg) (d : D1 K mg "law" s_law ["_law_script"]) (c_law_purse : Cal P w K mg base 1 "_law_purse" ["_law_script"] (sp_law_purse K)) (c_law_web : Cal P w K mg base 4 "_law_web" ["_law_purse_here", "_law_loose"] (sp_law_web K)) (c_law_draw : Cal P w K mg base 1 "_law_draw" ["_law_purse_here", "_law_out_of"] (sp_law_draw K)) (c_law_alone : Cal P w K mg base 1 "_law_alone" ["_law_web_here", "_law_part_here"] (sp_law_alone K)) (c_ways : Cal P w K mg base 8 "ways" ["web", "part"] (sp_ways K)) (c_worths : Cal P w K mg base 8 "worths" ["web", "part"] (sp_worths K)) (c_way_of : Cal P w K mg base 8 "way_of" ["web", "part", "number"] (sp_way_of K)) (c_law_goes : Cal P w K mg base 2 "_law_goes" ["_law_web_here", "_law_part_here", "_law_rows"] (sp_law_goes K)) (c_number_of : Cal P w K mg base 8 "number_of" ["web", "part", "way"] (sp_number_of K)) (c_law_through : Cal P w K mg base 3 "_law_through" ["_law_web_here", "_law_part_here", "_law_k"] (sp_law_through K)) : Cal P w K mg base 9 "law" ["_law_script"] (sp_law K) := by
  obtain ⟨f, fd, F, b, g⟩ := d
  exact ⟨f, fd, F.ok (k := 8) sc_law (fun vs H Q E h => by first | (obtain ⟨_, rfl, _⟩ := h; rfl) | (obtain ⟨_, _, rfl, _⟩ := h; rfl) | (obtain ⟨_, _, _, rfl, _⟩ := h; rfl) | (obtain ⟨_, _, _, _, rfl, _⟩ := h; rfl) | (obtain ⟨_, _, _, _, _, rfl, _⟩ := h; rfl) | (obtain ⟨_, _, _, _, _, _, rfl, _⟩ := h; rfl) | (obtain ⟨_, _, _, _, _, _, _, rfl, _⟩ := h; rfl) | (obtain ⟨_, _, _, _, _, _, _, _, rfl, _⟩ := h; rfl)) (fun cdv A outer s H vs Q E hr h => ⟨_, der_law T c_law_purse c_law_web c_law_draw c_law_alone c_ways c_worths c_way_of c_law_goes c_number_of c_law_through (Nat.le_refl _) hr, rd_law h⟩), b, F.kp, g⟩
end
theorem all_mk {l : PySem.W.OpenLaw} {w : World} {K : PySem.W.Frag} {h : Heap} {mg : Str → Option Value} {fa : Addr} (X : K.In h) (G : h.Ns mainGlobals mg) (hfa : mg "law" = some (.ref fa)) {f0 : Addr} {od0 an0 : Option Addr} {sl0 : Array (Option Value)} {oc0 kV0 dc0 pm0 cd0 ct0 : Value} {f1 : Addr} {od1 an1 : Option Addr} {sl1 : Array (Option Value)} {oc1 kV1 dc1 pm1 cd1 ct1 : Value} {f2 : Addr} {od2 an2 : Option Addr} {sl2 : Array (Option Value)} {oc2 kV2 dc2 pm2 cd2 ct2 : Value} {f3 : Addr} {od3 an3 : Option Addr} {sl3 : Array (Option Value)} {oc3 kV3 dc3 pm3 cd3 ct3 : Value} {f4 : Addr} {od4 an4 : Option Addr} {sl4 : Array (Option Value)} {oc4 kV4 dc4 pm4 cd4 ct4 : Value} {f5 : Addr} {od5 an5 : Option Addr} {sl5 : Array (Option Value)} {oc5 kV5 dc5 pm5 cd5 ct5 : Value} {f6 : Addr} {od6 an6 : Option Addr} {sl6 : Array (Option Value)} {oc6 kV6 dc6 pm6 cd6 ct6 : Value} {f7 : Addr} {od7 an7 : Option Addr} {sl7 : Array (Option Value)} {oc7 kV7 dc7 pm7 cd7 ct7 : Value} {f8 : Addr} {od8 an8 : Option Addr} {sl8 : Array (Option Value)} {oc8 kV8 dc8 pm8 cd8 ct8 : Value} {f9 : Addr} {od9 an9 : Option Addr} {sl9 : Array (Option Value)} {oc9 kV9 dc9 pm9 cd9 ct9 : Value} {f10 : Addr} {od10 an10 : Option Addr} {sl10 : Array (Option Value)} {oc10 kV10 dc10 pm10 cd10 ct10 : Value} {f11 : Addr} {od11 an11 : Option Addr} {sl11 : Array (Option Value)} {oc11 kV11 dc11 pm11 cd11 ct11 : Value} {f12 : Addr} {od12 an12 : Option Addr} {sl12 : Array (Option Value)} {oc12 kV12 dc12 pm12 cd12 ct12 : Value} {f13 : Addr} {od13 an13 : Option Addr} {sl13 : Array (Option Value)} {oc13 kV13 dc13 pm13 cd13 ct13 : Value} {f14 : Addr} {od14 an14 : Option Addr} {sl14 : Array (Option Value)} {oc14 kV14 dc14 pm14 cd14 ct14 : Value} {f15 : Addr} {od15 an15 : Option Addr} {sl15 : Array (Option Value)} {oc15 kV15 dc15 pm15 cd15 ct15 : Value} {f16 : Addr} {od16 an16 : Option Addr} {sl16 : Array (Option Value)} {oc16 kV16 dc16 pm16 cd16 ct16 : Value} {f17 : Addr} {od17 an17 : Option Addr} {sl17 : Array (Option Value)} {oc17 kV17 dc17 pm17 cd17 ct17 : Value} {f18 : Addr} {od18 an18 : Option Addr} {sl18 : Array (Option Value)} {oc18 kV18 dc18 pm18 cd18 ct18 : Value} {f19 : Addr} {od19 an19 : Option Addr} {sl19 : Array (Option Value)} {oc19 kV19 dc19 pm19 cd19 ct19 : Value} {f20 : Addr} {od20 an20 : Option Addr} {sl20 : Array (Option Value)} {oc20 kV20 dc20 pm20 cd20 ct20 : Value} {f21 : Addr} {od21 an21 : Option Addr} {sl21 : Array (Option Value)} {oc21 kV21 dc21 pm21 cd21 ct21 : Value} {f22 : Addr} {od22 an22 : Option Addr} {sl22 : Array (Option Value)} {oc22 kV22 dc22 pm22 cd22 ct22 : Value} {f23 : Addr} {od23 an23 : Option Addr} {sl23 : Array (Option Value)} {oc23 kV23 dc23 pm23 cd23 ct23 : Value} {f24 : Addr} {od24 an24 : Option Addr} {sl24 : Array (Option Value)} {oc24 kV24 dc24 pm24 cd24 ct24 : Value} {f25 : Addr} {od25 an25 : Option Addr} {sl25 : Array (Option Value)} {oc25 kV25 dc25 pm25 cd25 ct25 : Value} {f26 : Addr} {od26 an26 : Option Addr} {sl26 : Array (Option Value)} {oc26 kV26 dc26 pm26 cd26 ct26 : Value} {f27 : Addr} {od27 an27 : Option Addr} {sl27 : Array (Option Value)} {oc27 kV27 dc27 pm27 cd27 ct27 : Value} {f28 : Addr} {od28 an28 : Option Addr} {sl28 : Array (Option Value)} {oc28 kV28 dc28 pm28 cd28 ct28 : Value} {f29 : Addr} {od29 an29 : Option Addr} {sl29 : Array (Option Value)} {oc29 kV29 dc29 pm29 cd29 ct29 : Value} {f30 : Addr} {od30 an30 : Option Addr} {sl30 : Array (Option Value)} {oc30 kV30 dc30 pm30 cd30 ct30 : Value} {t_MOST_PLACES : Tok} {t_MOST_PARTS : Tok} {t_MOST_ROWS : Tok}
    (a0 : PySem.W.nsIn K mainGlobals "rows_of" = some (some (.ref f0))) (l0 : K.lookup f0 = some ⟨oc0, od0, .func (PySem.W.fnOf "rows_of" "rows_of" (defArgs s_rows_of) (defBody s_rows_of) (defScope s_rows_of) .none kV0 dc0 pm0 an0 cd0 ct0), sl0⟩) (c0 : PySem.W.codeIn K cd0 "rows_of" = true) (k0 : PySem.W.keepIn K (.ref f0) = true)
    (a1 : PySem.W.nsIn K mainGlobals "fits_row" = some (some (.ref f1))) (l1 : K.lookup f1 = some ⟨oc1, od1, .func (PySem.W.fnOf "fits_row" "fits_row" (defArgs s_fits_row) (defBody s_fits_row) (defScope s_fits_row) .none kV1 dc1 pm1 an1 cd1 ct1), sl1⟩) (c1 : PySem.W.codeIn K cd1 "fits_row" = true) (k1 : PySem.W.keepIn K (.ref f1) = true)
    (a2 : PySem.W.nsIn K mainGlobals "_law_purse" = some (some (.ref f2))) (l2 : K.lookup f2 = some ⟨oc2, od2, .func (PySem.W.fnOf "_law_purse" "_law_purse" (defArgs s_law_purse) (defBody s_law_purse) (defScope s_law_purse) .none kV2 dc2 pm2 an2 cd2 ct2), sl2⟩) (c2 : PySem.W.codeIn K cd2 "_law_purse" = true) (k2 : PySem.W.keepIn K (.ref f2) = true)
    (a3 : PySem.W.nsIn K mainGlobals "_law_draw" = some (some (.ref f3))) (l3 : K.lookup f3 = some ⟨oc3, od3, .func (PySem.W.fnOf "_law_draw" "_law_draw" (defArgs s_law_draw) (defBody s_law_draw) (defScope s_law_draw) .none kV3 dc3 pm3 an3 cd3 ct3), sl3⟩) (c3 : PySem.W.codeIn K cd3 "_law_draw" = true) (k3 : PySem.W.keepIn K (.ref f3) = true)
    (a4 : PySem.W.nsIn K mainGlobals "_law_from" = some (some (.ref f4))) (l4 : K.lookup f4 = some ⟨oc4, od4, .func (PySem.W.fnOf "_law_from" "_law_from" (defArgs s_law_from) (defBody s_law_from) (defScope s_law_from) .none kV4 dc4 pm4 an4 cd4 ct4), sl4⟩) (c4 : PySem.W.codeIn K cd4 "_law_from" = true) (k4 : PySem.W.keepIn K (.ref f4) = true)
    (a5 : PySem.W.nsIn K mainGlobals "_law_alone" = some (some (.ref f5))) (l5 : K.lookup f5 = some ⟨oc5, od5, .func (PySem.W.fnOf "_law_alone" "_law_alone" (defArgs s_law_alone) (defBody s_law_alone) (defScope s_law_alone) .none kV5 dc5 pm5 an5 cd5 ct5), sl5⟩) (c5 : PySem.W.codeIn K cd5 "_law_alone" = true) (k5 : PySem.W.keepIn K (.ref f5) = true)
    (a6 : PySem.W.nsIn K mainGlobals "reached" = some (some (.ref f6))) (l6 : K.lookup f6 = some ⟨oc6, od6, .func (PySem.W.fnOf "reached" "reached" (defArgs s_reached) (defBody s_reached) (defScope s_reached) .none kV6 dc6 pm6 an6 cd6 ct6), sl6⟩) (c6 : PySem.W.codeIn K cd6 "reached" = true) (k6 : PySem.W.keepIn K (.ref f6) = true)
    (a7 : PySem.W.nsIn K mainGlobals "led_to" = some (some (.ref f7))) (l7 : K.lookup f7 = some ⟨oc7, od7, .func (PySem.W.fnOf "led_to" "led_to" (defArgs s_led_to) (defBody s_led_to) (defScope s_led_to) .none kV7 dc7 pm7 an7 cd7 ct7), sl7⟩) (c7 : PySem.W.codeIn K cd7 "led_to" = true) (k7 : PySem.W.keepIn K (.ref f7) = true)
    (a8 : PySem.W.nsIn K mainGlobals "rows_from" = some (some (.ref f8))) (l8 : K.lookup f8 = some ⟨oc8, od8, .func (PySem.W.fnOf "rows_from" "rows_from" (defArgs s_rows_from) (defBody s_rows_from) (defScope s_rows_from) .none kV8 dc8 pm8 an8 cd8 ct8), sl8⟩) (c8 : PySem.W.codeIn K cd8 "rows_from" = true) (k8 : PySem.W.keepIn K (.ref f8) = true)
    (a9 : PySem.W.nsIn K mainGlobals "_law_order" = some (some (.ref f9))) (l9 : K.lookup f9 = some ⟨oc9, od9, .func (PySem.W.fnOf "_law_order" "_law_order" (defArgs s_law_order) (defBody s_law_order) (defScope s_law_order) .none kV9 dc9 pm9 an9 cd9 ct9), sl9⟩) (c9 : PySem.W.codeIn K cd9 "_law_order" = true) (k9 : PySem.W.keepIn K (.ref f9) = true)
    (a10 : PySem.W.nsIn K mainGlobals "_law_called" = some (some (.ref f10))) (l10 : K.lookup f10 = some ⟨oc10, od10, .func (PySem.W.fnOf "_law_called" "_law_called" (defArgs s_law_called) (defBody s_law_called) (defScope s_law_called) .none kV10 dc10 pm10 an10 cd10 ct10), sl10⟩) (c10 : PySem.W.codeIn K cd10 "_law_called" = true) (k10 : PySem.W.keepIn K (.ref f10) = true)
    (a11 : PySem.W.nsIn K mainGlobals "_law_on" = some (some (.ref f11))) (l11 : K.lookup f11 = some ⟨oc11, od11, .func (PySem.W.fnOf "_law_on" "_law_on" (defArgs s_law_on) (defBody s_law_on) (defScope s_law_on) .none kV11 dc11 pm11 an11 cd11 ct11), sl11⟩) (c11 : PySem.W.codeIn K cd11 "_law_on" = true) (k11 : PySem.W.keepIn K (.ref f11) = true)
    (a12 : PySem.W.nsIn K mainGlobals "_law_goes" = some (some (.ref f12))) (l12 : K.lookup f12 = some ⟨oc12, od12, .func (PySem.W.fnOf "_law_goes" "_law_goes" (defArgs s_law_goes) (defBody s_law_goes) (defScope s_law_goes) .none kV12 dc12 pm12 an12 cd12 ct12), sl12⟩) (c12 : PySem.W.codeIn K cd12 "_law_goes" = true) (k12 : PySem.W.keepIn K (.ref f12) = true)
    (a13 : PySem.W.nsIn K mainGlobals "is_web" = some (some (.ref f13))) (l13 : K.lookup f13 = some ⟨oc13, od13, .func (PySem.W.fnOf "is_web" "is_web" (defArgs s_is_web) (defBody s_is_web) (defScope s_is_web) .none kV13 dc13 pm13 an13 cd13 ct13), sl13⟩) (c13 : PySem.W.codeIn K cd13 "is_web" = true) (k13 : PySem.W.keepIn K (.ref f13) = true)
    (a14 : PySem.W.nsIn K mainGlobals "order_of" = some (some (.ref f14))) (l14 : K.lookup f14 = some ⟨oc14, od14, .func (PySem.W.fnOf "order_of" "order_of" (defArgs s_order_of) (defBody s_order_of) (defScope s_order_of) .none kV14 dc14 pm14 an14 cd14 ct14), sl14⟩) (c14 : PySem.W.codeIn K cd14 "order_of" = true) (k14 : PySem.W.keepIn K (.ref f14) = true)
    (a15 : PySem.W.nsIn K mainGlobals "is_going" = some (some (.ref f15))) (l15 : K.lookup f15 = some ⟨oc15, od15, .func (PySem.W.fnOf "is_going" "is_going" (defArgs s_is_going) (defBody s_is_going) (defScope s_is_going) .none kV15 dc15 pm15 an15 cd15 ct15), sl15⟩) (c15 : PySem.W.codeIn K cd15 "is_going" = true) (k15 : PySem.W.keepIn K (.ref f15) = true)
    (a16 : PySem.W.nsIn K mainGlobals "way_by" = some (some (.ref f16))) (l16 : K.lookup f16 = some ⟨oc16, od16, .func (PySem.W.fnOf "way_by" "way_by" (defArgs s_way_by) (defBody s_way_by) (defScope s_way_by) .none kV16 dc16 pm16 an16 cd16 ct16), sl16⟩) (c16 : PySem.W.codeIn K cd16 "way_by" = true) (k16 : PySem.W.keepIn K (.ref f16) = true)
    (a17 : PySem.W.nsIn K mainGlobals "_law_part" = some (some (.ref f17))) (l17 : K.lookup f17 = some ⟨oc17, od17, .func (PySem.W.fnOf "_law_part" "_law_part" (defArgs s_law_part) (defBody s_law_part) (defScope s_law_part) .none kV17 dc17 pm17 an17 cd17 ct17), sl17⟩) (c17 : PySem.W.codeIn K cd17 "_law_part" = true) (k17 : PySem.W.keepIn K (.ref f17) = true)
    (a18 : PySem.W.nsIn K mainGlobals "_law_through" = some (some (.ref f18))) (l18 : K.lookup f18 = some ⟨oc18, od18, .func (PySem.W.fnOf "_law_through" "_law_through" (defArgs s_law_through) (defBody s_law_through) (defScope s_law_through) .none kV18 dc18 pm18 an18 cd18 ct18), sl18⟩) (c18 : PySem.W.codeIn K cd18 "_law_through" = true) (k18 : PySem.W.keepIn K (.ref f18) = true)
    (a19 : PySem.W.nsIn K mainGlobals "must_be_web" = some (some (.ref f19))) (l19 : K.lookup f19 = some ⟨oc19, od19, .func (PySem.W.fnOf "must_be_web" "must_be_web" (defArgs s_must_be_web) (defBody s_must_be_web) (defScope s_must_be_web) .none kV19 dc19 pm19 an19 cd19 ct19), sl19⟩) (c19 : PySem.W.codeIn K cd19 "must_be_web" = true) (k19 : PySem.W.keepIn K (.ref f19) = true)
    (a20 : PySem.W.nsIn K mainGlobals "ways_on" = some (some (.ref f20))) (l20 : K.lookup f20 = some ⟨oc20, od20, .func (PySem.W.fnOf "ways_on" "ways_on" (defArgs s_ways_on) (defBody s_ways_on) (defScope s_ways_on) .none kV20 dc20 pm20 an20 cd20 ct20), sl20⟩) (c20 : PySem.W.codeIn K cd20 "ways_on" = true) (k20 : PySem.W.keepIn K (.ref f20) = true)
    (a21 : PySem.W.nsIn K mainGlobals "_law_web" = some (some (.ref f21))) (l21 : K.lookup f21 = some ⟨oc21, od21, .func (PySem.W.fnOf "_law_web" "_law_web" (defArgs s_law_web) (defBody s_law_web) (defScope s_law_web) .none kV21 dc21 pm21 an21 cd21 ct21), sl21⟩) (c21 : PySem.W.codeIn K cd21 "_law_web" = true) (k21 : PySem.W.keepIn K (.ref f21) = true)
    (a22 : PySem.W.nsIn K mainGlobals "must_be_part" = some (some (.ref f22))) (l22 : K.lookup f22 = some ⟨oc22, od22, .func (PySem.W.fnOf "must_be_part" "must_be_part" (defArgs s_must_be_part) (defBody s_must_be_part) (defScope s_must_be_part) .none kV22 dc22 pm22 an22 cd22 ct22), sl22⟩) (c22 : PySem.W.codeIn K cd22 "must_be_part" = true) (k22 : PySem.W.keepIn K (.ref f22) = true)
    (a23 : PySem.W.nsIn K mainGlobals "weighed" = some (some (.ref f23))) (l23 : K.lookup f23 = some ⟨oc23, od23, .func (PySem.W.fnOf "weighed" "weighed" (defArgs s_weighed) (defBody s_weighed) (defScope s_weighed) .none kV23 dc23 pm23 an23 cd23 ct23), sl23⟩) (c23 : PySem.W.codeIn K cd23 "weighed" = true) (k23 : PySem.W.keepIn K (.ref f23) = true)
    (a24 : PySem.W.nsIn K mainGlobals "is_loose" = some (some (.ref f24))) (l24 : K.lookup f24 = some ⟨oc24, od24, .func (PySem.W.fnOf "is_loose" "is_loose" (defArgs s_is_loose) (defBody s_is_loose) (defScope s_is_loose) .none kV24 dc24 pm24 an24 cd24 ct24), sl24⟩) (c24 : PySem.W.codeIn K cd24 "is_loose" = true) (k24 : PySem.W.keepIn K (.ref f24) = true)
    (a25 : PySem.W.nsIn K mainGlobals "must_be_loose" = some (some (.ref f25))) (l25 : K.lookup f25 = some ⟨oc25, od25, .func (PySem.W.fnOf "must_be_loose" "must_be_loose" (defArgs s_must_be_loose) (defBody s_must_be_loose) (defScope s_must_be_loose) .none kV25 dc25 pm25 an25 cd25 ct25), sl25⟩) (c25 : PySem.W.codeIn K cd25 "must_be_loose" = true) (k25 : PySem.W.keepIn K (.ref f25) = true)
    (a26 : PySem.W.nsIn K mainGlobals "ways" = some (some (.ref f26))) (l26 : K.lookup f26 = some ⟨oc26, od26, .func (PySem.W.fnOf "ways" "ways" (defArgs s_ways) (defBody s_ways) (defScope s_ways) .none kV26 dc26 pm26 an26 cd26 ct26), sl26⟩) (c26 : PySem.W.codeIn K cd26 "ways" = true) (k26 : PySem.W.keepIn K (.ref f26) = true)
    (a27 : PySem.W.nsIn K mainGlobals "worths" = some (some (.ref f27))) (l27 : K.lookup f27 = some ⟨oc27, od27, .func (PySem.W.fnOf "worths" "worths" (defArgs s_worths) (defBody s_worths) (defScope s_worths) .none kV27 dc27 pm27 an27 cd27 ct27), sl27⟩) (c27 : PySem.W.codeIn K cd27 "worths" = true) (k27 : PySem.W.keepIn K (.ref f27) = true)
    (a28 : PySem.W.nsIn K mainGlobals "number_of" = some (some (.ref f28))) (l28 : K.lookup f28 = some ⟨oc28, od28, .func (PySem.W.fnOf "number_of" "number_of" (defArgs s_number_of) (defBody s_number_of) (defScope s_number_of) .none kV28 dc28 pm28 an28 cd28 ct28), sl28⟩) (c28 : PySem.W.codeIn K cd28 "number_of" = true) (k28 : PySem.W.keepIn K (.ref f28) = true)
    (a29 : PySem.W.nsIn K mainGlobals "way_of" = some (some (.ref f29))) (l29 : K.lookup f29 = some ⟨oc29, od29, .func (PySem.W.fnOf "way_of" "way_of" (defArgs s_way_of) (defBody s_way_of) (defScope s_way_of) .none kV29 dc29 pm29 an29 cd29 ct29), sl29⟩) (c29 : PySem.W.codeIn K cd29 "way_of" = true) (k29 : PySem.W.keepIn K (.ref f29) = true)
    (a30 : PySem.W.nsIn K mainGlobals "law" = some (some (.ref f30))) (l30 : K.lookup f30 = some ⟨oc30, od30, .func (PySem.W.fnOf "law" "law" (defArgs s_law) (defBody s_law) (defScope s_law) .none kV30 dc30 pm30 an30 cd30 ct30), sl30⟩) (c30 : PySem.W.codeIn K cd30 "law" = true) (k30 : PySem.W.keepIn K (.ref f30) = true)
    (z_len : PySem.W.nsIn K mainGlobals "len" = some none)
    (z_range : PySem.W.nsIn K mainGlobals "range" = some none)
    (z_min : PySem.W.nsIn K mainGlobals "min" = some none)
    (z_max : PySem.W.nsIn K mainGlobals "max" = some none)
    (z_sum : PySem.W.nsIn K mainGlobals "sum" = some none)
    (z_all : PySem.W.nsIn K mainGlobals "all" = some none)
    (z_list : PySem.W.nsIn K mainGlobals "list" = some none)
    (z_tuple : PySem.W.nsIn K mainGlobals "tuple" = some none)
    (z_int : PySem.W.nsIn K mainGlobals "int" = some none)
    (m_MOST_PLACES : PySem.W.nsIn K mainGlobals "MOST_PLACES" = some (some (.int 16 t_MOST_PLACES)))
    (m_MOST_PARTS : PySem.W.nsIn K mainGlobals "MOST_PARTS" = some (some (.int 4 t_MOST_PARTS)))
    (m_MOST_ROWS : PySem.W.nsIn K mainGlobals "MOST_ROWS" = some (some (.int 60 t_MOST_ROWS))) :
    ∃ fd : FuncData, (∀ (s : Shared) (v : Value), BindsTo s fd ⟨[v], []⟩ [("_law_script", v)]) ∧ ∀ base : Heap, K.In base → base.Ns mainGlobals mg → FnOk l.prog w K mg base CX0 9 fa fd ["_law_script"] (sp_law K) := by
  have e := hfa.symm.trans (PySem.W.mg_of X G a30)
  cases e
  have T : Txt K mg := ⟨PySem.W.mg_none_of X G z_len, PySem.W.mg_none_of X G z_range, PySem.W.mg_none_of X G z_min, PySem.W.mg_none_of X G z_max, PySem.W.mg_none_of X G z_sum, PySem.W.mg_none_of X G z_all, PySem.W.mg_none_of X G z_list, PySem.W.mg_none_of X G z_tuple, PySem.W.mg_none_of X G z_int, ⟨_, PySem.W.mg_of X G m_MOST_PLACES⟩, ⟨_, PySem.W.mg_of X G m_MOST_PARTS⟩, ⟨_, PySem.W.mg_of X G m_MOST_ROWS⟩⟩
  have F0 := fun_mk (st := s_rows_of) l0 c0 k0
  have b0 := F0.binds (ps := ["web", "part"]) fun _ _ _ _ _ _ us hl => match us, hl with | [_, _], _ => rfl
  have F1 := fun_mk (st := s_fits_row) l1 c1 k1
  have b1 := F1.binds (ps := ["web", "row"]) fun _ _ _ _ _ _ us hl => match us, hl with | [_, _], _ => rfl
  have F2 := fun_mk (st := s_law_purse) l2 c2 k2
  have b2 := F2.binds (ps := ["_law_script"]) fun _ _ _ _ _ _ us hl => match us, hl with | [_], _ => rfl
  have F3 := fun_mk (st := s_law_draw) l3 c3 k3
  have b3 := F3.binds (ps := ["_law_purse_here", "_law_out_of"]) fun _ _ _ _ _ _ us hl => match us, hl with | [_, _], _ => rfl
  have F4 := fun_mk (st := s_law_from) l4 c4 k4
  have b4 := F4.binds (ps := ["_law_web_here", "_law_part_here", "_law_place"]) fun _ _ _ _ _ _ us hl => match us, hl with | [_, _, _], _ => rfl
  have F5 := fun_mk (st := s_law_alone) l5 c5 k5
  have b5 := F5.binds (ps := ["_law_web_here", "_law_part_here"]) fun _ _ _ _ _ _ us hl => match us, hl with | [_, _], _ => rfl
  have F6 := fun_mk (st := s_reached) l6 c6 k6
  have b6 := F6.binds (ps := ["web", "part", "start", "turned"]) fun _ _ _ _ _ _ us hl => match us, hl with | [_, _, _, _], _ => rfl
  have F7 := fun_mk (st := s_led_to) l7 c7 k7
  have b7 := F7.binds (ps := ["web", "part", "some"]) fun _ _ _ _ _ _ us hl => match us, hl with | [_, _, _], _ => rfl
  have F8 := fun_mk (st := s_rows_from) l8 c8 k8
  have b8 := F8.binds (ps := ["web", "part", "place"]) fun _ _ _ _ _ _ us hl => match us, hl with | [_, _, _], _ => rfl
  have F9 := fun_mk (st := s_law_order) l9 c9 k9
  have b9 := F9.binds (ps := ["_law_purse_here", "_law_many"]) fun _ _ _ _ _ _ us hl => match us, hl with | [_, _], _ => rfl
  have F10 := fun_mk (st := s_law_called) l10 c10 k10
  have b10 := F10.binds (ps := ["_law_purse_here", "_law_rows", "_law_parts"]) fun _ _ _ _ _ _ us hl => match us, hl with | [_, _, _], _ => rfl
  have F11 := fun_mk (st := s_law_on) l11 c11 k11
  have b11 := F11.binds (ps := ["_law_web_here", "_law_part_here"]) fun _ _ _ _ _ _ us hl => match us, hl with | [_, _], _ => rfl
  have F12 := fun_mk (st := s_law_goes) l12 c12 k12
  have b12 := F12.binds (ps := ["_law_web_here", "_law_part_here", "_law_rows"]) fun _ _ _ _ _ _ us hl => match us, hl with | [_, _, _], _ => rfl
  have F13 := fun_mk (st := s_is_web) l13 c13 k13
  have b13 := F13.binds (ps := ["web"]) fun _ _ _ _ _ _ us hl => match us, hl with | [_], _ => rfl
  have F14 := fun_mk (st := s_order_of) l14 c14 k14
  have b14 := F14.binds (ps := ["web", "part"]) fun _ _ _ _ _ _ us hl => match us, hl with | [_, _], _ => rfl
  have F15 := fun_mk (st := s_is_going) l15 c15 k15
  have b15 := F15.binds (ps := ["web", "part", "rows"]) fun _ _ _ _ _ _ us hl => match us, hl with | [_, _, _], _ => rfl
  have F16 := fun_mk (st := s_way_by) l16 c16 k16
  have b16 := F16.binds (ps := ["web", "part", "worth", "number"]) fun _ _ _ _ _ _ us hl => match us, hl with | [_, _, _, _], _ => rfl
  have F17 := fun_mk (st := s_law_part) l17 c17 k17
  have b17 := F17.binds (ps := ["_law_purse_here", "_law_many", "_law_loose"]) fun _ _ _ _ _ _ us hl => match us, hl with | [_, _, _], _ => rfl
  have F18 := fun_mk (st := s_law_through) l18 c18 k18
  have b18 := F18.binds (ps := ["_law_web_here", "_law_part_here", "_law_k"]) fun _ _ _ _ _ _ us hl => match us, hl with | [_, _, _], _ => rfl
  have F19 := fun_mk (st := s_must_be_web) l19 c19 k19
  have b19 := F19.binds (ps := ["web"]) fun _ _ _ _ _ _ us hl => match us, hl with | [_], _ => rfl
  have F20 := fun_mk (st := s_ways_on) l20 c20 k20
  have b20 := F20.binds (ps := ["web", "part"]) fun _ _ _ _ _ _ us hl => match us, hl with | [_, _], _ => rfl
  have F21 := fun_mk (st := s_law_web) l21 c21 k21
  have b21 := F21.binds (ps := ["_law_purse_here", "_law_loose"]) fun _ _ _ _ _ _ us hl => match us, hl with | [_, _], _ => rfl
  have F22 := fun_mk (st := s_must_be_part) l22 c22 k22
  have b22 := F22.binds (ps := ["web", "part"]) fun _ _ _ _ _ _ us hl => match us, hl with | [_, _], _ => rfl
  have F23 := fun_mk (st := s_weighed) l23 c23 k23
  have b23 := F23.binds (ps := ["web", "part"]) fun _ _ _ _ _ _ us hl => match us, hl with | [_, _], _ => rfl
  have F24 := fun_mk (st := s_is_loose) l24 c24 k24
  have b24 := F24.binds (ps := ["web", "part"]) fun _ _ _ _ _ _ us hl => match us, hl with | [_, _], _ => rfl
  have F25 := fun_mk (st := s_must_be_loose) l25 c25 k25
  have b25 := F25.binds (ps := ["web", "part"]) fun _ _ _ _ _ _ us hl => match us, hl with | [_, _], _ => rfl
  have F26 := fun_mk (st := s_ways) l26 c26 k26
  have b26 := F26.binds (ps := ["web", "part"]) fun _ _ _ _ _ _ us hl => match us, hl with | [_, _], _ => rfl
  have F27 := fun_mk (st := s_worths) l27 c27 k27
  have b27 := F27.binds (ps := ["web", "part"]) fun _ _ _ _ _ _ us hl => match us, hl with | [_, _], _ => rfl
  have F28 := fun_mk (st := s_number_of) l28 c28 k28
  have b28 := F28.binds (ps := ["web", "part", "way"]) fun _ _ _ _ _ _ us hl => match us, hl with | [_, _, _], _ => rfl
  have F29 := fun_mk (st := s_way_of) l29 c29 k29
  have b29 := F29.binds (ps := ["web", "part", "number"]) fun _ _ _ _ _ _ us hl => match us, hl with | [_, _, _], _ => rfl
  have F30 := fun_mk (st := s_law) l30 c30 k30
  have b30 := F30.binds (ps := ["_law_script"]) fun _ _ _ _ _ _ us hl => match us, hl with | [_], _ => rfl
  refine ⟨PySem.W.fnOf "law" "law" (defArgs s_law) (defBody s_law) (defScope s_law) .none kV30 dc30 pm30 an30 cd30 ct30, fun s v => .of_eq rfl, fun base _ _ => ?_⟩
  have C_rows_of : Cal l.prog w K mg base 1 "rows_of" ["web", "part"] (sp_rows_of K) := ok_rows_of T ⟨_, _, F0, b0, PySem.W.mg_of X G a0⟩
  have C_fits_row : Cal l.prog w K mg base 1 "fits_row" ["web", "row"] (sp_fits_row K) := ok_fits_row T ⟨_, _, F1, b1, PySem.W.mg_of X G a1⟩
  have C_law_purse : Cal l.prog w K mg base 1 "_law_purse" ["_law_script"] (sp_law_purse K) := ok_law_purse T ⟨_, _, F2, b2, PySem.W.mg_of X G a2⟩
  have C_law_draw : Cal l.prog w K mg base 1 "_law_draw" ["_law_purse_here", "_law_out_of"] (sp_law_draw K) := ok_law_draw T ⟨_, _, F3, b3, PySem.W.mg_of X G a3⟩
  have C_law_from : Cal l.prog w K mg base 1 "_law_from" ["_law_web_here", "_law_part_here", "_law_place"] (sp_law_from K) := ok_law_from T ⟨_, _, F4, b4, PySem.W.mg_of X G a4⟩
  have C_law_alone : Cal l.prog w K mg base 1 "_law_alone" ["_law_web_here", "_law_part_here"] (sp_law_alone K) := ok_law_alone T ⟨_, _, F5, b5, PySem.W.mg_of X G a5⟩
  have C_reached : Cal l.prog w K mg base 2 "reached" ["web", "part", "start", "turned"] (sp_reached K) := ok_reached T ⟨_, _, F6, b6, PySem.W.mg_of X G a6⟩ C_rows_of
  have C_led_to : Cal l.prog w K mg base 2 "led_to" ["web", "part", "some"] (sp_led_to K) := ok_led_to T ⟨_, _, F7, b7, PySem.W.mg_of X G a7⟩ C_rows_of
  have C_rows_from : Cal l.prog w K mg base 2 "rows_from" ["web", "part", "place"] (sp_rows_from K) := ok_rows_from T ⟨_, _, F8, b8, PySem.W.mg_of X G a8⟩ C_rows_of
  have C_law_order : Cal l.prog w K mg base 2 "_law_order" ["_law_purse_here", "_law_many"] (sp_law_order K) := ok_law_order T ⟨_, _, F9, b9, PySem.W.mg_of X G a9⟩ C_law_draw
  have C_law_called : Cal l.prog w K mg base 2 "_law_called" ["_law_purse_here", "_law_rows", "_law_parts"] (sp_law_called K) := ok_law_called T ⟨_, _, F10, b10, PySem.W.mg_of X G a10⟩ C_law_draw
  have C_law_on : Cal l.prog w K mg base 2 "_law_on" ["_law_web_here", "_law_part_here"] (sp_law_on K) := ok_law_on T ⟨_, _, F11, b11, PySem.W.mg_of X G a11⟩ C_law_from
  have C_law_goes : Cal l.prog w K mg base 2 "_law_goes" ["_law_web_here", "_law_part_here", "_law_rows"] (sp_law_goes K) := ok_law_goes T ⟨_, _, F12, b12, PySem.W.mg_of X G a12⟩ C_law_from
  have C_is_web : Cal l.prog w K mg base 3 "is_web" ["web"] (sp_is_web K) := ok_is_web T ⟨_, _, F13, b13, PySem.W.mg_of X G a13⟩ C_fits_row C_reached
  have C_order_of : Cal l.prog w K mg base 3 "order_of" ["web", "part"] (sp_order_of K) := ok_order_of T ⟨_, _, F14, b14, PySem.W.mg_of X G a14⟩ C_led_to
  have C_is_going : Cal l.prog w K mg base 3 "is_going" ["web", "part", "rows"] (sp_is_going K) := ok_is_going T ⟨_, _, F15, b15, PySem.W.mg_of X G a15⟩ C_rows_from
  have C_way_by : Cal l.prog w K mg base 3 "way_by" ["web", "part", "worth", "number"] (sp_way_by K) := ok_way_by T ⟨_, _, F16, b16, PySem.W.mg_of X G a16⟩ C_rows_from
  have C_law_part : Cal l.prog w K mg base 3 "_law_part" ["_law_purse_here", "_law_many", "_law_loose"] (sp_law_part K) := ok_law_part T ⟨_, _, F17, b17, PySem.W.mg_of X G a17⟩ C_law_draw C_law_order
  have C_law_through : Cal l.prog w K mg base 3 "_law_through" ["_law_web_here", "_law_part_here", "_law_k"] (sp_law_through K) := ok_law_through T ⟨_, _, F18, b18, PySem.W.mg_of X G a18⟩ C_law_on
  have C_must_be_web : Cal l.prog w K mg base 4 "must_be_web" ["web"] (sp_must_be_web K) := ok_must_be_web T ⟨_, _, F19, b19, PySem.W.mg_of X G a19⟩ C_is_web
  have C_ways_on : Cal l.prog w K mg base 4 "ways_on" ["web", "part"] (sp_ways_on K) := ok_ways_on T ⟨_, _, F20, b20, PySem.W.mg_of X G a20⟩ C_order_of C_led_to
  have C_law_web : Cal l.prog w K mg base 4 "_law_web" ["_law_purse_here", "_law_loose"] (sp_law_web K) := ok_law_web T ⟨_, _, F21, b21, PySem.W.mg_of X G a21⟩ C_law_called C_law_draw C_law_part C_law_order
  have C_must_be_part : Cal l.prog w K mg base 5 "must_be_part" ["web", "part"] (sp_must_be_part K) := ok_must_be_part T ⟨_, _, F22, b22, PySem.W.mg_of X G a22⟩ C_must_be_web
  have C_weighed : Cal l.prog w K mg base 5 "weighed" ["web", "part"] (sp_weighed K) := ok_weighed T ⟨_, _, F23, b23, PySem.W.mg_of X G a23⟩ C_ways_on C_rows_from
  have C_is_loose : Cal l.prog w K mg base 6 "is_loose" ["web", "part"] (sp_is_loose K) := ok_is_loose T ⟨_, _, F24, b24, PySem.W.mg_of X G a24⟩ C_must_be_part C_order_of
  have C_must_be_loose : Cal l.prog w K mg base 7 "must_be_loose" ["web", "part"] (sp_must_be_loose K) := ok_must_be_loose T ⟨_, _, F25, b25, PySem.W.mg_of X G a25⟩ C_is_loose
  have C_ways : Cal l.prog w K mg base 8 "ways" ["web", "part"] (sp_ways K) := ok_ways T ⟨_, _, F26, b26, PySem.W.mg_of X G a26⟩ C_must_be_loose C_ways_on
  have C_worths : Cal l.prog w K mg base 8 "worths" ["web", "part"] (sp_worths K) := ok_worths T ⟨_, _, F27, b27, PySem.W.mg_of X G a27⟩ C_must_be_loose C_weighed
  have C_number_of : Cal l.prog w K mg base 8 "number_of" ["web", "part", "way"] (sp_number_of K) := ok_number_of T ⟨_, _, F28, b28, PySem.W.mg_of X G a28⟩ C_must_be_loose C_weighed C_is_going
  have C_way_of : Cal l.prog w K mg base 8 "way_of" ["web", "part", "number"] (sp_way_of K) := ok_way_of T ⟨_, _, F29, b29, PySem.W.mg_of X G a29⟩ C_must_be_loose C_way_by C_weighed C_ways_on
  exact F30.ok (k := 8) sc_law (fun vs H Q E h => by first | (obtain ⟨_, rfl, _⟩ := h; rfl) | (obtain ⟨_, _, rfl, _⟩ := h; rfl) | (obtain ⟨_, _, _, rfl, _⟩ := h; rfl) | (obtain ⟨_, _, _, _, rfl, _⟩ := h; rfl) | (obtain ⟨_, _, _, _, _, rfl, _⟩ := h; rfl) | (obtain ⟨_, _, _, _, _, _, rfl, _⟩ := h; rfl) | (obtain ⟨_, _, _, _, _, _, _, rfl, _⟩ := h; rfl) | (obtain ⟨_, _, _, _, _, _, _, _, rfl, _⟩ := h; rfl)) (fun cdv A outer s H vs Q E hr h => ⟨_, der_law T C_law_purse C_law_web C_law_draw C_law_alone C_ways C_worths C_way_of C_law_goes C_number_of C_law_through (Nat.le_refl _) hr, rd_law h⟩)
end FC
open PySem PySem.W PyProof.Rows
set_option maxRecDepth 100000 in
set_option maxHeartbeats 0 in
theorem PySem.Challenge.cw_fewcounters_k45_whole_parts_by_themselve_holds : PySem.Challenge.rw_fewcounters_k45_whole_parts_by_themselve.Holds := by
  w_on; o_law; k_head; (case hw => w_witness2)
  k_fill
  refine L2.walk_of (l := PySem.Challenge.rw_fewcounters_k45_whole_parts_by_themselve) (n := 63) (k := 9) (x := "_law_script") (CX := fun _ => L2.CX0) (sp := fun w => FC.sp_law _) rfl (by decide) rfl ⟨rfl, by decide, by decide⟩ (fun w h Y => PySem.W.kIn_of Y) ?F (fun _ _ a ns hl _ hS => ⟨a, ns, rfl, hS, hl, fun _ => rfl⟩) (fun _ _ _ _ _ h => h)
  case F =>
    intro w mg fa h KX G hmg
    refine' FC.all_mk KX G hmg ?a0 ?l0 ?c0 ?k0 ?a1 ?l1 ?c1 ?k1 ?a2 ?l2 ?c2 ?k2 ?a3 ?l3 ?c3 ?k3 ?a4 ?l4 ?c4 ?k4 ?a5 ?l5 ?c5 ?k5 ?a6 ?l6 ?c6 ?k6 ?a7 ?l7 ?c7 ?k7 ?a8 ?l8 ?c8 ?k8 ?a9 ?l9 ?c9 ?k9 ?a10 ?l10 ?c10 ?k10 ?a11 ?l11 ?c11 ?k11 ?a12 ?l12 ?c12 ?k12 ?a13 ?l13 ?c13 ?k13 ?a14 ?l14 ?c14 ?k14 ?a15 ?l15 ?c15 ?k15 ?a16 ?l16 ?c16 ?k16 ?a17 ?l17 ?c17 ?k17 ?a18 ?l18 ?c18 ?k18 ?a19 ?l19 ?c19 ?k19 ?a20 ?l20 ?c20 ?k20 ?a21 ?l21 ?c21 ?k21 ?a22 ?l22 ?c22 ?k22 ?a23 ?l23 ?c23 ?k23 ?a24 ?l24 ?c24 ?k24 ?a25 ?l25 ?c25 ?k25 ?a26 ?l26 ?c26 ?k26 ?a27 ?l27 ?c27 ?k27 ?a28 ?l28 ?c28 ?k28 ?a29 ?l29 ?c29 ?k29 ?a30 ?l30 ?c30 ?k30 ?z_len ?z_range ?z_min ?z_max ?z_sum ?z_all ?z_list ?z_tuple ?z_int ?m_MOST_PLACES ?m_MOST_PARTS ?m_MOST_ROWS
    (case a0 => k_is)
    (case l0 => k_is)
    (case c0 => k_is)
    (case k0 => k_is)
    (case a1 => k_is)
    (case l1 => k_is)
    (case c1 => k_is)
    (case k1 => k_is)
    (case a2 => k_is)
    (case l2 => k_is)
    (case c2 => k_is)
    (case k2 => k_is)
    (case a3 => k_is)
    (case l3 => k_is)
    (case c3 => k_is)
    (case k3 => k_is)
    (case a4 => k_is)
    (case l4 => k_is)
    (case c4 => k_is)
    (case k4 => k_is)
    (case a5 => k_is)
    (case l5 => k_is)
    (case c5 => k_is)
    (case k5 => k_is)
    (case a6 => k_is)
    (case l6 => k_is)
    (case c6 => k_is)
    (case k6 => k_is)
    (case a7 => k_is)
    (case l7 => k_is)
    (case c7 => k_is)
    (case k7 => k_is)
    (case a8 => k_is)
    (case l8 => k_is)
    (case c8 => k_is)
    (case k8 => k_is)
    (case a9 => k_is)
    (case l9 => k_is)
    (case c9 => k_is)
    (case k9 => k_is)
    (case a10 => k_is)
    (case l10 => k_is)
    (case c10 => k_is)
    (case k10 => k_is)
    (case a11 => k_is)
    (case l11 => k_is)
    (case c11 => k_is)
    (case k11 => k_is)
    (case a12 => k_is)
    (case l12 => k_is)
    (case c12 => k_is)
    (case k12 => k_is)
    (case a13 => k_is)
    (case l13 => k_is)
    (case c13 => k_is)
    (case k13 => k_is)
    (case a14 => k_is)
    (case l14 => k_is)
    (case c14 => k_is)
    (case k14 => k_is)
    (case a15 => k_is)
    (case l15 => k_is)
    (case c15 => k_is)
    (case k15 => k_is)
    (case a16 => k_is)
    (case l16 => k_is)
    (case c16 => k_is)
    (case k16 => k_is)
    (case a17 => k_is)
    (case l17 => k_is)
    (case c17 => k_is)
    (case k17 => k_is)
    (case a18 => k_is)
    (case l18 => k_is)
    (case c18 => k_is)
    (case k18 => k_is)
    (case a19 => k_is)
    (case l19 => k_is)
    (case c19 => k_is)
    (case k19 => k_is)
    (case a20 => k_is)
    (case l20 => k_is)
    (case c20 => k_is)
    (case k20 => k_is)
    (case a21 => k_is)
    (case l21 => k_is)
    (case c21 => k_is)
    (case k21 => k_is)
    (case a22 => k_is)
    (case l22 => k_is)
    (case c22 => k_is)
    (case k22 => k_is)
    (case a23 => k_is)
    (case l23 => k_is)
    (case c23 => k_is)
    (case k23 => k_is)
    (case a24 => k_is)
    (case l24 => k_is)
    (case c24 => k_is)
    (case k24 => k_is)
    (case a25 => k_is)
    (case l25 => k_is)
    (case c25 => k_is)
    (case k25 => k_is)
    (case a26 => k_is)
    (case l26 => k_is)
    (case c26 => k_is)
    (case k26 => k_is)
    (case a27 => k_is)
    (case l27 => k_is)
    (case c27 => k_is)
    (case k27 => k_is)
    (case a28 => k_is)
    (case l28 => k_is)
    (case c28 => k_is)
    (case k28 => k_is)
    (case a29 => k_is)
    (case l29 => k_is)
    (case c29 => k_is)
    (case k29 => k_is)
    (case a30 => k_is)
    (case l30 => k_is)
    (case c30 => k_is)
    (case k30 => k_is)
    (case z_len => k_is)
    (case z_range => k_is)
    (case z_min => k_is)
    (case z_max => k_is)
    (case z_sum => k_is)
    (case z_all => k_is)
    (case z_list => k_is)
    (case z_tuple => k_is)
    (case z_int => k_is)
    (case m_MOST_PLACES => k_is)
    (case m_MOST_PARTS => k_is)
    (case m_MOST_ROWS => k_is)
