/- Chapter 37, twentieth part: sorting, in plain Lean. -/
import Derived.Test.YtljahaeachdjmaaS1
import Derived.Test.YtljahaeachdjmaaB2

set_option linter.unusedSimpArgs false
set_option linter.unusedVariables false
namespace Go.Proofs.Ytljahaeachdjmaa
open Go Go.Amb Go.IntWalk

theorem it_eq2 {xs : List Item} {i : Nat} (h : i < xs.length) : it xs i = xs[i] := by simp [it, h]
theorem swap_perm2 {xs : List Item} {i j : Nat} (hi : i < xs.length) (hj : j < xs.length) : (swap xs i j).Perm xs := by
  unfold swap
  rw [it_eq2 hi, it_eq2 hj]
  exact List.set_set_perm hi hj
theorem it_set (xs : List Item) (i k : Nat) (x : Item) (hi : i < xs.length) : it (xs.set i x) k = if k = i then x else it xs k := by
  unfold it
  by_cases h : k = i
  · subst h; simp [hi]
  · have h2 : ¬ i = k := fun e => h e.symm
    simp [List.getD_eq_getElem?_getD, List.getElem?_set, h, h2]
theorem it_swap {xs : List Item} {i j : Nat} (hi : i < xs.length) (hj : j < xs.length) (k : Nat) : it (swap xs i j) k = if k = j then it xs i else if k = i then it xs j else it xs k := by
  unfold swap
  rw [it_set _ _ _ _ (by simp; omega), it_set _ _ _ _ hi]
theorem it_sw1 {xs : List Item} {i j : Nat} (hi : i < xs.length) (hj : j < xs.length) : it (swap xs i j) i = it xs j := by
  rw [it_swap hi hj]; split <;> simp_all
theorem it_sw2 {xs : List Item} {i j : Nat} (hi : i < xs.length) (hj : j < xs.length) : it (swap xs i j) j = it xs i := by
  rw [it_swap hi hj]; simp
theorem it_sw3 {xs : List Item} {i j k : Nat} (hi : i < xs.length) (hj : j < xs.length) (h1 : k ≠ i) (h2 : k ≠ j) : it (swap xs i j) k = it xs k := by
  rw [it_swap hi hj]; simp [h1, h2]
/-- The order of items, not strict. -/
def Ple (x y : Item) : Prop := bef y x = false
theorem LE_iff (x y : Item) : Ple x y ↔ (x.due < y.due ∨ (x.due = y.due ∧ x.id ≤ y.id)) := by
  unfold Ple bef
  simp only [Bool.or_eq_false_iff, decide_eq_false_iff_not, Bool.and_eq_false_iff, beq_eq_false_iff_ne]
  omega
theorem bef_iff (x y : Item) : bef x y = true ↔ (x.due < y.due ∨ (x.due = y.due ∧ x.id < y.id)) := by
  unfold bef
  simp only [Bool.or_eq_true, decide_eq_true_eq, Bool.and_eq_true, beq_iff_eq]
theorem Ple.refl (x : Item) : Ple x x := by rw [LE_iff]; omega
theorem Ple.trans {x y z : Item} (h1 : Ple x y) (h2 : Ple y z) : Ple x z := by rw [LE_iff] at *; omega
theorem Ple.of_bef {x y : Item} (h : bef x y = true) : Ple x y := by rw [bef_iff] at h; rw [LE_iff]; omega
/-- The part from a to b is sorted. -/
def Srt (a b : Nat) (xs : List Item) : Prop := ∀ i j, a ≤ i → i < j → j < b → Ple (it xs i) (it xs j)
/-- Only the part from a to b was changed, and only in its order. -/
structure Sam (a b : Nat) (xs ys : List Item) : Prop where
  len : ys.length = xs.length
  prm : ys.Perm xs
  out : ∀ i, i < a ∨ b ≤ i → it ys i = it xs i
  inn : ∀ j, a ≤ j → j < b → ∃ k, a ≤ k ∧ k < b ∧ it ys j = it xs k
theorem Sam.refl (a b : Nat) (xs : List Item) : Sam a b xs xs := ⟨rfl, List.Perm.refl _, fun _ _ => rfl, fun j h1 h2 => ⟨j, h1, h2, rfl⟩⟩
theorem Sam.trans {a b : Nat} {xs ys zs : List Item} (h : Sam a b xs ys) (g : Sam a b ys zs) : Sam a b xs zs := by
  refine ⟨g.len.trans h.len, g.prm.trans h.prm, fun i hi => (g.out i hi).trans (h.out i hi), fun j h1 h2 => ?_⟩
  obtain ⟨k, k1, k2, hk⟩ := g.inn j h1 h2
  obtain ⟨m, m1, m2, hm⟩ := h.inn k k1 k2
  exact ⟨m, m1, m2, hk.trans hm⟩
theorem Sam.wide {a b c d : Nat} {xs ys : List Item} (h : Sam a b xs ys) (hc : c ≤ a) (hd : b ≤ d) : Sam c d xs ys := by
  refine ⟨h.len, h.prm, fun i hi => h.out i (by omega), fun j h1 h2 => ?_⟩
  by_cases hj : a ≤ j ∧ j < b
  · obtain ⟨k, k1, k2, hk⟩ := h.inn j hj.1 hj.2
    exact ⟨k, by omega, by omega, hk⟩
  · exact ⟨j, h1, h2, h.out j (by omega)⟩
theorem Sam.swap {a b i j : Nat} {xs ys : List Item} (h : Sam a b xs ys) (h1 : a ≤ i) (h2 : i < b) (h3 : a ≤ j) (h4 : j < b) (hb : b ≤ ys.length) : Sam a b xs (swap ys i j) := by
  refine h.trans ⟨swap_len _ _ _, swap_perm2 (by omega) (by omega), fun k hk => it_sw3 (by omega) (by omega) (by omega) (by omega), fun k k1 k2 => ?_⟩
  rw [it_swap (by omega) (by omega)]
  split
  · exact ⟨i, h1, h2, rfl⟩
  · split
    · exact ⟨j, h3, h4, rfl⟩
    · exact ⟨k, k1, k2, rfl⟩
/-- All but what stands at j is sorted from a to i. -/
def Ins (a j i : Nat) (xs : List Item) : Prop := ∀ p q, a ≤ p → p < q → q ≤ i → q ≠ j → Ple (it xs p) (it xs q)
theorem ins_start {a i : Nat} {xs : List Item} (h : Srt a i xs) : Ins a i i xs := fun p q h1 h2 h3 h4 => h p q h1 h2 (by omega)
theorem ins_step {a j i : Nat} {xs : List Item} (h : Ins a (j + 1) i xs) (ha : a ≤ j) (hj : j + 1 ≤ i) (hi : i < xs.length) (hb : bef (it xs (j + 1)) (it xs j) = true) : Ins a j i (swap xs (j + 1) j) := by
  intro p q h1 h2 h3 h4
  rw [it_swap (by omega) (by omega), it_swap (by omega) (by omega)]
  simp only [h4, if_false]
  have hb := Ple.of_bef hb
  by_cases hq : q = j + 1
  · subst hq
    by_cases hp : p = j
    · subst hp; simpa using hb
    · simpa [hp, show ¬ p = j + 1 by omega] using h p j h1 (by omega) (by omega) (by omega)
  · by_cases hp : p = j
    · subst hp; simpa [hq] using h (p + 1) q (by omega) (by omega) h3 hq
    · by_cases hp2 : p = j + 1
      · subst hp2; simpa [hq] using h j q (by omega) (by omega) h3 hq
      · simpa [hq, hp, hp2] using h p q h1 h2 h3 hq
theorem ins_end {a j i : Nat} {xs : List Item} (h : Ins a j i xs) (ha : a ≤ j) (hj : j ≤ i) (hb : a < j → Ple (it xs (j - 1)) (it xs j)) : Srt a (i + 1) xs := by
  intro p q h1 h2 h3
  by_cases hq : q = j
  · subst hq
    by_cases hp : p = q - 1
    · subst hp; exact hb (by omega)
    · exact (h p (q - 1) h1 (by omega) (by omega) (by omega)).trans (hb (by omega))
  · exact h p q h1 h2 (by omega) hq
/-- What a partition has done. -/
def PI (a b i j : Nat) (ys : List Item) : Prop := (∀ k, a < k → k < i → bef (it ys k) (it ys a) = true) ∧ ∀ k, j < k → k < b → Ple (it ys a) (it ys k)
theorem pi_i {a b i j : Nat} {ys : List Item} (h : PI a b i j ys) (hb : bef (it ys i) (it ys a) = true) : PI a b (i + 1) j ys := by
  refine ⟨fun k k1 k2 => ?_, h.2⟩
  by_cases hk : k = i
  · subst hk; exact hb
  · exact h.1 k k1 (by omega)
theorem pi_j {a b i j : Nat} {ys : List Item} (h : PI a b i (j + 1) ys) (hb : bef (it ys (j + 1)) (it ys a) = false) : PI a b i j ys := by
  refine ⟨h.1, fun k k1 k2 => ?_⟩
  by_cases hk : k = j + 1
  · subst hk; exact hb
  · exact h.2 k (by omega) k2
theorem pi_sw {a b i j : Nat} {ys : List Item} (h : PI a b i (j + 1) ys) (ha : a < i) (hij : i < j + 1) (hj : j + 1 < b) (hl : b ≤ ys.length) (h1 : bef (it ys i) (it ys a) = false) (h2 : bef (it ys (j + 1)) (it ys a) = true) : PI a b (i + 1) j (swap ys i (j + 1)) := by
  have e0 : it (swap ys i (j + 1)) a = it ys a := it_sw3 (by omega) (by omega) (by omega) (by omega)
  refine ⟨fun k k1 k2 => ?_, fun k k1 k2 => ?_⟩
  · rw [e0]
    by_cases hk : k = i
    · subst hk; rw [it_sw1 (by omega) (by omega)]; exact h2
    · rw [it_sw3 (by omega) (by omega) hk (by omega)]; exact h.1 k k1 (by omega)
  · rw [e0]
    by_cases hk : k = j + 1
    · subst hk; rw [it_sw2 (by omega) (by omega)]; exact h1
    · rw [it_sw3 (by omega) (by omega) (by omega) hk]; exact h.2 k (by omega) k2
/-- What stands before m is not greater, what stands behind it is not less. -/
def Spl (a m b : Nat) (ys : List Item) : Prop := (∀ k, a ≤ k → k < m → Ple (it ys k) (it ys m)) ∧ ∀ k, m < k → k < b → Ple (it ys m) (it ys k)
theorem pi_end {a b j : Nat} {ys : List Item} (h : PI a b (j + 1) j ys) (ha : a ≤ j) (hj : j < b) (hl : b ≤ ys.length) : Spl a j b (swap ys j a) := by
  have e0 : it (swap ys j a) j = it ys a := by
    by_cases hja : j = a
    · subst hja; exact it_sw1 (by omega) (by omega)
    · exact it_sw1 (by omega) (by omega)
  refine ⟨fun k k1 k2 => ?_, fun k k1 k2 => ?_⟩
  · rw [e0]
    by_cases hk : k = a
    · subst hk; rw [it_sw2 (by omega) (by omega)]; exact Ple.of_bef (h.1 j (by omega) (by omega))
    · rw [it_sw3 (by omega) (by omega) (by omega) hk]; exact Ple.of_bef (h.1 k (by omega) (by omega))
  · rw [e0, it_sw3 (by omega) (by omega) (by omega) (by omega)]; exact h.2 k k1 k2
/-- What a partition into equal and greater elements has done. -/
def QI (a b i j : Nat) (ys : List Item) : Prop := (∀ k, a ≤ k → k < i → Ple (it ys k) (it ys a)) ∧ ∀ k, j < k → k < b → Ple (it ys a) (it ys k)
theorem qi_i {a b i j : Nat} {ys : List Item} (h : QI a b i j ys) (hb : bef (it ys a) (it ys i) = false) : QI a b (i + 1) j ys := by
  refine ⟨fun k k1 k2 => ?_, h.2⟩
  by_cases hk : k = i
  · subst hk; exact hb
  · exact h.1 k k1 (by omega)
theorem qi_j {a b i j : Nat} {ys : List Item} (h : QI a b i (j + 1) ys) (hb : bef (it ys a) (it ys (j + 1)) = true) : QI a b i j ys := by
  refine ⟨h.1, fun k k1 k2 => ?_⟩
  by_cases hk : k = j + 1
  · subst hk; exact Ple.of_bef hb
  · exact h.2 k (by omega) k2
theorem qi_sw {a b i j : Nat} {ys : List Item} (h : QI a b i (j + 1) ys) (ha : a < i) (hij : i < j + 1) (hj : j + 1 < b) (hl : b ≤ ys.length) (h1 : bef (it ys a) (it ys i) = true) (h2 : bef (it ys a) (it ys (j + 1)) = false) : QI a b (i + 1) j (swap ys i (j + 1)) := by
  have e0 : it (swap ys i (j + 1)) a = it ys a := it_sw3 (by omega) (by omega) (by omega) (by omega)
  refine ⟨fun k k1 k2 => ?_, fun k k1 k2 => ?_⟩
  · rw [e0]
    by_cases hk : k = i
    · subst hk; rw [it_sw1 (by omega) (by omega)]; exact h2
    · rw [it_sw3 (by omega) (by omega) hk (by omega)]; exact h.1 k k1 (by omega)
  · rw [e0]
    by_cases hk : k = j + 1
    · subst hk; rw [it_sw2 (by omega) (by omega)]; exact Ple.of_bef h1
    · rw [it_sw3 (by omega) (by omega) (by omega) hk]; exact h.2 k (by omega) k2
/-- Pairs of which one stands outside of the part from c to d are in order. -/
def Oth (a b c d : Nat) (ys : List Item) : Prop := ∀ i j, a ≤ i → i < j → j < b → (i < c ∨ d ≤ j) → Ple (it ys i) (it ys j)
/-- What stands before the part is not greater than it. -/
def Pre (a b : Nat) (ys : List Item) : Prop := ∀ j, 0 < a → a ≤ j → j < b → Ple (it ys (a - 1)) (it ys j)
theorem ord_start (a b : Nat) (ys : List Item) : Oth a b a b ys := fun i j h1 h2 h3 h4 => by omega
theorem ord_sam {a b c d : Nat} {ys zs : List Item} (h : Oth a b c d ys) (g : Sam c d ys zs) (hc : a ≤ c) (hd : d ≤ b) : Oth a b c d zs := by
  intro i j h1 h2 h3 h4
  by_cases hi : c ≤ i ∧ i < d
  · obtain ⟨k, k1, k2, hk⟩ := g.inn i hi.1 hi.2
    rw [hk, g.out j (by omega)]
    exact h k j (by omega) (by omega) h3 (by omega)
  · rw [g.out i (by omega)]
    by_cases hj : c ≤ j ∧ j < d
    · obtain ⟨k, k1, k2, hk⟩ := g.inn j hj.1 hj.2
      rw [hk]
      exact h i k h1 (by omega) (by omega) (by omega)
    · rw [g.out j (by omega)]
      exact h i j h1 h2 h3 h4
theorem ord_end {a b c d : Nat} {ys zs : List Item} (h : Oth a b c d ys) (g : Sam c d ys zs) (hs : Srt c d zs) (hc : a ≤ c) (hd : d ≤ b) : Srt a b zs := by
  intro i j h1 h2 h3
  by_cases hi : i < c ∨ d ≤ j
  · exact ord_sam h g hc hd i j h1 h2 h3 hi
  · exact hs i j (by omega) h2 (by omega)
theorem pre_of {a b c d : Nat} {xs ys : List Item} (hp : Pre a b xs) (hs : Sam a b xs ys) (ho : Oth a b c d ys) (hc : a ≤ c) (hd : d ≤ b) : Pre c d ys := by
  intro j h1 h2 h3
  by_cases hac : a = c
  · subst hac
    rw [hs.out (a - 1) (by omega)]
    obtain ⟨k, k1, k2, hk⟩ := hs.inn j h2 (by omega)
    rw [hk]
    exact hp k h1 k1 k2
  · exact ho (c - 1) j (by omega) (by omega) (by omega) (by omega)
theorem ord_equal {a b c d m : Nat} {ys zs : List Item} {p : Item} (h : Oth a b c d ys) (g : Sam c d ys zs) (hc : a ≤ c) (hd : d ≤ b) (hm : m ≤ d) (hp : ∀ k, c ≤ k → k < d → Ple p (it ys k)) (hl : ∀ k, c ≤ k → k < m → Ple (it zs k) p) : Oth a b m d zs := by
  intro i j h1 h2 h3 h4
  by_cases hi : i < c ∨ d ≤ j
  · exact ord_sam h g hc hd i j h1 h2 h3 hi
  · obtain ⟨k, k1, k2, hk⟩ := g.inn j (by omega) (by omega)
    rw [hk]
    exact (hl i (by omega) (by omega)).trans (hp k k1 k2)
theorem ord_left {a b c d m : Nat} {ys zs : List Item} (h : Oth a b c d ys) (g : Sam c m ys zs) (hs : Srt c m zs) (hp : Spl c m d ys) (hc : a ≤ c) (hcm : c ≤ m) (hm : m < d) (hd : d ≤ b) : Oth a b (m + 1) d zs := by
  intro i j h1 h2 h3 h4
  by_cases hi : i < c ∨ d ≤ j
  · exact ord_sam h (g.wide (Nat.le_refl _) (by omega)) hc hd i j h1 h2 h3 hi
  · have hlm : ∀ i, c ≤ i → i < m → Ple (it zs i) (it ys m) := by
      intro i i1 i2
      obtain ⟨k, k1, k2, hk⟩ := g.inn i i1 i2
      rw [hk]; exact hp.1 k k1 k2
    by_cases hj : j < m
    · exact hs i j (by omega) h2 hj
    · rw [g.out j (by omega)]
      by_cases hjm : j = m
      · subst hjm; exact hlm i (by omega) h2
      · have h5 := hp.2 j (by omega) (by omega)
        by_cases him : i = m
        · subst him; rw [g.out i (by omega)]; exact h5
        · exact (hlm i (by omega) (by omega)).trans h5
theorem ord_right {a b c d m : Nat} {ys zs : List Item} (h : Oth a b c d ys) (g : Sam (m + 1) d ys zs) (hs : Srt (m + 1) d zs) (hp : Spl c m d ys) (hc : a ≤ c) (hcm : c ≤ m) (hm : m < d) (hd : d ≤ b) : Oth a b c m zs := by
  intro i j h1 h2 h3 h4
  by_cases hi : i < c ∨ d ≤ j
  · exact ord_sam h (g.wide (by omega) (Nat.le_refl _)) hc hd i j h1 h2 h3 hi
  · have hrm : ∀ j, m < j → j < d → Ple (it ys m) (it zs j) := by
      intro j j1 j2
      obtain ⟨k, k1, k2, hk⟩ := g.inn j j1 j2
      rw [hk]; exact hp.2 k k1 k2
    by_cases him : m < i
    · exact hs i j him h2 (by omega)
    · rw [g.out i (by omega)]
      by_cases hjm : j = m
      · subst hjm; rw [g.out j (by omega)]; exact hp.1 i (by omega) h2
      · have h5 := hrm j (by omega) (by omega)
        by_cases hi2 : i = m
        · subst hi2; exact h5
        · exact (hp.1 i (by omega) (by omega)).trans h5
theorem srt_swap_out {a i p q : Nat} {ys : List Item} (h : Srt a i ys) (hp : i ≤ p) (hq : i ≤ q) (h1 : p < ys.length) (h2 : q < ys.length) : Srt a i (swap ys p q) := by
  intro x y h3 h4 h5
  rw [it_sw3 h1 h2 (by omega) (by omega), it_sw3 h1 h2 (by omega) (by omega)]
  exact h x y h3 h4 h5
theorem srt_next {a i : Nat} {ys : List Item} (h : Srt a i ys) (ha : a < i) (hb : Ple (it ys (i - 1)) (it ys i)) : Srt a (i + 1) ys := by
  intro x y h1 h2 h3
  by_cases hy : y = i
  · subst hy
    by_cases hx : x = y - 1
    · subst hx; exact hb
    · exact (h x (y - 1) h1 (by omega) (by omega)).trans hb
  · exact h x y h1 h2 (by omega)
theorem srt_less {a b c : Nat} {ys : List Item} (h : Srt a b ys) (hc : c ≤ b) : Srt a c ys := fun x y h1 h2 h3 => h x y h1 h2 (by omega)
theorem srt_one {a b : Nat} {ys : List Item} (h : b ≤ a + 1) : Srt a b ys := fun x y h1 h2 h3 => by omega
/-- The part from f is a heap, from lo on. -/
def Hp (lo hi f : Nat) (ys : List Item) : Prop := ∀ r c, lo ≤ r → (c = 2 * r + 1 ∨ c = 2 * r + 2) → c < hi → Ple (it ys (f + c)) (it ys (f + r))
/-- The same, but at root. -/
def SI (lo hi f root : Nat) (ys : List Item) : Prop := (∀ r c, lo ≤ r → (c = 2 * r + 1 ∨ c = 2 * r + 2) → c < hi → r ≠ root → Ple (it ys (f + c)) (it ys (f + r))) ∧ ∀ r c, lo ≤ r → (root = 2 * r + 1 ∨ root = 2 * r + 2) → (c = 2 * root + 1 ∨ c = 2 * root + 2) → c < hi → Ple (it ys (f + c)) (it ys (f + r))
theorem si_start {lo hi f : Nat} {ys : List Item} (h : Hp (lo + 1) hi f ys) : SI lo hi f lo ys :=
  ⟨fun r c h1 h2 h3 h4 => h r c (by omega) h2 h3, fun r c h1 h2 h3 h4 => by omega⟩
theorem si_end {lo hi f root : Nat} {ys : List Item} (h : SI lo hi f root ys) (he : ∀ c, (c = 2 * root + 1 ∨ c = 2 * root + 2) → c < hi → Ple (it ys (f + c)) (it ys (f + root))) : Hp lo hi f ys := by
  intro r c h1 h2 h3
  by_cases hr : r = root
  · subst hr; exact he c h2 h3
  · exact h.1 r c h1 h2 h3 hr
theorem si_step {lo hi f root m : Nat} {ys : List Item} (h : SI lo hi f root ys) (hlo : lo ≤ root) (hm : m = 2 * root + 1 ∨ m = 2 * root + 2) (hmh : m < hi) (hl : f + hi ≤ ys.length) (ho : ∀ c, (c = 2 * root + 1 ∨ c = 2 * root + 2) → c < hi → Ple (it ys (f + c)) (it ys (f + m))) (hb : bef (it ys (f + root)) (it ys (f + m)) = true) : SI lo hi f m (swap ys (f + root) (f + m)) := by
  have hb := Ple.of_bef hb
  have e1 : it (swap ys (f + root) (f + m)) (f + root) = it ys (f + m) := it_sw1 (by omega) (by omega)
  have e2 : it (swap ys (f + root) (f + m)) (f + m) = it ys (f + root) := it_sw2 (by omega) (by omega)
  have e3 : ∀ k, k ≠ root → k ≠ m → it (swap ys (f + root) (f + m)) (f + k) = it ys (f + k) := fun k h1 h2 => it_sw3 (by omega) (by omega) (by omega) (by omega)
  refine ⟨fun r c h1 h2 h3 h4 => ?_, fun r c h1 h2 h3 h4 => ?_⟩
  · by_cases hr : r = root
    · subst hr
      rw [e1]
      by_cases hc : c = m
      · subst hc; rw [e2]; exact hb
      · rw [e3 c (by omega) hc]; exact ho c h2 h3
    · rw [e3 r hr h4]
      by_cases hc : c = root
      · subst hc; rw [e1]; exact h.2 r m h1 h2 hm hmh
      · rw [e3 c hc (by omega)]; exact h.1 r c h1 h2 h3 hr
  · have hr : r = root := by omega
    subst hr
    rw [e1, e3 c (by omega) (by omega)]
    exact h.1 m c (by omega) h3 h4 (by omega)
theorem hp_max {hi f : Nat} {ys : List Item} (h : Hp 0 hi f ys) : ∀ k, k < hi → Ple (it ys (f + k)) (it ys f) := by
  intro k
  induction k using Nat.strongRecOn with
  | ind k ih =>
    intro hk
    by_cases h0 : k = 0
    · subst h0; exact Ple.refl _
    · exact (h ((k - 1) / 2) k (by omega) (by omega) hk).trans (ih ((k - 1) / 2) (by omega) (by omega))
/-- A heap of the first i, and all else sorted behind it. -/
def HS (a b i : Nat) (ys : List Item) : Prop := Hp 0 i a ys ∧ ∀ p q, a ≤ p → p < q → q < b → a + i ≤ q → Ple (it ys p) (it ys q)
theorem hs_swap {a b i : Nat} {ys : List Item} (h : HS a b (i + 1) ys) (hi : a + i < b) (hl : b ≤ ys.length) : Hp 1 i a (swap ys a (a + i)) ∧ ∀ p q, a ≤ p → p < q → q < b → a + i ≤ q → Ple (it (swap ys a (a + i)) p) (it (swap ys a (a + i)) q) := by
  have e1 : it (swap ys a (a + i)) a = it ys (a + i) := it_sw1 (by omega) (by omega)
  have e2 : it (swap ys a (a + i)) (a + i) = it ys a := it_sw2 (by omega) (by omega)
  have e3 : ∀ k, k ≠ a → k ≠ a + i → it (swap ys a (a + i)) k = it ys k := fun k h1 h2 => it_sw3 (by omega) (by omega) h1 h2
  refine ⟨fun r c h1 h2 h3 => ?_, fun p q h1 h2 h3 h4 => ?_⟩
  · rw [e3 (a + c) (by omega) (by omega), e3 (a + r) (by omega) (by omega)]
    exact h.1 r c (by omega) h2 (by omega)
  · by_cases hq : q = a + i
    · subst hq
      rw [e2]
      by_cases hp : p = a
      · subst hp; rw [e1]; exact hp_max h.1 i (by omega)
      · rw [e3 p hp (by omega)]
        have := hp_max h.1 (p - a) (by omega)
        rwa [show a + (p - a) = p by omega] at this
    · rw [e3 q (by omega) hq]
      by_cases hp : p = a
      · subst hp; rw [e1]; exact h.2 (p + i) q (by omega) (by omega) h3 (by omega)
      · by_cases hp2 : p = a + i
        · subst hp2; rw [e2]; exact h.2 a q (by omega) (by omega) h3 (by omega)
        · rw [e3 p hp hp2]; exact h.2 p q h1 h2 h3 (by omega)
theorem hs_next {a b i : Nat} {ys zs : List Item} (h : ∀ p q, a ≤ p → p < q → q < b → a + i ≤ q → Ple (it ys p) (it ys q)) (g : Sam a (a + i) ys zs) (hp : Hp 0 i a zs) : HS a b i zs := by
  refine ⟨hp, fun p q h1 h2 h3 h4 => ?_⟩
  rw [g.out q (by omega)]
  by_cases hpi : p < a + i
  · obtain ⟨k, k1, k2, hk⟩ := g.inn p h1 hpi
    rw [hk]; exact h k q k1 (by omega) h3 h4
  · rw [g.out p (by omega)]; exact h p q h1 h2 h3 h4
end Go.Proofs.Ytljahaeachdjmaa

set_option linter.unusedSimpArgs false
set_option linter.unusedVariables false
set_option maxHeartbeats 8000000
namespace Go.Proofs.Ytljahaeachdjmaa
open Go Go.Amb Go.IntWalk

def cmpI (a b : Item) : Int := if bef a b then -1 else 1
theorem f35 (a b : Item) : ACall Try.prog 35 [a.av, b.av] (· = .int .i64 (cmpI a b)) := by
  have h36 := f36 a b
  obtain ⟨a1, a2⟩ := a
  obtain ⟨b1, b2⟩ := b
  simp only [Item.av] at h36 ⊢
  refine a35_of (by simp) ?_
  repeat refine AW.seq ?_
  refine AW.reg ?_
  have hF := True.intro
  repeat (first | refine wD1 ?_ | refine wD2 ?_ | refine wE1 ?_ | refine wE2 ?_ | (refine wE3 ?_; intro _) | (refine wE4 ?_; intro _) | refine wN ?_ | ((with_reducible show evIs _ (_ :: _) _ _); first | refine wQ ?_ | refine wF ?_ | refine wG ?_ | refine wT ?_ | refine wM ?_ | refine wS ?_ | refine wP ?_ | refine wJ ?_ | refine wX ?_ | refine wY ?_ | refine wZ ?_))
  clear hF
  repeat refine evDone ?_
  try (show AW _ _ _ _ _)
  repeat refine AW.seq ?_
  refine AW.reg ?_
  have hF := True.intro
  repeat (first | refine wD1 ?_ | refine wD2 ?_ | refine wE1 ?_ | refine wE2 ?_ | (refine wE3 ?_; intro _) | (refine wE4 ?_; intro _) | refine wN ?_ | ((with_reducible show evIs _ (_ :: _) _ _); first | refine wQ ?_ | refine wF ?_ | refine wG ?_ | refine wT ?_ | refine wM ?_ | refine wS ?_ | refine wP ?_ | refine wJ ?_ | refine wX ?_ | refine wY ?_ | refine wZ ?_))
  clear hF
  repeat refine evDone ?_
  try (show AW _ _ _ _ _)
  have hF := True.intro
  refine wC (hA := h36) ?_
  clear hF
  have hF := True.intro
  repeat (first | refine wD1 ?_ | refine wD2 ?_ | refine wE1 ?_ | refine wE2 ?_ | (refine wE3 ?_; intro _) | (refine wE4 ?_; intro _) | refine wN ?_ | ((with_reducible show evIs _ (_ :: _) _ _); first | refine wQ ?_ | refine wF ?_ | refine wG ?_ | refine wT ?_ | refine wM ?_ | refine wS ?_ | refine wP ?_ | refine wJ ?_ | refine wX ?_ | refine wY ?_ | refine wZ ?_))
  clear hF
  repeat refine evDone ?_
  try (show AW _ _ _ _ _)
  cases hb : bef ⟨a1, a2⟩ ⟨b1, b2⟩
  · repeat refine AW.seq ?_
    refine AW.condF (by simp [hb]) (by simp [hb]) ?_
    refine AW.skip ?_
    show AW _ _ _ _ _
    repeat refine AW.seq ?_
    refine AW.reg ?_
    have hF := True.intro
    repeat (first | refine wD1 ?_ | refine wD2 ?_ | refine wE1 ?_ | refine wE2 ?_ | (refine wE3 ?_; intro _) | (refine wE4 ?_; intro _) | refine wN ?_ | ((with_reducible show evIs _ (_ :: _) _ _); first | refine wQ ?_ | refine wF ?_ | refine wG ?_ | refine wT ?_ | refine wM ?_ | refine wS ?_ | refine wP ?_ | refine wJ ?_ | refine wX ?_ | refine wY ?_ | refine wZ ?_))
    clear hF
    repeat refine evDone ?_
    try (show AW _ _ _ _ _)
    refine AW.ret (retI rfl ?_)
    simp [cmpI, hb, a35_res, resOk, resP, resV, ARes.op, R2s, R2, R1s, R1, closeOk, closeV]
  · repeat refine AW.seq ?_
    refine AW.condT (by simp [hb]) (by simp [hb]) ?_
    repeat refine AW.seq ?_
    refine AW.reg ?_
    have hF := True.intro
    repeat (first | refine wD1 ?_ | refine wD2 ?_ | refine wE1 ?_ | refine wE2 ?_ | (refine wE3 ?_; intro _) | (refine wE4 ?_; intro _) | refine wN ?_ | ((with_reducible show evIs _ (_ :: _) _ _); first | refine wQ ?_ | refine wF ?_ | refine wG ?_ | refine wT ?_ | refine wM ?_ | refine wS ?_ | refine wP ?_ | refine wJ ?_ | refine wX ?_ | refine wY ?_ | refine wZ ?_))
    clear hF
    repeat refine evDone ?_
    try (show AW _ _ _ _ _)
    refine AW.ret (retI rfl ?_)
    simp [cmpI, hb, a35_res, resOk, resP, resV, ARes.op, R2s, R2, R1s, R1, closeOk, closeV]
theorem c35t {a b : Item} (h : bef a b = true) : ACall Try.prog 35 [.agg [.int .i64 a.due, .int .i64 a.id], .agg [.int .i64 b.due, .int .i64 b.id]] (· = .int .i64 (-1)) := by
  have := f35 a b
  simpa [cmpI, h, Item.av] using this
theorem c35f {a b : Item} (h : bef a b = false) : ACall Try.prog 35 [.agg [.int .i64 a.due, .int .i64 a.id], .agg [.int .i64 b.due, .int .i64 b.id]] (· = .int .i64 1) := by
  have := f35 a b
  simpa [cmpI, h, Item.av] using this
/-- What a call that sorts leaves. -/
def SP (N H : Nat) (P : List Item → AV → Prop) : List (Nat × Blk) → Nat → AV → Prop := fun H1 n' v => ∃ ys, H1 = [(H, ⟨2, false, ys.map Item.av⟩)] ∧ n' = N + 1000 ∧ P ys v
theorem f42 (N H : Nat) (hH : H < N) (xs : List Item) (a b : Nat) (hab : a ≤ b) (hb : b ≤ xs.length) (hl : xs.length ≤ 200) :
    BCall Try.prog 42 [(H, ⟨2, false, xs.map Item.av⟩)] N [.hdr H 0 xs.length, .int .i64 a, .int .i64 b, .fn 35 []] (SP N H fun ys v => Sam a b xs ys ∧ Srt a b ys ∧ v = .tup []) := by
  have hN : (∀ q, (H = N + q) = False) ∧ (∀ q, (N + q = H) = False) ∧ (H = N) = False ∧ (N = H) = False ∧ (∀ q, H < N + q) ∧ (∀ q, (N + q < N) = False) ∧ H < N := by
    refine ⟨?_, ?_, ?_, ?_, ?_, ?_, ?_⟩ <;> first | exact fun q => eq_false (by omega) | exact eq_false (by omega) | exact fun q => by omega | omega
  refine bcall_coded a42_ok (by simp) ?_
  generalize hn : xs.length = n at *
  rw [mkS_eq]
  have hw0 : IntKind.i64.wrap ((a : Int) + 1) = ((a + 1 : Nat) : Int) := i64_in _ ⟨by omega, by omega⟩
  repeat refine AW.seq ?_
  refine AW.reg ?_
  have hF := And.intro (hw0) (hN)
  repeat (first | refine wD1 ?_ | refine wD2 ?_ | refine wE1 ?_ | refine wE2 ?_ | (refine wE3 ?_; intro _) | (refine wE4 ?_; intro _) | refine wN ?_ | ((with_reducible show evIs _ (_ :: _) _ _); first | refine wQ ?_ | refine wF ?_ | refine wG ?_ | refine wT ?_ | refine wM ?_ | refine wS ?_ | refine wP ?_ | refine wJ ?_ | refine wX ?_ | refine wY ?_ | refine wZ ?_))
  clear hF
  repeat refine evDone ?_
  try (show AW _ _ _ _ _)
  repeat refine AW.seq ?_
  refine AW.block ?_
  refine AW.loop (fun g : List Item × Nat => g.1.length = n ∧ a < g.2 ∧ (g.2 ≤ b ∨ g.2 = a + 1) ∧ Sam a b xs g.1 ∧ Srt a g.2 g.1) (fun g => mkS [(0, .hdr H 0 n), (1, .int .i64 a), (2, .int .i64 b), (3, .fn 35 []), (8, .int .i64 g.2)] [(H, ⟨2, false, g.1.map Item.av⟩)] N) (fun g => b - g.2) (xs, a + 1) ⟨hn, by simp, .inr rfl, Sam.refl _ _ _, srt_one (by simp)⟩ ?_ ?_
  · refine Fit.mk _ _ _ (by simp [hw0, hN, conv2, newEmp, convs_refl, convs, conv]) (by simp [hw0, hN, heapFit, newEmp, conv2s, conv2, convs_refl, convs, conv]) (by intro q hq; first | (simp at hq; done) | (simp at hq; omega) | (simp at hq; simp; omega))
  rintro ⟨ys, i⟩ ⟨hy, hai, hib, hs, hr⟩
  dsimp only at hy hai hib hs hr ⊢
  by_cases hlt : i < b
  · have hlt' : (i : Int) < b := by omega
    have hwi : IntKind.i64.wrap ((i : Int) + 1) = ((i + 1 : Nat) : Int) := i64_in _ ⟨by omega, by omega⟩
    repeat refine AW.seq ?_
    refine AW.reg ?_
    have hF := And.intro (hlt') (hN)
    repeat (first | refine wD1 ?_ | refine wD2 ?_ | refine wE1 ?_ | refine wE2 ?_ | (refine wE3 ?_; intro _) | (refine wE4 ?_; intro _) | refine wN ?_ | ((with_reducible show evIs _ (_ :: _) _ _); first | refine wQ ?_ | refine wF ?_ | refine wG ?_ | refine wT ?_ | refine wM ?_ | refine wS ?_ | refine wP ?_ | refine wJ ?_ | refine wX ?_ | refine wY ?_ | refine wZ ?_))
    clear hF
    repeat refine evDone ?_
    try (show AW _ _ _ _ _)
    repeat refine AW.seq ?_
    refine AW.condT (by simp [hlt']) (by simp [hlt']) ?_
    refine AW.skip ?_
    show AW _ _ _ _ _
    refine AW.seq (AW.block ?_)
    repeat refine AW.seq ?_
    refine AW.reg ?_
    have hF := hN
    repeat (first | refine wD1 ?_ | refine wD2 ?_ | refine wE1 ?_ | refine wE2 ?_ | (refine wE3 ?_; intro _) | (refine wE4 ?_; intro _) | refine wN ?_ | ((with_reducible show evIs _ (_ :: _) _ _); first | refine wQ ?_ | refine wF ?_ | refine wG ?_ | refine wT ?_ | refine wM ?_ | refine wS ?_ | refine wP ?_ | refine wJ ?_ | refine wX ?_ | refine wY ?_ | refine wZ ?_))
    clear hF
    repeat refine evDone ?_
    try (show AW _ _ _ _ _)
    repeat refine AW.seq ?_
    refine AW.block ?_
    refine AW.loop (fun g : List Item × Nat => g.1.length = n ∧ a ≤ g.2 ∧ g.2 ≤ i ∧ Sam a b xs g.1 ∧ Ins a g.2 i g.1) (fun g => mkS [(0, .hdr H 0 n), (1, .int .i64 a), (2, .int .i64 b), (3, .fn 35 []), (8, .int .i64 i), (9, .int .i64 g.2)] [(H, ⟨2, false, g.1.map Item.av⟩)] N) (fun g => g.2) (ys, i) ⟨hy, by dsimp only; omega, by simp, hs, ins_start hr⟩ ?_ ?_
    · refine Fit.mk _ _ _ (by simp [hN, conv2, newEmp, convs_refl, convs, conv]) (by simp [hN, heapFit, newEmp, conv2s, conv2, convs_refl, convs, conv]) (by intro q hq; first | (simp at hq; done) | (simp at hq; omega) | (simp at hq; simp; omega))
    clear hs hr hy
    clear ys
    rintro ⟨ys, j⟩ ⟨hy, haj, hji, hs, hr⟩
    dsimp only at hy haj hji hs hr ⊢
    by_cases hja : a < j
    · obtain ⟨p, hp⟩ : ∃ p, j = p + 1 := ⟨j - 1, by omega⟩
      have hja' : (a : Int) < j := by omega
      have hwp : IntKind.i64.wrap ((j : Int) - 1) = (p : Int) := by rw [show (j : Int) - 1 = (p : Int) by omega]; exact i64_in _ ⟨by omega, by omega⟩
      have hja : (0 : Int) ≤ j := by omega
      have hjb : (j : Int) < n := by omega
      have hjc : j < n := by omega
      have hje := it_av (xs := ys) (i := j) (by omega)
      have hpa : (0 : Int) ≤ p := by omega
      have hpb : (p : Int) < n := by omega
      have hpc : p < n := by omega
      have hpe := it_av (xs := ys) (i := p) (by omega)
      have hse := it_av (xs := ys.set j (it ys p)) (i := p) (by simp; omega)
      rw [← set_av] at hse
      cases hc : bef (it ys j) (it ys p) with
      | false =>
        have h35 := c35f hc
        repeat refine AW.seq ?_
        refine AW.draw ?_
        have hF := And.intro (hja') (And.intro (hwp) (And.intro (hy) (And.intro (hja) (And.intro (hjb) (And.intro (hjc) (And.intro (hje) (And.intro (hpa) (And.intro (hpb) (And.intro (hpc) (And.intro (hpe) (hN)))))))))))
        repeat (first | refine wD1 ?_ | refine wD2 ?_ | refine wE1 ?_ | refine wE2 ?_ | (refine wE3 ?_; intro _) | (refine wE4 ?_; intro _) | refine wN ?_ | ((with_reducible show evIs _ (_ :: _) _ _); first | refine wQ ?_ | refine wF ?_ | refine wG ?_ | refine wT ?_ | refine wM ?_ | refine wS ?_ | refine wP ?_ | refine wJ ?_ | refine wX ?_ | refine wY ?_ | refine wZ ?_))
        clear hF
        repeat refine evDone ?_
        try (show AW _ _ _ _ _)
        have hF := hN
        refine wV (hA := h35) ?_
        clear hF
        have hF := And.intro (hja') (And.intro (hwp) (And.intro (hy) (And.intro (hja) (And.intro (hjb) (And.intro (hjc) (And.intro (hje) (And.intro (hpa) (And.intro (hpb) (And.intro (hpc) (And.intro (hpe) (hN)))))))))))
        repeat (first | refine wD1 ?_ | refine wD2 ?_ | refine wE1 ?_ | refine wE2 ?_ | (refine wE3 ?_; intro _) | (refine wE4 ?_; intro _) | refine wN ?_ | ((with_reducible show evIs _ (_ :: _) _ _); first | refine wQ ?_ | refine wF ?_ | refine wG ?_ | refine wT ?_ | refine wM ?_ | refine wS ?_ | refine wP ?_ | refine wJ ?_ | refine wX ?_ | refine wY ?_ | refine wZ ?_))
        clear hF
        repeat refine evDone ?_
        try (show AW _ _ _ _ _)
        repeat refine AW.seq ?_
        refine AW.condF (by simp []) (by simp []) ?_
        refine AW.exit ?_
        show AW _ _ _ _ _
        refine AW.reg ?_
        have hF := And.intro (hwi) (hN)
        repeat (first | refine wD1 ?_ | refine wD2 ?_ | refine wE1 ?_ | refine wE2 ?_ | (refine wE3 ?_; intro _) | (refine wE4 ?_; intro _) | refine wN ?_ | ((with_reducible show evIs _ (_ :: _) _ _); first | refine wQ ?_ | refine wF ?_ | refine wG ?_ | refine wT ?_ | refine wM ?_ | refine wS ?_ | refine wP ?_ | refine wJ ?_ | refine wX ?_ | refine wY ?_ | refine wZ ?_))
        clear hF
        repeat refine evDone ?_
        try (show AW _ _ _ _ _)
        refine ⟨(ys, i + 1), ⟨hy, by dsimp only; omega, by dsimp only; omega, hs, ins_end hr haj hji (fun _ => by rw [show j - 1 = p by omega]; exact hc)⟩, by dsimp only; omega, ?_⟩
        refine Fit.mk _ _ _ (by simp [hwi, hN, conv2, newEmp, convs_refl, convs, conv]) (by simp [hwi, hN, heapFit, newEmp, conv2s, conv2, convs_refl, convs, conv]) (by intro q hq; first | (simp at hq; done) | (simp at hq; omega) | (simp at hq; simp; omega))
      | true =>
        have h35 := c35t hc
        repeat refine AW.seq ?_
        refine AW.draw ?_
        have hF := And.intro (hja') (And.intro (hwp) (And.intro (hy) (And.intro (hja) (And.intro (hjb) (And.intro (hjc) (And.intro (hje) (And.intro (hpa) (And.intro (hpb) (And.intro (hpc) (And.intro (hpe) (hN)))))))))))
        repeat (first | refine wD1 ?_ | refine wD2 ?_ | refine wE1 ?_ | refine wE2 ?_ | (refine wE3 ?_; intro _) | (refine wE4 ?_; intro _) | refine wN ?_ | ((with_reducible show evIs _ (_ :: _) _ _); first | refine wQ ?_ | refine wF ?_ | refine wG ?_ | refine wT ?_ | refine wM ?_ | refine wS ?_ | refine wP ?_ | refine wJ ?_ | refine wX ?_ | refine wY ?_ | refine wZ ?_))
        clear hF
        repeat refine evDone ?_
        try (show AW _ _ _ _ _)
        have hF := hN
        refine wV (hA := h35) ?_
        clear hF
        have hF := And.intro (hja') (And.intro (hwp) (And.intro (hy) (And.intro (hja) (And.intro (hjb) (And.intro (hjc) (And.intro (hje) (And.intro (hpa) (And.intro (hpb) (And.intro (hpc) (And.intro (hpe) (hN)))))))))))
        repeat (first | refine wD1 ?_ | refine wD2 ?_ | refine wE1 ?_ | refine wE2 ?_ | (refine wE3 ?_; intro _) | (refine wE4 ?_; intro _) | refine wN ?_ | ((with_reducible show evIs _ (_ :: _) _ _); first | refine wQ ?_ | refine wF ?_ | refine wG ?_ | refine wT ?_ | refine wM ?_ | refine wS ?_ | refine wP ?_ | refine wJ ?_ | refine wX ?_ | refine wY ?_ | refine wZ ?_))
        clear hF
        repeat refine evDone ?_
        try (show AW _ _ _ _ _)
        repeat refine AW.seq ?_
        refine AW.condT (by simp []) (by simp []) ?_
        refine AW.skip ?_
        show AW _ _ _ _ _
        refine AW.seq (AW.block ?_)
        repeat refine AW.seq ?_
        refine AW.draw ?_
        have hF := And.intro (hwp) (And.intro (hy) (And.intro (hja) (And.intro (hjb) (And.intro (hjc) (And.intro (hje) (And.intro (hpa) (And.intro (hpb) (And.intro (hpc) (And.intro (hpe) (And.intro (hse) (hN)))))))))))
        repeat (first | refine wD1 ?_ | refine wD2 ?_ | refine wE1 ?_ | refine wE2 ?_ | (refine wE3 ?_; intro _) | (refine wE4 ?_; intro _) | refine wN ?_ | ((with_reducible show evIs _ (_ :: _) _ _); first | refine wQ ?_ | refine wF ?_ | refine wG ?_ | refine wT ?_ | refine wM ?_ | refine wS ?_ | refine wP ?_ | refine wJ ?_ | refine wX ?_ | refine wY ?_ | refine wZ ?_))
        clear hF
        repeat refine evDone ?_
        try (show AW _ _ _ _ _)
        repeat refine AW.seq ?_
        refine AW.reg ?_
        have hF := And.intro (hwp) (hN)
        repeat (first | refine wD1 ?_ | refine wD2 ?_ | refine wE1 ?_ | refine wE2 ?_ | (refine wE3 ?_; intro _) | (refine wE4 ?_; intro _) | refine wN ?_ | ((with_reducible show evIs _ (_ :: _) _ _); first | refine wQ ?_ | refine wF ?_ | refine wG ?_ | refine wT ?_ | refine wM ?_ | refine wS ?_ | refine wP ?_ | refine wJ ?_ | refine wX ?_ | refine wY ?_ | refine wZ ?_))
        clear hF
        repeat refine evDone ?_
        try (show AW _ _ _ _ _)
        refine ⟨(swap ys j p, p), ⟨by rw [swap_len]; exact hy, by dsimp only; omega, by dsimp only; omega, hs.swap (by omega) (by omega) (by omega) (by omega) (by omega), by subst hp; exact ins_step hr (by omega) hji (by omega) hc⟩, by dsimp only; omega, ?_⟩
        refine Fit.mk _ _ _ (by simp [swap, Item.av, hwp, hN, conv2, newEmp, convs_refl, convs, conv]) (by simp [swap, Item.av, hwp, hN, heapFit, newEmp, conv2s, conv2, convs_refl, convs, conv]) (by intro q hq; first | (simp at hq; done) | (simp at hq; omega) | (simp at hq; simp; omega))
    · have hja' : ¬ (a : Int) < j := by omega
      repeat refine AW.seq ?_
      refine AW.draw ?_
      have hF := And.intro (hja') (hN)
      repeat (first | refine wD1 ?_ | refine wD2 ?_ | refine wE1 ?_ | refine wE2 ?_ | refine wE6 ?_ | refine wE7 ?_ | refine wE5 ?_ | refine wN ?_ | ((with_reducible show evIs _ (_ :: _) _ _); first | refine wQ ?_ | refine wF ?_ | refine wG ?_ | refine wT ?_ | refine wM ?_ | refine wS ?_ | refine wP ?_ | refine wJ ?_ | refine wX ?_ | refine wY ?_ | refine wZ ?_))
      clear hF
      repeat refine evDone ?_
      try (show AW _ _ _ _ _)
      repeat refine AW.seq ?_
      refine AW.condF (by simp []) (by simp []) ?_
      refine AW.exit ?_
      show AW _ _ _ _ _
      refine AW.reg ?_
      have hF := And.intro (hwi) (hN)
      repeat (first | refine wD1 ?_ | refine wD2 ?_ | refine wE1 ?_ | refine wE2 ?_ | (refine wE3 ?_; intro _) | (refine wE4 ?_; intro _) | refine wN ?_ | ((with_reducible show evIs _ (_ :: _) _ _); first | refine wQ ?_ | refine wF ?_ | refine wG ?_ | refine wT ?_ | refine wM ?_ | refine wS ?_ | refine wP ?_ | refine wJ ?_ | refine wX ?_ | refine wY ?_ | refine wZ ?_))
      clear hF
      repeat refine evDone ?_
      try (show AW _ _ _ _ _)
      refine ⟨(ys, i + 1), ⟨hy, by dsimp only; omega, by dsimp only; omega, hs, ins_end hr haj hji (fun h => absurd h hja)⟩, by dsimp only; omega, ?_⟩
      refine Fit.mk _ _ _ (by simp [hwi, hN, conv2, newEmp, convs_refl, convs, conv]) (by simp [hwi, hN, heapFit, newEmp, conv2s, conv2, convs_refl, convs, conv]) (by intro q hq; first | (simp at hq; done) | (simp at hq; omega) | (simp at hq; simp; omega))
  · have hlt' : ¬ (i : Int) < b := by omega
    repeat refine AW.seq ?_
    refine AW.reg ?_
    have hF := And.intro (hlt') (hN)
    repeat (first | refine wD1 ?_ | refine wD2 ?_ | refine wE1 ?_ | refine wE2 ?_ | (refine wE3 ?_; intro _) | (refine wE4 ?_; intro _) | refine wN ?_ | ((with_reducible show evIs _ (_ :: _) _ _); first | refine wQ ?_ | refine wF ?_ | refine wG ?_ | refine wT ?_ | refine wM ?_ | refine wS ?_ | refine wP ?_ | refine wJ ?_ | refine wX ?_ | refine wY ?_ | refine wZ ?_))
    clear hF
    repeat refine evDone ?_
    try (show AW _ _ _ _ _)
    repeat refine AW.seq ?_
    refine AW.condF (by simp [hlt']) (by simp [hlt']) ?_
    refine AW.exit ?_
    refine ⟨by simp [resP, a42_res, ARes.op], [(H, ⟨2, false, ys.map Item.av⟩)], N + 1000, [], ⟨ys, rfl, rfl, hs, srt_less hr (by omega), rfl⟩, by omega, by simp [hN], rfl, by simp, ?_⟩
    simp only [resV, a42_res, List.map_nil]
    refine Fit.mk _ _ _ (by simp [hN, conv2, newEmp, convs_refl, convs, conv]) (by simp [hN, heapFit, newEmp, conv2s, conv2, convs_refl, convs, conv]) (by intro q hq; first | (simp at hq; done) | (simp at hq; omega) | (simp at hq; simp; omega))
end Go.Proofs.Ytljahaeachdjmaa
