/- Chapter 37, thirty-third part: the heap's order, in plain Lean. -/
import Derived.Test.YtljahaeachdjmaaT1
import Derived.Test.YtljahaeachdjmaaS2
import Derived.Test.YtljahaeachdjmaaB2
import Derived.Test.YtljahaeachdjmaaT8

set_option linter.unusedSimpArgs false
set_option linter.unusedVariables false
namespace Go.Proofs.Ytljahaeachdjmaa
open Go Go.Amb Go.IntWalk

theorem Ple.total (x y : Item) : Ple x y ∨ Ple y x := by rw [LE_iff, LE_iff]; omega
theorem Ple.anti {x y : Item} (h : Ple x y) (g : Ple y x) : x = y := by
  rw [LE_iff] at h g
  obtain ⟨a, b⟩ := x
  obtain ⟨c, d⟩ := y
  simp only at h g
  rw [Item.mk.injEq]
  omega
/-- A list in order. -/
def srt (xs : List Item) : List Item := xs.mergeSort (fun a b => !bef b a)
theorem srt_perm (xs : List Item) : (srt xs).Perm xs := List.mergeSort_perm _ _
theorem srt_len (xs : List Item) : (srt xs).length = xs.length := (srt_perm xs).length_eq
theorem srt_pair (xs : List Item) : (srt xs).Pairwise Ple := by
  have h := List.pairwise_mergeSort (le := fun a b => !bef b a) (fun a b c h1 h2 => by
    simp only [Bool.not_eq_true'] at h1 h2 ⊢
    exact Ple.trans h1 h2) (fun a b => by
    have := Ple.total a b
    unfold Ple at this
    simpa using this) xs
  exact h.imp (fun h => by simpa [Ple] using h)
theorem srt_eq {xs ys : List Item} (hp : ys.Perm xs) (hs : ys.Pairwise Ple) : ys = srt xs :=
  List.Perm.eq_of_pairwise (fun a b _ _ h g => Ple.anti h g) hs (srt_pair xs) (hp.trans (srt_perm xs).symm)
theorem srt_same {xs ys : List Item} (hp : ys.Perm xs) : srt ys = srt xs := srt_eq ((srt_perm ys).trans hp) (srt_pair ys)
theorem srt_of {xs ys : List Item} (hs : Sam 0 xs.length xs ys) (hr : Srt 0 xs.length ys) : ys = srt xs := by
  refine srt_eq hs.prm (List.pairwise_iff_getElem.2 fun i j hi hj hij => ?_)
  have := hr i j (Nat.zero_le _) hij (by rw [← hs.len]; exact hj)
  rwa [it_eq hi, it_eq hj] at this
/-- The heap's order. -/
def Hm (xs : List Item) : Prop := ∀ j, 0 < j → j < xs.length → Ple (it xs ((j - 1) / 2)) (it xs j)
/-- The same, but for what stands at i and its parent. -/
def UI (i : Nat) (xs : List Item) : Prop := (∀ j, 0 < j → j < xs.length → j ≠ i → Ple (it xs ((j - 1) / 2)) (it xs j)) ∧ ∀ c, 0 < c → c < xs.length → (c - 1) / 2 = i → 0 < i → Ple (it xs ((i - 1) / 2)) (it xs c)
/-- The same, but for what stands at i and its children. -/
def DI (i : Nat) (xs : List Item) : Prop := (∀ j, 0 < j → j < xs.length → (j - 1) / 2 ≠ i → Ple (it xs ((j - 1) / 2)) (it xs j)) ∧ ∀ c, 0 < c → c < xs.length → (c - 1) / 2 = i → 0 < i → Ple (it xs ((i - 1) / 2)) (it xs c)
theorem ui_end {i : Nat} {xs : List Item} (h : UI i xs) (hb : 0 < i → Ple (it xs ((i - 1) / 2)) (it xs i)) : Hm xs := by
  intro j h1 h2
  by_cases hj : j = i
  · subst hj; exact hb h1
  · exact h.1 j h1 h2 hj
theorem upF_heap : ∀ (k : Nat) (xs : List Item) (i : Nat), i < k → i < xs.length → UI i xs → Hm (upF k xs i)
  | 0, _, _, h, _, _ => by omega
  | k + 1, xs, i, hk, hi, h => by
    unfold upF
    by_cases h0 : i = 0
    · rw [if_pos h0]; exact ui_end h (fun h1 => by omega)
    rw [if_neg h0]
    obtain ⟨p, hp⟩ : ∃ p, p = (i - 1) / 2 := ⟨_, rfl⟩
    rw [← hp]
    cases hb : bef (it xs i) (it xs p) with
    | false =>
      simp only [Bool.false_eq_true, if_false]
      exact ui_end h (fun _ => by rw [← hp]; exact hb)
    | true =>
      simp only [if_true]
      have hb := Ple.of_bef hb
      refine upF_heap k _ p (by omega) (by rw [swap_len]; omega) ?_
      have e1 : it (swap xs i p) i = it xs p := it_sw1 (by omega) (by omega)
      have e2 : it (swap xs i p) p = it xs i := it_sw2 (by omega) (by omega)
      have e3 : ∀ k, k ≠ i → k ≠ p → it (swap xs i p) k = it xs k := fun k a b => it_sw3 (by omega) (by omega) a b
      refine ⟨fun j j1 j2 j3 => ?_, fun c c1 c2 c3 c4 => ?_⟩
      · rw [swap_len] at j2
        by_cases hji : j = i
        · subst hji; rw [← hp, e1, e2]; exact hb
        · rw [e3 j hji j3]
          by_cases hq : (j - 1) / 2 = i
          · rw [hq, e1]; have := h.2 j j1 j2 hq (by omega); rwa [← hp] at this
          · by_cases hq2 : (j - 1) / 2 = p
            · rw [hq2, e2]; have := h.1 j j1 j2 hji; rw [hq2] at this; exact hb.trans this
            · rw [e3 _ hq hq2]; exact h.1 j j1 j2 hji
      · rw [swap_len] at c2
        rw [e3 ((p - 1) / 2) (by omega) (by omega)]
        have h1 := h.1 p c4 (by omega) (by omega)
        by_cases hc : c = i
        · subst hc; rw [e1]; exact h1
        · rw [e3 c hc (by omega)]
          have h2 := h.1 c c1 c2 hc
          rw [c3] at h2
          exact h1.trans h2
theorem leastF_le {xs : List Item} {i : Nat} : Ple (it xs (leastF xs i)) (it xs i) ∧ ∀ c, (c = 2 * i + 1 ∨ c = 2 * i + 2) → c < xs.length → Ple (it xs (leastF xs i)) (it xs c) := by
  have h1 : Ple (it xs (least1 xs i)) (it xs i) ∧ (2 * i + 1 < xs.length → Ple (it xs (least1 xs i)) (it xs (2 * i + 1))) := by
    unfold least1
    split
    · rename_i h; exact ⟨Ple.of_bef h.2, fun _ => Ple.refl _⟩
    · rename_i h
      refine ⟨Ple.refl _, fun h2 => ?_⟩
      cases hb : bef (it xs (2 * i + 1)) (it xs i) with
      | false => exact hb
      | true => exact absurd ⟨h2, hb⟩ h
  unfold leastF
  split
  · rename_i h
    have hb := Ple.of_bef h.2
    refine ⟨hb.trans h1.1, ?_⟩
    rintro c (rfl | rfl) hc
    · exact hb.trans (h1.2 hc)
    · exact Ple.refl _
  · rename_i h
    refine ⟨h1.1, ?_⟩
    rintro c (rfl | rfl) hc
    · exact h1.2 hc
    · cases hb : bef (it xs (2 * i + 2)) (it xs (least1 xs i)) with
      | false => exact hb
      | true => exact absurd ⟨hc, hb⟩ h
theorem downF_heap : ∀ (k : Nat) (xs : List Item) (i : Nat), xs.length - i ≤ k → i < xs.length → DI i xs → Hm (downF k xs i)
  | 0, _, _, h, hi, _ => by omega
  | k + 1, xs, i, hk, hi, h => by
    unfold downF
    have hle := leastF_le (xs := xs) (i := i)
    have hlt := leastF_lt hi
    have hca := leastF_cases xs i
    generalize leastF xs i = l at hle hlt hca ⊢
    by_cases hl : l = i
    · rw [if_pos hl]
      subst hl
      intro j j1 j2
      by_cases hj : (j - 1) / 2 = l
      · rw [hj]; exact hle.2 j (by omega) j2
      · exact h.1 j j1 j2 hj
    · rw [if_neg hl]
      have hil : (l - 1) / 2 = i := by omega
      refine downF_heap k _ l (by rw [swap_len]; omega) (by rw [swap_len]; exact hlt) ?_
      have e1 : it (swap xs i l) i = it xs l := it_sw1 (by omega) (by omega)
      have e2 : it (swap xs i l) l = it xs i := it_sw2 (by omega) (by omega)
      have e3 : ∀ k, k ≠ i → k ≠ l → it (swap xs i l) k = it xs k := fun k a b => it_sw3 (by omega) (by omega) a b
      refine ⟨fun j j1 j2 j3 => ?_, fun c c1 c2 c3 c4 => ?_⟩
      · rw [swap_len] at j2
        by_cases hji : j = i
        · subst hji
          rw [e1, e3 ((j - 1) / 2) (by omega) (by omega)]
          exact h.2 l (by omega) hlt hil j1
        · by_cases hpi : (j - 1) / 2 = i
          · rw [hpi, e1]
            by_cases hjl : j = l
            · subst hjl; rw [e2]; exact hle.1
            · rw [e3 j hji hjl]; exact hle.2 j (by omega) j2
          · rw [e3 _ hpi j3, e3 j hji (by omega)]; exact h.1 j j1 j2 hpi
      · rw [swap_len] at c2
        rw [hil, e1, e3 c (by omega) (by omega)]
        have := h.1 c c1 c2 (by omega)
        rwa [c3] at this
theorem downF_same {xs : List Item} (h : Hm xs) (k i : Nat) : downF k xs i = xs := by
  cases k with
  | zero => rfl
  | succ k =>
    unfold downF
    have hl : leastF xs i = i := by
      have h1 : least1 xs i = i := by
        unfold least1
        split
        · rename_i g
          have := h (2 * i + 1) (by omega) g.1
          rw [show (2 * i + 1 - 1) / 2 = i by omega] at this
          have g2 := g.2
          rw [this] at g2
          exact absurd g2 (by simp)
        · rfl
      unfold leastF
      rw [h1]
      split
      · rename_i g
        have := h (2 * i + 2) (by omega) g.1
        rw [show (2 * i + 2 - 1) / 2 = i by omega] at this
        have g2 := g.2
        rw [this] at g2
        exact absurd g2 (by simp)
      · rfl
    rw [if_pos hl]
theorem upF_same {xs : List Item} {i : Nat} (h : 0 < i → Ple (it xs ((i - 1) / 2)) (it xs i)) (k : Nat) : upF k xs i = xs := by
  cases k with
  | zero => rfl
  | succ k =>
    unfold upF
    by_cases h0 : i = 0
    · rw [if_pos h0]
    · rw [if_neg h0, if_neg]
      have := h (by omega)
      unfold Ple at this
      rw [this]; simp
theorem it_take {xs : List Item} {m k : Nat} (h : k < m) : it (xs.take m) k = it xs k := by
  unfold it
  simp [List.getD_eq_getElem?_getD, List.getElem?_take_of_lt h]
theorem removeF_heap {xs : List Item} {i m : Nat} (hx : Hm xs) (hm : xs.length = m + 1) (hi : i ≤ m) : Hm (removeF xs i m) := by
  have hl := cutF_len hm i
  have e1 : ∀ k, k < m → k ≠ i → it (cutF xs i m) k = it xs k := fun k h1 h2 => by
    unfold cutF
    rw [it_take h1, it_set _ _ _ _ (by omega), if_neg h2]
  unfold removeF
  by_cases him : i < m
  · rw [if_pos him]
    have c2 : ∀ c, 0 < c → c < (cutF xs i m).length → (c - 1) / 2 = i → 0 < i → Ple (it (cutF xs i m) ((i - 1) / 2)) (it (cutF xs i m) c) := by
      intro c g1 g2 g3 g4
      rw [hl] at g2
      rw [e1 _ (by omega) (by omega), e1 c g2 (by omega)]
      have h1 := hx c g1 (by omega)
      rw [g3] at h1
      exact (hx i g4 (by omega)).trans h1
    by_cases hb : 0 < i ∧ bef (it (cutF xs i m) i) (it (cutF xs i m) ((i - 1) / 2)) = true
    · have hu : Hm (upF (i + 1) (cutF xs i m) i) := by
        refine upF_heap _ _ _ (by omega) (by omega) ⟨fun j j1 j2 j3 => ?_, c2⟩
        rw [hl] at j2
        by_cases hp : (j - 1) / 2 = i
        · rw [hp]; exact (Ple.of_bef hb.2).trans (c2 j j1 (by omega) hp hb.1)
        · rw [e1 _ (by omega) hp, e1 j j2 j3]; exact hx j j1 (by omega)
      rw [downF_same hu]
      exact hu
    · have hu : 0 < i → Ple (it (cutF xs i m) ((i - 1) / 2)) (it (cutF xs i m) i) := by
        intro h0
        cases hc : bef (it (cutF xs i m) i) (it (cutF xs i m) ((i - 1) / 2)) with
        | false => exact hc
        | true => exact absurd ⟨h0, hc⟩ hb
      rw [upF_same hu]
      refine downF_heap _ _ _ (by omega) (by omega) ⟨fun j j1 j2 j3 => ?_, c2⟩
      rw [hl] at j2
      by_cases hji : j = i
      · subst hji; exact hu j1
      · rw [e1 _ (by omega) j3, e1 j j2 hji]; exact hx j j1 (by omega)
  · rw [if_neg him]
    intro j j1 j2
    rw [hl] at j2
    rw [e1 _ (by omega) (by omega), e1 j j2 (by omega)]
    exact hx j j1 (by omega)
theorem hm_nil : Hm [] := fun j _ h => absurd h (by simp)
theorem addF_heap {xs : List Item} (h : Hm xs) (x : Item) : Hm (addF xs x).1 := by
  unfold addF
  split
  · exact h
  · have e1 : ∀ k, k < xs.length → it (xs ++ [x]) k = it xs k := fun k hk => by
      unfold it; simp [List.getD_eq_getElem?_getD, List.getElem?_append_left hk]
    refine upF_heap _ _ _ (by omega) (by simp) ⟨fun j j1 j2 j3 => ?_, fun c c1 c2 c3 c4 => ?_⟩
    · have : j < xs.length := by simp at j2; omega
      rw [e1 _ (by omega), e1 j this]; exact h j j1 this
    · simp at c2; omega
theorem hm_min {xs : List Item} (h : Hm xs) : ∀ k, k < xs.length → Ple (it xs 0) (it xs k) := by
  intro k
  induction k using Nat.strongRecOn with
  | ind k ih =>
    intro hk
    by_cases h0 : k = 0
    · subst h0; exact Ple.refl _
    · exact (ih ((k - 1) / 2) (by omega) (by omega)).trans (h k (by omega) hk)
theorem hm_first {xs : List Item} (h : Hm xs) (h0 : 0 < xs.length) : srt xs = it xs 0 :: srt (removeF xs 0 (xs.length - 1)) := by
  have hp := removeF_perm (xs := xs) (i := 0) (m := xs.length - 1) (by omega) (by omega)
  refine (srt_eq ?_ ?_).symm
  · exact ((srt_perm _).cons _).trans hp
  · refine List.pairwise_cons.2 ⟨fun y hy => ?_, srt_pair _⟩
    have hy2 : y ∈ xs := hp.subset (List.mem_cons_of_mem _ ((srt_perm _).subset hy))
    obtain ⟨k, hk, rfl⟩ := List.getElem_of_mem hy2
    have := hm_min h k hk
    rwa [it_eq hk] at this
theorem popF_heap : ∀ (k : Nat) (xs : List Item) (now : Int), xs.length < k → Hm xs → Hm (popF k xs now).2 ∧ (popF k xs now).1 = (srt xs).filter (fun y => decide (y.due ≤ now)) ∧ srt (popF k xs now).2 = (srt xs).filter (fun y => !decide (y.due ≤ now))
  | 0, xs, _, h, _ => by omega
  | k + 1, xs, now, h, hx => by
    unfold popF
    by_cases h0 : 0 < xs.length
    · have hf := hm_first hx h0
      by_cases h1 : (it xs 0).due ≤ now
      · rw [if_pos ⟨h0, h1⟩, hf]
        have hm : xs.length = (xs.length - 1) + 1 := by omega
        have ih := popF_heap k (removeF xs 0 (xs.length - 1)) now (by rw [removeF_len hm]; omega) (removeF_heap hx hm (by omega))
        refine ⟨ih.1, ?_, ?_⟩
        · simp only [ih.2.1]; rw [List.filter_cons_of_pos (by simpa using h1)]
        · simp only [ih.2.2]; rw [List.filter_cons_of_neg (by simpa using h1)]
      · rw [if_neg (fun h => h1 h.2)]
        have hall : ∀ y ∈ srt xs, ¬ y.due ≤ now := by
          intro y hy
          obtain ⟨k, hk, rfl⟩ := List.getElem_of_mem ((srt_perm xs).subset hy)
          have h2 := hm_min hx k hk
          rw [it_eq hk] at h2
          rw [LE_iff] at h2
          omega
        refine ⟨hx, ?_, ?_⟩
        · exact (List.filter_eq_nil_iff.2 (fun y hy => by simpa using hall y hy)).symm
        · exact (List.filter_eq_self.2 (fun y hy => by simpa using hall y hy)).symm
    · have : xs = [] := List.eq_nil_of_length_eq_zero (by omega)
      subst this
      rw [if_neg (by simp)]
      exact ⟨hm_nil, by simp [srt], by simp [srt]⟩
end Go.Proofs.Ytljahaeachdjmaa

set_option linter.unusedSimpArgs false
set_option linter.unusedVariables false
set_option maxHeartbeats 8000000
namespace Go.Proofs.Ytljahaeachdjmaa
open Go Go.Amb Go.IntWalk

theorem f33 (xs : List AV) (hu : ∀ x ∈ xs, (cellsOf x).length = 2) (hb : xs.length * 16 ≤ 140737488355328) (hl : xs.length ≤ 9223372036854775807) : ACall Try.prog 33 [.sl .fro xs] (· = .sl (.own 2) xs) := by
  refine a33_of (by simp) ?_
  repeat refine AW.seq ?_
  refine AW.reg ?_
  have hF := True.intro
  repeat (first | refine wD1 ?_ | refine wD2 ?_ | refine wE1 ?_ | refine wE2 ?_ | (refine wE3 ?_; intro _) | (refine wE4 ?_; intro _) | refine wN ?_ | ((with_reducible show evIs _ (_ :: _) _ _); first | refine wQ ?_ | refine wF ?_ | refine wG ?_ | refine wT ?_ | refine wM ?_ | refine wS ?_ | refine wP ?_ | refine wJ ?_ | refine wX ?_ | refine wY ?_ | refine wZ ?_))
  clear hF
  repeat refine evDone ?_
  try (show AW _ _ _ _ _)
  repeat refine AW.seq ?_
  refine AW.reg ?_
  have hF := True.intro
  repeat (first | refine wD1 ?_ | refine wD2 ?_ | refine wE1 ?_ | refine wE2 ?_ | (refine wE3 ?_; intro _) | (refine wE4 ?_; intro _) | refine wN ?_ | ((with_reducible show evIs _ (_ :: _) _ _); first | refine wQ ?_ | refine wF ?_ | refine wG ?_ | refine wT ?_ | refine wM ?_ | refine wS ?_ | refine wP ?_ | refine wJ ?_ | refine wX ?_ | refine wY ?_ | refine wZ ?_))
  clear hF
  repeat refine evDone ?_
  try (show AW _ _ _ _ _)
  refine evZ rfl rfl rfl (by conv => lhs; simp) (by simp) rfl ?_
  intro b hbz
  show AW _ _ _ _ _
  cases b
  · repeat refine AW.seq ?_
    refine AW.condF (by simp []) (by simp []) ?_
    refine AW.skip ?_
    show AW _ _ _ _ _
    repeat refine AW.seq ?_
    refine AW.reg ?_
    have hF := And.intro (hb) (And.intro (hl) (eq_true hu))
    repeat (first | refine wD1 ?_ | refine wD2 ?_ | refine wE1 ?_ | refine wE2 ?_ | (refine wE3 ?_; intro _) | (refine wE4 ?_; intro _) | refine wN ?_ | ((with_reducible show evIs _ (_ :: _) _ _); first | refine wQ ?_ | refine wF ?_ | refine wG ?_ | refine wT ?_ | refine wM ?_ | refine wS ?_ | refine wP ?_ | refine wJ ?_ | refine wX ?_ | refine wY ?_ | refine wZ ?_))
    clear hF
    repeat refine evDone ?_
    try (show AW _ _ _ _ _)
    refine AW.ret (retI rfl ?_)
    simp [a33_res, resOk, resP, resV, ARes.op, R2s, R2, R1s, R1, closeOk, closeV]
  · have hx : xs = [] := List.length_eq_zero_iff.1 (by simpa [lenOf] using hbz)
    subst hx
    repeat refine AW.seq ?_
    refine AW.condT (by simp []) (by simp []) ?_
    repeat refine AW.seq ?_
    refine AW.reg ?_
    have hF := True.intro
    repeat (first | refine wD1 ?_ | refine wD2 ?_ | refine wE1 ?_ | refine wE2 ?_ | (refine wE3 ?_; intro _) | (refine wE4 ?_; intro _) | refine wN ?_ | ((with_reducible show evIs _ (_ :: _) _ _); first | refine wQ ?_ | refine wF ?_ | refine wG ?_ | refine wT ?_ | refine wM ?_ | refine wS ?_ | refine wP ?_ | refine wJ ?_ | refine wX ?_ | refine wY ?_ | refine wZ ?_))
    clear hF
    repeat refine evDone ?_
    try (show AW _ _ _ _ _)
    refine AW.ret (retI rfl ?_)
    simp [a33_res, resOk, resP, resV, ARes.op, R2s, R2, R1s, R1, closeOk, closeV]
theorem f34 (N H : Nat) (hH : H < N) (xs : List Item) (hl : xs.length ≤ 200) :
    BCall Try.prog 34 [(H, ⟨2, false, xs.map Item.av⟩)] N [.hdr H 0 xs.length, .fn 35 []] (fun H1 n' v => H1 = [(H, ⟨2, false, (srt xs).map Item.av⟩)] ∧ N ≤ n' ∧ v = .tup []) := by
  have hN : (∀ q, (H = N + q) = False) ∧ (∀ q, (N + q = H) = False) ∧ (H = N) = False ∧ (N = H) = False ∧ (∀ q, H < N + q) ∧ (∀ q, (N + q < N) = False) ∧ H < N := by
    refine ⟨?_, ?_, ?_, ?_, ?_, ?_, ?_⟩ <;> first | exact fun q => eq_false (by omega) | exact eq_false (by omega) | exact fun q => by omega | omega
  refine bcall_coded a34_ok (by simp) ?_
  obtain ⟨k, hk⟩ : ∃ k, k = bl xs.length := ⟨_, rfl⟩
  have h41 := f41 xs.length (by omega)
  have h40 := f40 xs.length N H hH xs 0 xs.length (bl xs.length) (by omega) (Nat.zero_le _) (Nat.le_refl _) hl (fun j h => absurd h (by omega))
  rw [show (((0 : Nat) : Int)) = 0 from rfl] at h40
  rw [← hk] at h40 h41
  have hso : ∀ ys, Sam 0 xs.length xs ys → Srt 0 xs.length ys → ys = srt xs := fun ys h1 h2 => srt_of h1 h2
  have hsl := srt_len xs
  generalize srt xs = zs at hso hsl ⊢
  generalize hn : xs.length = n at *
  have hwL : IntKind.u64.wrap (n : Int) = n := by
    simp [IntKind.wrap, IntKind.bits, IntKind.signed]; omega
  rw [mkS_eq]
  repeat refine AW.seq ?_
  refine AW.reg ?_
  have hF := And.intro (hn) (hN)
  repeat (first | refine wD1 ?_ | refine wD2 ?_ | refine wE1 ?_ | refine wE2 ?_ | (refine wE3 ?_; intro _) | (refine wE4 ?_; intro _) | refine wN ?_ | ((with_reducible show evIs _ (_ :: _) _ _); first | refine wQ ?_ | refine wF ?_ | refine wG ?_ | refine wT ?_ | refine wM ?_ | refine wS ?_ | refine wP ?_ | refine wJ ?_ | refine wX ?_ | refine wY ?_ | refine wZ ?_))
  clear hF
  repeat refine evDone ?_
  try (show AW _ _ _ _ _)
  refine AW.reg ?_
  have hF := And.intro (hwL) (hN)
  repeat (first | refine wD1 ?_ | refine wD2 ?_ | refine wE1 ?_ | refine wE2 ?_ | (refine wE3 ?_; intro _) | (refine wE4 ?_; intro _) | refine wN ?_ | ((with_reducible show evIs _ (_ :: _) _ _); first | refine wQ ?_ | refine wF ?_ | refine wG ?_ | refine wT ?_ | refine wM ?_ | refine wS ?_ | refine wP ?_ | refine wJ ?_ | refine wX ?_ | refine wY ?_ | refine wZ ?_))
  clear hF
  repeat refine evDone ?_
  try (show AW _ _ _ _ _)
  have hF := hN
  refine wC (hA := h41) ?_
  clear hF
  have hF := hN
  repeat (first | refine wD1 ?_ | refine wD2 ?_ | refine wE1 ?_ | refine wE2 ?_ | (refine wE3 ?_; intro _) | (refine wE4 ?_; intro _) | refine wN ?_ | ((with_reducible show evIs _ (_ :: _) _ _); first | refine wQ ?_ | refine wF ?_ | refine wG ?_ | refine wT ?_ | refine wM ?_ | refine wS ?_ | refine wP ?_ | refine wJ ?_ | refine wX ?_ | refine wY ?_ | refine wZ ?_))
  clear hF
  repeat refine evDone ?_
  try (show AW _ _ _ _ _)
  have hF := hN
  refine wL (hA := h40) ?_
  clear hF
  rintro _ n1 _ ⟨ys, rfl, hn1, rfl, g1, g2⟩
  have hm : H < n1 ∧ (∀ q, H < n1 + q) := ⟨by omega, fun q => by omega⟩
  rw [hso ys g1 g2]
  have hF := And.intro (hN) (hm)
  repeat (first | refine wD1 ?_ | refine wD2 ?_ | refine wE1 ?_ | refine wE2 ?_ | (refine wE3 ?_; intro _) | (refine wE4 ?_; intro _) | refine wN ?_ | ((with_reducible show evIs _ (_ :: _) _ _); first | refine wQ ?_ | refine wF ?_ | refine wG ?_ | refine wT ?_ | refine wM ?_ | refine wS ?_ | refine wP ?_ | refine wJ ?_ | refine wX ?_ | refine wY ?_ | refine wZ ?_))
  clear hF
  repeat refine evDone ?_
  try (show AW _ _ _ _ _)
  refine ⟨by simp [resP, a34_res, ARes.op, hN], [(H, ⟨2, false, zs.map Item.av⟩)], n1, [], ⟨rfl, hn1, rfl⟩, by omega, by simp [hN], rfl, by simp, ?_⟩
  simp only [resV, a34_res, List.map_nil]
  refine Fit.mk _ _ _ (by simp [hN, hm, conv2, newEmp, convs_refl, convs, conv]) (by simp [hN, hm, heapFit, newEmp, conv2s, conv2, convs_refl, convs, conv]) (by intro q hq; first | (simp at hq; done) | (simp at hq; omega) | (simp at hq; simp; omega))
theorem f25 (xs : List Item) (hl : xs.length ≤ 200) : ACall Try.prog 25 [qv xs true] (· = .sl (.own 2) ((srt xs).map Item.av)) := by
  have h28 := f28 xs true
  have h33 := f33 (xs.map Item.av) (fun v hv => by obtain ⟨y, _, rfl⟩ := List.mem_map.1 hv; simp) (by simp; omega) (by simp; omega)
  have hlen : (xs.map Item.av).length = xs.length := by simp
  have h34 := f34 500 9 (by omega) xs hl
  have hsl := srt_len xs
  have hcc : ∀ v ∈ xs.map Item.av, (cellsOf v).length = 2 := by
    intro v hv; obtain ⟨y, _, rfl⟩ := List.mem_map.1 hv; simp
  simp only [qv, items] at h28 h33 ⊢
  refine c25_of (by simp) ?_
  repeat refine AW.seq ?_
  refine AW.reg ?_
  have hF := True.intro
  repeat (first | refine wD1 ?_ | refine wD2 ?_ | refine wE1 ?_ | refine wE2 ?_ | (refine wE3 ?_; intro _) | (refine wE4 ?_; intro _) | refine wN ?_ | ((with_reducible show evIs _ (_ :: _) _ _); first | refine wQ ?_ | refine wF ?_ | refine wG ?_ | refine wT ?_ | refine wM ?_ | refine wS ?_ | refine wP ?_ | refine wJ ?_ | refine wX ?_ | refine wY ?_ | refine wZ ?_))
  clear hF
  repeat refine evDone ?_
  try (show AW _ _ _ _ _)
  repeat refine AW.seq ?_
  refine AW.reg ?_
  have hF := True.intro
  repeat (first | refine wD1 ?_ | refine wD2 ?_ | refine wE1 ?_ | refine wE2 ?_ | (refine wE3 ?_; intro _) | (refine wE4 ?_; intro _) | refine wN ?_ | ((with_reducible show evIs _ (_ :: _) _ _); first | refine wQ ?_ | refine wF ?_ | refine wG ?_ | refine wT ?_ | refine wM ?_ | refine wS ?_ | refine wP ?_ | refine wJ ?_ | refine wX ?_ | refine wY ?_ | refine wZ ?_))
  clear hF
  repeat refine evDone ?_
  try (show AW _ _ _ _ _)
  have hF := True.intro
  refine wC (hA := h28) ?_
  clear hF
  have hF := True.intro
  repeat (first | refine wD1 ?_ | refine wD2 ?_ | refine wE1 ?_ | refine wE2 ?_ | (refine wE3 ?_; intro _) | (refine wE4 ?_; intro _) | refine wN ?_ | ((with_reducible show evIs _ (_ :: _) _ _); first | refine wQ ?_ | refine wF ?_ | refine wG ?_ | refine wT ?_ | refine wM ?_ | refine wS ?_ | refine wP ?_ | refine wJ ?_ | refine wX ?_ | refine wY ?_ | refine wZ ?_))
  clear hF
  repeat refine evDone ?_
  try (show AW _ _ _ _ _)
  repeat refine AW.seq ?_
  refine AW.condF (by simp []) (by simp []) ?_
  refine AW.skip ?_
  show AW _ _ _ _ _
  repeat refine AW.seq ?_
  refine AW.reg ?_
  have hF := True.intro
  repeat (first | refine wD1 ?_ | refine wD2 ?_ | refine wE1 ?_ | refine wE2 ?_ | (refine wE3 ?_; intro _) | (refine wE4 ?_; intro _) | refine wN ?_ | ((with_reducible show evIs _ (_ :: _) _ _); first | refine wQ ?_ | refine wF ?_ | refine wG ?_ | refine wT ?_ | refine wM ?_ | refine wS ?_ | refine wP ?_ | refine wJ ?_ | refine wX ?_ | refine wY ?_ | refine wZ ?_))
  clear hF
  repeat refine evDone ?_
  try (show AW _ _ _ _ _)
  have hF := True.intro
  refine wA (hA := h33) ?_
  clear hF
  have hF := True.intro
  repeat (first | refine wD1 ?_ | refine wD2 ?_ | refine wE1 ?_ | refine wE2 ?_ | (refine wE3 ?_; intro _) | (refine wE4 ?_; intro _) | refine wN ?_ | ((with_reducible show evIs _ (_ :: _) _ _); first | refine wQ ?_ | refine wF ?_ | refine wG ?_ | refine wT ?_ | refine wM ?_ | refine wS ?_ | refine wP ?_ | refine wJ ?_ | refine wX ?_ | refine wY ?_ | refine wZ ?_))
  clear hF
  repeat refine evDone ?_
  try (show AW _ _ _ _ _)
  repeat refine AW.seq ?_
  refine AW.reg ?_
  have hF := True.intro
  repeat (first | refine wD1 ?_ | refine wD2 ?_ | refine wE1 ?_ | refine wE2 ?_ | (refine wE3 ?_; intro _) | (refine wE4 ?_; intro _) | refine wN ?_ | ((with_reducible show evIs _ (_ :: _) _ _); first | refine wQ ?_ | refine wF ?_ | refine wG ?_ | refine wT ?_ | refine wM ?_ | refine wS ?_ | refine wP ?_ | refine wJ ?_ | refine wX ?_ | refine wY ?_ | refine wZ ?_))
  clear hF
  repeat refine evDone ?_
  try (show AW _ _ _ _ _)
  have hF := True.intro
  refine wL (hA := h34) ?_
  clear hF
  rintro _ n1 _ ⟨rfl, hn1, rfl⟩
  have hF := True.intro
  repeat (first | refine wD1 ?_ | refine wD2 ?_ | refine wE1 ?_ | refine wE2 ?_ | (refine wE3 ?_; intro _) | (refine wE4 ?_; intro _) | refine wN ?_ | ((with_reducible show evIs _ (_ :: _) _ _); first | refine wQ ?_ | refine wF ?_ | refine wG ?_ | refine wT ?_ | refine wM ?_ | refine wS ?_ | refine wP ?_ | refine wJ ?_ | refine wX ?_ | refine wY ?_ | refine wZ ?_))
  clear hF
  repeat refine evDone ?_
  try (show AW _ _ _ _ _)
  repeat refine AW.seq ?_
  refine AW.reg ?_
  have hF := True.intro
  repeat (first | refine wD1 ?_ | refine wD2 ?_ | refine wE1 ?_ | refine wE2 ?_ | (refine wE3 ?_; intro _) | (refine wE4 ?_; intro _) | refine wN ?_ | ((with_reducible show evIs _ (_ :: _) _ _); first | refine wQ ?_ | refine wF ?_ | refine wG ?_ | refine wT ?_ | refine wM ?_ | refine wS ?_ | refine wP ?_ | refine wJ ?_ | refine wX ?_ | refine wY ?_ | refine wZ ?_))
  clear hF
  repeat refine evDone ?_
  try (show AW _ _ _ _ _)
  refine AW.ret (retI rfl ?_)
  simp [c25_res, resOk, resP, resV, ARes.op, R2s, R2, R1s, R1, closeOk, closeV]
  exact ⟨by omega, (List.take_of_length_le (by rw [List.length_map, hsl]; exact Nat.le_refl _)).symm⟩
end Go.Proofs.Ytljahaeachdjmaa

set_option linter.unusedSimpArgs false
set_option linter.unusedVariables false
set_option maxHeartbeats 8000000
namespace Go.Proofs.Ytljahaeachdjmaa
open Go Go.Amb Go.IntWalk

theorem f27 (xs : List Item) (hl : xs.length ≤ 200) : ACall Try.prog 27 [items xs, items xs] (· = .bool true) := by
  simp only [items]
  refine a27_of (by simp) ?_
  repeat refine AW.seq ?_
  refine AW.reg ?_
  have hF := True.intro
  repeat (first | refine wD1 ?_ | refine wD2 ?_ | refine wE1 ?_ | refine wE2 ?_ | (refine wE3 ?_; intro _) | (refine wE4 ?_; intro _) | refine wN ?_ | ((with_reducible show evIs _ (_ :: _) _ _); first | refine wQ ?_ | refine wF ?_ | refine wG ?_ | refine wT ?_ | refine wM ?_ | refine wS ?_ | refine wP ?_ | refine wJ ?_ | refine wX ?_ | refine wY ?_ | refine wZ ?_))
  clear hF
  repeat refine evDone ?_
  try (show AW _ _ _ _ _)
  repeat refine AW.seq ?_
  refine AW.reg ?_
  have hF := True.intro
  repeat (first | refine wD1 ?_ | refine wD2 ?_ | refine wE1 ?_ | refine wE2 ?_ | (refine wE3 ?_; intro _) | (refine wE4 ?_; intro _) | refine wN ?_ | ((with_reducible show evIs _ (_ :: _) _ _); first | refine wQ ?_ | refine wF ?_ | refine wG ?_ | refine wT ?_ | refine wM ?_ | refine wS ?_ | refine wP ?_ | refine wJ ?_ | refine wX ?_ | refine wY ?_ | refine wZ ?_))
  clear hF
  repeat refine evDone ?_
  try (show AW _ _ _ _ _)
  repeat refine AW.seq ?_
  refine AW.condF (by simp []) (by simp []) ?_
  refine AW.skip ?_
  show AW _ _ _ _ _
  repeat refine AW.seq ?_
  refine AW.reg ?_
  have hF := True.intro
  repeat (first | refine wD1 ?_ | refine wD2 ?_ | refine wE1 ?_ | refine wE2 ?_ | (refine wE3 ?_; intro _) | (refine wE4 ?_; intro _) | refine wN ?_ | ((with_reducible show evIs _ (_ :: _) _ _); first | refine wQ ?_ | refine wF ?_ | refine wG ?_ | refine wT ?_ | refine wM ?_ | refine wS ?_ | refine wP ?_ | refine wJ ?_ | refine wX ?_ | refine wY ?_ | refine wZ ?_))
  clear hF
  repeat refine evDone ?_
  try (show AW _ _ _ _ _)
  repeat refine AW.seq ?_
  refine AW.block ?_
  refine AW.loop (fun i : Nat => i ≤ xs.length) (fun i => mkS [(0, .sl .fro (xs.map Item.av)), (1, .sl .fro (xs.map Item.av)), (12, .int .i64 xs.length), (13, .int .i64 i)] [] 0) (fun i => xs.length - i) 0 (by simp) ?_ ?_
  · refine Fit.mk _ _ _ (by simp [conv2, newEmp, convs_refl, convs, conv]) (by simp [heapFit, newEmp, conv2s, conv2, convs_refl, convs, conv]) (by intro q hq; first | (simp at hq; done) | (simp at hq; omega) | (simp at hq; simp; omega))
  · intro i hi
    repeat refine AW.seq ?_
    refine AW.reg ?_
    by_cases hlt : i < xs.length
    · obtain ⟨x, hx⟩ : ∃ x, xs[i]? = some x := ⟨_, List.getElem?_eq_getElem hlt⟩
      have he := elem_map (f := Item.av) hx
      obtain ⟨x1, x2⟩ := x
      simp only [Item.av] at he
      have hF := hlt
      repeat (first | refine wD1 ?_ | refine wD2 ?_ | refine wE1 ?_ | refine wE2 ?_ | (refine wE3 ?_; intro _) | (refine wE4 ?_; intro _) | refine wN ?_ | ((with_reducible show evIs _ (_ :: _) _ _); first | refine wQ ?_ | refine wF ?_ | refine wG ?_ | refine wT ?_ | refine wM ?_ | refine wS ?_ | refine wP ?_ | refine wJ ?_ | refine wX ?_ | refine wY ?_ | refine wZ ?_))
      clear hF
      repeat refine evDone ?_
      try (show AW _ _ _ _ _)
      repeat refine AW.seq ?_
      refine AW.condT (by simp []) (by simp []) ?_
      refine AW.skip ?_
      show AW _ _ _ _ _
      refine AW.seq (AW.block ?_)
      repeat refine AW.seq ?_
      refine AW.reg ?_
      have hF := hlt
      repeat (first | refine wD1 ?_ | refine wD2 ?_ | refine wE1 ?_ | refine wE2 ?_ | (refine wE3 ?_; intro _) | (refine wE4 ?_; intro _) | refine wN ?_ | ((with_reducible show evIs _ (_ :: _) _ _); first | refine wQ ?_ | refine wF ?_ | refine wG ?_ | refine wT ?_ | refine wM ?_ | refine wS ?_ | refine wP ?_ | refine wJ ?_ | refine wX ?_ | refine wY ?_ | refine wZ ?_))
      clear hF
      repeat refine evDone ?_
      try (show AW _ _ _ _ _)
      repeat refine AW.seq ?_
      refine AW.draw ?_
      have hF := And.intro (hlt) (he)
      repeat (first | refine wD1 ?_ | refine wD2 ?_ | refine wE1 ?_ | refine wE2 ?_ | (refine wE3 ?_; intro _) | (refine wE4 ?_; intro _) | refine wN ?_ | ((with_reducible show evIs _ (_ :: _) _ _); first | refine wQ ?_ | refine wF ?_ | refine wG ?_ | refine wT ?_ | refine wM ?_ | refine wS ?_ | refine wP ?_ | refine wJ ?_ | refine wX ?_ | refine wY ?_ | refine wZ ?_))
      clear hF
      repeat refine evDone ?_
      try (show AW _ _ _ _ _)
      repeat refine AW.seq ?_
      refine AW.condF (by simp []) (by simp []) ?_
      refine AW.skip ?_
      show AW _ _ _ _ _
      refine AW.reg ?_
      have hw : IntKind.i64.wrap ((i : Int) + 1) = (i : Int) + 1 := i64_in _ ⟨by omega, by omega⟩
      have hF := hw
      repeat (first | refine wD1 ?_ | refine wD2 ?_ | refine wE1 ?_ | refine wE2 ?_ | (refine wE3 ?_; intro _) | (refine wE4 ?_; intro _) | refine wN ?_ | ((with_reducible show evIs _ (_ :: _) _ _); first | refine wQ ?_ | refine wF ?_ | refine wG ?_ | refine wT ?_ | refine wM ?_ | refine wS ?_ | refine wP ?_ | refine wJ ?_ | refine wX ?_ | refine wY ?_ | refine wZ ?_))
      clear hF
      repeat refine evDone ?_
      try (show AW _ _ _ _ _)
      refine ⟨i + 1, by omega, by omega, ?_⟩
      refine Fit.mk _ _ _ (by simp [hw, conv2, newEmp, convs_refl, convs, conv]) (by simp [hw, heapFit, newEmp, conv2s, conv2, convs_refl, convs, conv]) (by intro q hq; first | (simp at hq; done) | (simp at hq; omega) | (simp at hq; simp; omega))
    · have hlt2 : ¬ (i : Int) < xs.length := by omega
      have hF := And.intro (hlt) (hlt2)
      repeat (first | refine wD1 ?_ | refine wD2 ?_ | refine wE1 ?_ | refine wE2 ?_ | (refine wE3 ?_; intro _) | (refine wE4 ?_; intro _) | refine wN ?_ | ((with_reducible show evIs _ (_ :: _) _ _); first | refine wQ ?_ | refine wF ?_ | refine wG ?_ | refine wT ?_ | refine wM ?_ | refine wS ?_ | refine wP ?_ | refine wJ ?_ | refine wX ?_ | refine wY ?_ | refine wZ ?_))
      clear hF
      repeat refine evDone ?_
      try (show AW _ _ _ _ _)
      repeat refine AW.seq ?_
      refine AW.condF (by simp []) (by simp []) ?_
      refine AW.exit ?_
      show AW _ _ _ _ _
      repeat refine AW.seq ?_
      refine AW.reg ?_
      have hF := True.intro
      repeat (first | refine wD1 ?_ | refine wD2 ?_ | refine wE1 ?_ | refine wE2 ?_ | (refine wE3 ?_; intro _) | (refine wE4 ?_; intro _) | refine wN ?_ | ((with_reducible show evIs _ (_ :: _) _ _); first | refine wQ ?_ | refine wF ?_ | refine wG ?_ | refine wT ?_ | refine wM ?_ | refine wS ?_ | refine wP ?_ | refine wJ ?_ | refine wX ?_ | refine wY ?_ | refine wZ ?_))
      clear hF
      repeat refine evDone ?_
      try (show AW _ _ _ _ _)
      refine AW.ret (retI rfl ?_)
      simp [a27_res, resOk, resP, resV, ARes.op, R2s, R2, R1s, R1, closeOk, closeV]
abbrev dueP (now : Int) : Item → Bool := fun y => decide (y.due ≤ now)
abbrev lateP (now : Int) : Item → Bool := fun y => !decide (y.due ≤ now)
theorem filt_split {now later : Int} (h : now ≤ later) : ∀ l : List Item, l.Pairwise Ple → l.filter (dueP now) ++ (l.filter (lateP now)).filter (dueP later) = l.filter (dueP later)
  | [], _ => rfl
  | y :: l, hs => by
    obtain ⟨h1, h2⟩ := List.pairwise_cons.1 hs
    by_cases hy : y.due ≤ now
    · rw [List.filter_cons_of_pos (by simpa using hy), List.filter_cons_of_neg (by simpa using hy), List.filter_cons_of_pos (by simp; omega), List.cons_append, filt_split h l h2]
    · have hall : ∀ z ∈ y :: l, ¬ z.due ≤ now := by
        intro z hz
        rcases List.mem_cons.1 hz with rfl | hz
        · exact hy
        · have := (LE_iff _ _).1 (h1 z hz)
          omega
      have e1 : (y :: l).filter (dueP now) = [] := List.filter_eq_nil_iff.2 (fun z hz => by simpa using hall z hz)
      have e2 : (y :: l).filter (lateP now) = y :: l := List.filter_eq_self.2 (fun z hz => by simpa using hall z hz)
      rw [e1, e2, List.nil_append]
theorem filt_rest {now later : Int} (h : now ≤ later) (l : List Item) : (l.filter (lateP now)).filter (lateP later) = l.filter (lateP later) := by
  rw [List.filter_filter]
  refine List.filter_congr (fun y _ => ?_)
  simp only [lateP]
  by_cases h1 : y.due ≤ later <;> by_cases h2 : y.due ≤ now <;> simp [h1, h2]
  omega
theorem filt_none (later : Int) (l : List Item) : (l.filter (lateP later)).filter (dueP later) = [] := by
  rw [List.filter_eq_nil_iff]
  intro y hy
  have := (List.mem_filter.1 hy).2
  simpa using this
theorem fillF_heap : ∀ (l xs : List Item), Hm xs → Hm (fillF xs l)
  | [], _, h => h
  | x :: l, xs, h => fillF_heap l (addF xs x).1 (addF_heap h x)
/-- The law of two steps. -/
theorem split_law (xs : List Item) (hx : Hm xs) {now later : Int} (h : now ≤ later) (a p b q c r : List Item) (ha : (a, p) = popF (xs.length + 1) xs now) (hb : (b, q) = popF (p.length + 1) p later) (hc : (c, r) = popF (xs.length + 1) xs later) :
    (∀ x ∈ a, x.due ≤ now) ∧ a ++ b = c ∧ srt q = srt r ∧ (popF (r.length + 1) r later).1 = [] ∧ a.length ≤ xs.length ∧ b.length ≤ xs.length ∧ p.length ≤ xs.length ∧ q.length ≤ xs.length ∧ r.length ≤ xs.length := by
  have h1 := popF_heap (xs.length + 1) xs now (by omega) hx
  have h3 := popF_heap (xs.length + 1) xs later (by omega) hx
  rw [← ha] at h1
  rw [← hc] at h3
  dsimp only at h1 h3
  have h2 := popF_heap (p.length + 1) p later (by omega) h1.1
  have h4 := popF_heap (r.length + 1) r later (by omega) h3.1
  rw [← hb] at h2
  dsimp only at h2
  have hl := srt_len xs
  have e1 : a.length = ((srt xs).filter (dueP now)).length := congrArg List.length h1.2.1
  have e2 : (srt p).length = ((srt xs).filter (lateP now)).length := congrArg List.length h1.2.2
  have e3 : b.length = ((srt p).filter (dueP later)).length := congrArg List.length h2.2.1
  have e4 : (srt q).length = ((srt p).filter (lateP later)).length := congrArg List.length h2.2.2
  have e5 : (srt r).length = ((srt xs).filter (lateP later)).length := congrArg List.length h3.2.2
  rw [srt_len] at e2 e4 e5
  have g1 := List.length_filter_le (dueP now) (srt xs)
  have g2 := List.length_filter_le (lateP now) (srt xs)
  have g3 := List.length_filter_le (dueP later) (srt p)
  have g4 := List.length_filter_le (lateP later) (srt p)
  have g5 := List.length_filter_le (lateP later) (srt xs)
  have g6 := srt_len p
  refine ⟨fun x hx => ?_, ?_, ?_, ?_, by omega, by omega, by omega, by omega, by omega⟩
  · rw [h1.2.1] at hx
    simpa using (List.mem_filter.1 hx).2
  · rw [h1.2.1, h2.2.1, h1.2.2, h3.2.1]
    exact filt_split h _ (srt_pair xs)
  · rw [h2.2.2, h1.2.2, h3.2.2]
    exact filt_rest h _
  · rw [h4.2.1, h3.2.2]
    exact filt_none later _
end Go.Proofs.Ytljahaeachdjmaa

set_option linter.unusedSimpArgs false
set_option linter.unusedVariables false
namespace Go.Proofs.Ytljahaeachdjmaa
open Go Go.Amb Go.IntWalk

theorem items_scs : ∀ xs : List Item, scs (xs.map Item.av) = true
  | [] => rfl
  | x :: xs => by
    have := items_scs xs
    simp [scs, sc, Item.av, this]
theorem dist_of_nodup {l : List Item} (h : (l.map Item.id).Nodup) : Dist l l.length := by
  intro a b hba ha x y hx hy e
  have hp := List.pairwise_iff_getElem.1 (List.nodup_iff_pairwise_ne.1 h)
  obtain ⟨h1, rfl⟩ := List.getElem?_eq_some_iff.1 hx
  obtain ⟨h2, rfl⟩ := List.getElem?_eq_some_iff.1 hy
  have := hp b a (by simpa using h2) (by simpa using h1) hba
  simp only [List.getElem_map] at this
  exact this e.symm
theorem dist_perm {l m : List Item} (hd : Dist l l.length) (hp : m.Perm l) : Dist m m.length :=
  dist_of_nodup ((hp.map Item.id).nodup_iff.2 (dist_nodup hd))
theorem fill_perm {l : List Item} (hd : Dist l l.length) : (fillF [] l).Perm l := by
  have := fillF_perm hd l.length (Nat.le_refl _)
  rwa [List.take_length] at this
theorem fill_len (l : List Item) : (fillF [] l).length ≤ l.length := by
  have := fillF_len l l.length []
  rwa [List.take_length, List.length_nil, Nat.zero_add] at this
/-- The law of the order of adding. -/
theorem order_law {l m : List Item} (hd : Dist l l.length) (hp : m.Perm l) : srt (fillF [] l) = srt (fillF [] m) ∧ (srt (fillF [] l)).length = l.length := by
  have h1 := fill_perm hd
  have h2 := fill_perm (dist_perm hd hp)
  refine ⟨srt_same (h1.trans (h2.trans hp).symm), ?_⟩
  rw [srt_len, h1.length_eq]
/-- Neighbors in order. -/
theorem order_step {l : List Item} (hd : Dist l l.length) {i : Nat} {x y : Item} (hx : (srt (fillF [] l))[i]? = some x) (hy : (srt (fillF [] l))[i + 1]? = some y) : x.due < y.due ∨ (x.due = y.due ∧ x.id < y.id) := by
  have h1 := fill_perm hd
  have hnd := ((((srt_perm (fillF [] l)).trans h1).map Item.id).nodup_iff.2 (dist_nodup hd))
  have hs := srt_pair (fillF [] l)
  generalize srt (fillF [] l) = zs at *
  obtain ⟨g1, rfl⟩ := List.getElem?_eq_some_iff.1 hx
  obtain ⟨g2, rfl⟩ := List.getElem?_eq_some_iff.1 hy
  have hle := (LE_iff _ _).1 (List.pairwise_iff_getElem.1 hs i (i + 1) g1 g2 (by omega))
  have hne := List.pairwise_iff_getElem.1 (List.nodup_iff_pairwise_ne.1 hnd) i (i + 1) (by simpa using g1) (by simpa using g2) (by omega)
  simp only [List.getElem_map] at hne
  omega
end Go.Proofs.Ytljahaeachdjmaa

set_option linter.unusedSimpArgs false
set_option linter.unusedVariables false
namespace Go.Proofs.Ytljahaeachdjmaa
open Go Go.Amb Go.RowKit
structure Act where
  kind : Int
  due : Int
  id : Int
def Act.av (x : Act) : AV := .agg [.int .i64 x.kind, .int .i64 x.due, .int .i64 x.id]
section
variable {H : Type} {enc : TypeId × Value → H} {w : World} {n : Nat} {cs : List Value} {x : DataW H × List MemPlace}
theorem tell_byte (h : DataW.trod enc Try.prog w 0 (fun _ => true) true n 5 cs = some x) : ∃ u : Int, Tell w (cellsOf (AV.int .u8 u)) cs ∧ (cellsOf (AV.int .u8 u)).length = Try.prog.cellsOf 5 ∧ (0 ≤ u ∧ u ≤ 255) := by
  obtain ⟨i0, t0, e0, f0⟩ := tell_int Try.underlying5 h
  refine ⟨i0, t0, by kernel_rfl, ?_⟩
  simp [Lit.wf, IntKind.min, IntKind.max, IntKind.signed, IntKind.bits] at f0
  omega
theorem tell_bytes {v : Value} {d : DataW H} {p : List MemPlace} (h : DataW.Trod enc Try.prog w 0 (fun _ => true) true 54 v d p) : ∃ ls : List Int, Tell w [.sl .fro (ls.map (AV.int .u8))] v.cells.toList ∧ ∀ x ∈ ls, 0 ≤ x ∧ x ≤ 255 := by
  obtain ⟨n, h⟩ := h
  obtain ⟨ps, a, _, e⟩ := tell_slice Try.underlying54 (by decide +kernel) (AV.int .u8) (fun v d => 0 ≤ v ∧ v ≤ 255) h (fun m _ cs x hx => tell_byte hx)
  refine ⟨ps, a, ?_⟩
  rcases e with ⟨_, rfl⟩ | ⟨es, sp, _, e⟩
  · simp
  · intro y hy
    obtain ⟨_, _, h⟩ := e.mem y hy
    exact h
theorem tell_act (h : DataW.trod enc Try.prog w 0 (fun _ => true) true n 39 cs = some x) : ∃ u : Act, Tell w (cellsOf u.av) cs ∧ (cellsOf u.av).length = Try.prog.cellsOf 39 ∧ True := by
  obtain ⟨css, ds, m, rfl, hx, rfl, he⟩ := tell_fields Try.underlying39 (by kernel_rfl) h
  obtain ⟨c0, css, d0, ds, rfl, rfl, ⟨p0, h0⟩, he⟩ := each_cons he
  obtain ⟨c1, css, d1, ds, rfl, rfl, ⟨p1, h1⟩, he⟩ := each_cons he
  obtain ⟨c2, css, d2, ds, rfl, rfl, ⟨p2, h2⟩, he⟩ := each_cons he
  obtain ⟨rfl, rfl⟩ := each_nil he
  obtain ⟨i0, t0, _, _⟩ := tell_int Try.underlying3 h0
  obtain ⟨i1, t1, _, _⟩ := tell_int Try.underlying3 h1
  obtain ⟨i2, t2, _, _⟩ := tell_int Try.underlying3 h2
  refine ⟨⟨i0, i1, i2⟩, ?_, by simp [Act.av]; kernel_rfl, trivial⟩
  have := t0.app (t1.app t2)
  simpa [Act.av] using this
theorem tell_acts {v : Value} {d : DataW H} {p : List MemPlace} (h : DataW.Trod enc Try.prog w 0 (fun _ => true) true 35 v d p) : ∃ ls : List Act, Tell w [.sl .fro (ls.map Act.av)] v.cells.toList ∧ True := by
  obtain ⟨n, h⟩ := h
  obtain ⟨ps, a, _, e⟩ := tell_slice Try.underlying35 (by decide +kernel) Act.av (fun v d => True) h (fun m _ cs x hx => tell_act hx)
  exact ⟨ps, a, trivial⟩
end
end Go.Proofs.Ytljahaeachdjmaa
