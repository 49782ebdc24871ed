/- Contracts of chapter 37's functions, first part: the order of items; an item moves up. -/
import Derived.Test.YtljahaeachdjmaaB
import Derived.Test.YtljahaeachdjmaaA4
import Derived.Test.YtljahaeachdjmaaA3
import Derived.Test.YtljahaeachdjmaaAL
import Derived.IntWalk

set_option linter.unusedSimpArgs false
set_option linter.unusedVariables false
set_option maxHeartbeats 4000000
namespace Go.Proofs.Ytljahaeachdjmaa
open Go Go.Amb Go.IntWalk

structure Item where
  due : Int
  id : Int
  deriving DecidableEq, Inhabited
def Item.av (x : Item) : AV := .agg [.int .i64 x.due, .int .i64 x.id]
@[simp] theorem item_len (x : Item) : (cellsOf x.av).length = 2 := by simp [Item.av]
@[simp] theorem clC_item (x : Item) : clC x.av = x.av := by simp [Item.av]
def bef (a b : Item) : Bool := decide (a.due < b.due) || (a.due == b.due && decide (a.id < b.id))
def it (xs : List Item) (i : Nat) : Item := xs.getD i default
def swap (xs : List Item) (i j : Nat) : List Item := (xs.set i (it xs j)).set j (it xs i)
def upF : Nat → List Item → Nat → List Item
  | 0, xs, _ => xs
  | k + 1, xs, i => if i = 0 then xs else if bef (it xs i) (it xs ((i - 1) / 2)) then upF k (swap xs i ((i - 1) / 2)) ((i - 1) / 2) else xs
theorem swap_len (xs : List Item) (i j : Nat) : (swap xs i j).length = xs.length := by simp [swap]
theorem upF_len : ∀ (k : Nat) (xs : List Item) (i : Nat), (upF k xs i).length = xs.length
  | 0, _, _ => rfl
  | k + 1, xs, i => by
    unfold upF
    split
    · rfl
    · split
      · rw [upF_len k, swap_len]
      · rfl
theorem it_av {xs : List Item} {i : Nat} (h : i < xs.length) : elemAt (xs.map Item.av) i = .agg [.int .i64 (it xs i).due, .int .i64 (it xs i).id] := by
  rw [elem_map (f := Item.av) (List.getElem?_eq_getElem h)]
  simp [it, h, Item.av]
theorem set_av (xs : List Item) (i : Nat) (x : Item) : (xs.map Item.av).set i (.agg [.int .i64 x.due, .int .i64 x.id]) = (xs.set i x).map Item.av := by
  rw [List.map_set]; rfl
theorem f36 (a b : Item) : ACall Try.prog 36 [a.av, b.av] (· = .bool (bef a b)) := by
  obtain ⟨a1, a2⟩ := a
  obtain ⟨b1, b2⟩ := b
  simp only [Item.av]
  refine a36_of (by simp) ?_
  repeat refine AW.seq ?_
  refine AW.reg ?_
  have hF := True.intro
  repeat (first | refine wD1 ?_ | refine wD2 ?_ | refine wE1 ?_ | refine wE2 ?_ | (refine wE3 ?_; intro _) | (refine wE4 ?_; intro _) | refine wN ?_ | ((with_reducible show evIs _ (_ :: _) _ _); first | refine wQ ?_ | refine wF ?_ | refine wG ?_ | refine wT ?_ | refine wM ?_ | refine wS ?_ | refine wP ?_ | refine wJ ?_ | refine wX ?_ | refine wY ?_ | refine wZ ?_))
  clear hF
  repeat refine evDone ?_
  try (show AW _ _ _ _ _)
  repeat refine AW.seq ?_
  refine AW.reg ?_
  by_cases h1 : a1 < b1
  · have hF := h1
    repeat (first | refine wD1 ?_ | refine wD2 ?_ | refine wE1 ?_ | refine wE2 ?_ | (refine wE3 ?_; intro _) | (refine wE4 ?_; intro _) | refine wN ?_ | ((with_reducible show evIs _ (_ :: _) _ _); first | refine wQ ?_ | refine wF ?_ | refine wG ?_ | refine wT ?_ | refine wM ?_ | refine wS ?_ | refine wP ?_ | refine wJ ?_ | refine wX ?_ | refine wY ?_ | refine wZ ?_))
    clear hF
    repeat refine evDone ?_
    try (show AW _ _ _ _ _)
    refine AW.ret (retI rfl ?_)
    simp [bef, h1, a36_res, resOk, resP, resV, ARes.op, R2s, R2, R1s, R1, closeOk, closeV]
  · by_cases h2 : a1 = b1
    · subst h2
      have hF := h1
      repeat (first | refine wD1 ?_ | refine wD2 ?_ | refine wE1 ?_ | refine wE2 ?_ | (refine wE3 ?_; intro _) | (refine wE4 ?_; intro _) | refine wN ?_ | ((with_reducible show evIs _ (_ :: _) _ _); first | refine wQ ?_ | refine wF ?_ | refine wG ?_ | refine wT ?_ | refine wM ?_ | refine wS ?_ | refine wP ?_ | refine wJ ?_ | refine wX ?_ | refine wY ?_ | refine wZ ?_))
      clear hF
      repeat refine evDone ?_
      try (show AW _ _ _ _ _)
      refine AW.ret (retI rfl ?_)
      simp [bef, h1, a36_res, resOk, resP, resV, ARes.op, R2s, R2, R1s, R1, closeOk, closeV]
    · have h3 : (a1 == b1) = false := by simp [h2]
      have hF := And.intro (h1) (And.intro (h2) (h3))
      repeat (first | refine wD1 ?_ | refine wD2 ?_ | refine wE1 ?_ | refine wE2 ?_ | (refine wE3 ?_; intro _) | (refine wE4 ?_; intro _) | refine wN ?_ | ((with_reducible show evIs _ (_ :: _) _ _); first | refine wQ ?_ | refine wF ?_ | refine wG ?_ | refine wT ?_ | refine wM ?_ | refine wS ?_ | refine wP ?_ | refine wJ ?_ | refine wX ?_ | refine wY ?_ | refine wZ ?_))
      clear hF
      repeat refine evDone ?_
      try (show AW _ _ _ _ _)
      refine AW.ret (retI rfl ?_)
      simp [bef, h1, h2, h3, a36_res, resOk, resP, resV, ARes.op, R2s, R2, R1s, R1, closeOk, closeV]
theorem mkS_eq (t : List (Nat × AV)) (h : List (Nat × Blk)) (n : Nat) : mkS t h n = ⟨mkT t, mkH h, n, fun r => decide (r < n)⟩ := rfl
def box (H n : Nat) : Blk := ⟨2, true, [.agg [.hdr H 0 n, .bool true]]⟩
theorem f31 (N B H : Nat) (hB : B < N) (hH : H < N) (hBH : B ≠ H) (xs : List Item) (i : Nat) (hi : i < xs.length) (hl : xs.length ≤ 8796093022208) :
    BCall Try.prog 31 [(B, box H xs.length), (H, ⟨2, false, xs.map Item.av⟩)] N [.ptr B 0 0, .int .i64 i] (fun H1 n' v => H1 = [(B, box H xs.length), (H, ⟨2, false, (upF (i + 1) xs i).map Item.av⟩)] ∧ n' = N + 100 ∧ v = .tup []) := by
  have hN : (B = H) = False ∧ (H = B) = False ∧ (∀ q, (B = N + q) = False) ∧ (∀ q, (N + q = B) = False) ∧ (∀ q, (H = N + q) = False) ∧ (∀ q, (N + q = H) = False) ∧ (∀ q, B < N + q) ∧ (∀ q, H < N + q) ∧ B < N ∧ H < N := by
    refine ⟨?_, ?_, ?_, ?_, ?_, ?_, ?_, ?_, ?_, ?_⟩ <;> first | exact eq_false (by omega) | exact fun q => eq_false (by omega) | exact fun q => by omega | omega
  simp only [box]
  refine bcall_coded a31_ok (by simp) ?_
  generalize hT : upF (i + 1) xs i = T
  generalize hn : xs.length = n at *
  rw [mkS_eq]
  repeat refine AW.seq ?_
  refine AW.block ?_
  refine AW.loop (fun g : Nat × List Item × Nat => g.2.2 < g.1 ∧ upF g.1 g.2.1 g.2.2 = T ∧ g.2.1.length = n ∧ g.2.2 < n) (fun g => mkS [(0, .ptr B 0 0), (1, .int .i64 g.2.2)] [(B, ⟨2, true, [.agg [.hdr H 0 n, .bool true]]⟩), (H, ⟨2, false, g.2.1.map Item.av⟩)] N) (fun g => g.1) (i + 1, xs, i) ⟨by simp, hT, hn, hi⟩ ?_ ?_
  · refine Fit.mk _ _ _ (by simp [hN, conv2, newEmp, convs_refl, convs, conv]) (by simp [hN, heapFit, newEmp, conv2s, conv2, convs_refl, convs, conv]) (by intro q hq; first | (simp at hq; done) | (simp at hq; omega) | (simp at hq; simp; omega))
  clear hT hn hi
  rintro ⟨K, ys, i⟩ ⟨hK, hT, hn, hi⟩
  dsimp only at hK hT hn hi ⊢
  obtain ⟨K, rfl⟩ : ∃ K', K = K' + 1 := ⟨K - 1, by omega⟩
  simp only [upF] at hT
  repeat refine AW.seq ?_
  refine AW.reg ?_
  cases i with
  | zero =>
    simp only [if_true] at hT
    subst hT
    have hF := hN
    repeat (first | refine wD1 ?_ | refine wD2 ?_ | refine wE1 ?_ | refine wE2 ?_ | (refine wE3 ?_; intro _) | (refine wE4 ?_; intro _) | refine wN ?_ | ((with_reducible show evIs _ (_ :: _) _ _); first | refine wQ ?_ | refine wF ?_ | refine wG ?_ | refine wT ?_ | refine wM ?_ | refine wS ?_ | refine wP ?_ | refine wJ ?_ | refine wX ?_ | refine wY ?_ | refine wZ ?_))
    clear hF
    repeat refine evDone ?_
    try (show AW _ _ _ _ _)
    repeat refine AW.seq ?_
    refine AW.condF (by simp []) (by simp []) ?_
    refine AW.exit ?_
    refine ⟨by simp [resP, a31_res, ARes.op], [(B, ⟨2, true, [.agg [.hdr H 0 n, .bool true]]⟩), (H, ⟨2, false, ys.map Item.av⟩)], N + 100, [], ⟨rfl, rfl, rfl⟩, by omega, by simp [hN], rfl, by simp, ?_⟩
    simp only [resV, a31_res, List.map_nil]
    refine Fit.mk _ _ _ (by simp [hN, conv2, newEmp, convs_refl, convs, conv]) (by simp [hN, heapFit, newEmp, conv2s, conv2, convs_refl, convs, conv]) (by intro q hq; first | (simp at hq; done) | (simp at hq; omega) | (simp at hq; simp; omega))
  | succ j =>
    obtain ⟨p, hp⟩ : ∃ p, p = j / 2 := ⟨_, rfl⟩
    simp only [Nat.add_one_ne_zero, if_false, Nat.add_sub_cancel, ← hp] at hT
    have hpj : p ≤ j := by omega
    have hq0 : (0 : Int) < (j : Int) + 1 := by omega
    have hw : IntKind.i64.wrap (j : Int) = (j : Int) := i64_in _ ⟨by omega, by omega⟩
    have hq : (j : Int).tdiv 2 = (p : Int) := by rw [hp]; rfl
    have hw2 : IntKind.i64.wrap (p : Int) = (p : Int) := i64_in _ ⟨by omega, by omega⟩
    have h1 : (0 : Int) ≤ (j : Int) + 1 := by omega
    have h2 : (j : Int) + 1 < n := by omega
    have h3 : (0 : Int) ≤ p := by omega
    have h4 : (p : Int) < n := by omega
    have h5 : j + 1 < n := hi
    have h6 : p < n := by omega
    have h7 : ((j : Int) + 1).toNat = j + 1 := by omega
    have he1 := it_av (xs := ys) (i := j + 1) (by omega)
    have he2 := it_av (xs := ys) (i := p) (by omega)
    have he3 := it_av (xs := ys.set (j + 1) (it ys p)) (i := p) (by simp; omega)
    rw [← set_av] at he3
    have h36 := f36 (it ys (j + 1)) (it ys p)
    simp only [Item.av] at h36
    have hF := And.intro (hq0) (hN)
    repeat (first | refine wD1 ?_ | refine wD2 ?_ | refine wE1 ?_ | refine wE2 ?_ | (refine wE3 ?_; intro _) | (refine wE4 ?_; intro _) | refine wN ?_ | ((with_reducible show evIs _ (_ :: _) _ _); first | refine wQ ?_ | refine wF ?_ | refine wG ?_ | refine wT ?_ | refine wM ?_ | refine wS ?_ | refine wP ?_ | refine wJ ?_ | refine wX ?_ | refine wY ?_ | refine wZ ?_))
    clear hF
    repeat refine evDone ?_
    try (show AW _ _ _ _ _)
    repeat refine AW.seq ?_
    refine AW.condT (by simp [hq0]) (by simp [hq0]) ?_
    refine AW.skip ?_
    show AW _ _ _ _ _
    refine AW.block ?_
    repeat refine AW.seq ?_
    refine AW.reg ?_
    have hF := And.intro (hw) (And.intro (hq) (And.intro (hw2) (hN)))
    repeat (first | refine wD1 ?_ | refine wD2 ?_ | refine wE1 ?_ | refine wE2 ?_ | (refine wE3 ?_; intro _) | (refine wE4 ?_; intro _) | refine wN ?_ | ((with_reducible show evIs _ (_ :: _) _ _); first | refine wQ ?_ | refine wF ?_ | refine wG ?_ | refine wT ?_ | refine wM ?_ | refine wS ?_ | refine wP ?_ | refine wJ ?_ | refine wX ?_ | refine wY ?_ | refine wZ ?_))
    clear hF
    repeat refine evDone ?_
    try (show AW _ _ _ _ _)
    repeat refine AW.seq ?_
    refine AW.draw ?_
    have hF := And.intro (h1) (And.intro (h2) (And.intro (h3) (And.intro (h4) (And.intro (h5) (And.intro (h6) (And.intro (h7) (And.intro (he1) (And.intro (he2) (And.intro (hn) (hN))))))))))
    repeat (first | refine wD1 ?_ | refine wD2 ?_ | refine wE1 ?_ | refine wE2 ?_ | (refine wE3 ?_; intro _) | (refine wE4 ?_; intro _) | refine wN ?_ | ((with_reducible show evIs _ (_ :: _) _ _); first | refine wQ ?_ | refine wF ?_ | refine wG ?_ | refine wT ?_ | refine wM ?_ | refine wS ?_ | refine wP ?_ | refine wJ ?_ | refine wX ?_ | refine wY ?_ | refine wZ ?_))
    clear hF
    repeat refine evDone ?_
    try (show AW _ _ _ _ _)
    have hF := hN
    refine wC (hA := h36) ?_
    clear hF
    have hF := And.intro (h1) (And.intro (h2) (And.intro (h3) (And.intro (h4) (And.intro (h5) (And.intro (h6) (And.intro (h7) (And.intro (he1) (And.intro (he2) (And.intro (hn) (hN))))))))))
    repeat (first | refine wD1 ?_ | refine wD2 ?_ | refine wE1 ?_ | refine wE2 ?_ | (refine wE3 ?_; intro _) | (refine wE4 ?_; intro _) | refine wN ?_ | ((with_reducible show evIs _ (_ :: _) _ _); first | refine wQ ?_ | refine wF ?_ | refine wG ?_ | refine wT ?_ | refine wM ?_ | refine wS ?_ | refine wP ?_ | refine wJ ?_ | refine wX ?_ | refine wY ?_ | refine wZ ?_))
    clear hF
    repeat refine evDone ?_
    try (show AW _ _ _ _ _)
    cases hb : bef (it ys (j + 1)) (it ys p) with
    | false =>
      rw [hb] at hT
      simp only [Bool.false_eq_true, if_false] at hT
      subst hT
      repeat refine AW.seq ?_
      refine AW.condT (by simp [hb]) (by simp [hb]) ?_
      refine AW.ret ⟨by simp [resP, a31_res, ARes.op], [(B, ⟨2, true, [.agg [.hdr H 0 n, .bool true]]⟩), (H, ⟨2, false, ys.map Item.av⟩)], N + 100, [], ⟨rfl, rfl, rfl⟩, by omega, by simp [hN], rfl, by simp, ?_⟩
      simp only [resV, a31_res, List.map_nil]
      refine Fit.mk _ _ _ (by simp [hN, conv2, newEmp, convs_refl, convs, conv]) (by simp [hN, heapFit, newEmp, conv2s, conv2, convs_refl, convs, conv]) (by intro q hq; first | (simp at hq; done) | (simp at hq; omega) | (simp at hq; simp; omega))
    | true =>
      rw [hb] at hT
      simp only [if_true] at hT
      repeat refine AW.seq ?_
      refine AW.condF (by simp [hb]) (by simp [hb]) ?_
      refine AW.skip ?_
      show AW _ _ _ _ _
      repeat refine AW.seq ?_
      refine AW.draw ?_
      have hF := And.intro (h1) (And.intro (h2) (And.intro (h3) (And.intro (h4) (And.intro (h5) (And.intro (h6) (And.intro (h7) (And.intro (he1) (And.intro (he2) (And.intro (he3) (And.intro (hn) (hN)))))))))))
      repeat (first | refine wD1 ?_ | refine wD2 ?_ | refine wE1 ?_ | refine wE2 ?_ | (refine wE3 ?_; intro _) | (refine wE4 ?_; intro _) | refine wN ?_ | ((with_reducible show evIs _ (_ :: _) _ _); first | refine wQ ?_ | refine wF ?_ | refine wG ?_ | refine wT ?_ | refine wM ?_ | refine wS ?_ | refine wP ?_ | refine wJ ?_ | refine wX ?_ | refine wY ?_ | refine wZ ?_))
      clear hF
      repeat refine evDone ?_
      try (show AW _ _ _ _ _)
      repeat refine AW.seq ?_
      refine AW.reg ?_
      have hF := hN
      repeat (first | refine wD1 ?_ | refine wD2 ?_ | refine wE1 ?_ | refine wE2 ?_ | (refine wE3 ?_; intro _) | (refine wE4 ?_; intro _) | refine wN ?_ | ((with_reducible show evIs _ (_ :: _) _ _); first | refine wQ ?_ | refine wF ?_ | refine wG ?_ | refine wT ?_ | refine wM ?_ | refine wS ?_ | refine wP ?_ | refine wJ ?_ | refine wX ?_ | refine wY ?_ | refine wZ ?_))
      clear hF
      repeat refine evDone ?_
      try (show AW _ _ _ _ _)
      refine ⟨(K, swap ys (j + 1) p, p), ⟨by dsimp only; omega, hT, by rw [swap_len]; exact hn, h6⟩, by dsimp only; omega, ?_⟩
      refine Fit.mk _ _ _ (by simp [swap, Item.av, hN, conv2, newEmp, convs_refl, convs, conv]) (by simp [swap, Item.av, hN, heapFit, newEmp, conv2s, conv2, convs_refl, convs, conv]) (by intro q hq; first | (simp at hq; done) | (simp at hq; omega) | (simp at hq; simp; omega))
end Go.Proofs.Ytljahaeachdjmaa

set_option linter.unusedSimpArgs false
set_option linter.unusedVariables false
set_option maxHeartbeats 8000000
namespace Go.Proofs.Ytljahaeachdjmaa
open Go Go.Amb Go.IntWalk

def least1 (xs : List Item) (i : Nat) : Nat := if 2 * i + 1 < xs.length ∧ bef (it xs (2 * i + 1)) (it xs i) = true then 2 * i + 1 else i
def leastF (xs : List Item) (i : Nat) : Nat := if 2 * i + 2 < xs.length ∧ bef (it xs (2 * i + 2)) (it xs (least1 xs i)) = true then 2 * i + 2 else least1 xs i
def downF : Nat → List Item → Nat → List Item
  | 0, xs, _ => xs
  | k + 1, xs, i => if leastF xs i = i then xs else downF k (swap xs i (leastF xs i)) (leastF xs i)
theorem downF_len : ∀ (k : Nat) (xs : List Item) (i : Nat), (downF k xs i).length = xs.length
  | 0, _, _ => rfl
  | k + 1, xs, i => by
    unfold downF
    split
    · rfl
    · rw [downF_len k, swap_len]
/-- What the search of the least child has found. -/
def LInv (xs : List Item) (i k l : Nat) : Prop := l < xs.length ∧ ((k = 2 * i + 1 ∧ l = i) ∨ (k = 2 * i + 2 ∧ l = least1 xs i ∧ 2 * i + 1 < xs.length) ∨ (k = 2 * i + 3 ∧ l = leastF xs i ∧ 2 * i + 2 < xs.length))
theorem inv_end {xs : List Item} {i k l : Nat} (h : LInv xs i k l) (hk : ¬ (k ≤ 2 * i + 2 ∧ k < xs.length)) : l = leastF xs i := by
  obtain ⟨hl, ⟨rfl, rfl⟩ | ⟨rfl, rfl, h1⟩ | ⟨rfl, rfl, h1⟩⟩ := h
  · have h1 : ¬ 2 * l + 1 < xs.length := by omega
    have h2 : ¬ 2 * l + 2 < xs.length := by omega
    simp [leastF, least1, h1, h2]
  · have h2 : ¬ 2 * i + 2 < xs.length := by omega
    simp [leastF, h2]
  · rfl
theorem least1_cases (xs : List Item) (i : Nat) : least1 xs i = i ∨ least1 xs i = 2 * i + 1 := by unfold least1; split <;> simp
theorem leastF_cases (xs : List Item) (i : Nat) : leastF xs i = i ∨ leastF xs i = 2 * i + 1 ∨ leastF xs i = 2 * i + 2 := by
  have := least1_cases xs i
  unfold leastF; split <;> omega
theorem inv_lt {xs : List Item} {i k l : Nat} (h : LInv xs i k l) (hk : ¬ l = i) : i < l := by
  have h1 := least1_cases xs i
  have h2 := leastF_cases xs i
  obtain ⟨hl, ⟨rfl, rfl⟩ | ⟨rfl, rfl, h3⟩ | ⟨rfl, rfl, h3⟩⟩ := h <;> omega
theorem inv_next {xs : List Item} {i k l : Nat} (h : LInv xs i k l) (hk : k ≤ 2 * i + 2) (hn : k < xs.length) : LInv xs i (k + 1) (if bef (it xs k) (it xs l) = true then k else l) := by
  obtain ⟨hl, ⟨rfl, rfl⟩ | ⟨rfl, rfl, h1⟩ | ⟨rfl, rfl, h1⟩⟩ := h
  · refine ⟨by split <;> omega, .inr (.inl ⟨by omega, ?_, hn⟩)⟩
    simp [least1, hn]
  · refine ⟨by split <;> omega, .inr (.inr ⟨by omega, ?_, hn⟩)⟩
    simp [leastF, hn]
  · omega
theorem f39 (N B H : Nat) (hB : B < N) (hH : H < N) (hBH : B ≠ H) (xs : List Item) (i : Nat) (hi : i < xs.length) (hl : xs.length ≤ 8796093022208) :
    BCall Try.prog 39 [(B, box H xs.length), (H, ⟨2, false, xs.map Item.av⟩)] N [.ptr B 0 0, .int .i64 i] (fun H1 n' v => H1 = [(B, box H xs.length), (H, ⟨2, false, (downF (xs.length - i) xs i).map Item.av⟩)] ∧ n' = N + 100 ∧ v = .tup []) := by
  have hN : (B = H) = False ∧ (H = B) = False ∧ (∀ q, (B = N + q) = False) ∧ (∀ q, (N + q = B) = False) ∧ (∀ q, (H = N + q) = False) ∧ (∀ q, (N + q = H) = False) ∧ (∀ q, B < N + q) ∧ (∀ q, H < N + q) ∧ B < N ∧ H < N := by
    refine ⟨?_, ?_, ?_, ?_, ?_, ?_, ?_, ?_, ?_, ?_⟩ <;> first | exact eq_false (by omega) | exact fun q => eq_false (by omega) | exact fun q => by omega | omega
  simp only [box]
  refine bcall_coded a39_ok (by simp) ?_
  generalize hT : downF (xs.length - i) xs i = T
  generalize hn : xs.length = n at *
  rw [mkS_eq]
  repeat refine AW.seq ?_
  refine AW.block ?_
  refine AW.loop (fun g : Nat × List Item × Nat => n - g.2.2 ≤ g.1 ∧ downF g.1 g.2.1 g.2.2 = T ∧ g.2.1.length = n ∧ g.2.2 < n) (fun g => mkS [(0, .ptr B 0 0), (1, .int .i64 g.2.2)] [(B, ⟨2, true, [.agg [.hdr H 0 n, .bool true]]⟩), (H, ⟨2, false, g.2.1.map Item.av⟩)] N) (fun g => g.1) (n - i, xs, i) ⟨by simp, hT, hn, hi⟩ ?_ ?_
  · refine Fit.mk _ _ _ (by simp [hN, conv2, newEmp, convs_refl, convs, conv]) (by simp [hN, heapFit, newEmp, conv2s, conv2, convs_refl, convs, conv]) (by intro q hq; first | (simp at hq; done) | (simp at hq; omega) | (simp at hq; simp; omega))
  clear hT hn hi
  rintro ⟨K, ys, i⟩ ⟨hK, hT, hn, hi⟩
  dsimp only at hK hT hn hi ⊢
  obtain ⟨K, rfl⟩ : ∃ K', K = K' + 1 := ⟨K - 1, by omega⟩
  simp only [downF] at hT
  have hwm : IntKind.i64.wrap (2 * (i : Int)) = 2 * (i : Int) := i64_in _ ⟨by omega, by omega⟩
  have hwa : IntKind.i64.wrap (2 * (i : Int) + 1) = 2 * (i : Int) + 1 := i64_in _ ⟨by omega, by omega⟩
  have hwb : IntKind.i64.wrap (2 * (i : Int) + 2) = 2 * (i : Int) + 2 := i64_in _ ⟨by omega, by omega⟩
  refine AW.block ?_
  repeat refine AW.seq ?_
  refine AW.reg ?_
  have hF := hN
  repeat (first | refine wD1 ?_ | refine wD2 ?_ | refine wE1 ?_ | refine wE2 ?_ | (refine wE3 ?_; intro _) | (refine wE4 ?_; intro _) | refine wN ?_ | ((with_reducible show evIs _ (_ :: _) _ _); first | refine wQ ?_ | refine wF ?_ | refine wG ?_ | refine wT ?_ | refine wM ?_ | refine wS ?_ | refine wP ?_ | refine wJ ?_ | refine wX ?_ | refine wY ?_ | refine wZ ?_))
  clear hF
  repeat refine evDone ?_
  try (show AW _ _ _ _ _)
  repeat refine AW.seq ?_
  refine AW.reg ?_
  have hF := And.intro (hwm) (And.intro (hwa) (hN))
  repeat (first | refine wD1 ?_ | refine wD2 ?_ | refine wE1 ?_ | refine wE2 ?_ | (refine wE3 ?_; intro _) | (refine wE4 ?_; intro _) | refine wN ?_ | ((with_reducible show evIs _ (_ :: _) _ _); first | refine wQ ?_ | refine wF ?_ | refine wG ?_ | refine wT ?_ | refine wM ?_ | refine wS ?_ | refine wP ?_ | refine wJ ?_ | refine wX ?_ | refine wY ?_ | refine wZ ?_))
  clear hF
  repeat refine evDone ?_
  try (show AW _ _ _ _ _)
  repeat refine AW.seq ?_
  refine AW.block ?_
  refine AW.loop (fun g : Nat × Nat => LInv ys i g.1 g.2) (fun g => mkS [(0, .ptr B 0 0), (1, .int .i64 i), (4, .int .i64 g.2), (5, .int .i64 g.1)] [(B, ⟨2, true, [.agg [.hdr H 0 n, .bool true]]⟩), (H, ⟨2, false, ys.map Item.av⟩)] N) (fun g => 2 * i + 4 - g.1) (2 * i + 1, i) ⟨by dsimp only; omega, .inl ⟨rfl, rfl⟩⟩ ?_ ?_
  · refine Fit.mk _ _ _ (by simp [hN, conv2, newEmp, convs_refl, convs, conv]) (by simp [hN, heapFit, newEmp, conv2s, conv2, convs_refl, convs, conv]) (by intro q hq; first | (simp at hq; done) | (simp at hq; omega) | (simp at hq; simp; omega))
  rintro ⟨k, l⟩ hinv
  dsimp only at hinv ⊢
  have hl := hinv.1
  rw [hn] at hl
  repeat refine AW.seq ?_
  refine AW.reg ?_
  by_cases hk1 : k ≤ 2 * i + 2
  · have hk1' : (k : Int) ≤ 2 * (i : Int) + 2 := by omega
    by_cases hk2 : k < n
    · have hk2' : (k : Int) < n := by omega
      have h1 : (0 : Int) ≤ k := by omega
      have h3 : (0 : Int) ≤ l := by omega
      have h4 : (l : Int) < n := by omega
      have he1 := it_av (xs := ys) (i := k) (by omega)
      have he2 := it_av (xs := ys) (i := l) (by omega)
      have h36 := f36 (it ys k) (it ys l)
      have hnx := inv_next hinv hk1 (by omega)
      have hwk : IntKind.i64.wrap ((k : Int) + 1) = (k : Int) + 1 := i64_in _ ⟨by omega, by omega⟩
      simp only [Item.av] at h36
      have hF := And.intro (hwm) (And.intro (hwb) (And.intro (hk1') (And.intro (hk2') (hN))))
      repeat (first | refine wD1 ?_ | refine wD2 ?_ | refine wE1 ?_ | refine wE2 ?_ | (refine wE3 ?_; intro _) | (refine wE4 ?_; intro _) | refine wN ?_ | ((with_reducible show evIs _ (_ :: _) _ _); first | refine wQ ?_ | refine wF ?_ | refine wG ?_ | refine wT ?_ | refine wM ?_ | refine wS ?_ | refine wP ?_ | refine wJ ?_ | refine wX ?_ | refine wY ?_ | refine wZ ?_))
      clear hF
      repeat refine evDone ?_
      try (show AW _ _ _ _ _)
      repeat refine AW.seq ?_
      refine AW.condT (by simp []) (by simp []) ?_
      refine AW.skip ?_
      show AW _ _ _ _ _
      refine AW.seq (AW.block ?_)
      repeat refine AW.seq ?_
      refine AW.draw ?_
      have hF := And.intro (h1) (And.intro (h3) (And.intro (h4) (And.intro (hk2) (And.intro (hk2') (And.intro (hl) (And.intro (he1) (And.intro (he2) (And.intro (hn) (hN)))))))))
      repeat (first | refine wD1 ?_ | refine wD2 ?_ | refine wE1 ?_ | refine wE2 ?_ | (refine wE3 ?_; intro _) | (refine wE4 ?_; intro _) | refine wN ?_ | ((with_reducible show evIs _ (_ :: _) _ _); first | refine wQ ?_ | refine wF ?_ | refine wG ?_ | refine wT ?_ | refine wM ?_ | refine wS ?_ | refine wP ?_ | refine wJ ?_ | refine wX ?_ | refine wY ?_ | refine wZ ?_))
      clear hF
      repeat refine evDone ?_
      try (show AW _ _ _ _ _)
      have hF := hN
      refine wC (hA := h36) ?_
      clear hF
      have hF := And.intro (h1) (And.intro (h3) (And.intro (h4) (And.intro (hk2) (And.intro (hk2') (And.intro (hl) (And.intro (he1) (And.intro (he2) (And.intro (hn) (hN)))))))))
      repeat (first | refine wD1 ?_ | refine wD2 ?_ | refine wE1 ?_ | refine wE2 ?_ | (refine wE3 ?_; intro _) | (refine wE4 ?_; intro _) | refine wN ?_ | ((with_reducible show evIs _ (_ :: _) _ _); first | refine wQ ?_ | refine wF ?_ | refine wG ?_ | refine wT ?_ | refine wM ?_ | refine wS ?_ | refine wP ?_ | refine wJ ?_ | refine wX ?_ | refine wY ?_ | refine wZ ?_))
      clear hF
      repeat refine evDone ?_
      try (show AW _ _ _ _ _)
      cases hb : bef (it ys k) (it ys l) with
      | false =>
        rw [hb] at hnx
        simp only [Bool.false_eq_true, if_false] at hnx
        repeat refine AW.seq ?_
        refine AW.condF (by simp [hb]) (by simp [hb]) ?_
        refine AW.skip ?_
        show AW _ _ _ _ _
        refine AW.reg ?_
        have hF := And.intro (hwk) (hN)
        repeat (first | refine wD1 ?_ | refine wD2 ?_ | refine wE1 ?_ | refine wE2 ?_ | (refine wE3 ?_; intro _) | (refine wE4 ?_; intro _) | refine wN ?_ | ((with_reducible show evIs _ (_ :: _) _ _); first | refine wQ ?_ | refine wF ?_ | refine wG ?_ | refine wT ?_ | refine wM ?_ | refine wS ?_ | refine wP ?_ | refine wJ ?_ | refine wX ?_ | refine wY ?_ | refine wZ ?_))
        clear hF
        repeat refine evDone ?_
        try (show AW _ _ _ _ _)
        refine ⟨(k + 1, l), hnx, by dsimp only; omega, ?_⟩
        refine Fit.mk _ _ _ (by simp [hwk, hN, conv2, newEmp, convs_refl, convs, conv]) (by simp [hwk, hN, heapFit, newEmp, conv2s, conv2, convs_refl, convs, conv]) (by intro q hq; first | (simp at hq; done) | (simp at hq; omega) | (simp at hq; simp; omega))
      | true =>
        rw [hb] at hnx
        simp only [if_true] at hnx
        repeat refine AW.seq ?_
        refine AW.condT (by simp [hb]) (by simp [hb]) ?_
        refine AW.reg ?_
        have hF := hN
        repeat (first | refine wD1 ?_ | refine wD2 ?_ | refine wE1 ?_ | refine wE2 ?_ | (refine wE3 ?_; intro _) | (refine wE4 ?_; intro _) | refine wN ?_ | ((with_reducible show evIs _ (_ :: _) _ _); first | refine wQ ?_ | refine wF ?_ | refine wG ?_ | refine wT ?_ | refine wM ?_ | refine wS ?_ | refine wP ?_ | refine wJ ?_ | refine wX ?_ | refine wY ?_ | refine wZ ?_))
        clear hF
        repeat refine evDone ?_
        try (show AW _ _ _ _ _)
        show AW _ _ _ _ _
        refine AW.reg ?_
        have hF := And.intro (hwk) (hN)
        repeat (first | refine wD1 ?_ | refine wD2 ?_ | refine wE1 ?_ | refine wE2 ?_ | (refine wE3 ?_; intro _) | (refine wE4 ?_; intro _) | refine wN ?_ | ((with_reducible show evIs _ (_ :: _) _ _); first | refine wQ ?_ | refine wF ?_ | refine wG ?_ | refine wT ?_ | refine wM ?_ | refine wS ?_ | refine wP ?_ | refine wJ ?_ | refine wX ?_ | refine wY ?_ | refine wZ ?_))
        clear hF
        repeat refine evDone ?_
        try (show AW _ _ _ _ _)
        refine ⟨(k + 1, k), hnx, by dsimp only; omega, ?_⟩
        refine Fit.mk _ _ _ (by simp [hwk, hN, conv2, newEmp, convs_refl, convs, conv]) (by simp [hwk, hN, heapFit, newEmp, conv2s, conv2, convs_refl, convs, conv]) (by intro q hq; first | (simp at hq; done) | (simp at hq; omega) | (simp at hq; simp; omega))
    · have hk2' : ¬ (k : Int) < n := by omega
      have hF := And.intro (hwm) (And.intro (hwb) (And.intro (hk1') (And.intro (hk2') (hN))))
      repeat (first | refine wD1 ?_ | refine wD2 ?_ | refine wE1 ?_ | refine wE2 ?_ | (refine wE3 ?_; intro _) | (refine wE4 ?_; intro _) | refine wN ?_ | ((with_reducible show evIs _ (_ :: _) _ _); first | refine wQ ?_ | refine wF ?_ | refine wG ?_ | refine wT ?_ | refine wM ?_ | refine wS ?_ | refine wP ?_ | refine wJ ?_ | refine wX ?_ | refine wY ?_ | refine wZ ?_))
      clear hF
      repeat refine evDone ?_
      try (show AW _ _ _ _ _)
      repeat refine AW.seq ?_
      refine AW.condF (by simp []) (by simp []) ?_
      have hle : l = leastF ys i := inv_end hinv (by omega)
      refine AW.exit ?_
      show AW _ _ _ _ _
      repeat refine AW.seq ?_
      refine AW.reg ?_
      have hF := hN
      repeat (first | refine wD1 ?_ | refine wD2 ?_ | refine wE1 ?_ | refine wE2 ?_ | (refine wE3 ?_; intro _) | (refine wE4 ?_; intro _) | refine wN ?_ | ((with_reducible show evIs _ (_ :: _) _ _); first | refine wQ ?_ | refine wF ?_ | refine wG ?_ | refine wT ?_ | refine wM ?_ | refine wS ?_ | refine wP ?_ | refine wJ ?_ | refine wX ?_ | refine wY ?_ | refine wZ ?_))
      clear hF
      repeat refine evDone ?_
      try (show AW _ _ _ _ _)
      by_cases hli : l = i
      · subst hli
        rw [if_pos hle.symm] at hT
        subst hT
        repeat refine AW.seq ?_
        refine AW.condT (by simp []) (by simp []) ?_
        refine AW.ret ⟨by simp [resP, a39_res, ARes.op], [(B, ⟨2, true, [.agg [.hdr H 0 n, .bool true]]⟩), (H, ⟨2, false, ys.map Item.av⟩)], N + 100, [], ⟨rfl, rfl, rfl⟩, by omega, by simp [hN], rfl, by simp, ?_⟩
        simp only [resV, a39_res, List.map_nil]
        refine Fit.mk _ _ _ (by simp [hN, conv2, newEmp, convs_refl, convs, conv]) (by simp [hN, heapFit, newEmp, conv2s, conv2, convs_refl, convs, conv]) (by intro q hq; first | (simp at hq; done) | (simp at hq; omega) | (simp at hq; simp; omega))
      · have hli2 : ¬ (l : Int) = i := by omega
        rw [← hle, if_neg hli] at hT
        have hil : i < l := inv_lt hinv hli
        have h1 : (0 : Int) ≤ i := by omega
        have h2 : (i : Int) < n := by omega
        have h3 : (0 : Int) ≤ l := by omega
        have h4 : (l : Int) < n := by omega
        have he1 := it_av (xs := ys) (i := i) (by omega)
        have he2 := it_av (xs := ys) (i := l) (by omega)
        have he3 := it_av (xs := ys.set i (it ys l)) (i := l) (by simp; omega)
        rw [← set_av] at he3
        repeat refine AW.seq ?_
        refine AW.condF (by simp [hli2]) (by simp [hli2]) ?_
        refine AW.skip ?_
        show AW _ _ _ _ _
        repeat refine AW.seq ?_
        refine AW.draw ?_
        have hF := And.intro (h1) (And.intro (h2) (And.intro (h3) (And.intro (h4) (And.intro (hi) (And.intro (hl) (And.intro (he1) (And.intro (he2) (And.intro (he3) (And.intro (hn) (hN))))))))))
        repeat (first | refine wD1 ?_ | refine wD2 ?_ | refine wE1 ?_ | refine wE2 ?_ | (refine wE3 ?_; intro _) | (refine wE4 ?_; intro _) | refine wN ?_ | ((with_reducible show evIs _ (_ :: _) _ _); first | refine wQ ?_ | refine wF ?_ | refine wG ?_ | refine wT ?_ | refine wM ?_ | refine wS ?_ | refine wP ?_ | refine wJ ?_ | refine wX ?_ | refine wY ?_ | refine wZ ?_))
        clear hF
        repeat refine evDone ?_
        try (show AW _ _ _ _ _)
        repeat refine AW.seq ?_
        refine AW.reg ?_
        have hF := hN
        repeat (first | refine wD1 ?_ | refine wD2 ?_ | refine wE1 ?_ | refine wE2 ?_ | (refine wE3 ?_; intro _) | (refine wE4 ?_; intro _) | refine wN ?_ | ((with_reducible show evIs _ (_ :: _) _ _); first | refine wQ ?_ | refine wF ?_ | refine wG ?_ | refine wT ?_ | refine wM ?_ | refine wS ?_ | refine wP ?_ | refine wJ ?_ | refine wX ?_ | refine wY ?_ | refine wZ ?_))
        clear hF
        repeat refine evDone ?_
        try (show AW _ _ _ _ _)
        refine ⟨(K, swap ys i l, l), ⟨by dsimp only; omega, hT, by rw [swap_len]; exact hn, hl⟩, by dsimp only; omega, ?_⟩
        refine Fit.mk _ _ _ (by simp [swap, Item.av, hN, conv2, newEmp, convs_refl, convs, conv]) (by simp [swap, Item.av, hN, heapFit, newEmp, conv2s, conv2, convs_refl, convs, conv]) (by intro q hq; first | (simp at hq; done) | (simp at hq; omega) | (simp at hq; simp; omega))
  · have hk1' : ¬ (k : Int) ≤ 2 * (i : Int) + 2 := by omega
    have hF := And.intro (hwm) (And.intro (hwb) (And.intro (hk1') (hN)))
    repeat (first | refine wD1 ?_ | refine wD2 ?_ | refine wE1 ?_ | refine wE2 ?_ | (refine wE3 ?_; intro _) | (refine wE4 ?_; intro _) | refine wN ?_ | ((with_reducible show evIs _ (_ :: _) _ _); first | refine wQ ?_ | refine wF ?_ | refine wG ?_ | refine wT ?_ | refine wM ?_ | refine wS ?_ | refine wP ?_ | refine wJ ?_ | refine wX ?_ | refine wY ?_ | refine wZ ?_))
    clear hF
    repeat refine evDone ?_
    try (show AW _ _ _ _ _)
    repeat refine AW.seq ?_
    refine AW.condF (by simp []) (by simp []) ?_
    have hle : l = leastF ys i := inv_end hinv (by omega)
    refine AW.exit ?_
    show AW _ _ _ _ _
    repeat refine AW.seq ?_
    refine AW.reg ?_
    have hF := hN
    repeat (first | refine wD1 ?_ | refine wD2 ?_ | refine wE1 ?_ | refine wE2 ?_ | (refine wE3 ?_; intro _) | (refine wE4 ?_; intro _) | refine wN ?_ | ((with_reducible show evIs _ (_ :: _) _ _); first | refine wQ ?_ | refine wF ?_ | refine wG ?_ | refine wT ?_ | refine wM ?_ | refine wS ?_ | refine wP ?_ | refine wJ ?_ | refine wX ?_ | refine wY ?_ | refine wZ ?_))
    clear hF
    repeat refine evDone ?_
    try (show AW _ _ _ _ _)
    by_cases hli : l = i
    · subst hli
      rw [if_pos hle.symm] at hT
      subst hT
      repeat refine AW.seq ?_
      refine AW.condT (by simp []) (by simp []) ?_
      refine AW.ret ⟨by simp [resP, a39_res, ARes.op], [(B, ⟨2, true, [.agg [.hdr H 0 n, .bool true]]⟩), (H, ⟨2, false, ys.map Item.av⟩)], N + 100, [], ⟨rfl, rfl, rfl⟩, by omega, by simp [hN], rfl, by simp, ?_⟩
      simp only [resV, a39_res, List.map_nil]
      refine Fit.mk _ _ _ (by simp [hN, conv2, newEmp, convs_refl, convs, conv]) (by simp [hN, heapFit, newEmp, conv2s, conv2, convs_refl, convs, conv]) (by intro q hq; first | (simp at hq; done) | (simp at hq; omega) | (simp at hq; simp; omega))
    · have hli2 : ¬ (l : Int) = i := by omega
      rw [← hle, if_neg hli] at hT
      have hil : i < l := inv_lt hinv hli
      have h1 : (0 : Int) ≤ i := by omega
      have h2 : (i : Int) < n := by omega
      have h3 : (0 : Int) ≤ l := by omega
      have h4 : (l : Int) < n := by omega
      have he1 := it_av (xs := ys) (i := i) (by omega)
      have he2 := it_av (xs := ys) (i := l) (by omega)
      have he3 := it_av (xs := ys.set i (it ys l)) (i := l) (by simp; omega)
      rw [← set_av] at he3
      repeat refine AW.seq ?_
      refine AW.condF (by simp [hli2]) (by simp [hli2]) ?_
      refine AW.skip ?_
      show AW _ _ _ _ _
      repeat refine AW.seq ?_
      refine AW.draw ?_
      have hF := And.intro (h1) (And.intro (h2) (And.intro (h3) (And.intro (h4) (And.intro (hi) (And.intro (hl) (And.intro (he1) (And.intro (he2) (And.intro (he3) (And.intro (hn) (hN))))))))))
      repeat (first | refine wD1 ?_ | refine wD2 ?_ | refine wE1 ?_ | refine wE2 ?_ | (refine wE3 ?_; intro _) | (refine wE4 ?_; intro _) | refine wN ?_ | ((with_reducible show evIs _ (_ :: _) _ _); first | refine wQ ?_ | refine wF ?_ | refine wG ?_ | refine wT ?_ | refine wM ?_ | refine wS ?_ | refine wP ?_ | refine wJ ?_ | refine wX ?_ | refine wY ?_ | refine wZ ?_))
      clear hF
      repeat refine evDone ?_
      try (show AW _ _ _ _ _)
      repeat refine AW.seq ?_
      refine AW.reg ?_
      have hF := hN
      repeat (first | refine wD1 ?_ | refine wD2 ?_ | refine wE1 ?_ | refine wE2 ?_ | (refine wE3 ?_; intro _) | (refine wE4 ?_; intro _) | refine wN ?_ | ((with_reducible show evIs _ (_ :: _) _ _); first | refine wQ ?_ | refine wF ?_ | refine wG ?_ | refine wT ?_ | refine wM ?_ | refine wS ?_ | refine wP ?_ | refine wJ ?_ | refine wX ?_ | refine wY ?_ | refine wZ ?_))
      clear hF
      repeat refine evDone ?_
      try (show AW _ _ _ _ _)
      refine ⟨(K, swap ys i l, l), ⟨by dsimp only; omega, hT, by rw [swap_len]; exact hn, hl⟩, by dsimp only; omega, ?_⟩
      refine Fit.mk _ _ _ (by simp [swap, Item.av, hN, conv2, newEmp, convs_refl, convs, conv]) (by simp [swap, Item.av, hN, heapFit, newEmp, conv2s, conv2, convs_refl, convs, conv]) (by intro q hq; first | (simp at hq; done) | (simp at hq; omega) | (simp at hq; simp; omega))
end Go.Proofs.Ytljahaeachdjmaa

set_option linter.unusedSimpArgs false
set_option linter.unusedVariables false
set_option maxHeartbeats 8000000
namespace Go.Proofs.Ytljahaeachdjmaa
open Go Go.Amb Go.IntWalk

abbrev items (l : List Item) : AV := .sl .fro (l.map Item.av)
def idx (xs : List Item) (p : Item → Bool) : Int := match xs.findIdx? p with | some k => k | none => -1
theorem find_at {xs : List Item} {p : Item → Bool} {i : Nat} {x : Item} (hno : ∀ j, j < i → ∀ x, xs[j]? = some x → p x = false) (hx : xs[i]? = some x) (hp : p x = true) : xs.findIdx? p = some i := by
  rw [List.findIdx?_eq_some_iff_getElem]
  obtain ⟨hi, rfl⟩ := List.getElem?_eq_some_iff.1 hx
  exact ⟨hi, hp, fun j hj => by simpa using hno j hj _ (List.getElem?_eq_getElem (by omega))⟩
theorem find_none {xs : List Item} {p : Item → Bool} (hno : ∀ j, j < xs.length → ∀ x, xs[j]? = some x → p x = false) : xs.findIdx? p = none := by
  rw [List.findIdx?_eq_none_iff]
  intro x hx
  obtain ⟨j, hj, rfl⟩ := List.getElem_of_mem hx
  exact hno j hj _ (List.getElem?_eq_getElem hj)
theorem no_step {xs : List Item} {p : Item → Bool} {i : Nat} {x : Item} (hno : ∀ j, j < i → ∀ x, xs[j]? = some x → p x = false) (hx : xs[i]? = some x) (hp : p x = false) : ∀ j, j < i + 1 → ∀ x, xs[j]? = some x → p x = false := by
  intro j hj y hy
  by_cases hji : j = i
  · subst hji; rw [hx] at hy; injection hy with hy; subst hy; exact hp
  · exact hno j (by omega) y hy
theorem idx_cases (xs : List Item) (p : Item → Bool) : (idx xs p = -1 ∧ xs.findIdx? p = none) ∨ ∃ k x, idx xs p = (k : Nat) ∧ xs.findIdx? p = some k ∧ k < xs.length ∧ xs[k]? = some x ∧ p x = true := by
  unfold idx
  cases h3 : xs.findIdx? p with
  | none => exact .inl ⟨rfl, rfl⟩
  | some k =>
    have hk := List.findIdx?_eq_some_iff_getElem.1 h3
    exact .inr ⟨k, xs[k]'hk.1, rfl, rfl, hk.1, List.getElem?_eq_getElem hk.1, hk.2.1⟩
theorem f37 (xs : List Item) (hlen : xs.length ≤ 9223372036854775807) (g : Nat) (caps : List AV) (p : Item → Bool) (hp : ∀ x ∈ xs, ACall Try.prog g (x.av :: caps) (· = .bool (p x))) (hcap : ∀ h, caps.map (fzA h) = caps) (hok : okAs noF noF caps) :
    ACall Try.prog 37 [items xs, .fn g caps] (· = .int .i64 (idx xs p)) := by
  refine a37_of (by simp) ?_
  repeat refine AW.seq ?_
  refine AW.reg ?_
  have hF := True.intro
  repeat (first | refine wD1 ?_ | refine wD2 ?_ | refine wE1 ?_ | refine wE2 ?_ | (refine wE3 ?_; intro _) | (refine wE4 ?_; intro _) | refine wN ?_ | ((with_reducible show evIs _ (_ :: _) _ _); first | refine wQ ?_ | refine wF ?_ | refine wG ?_ | refine wT ?_ | refine wM ?_ | refine wS ?_ | refine wP ?_ | refine wJ ?_ | refine wX ?_ | refine wY ?_ | refine wZ ?_))
  clear hF
  repeat refine evDone ?_
  try (show AW _ _ _ _ _)
  repeat refine AW.seq ?_
  refine AW.reg ?_
  have hF := True.intro
  repeat (first | refine wD1 ?_ | refine wD2 ?_ | refine wE1 ?_ | refine wE2 ?_ | (refine wE3 ?_; intro _) | (refine wE4 ?_; intro _) | refine wN ?_ | ((with_reducible show evIs _ (_ :: _) _ _); first | refine wQ ?_ | refine wF ?_ | refine wG ?_ | refine wT ?_ | refine wM ?_ | refine wS ?_ | refine wP ?_ | refine wJ ?_ | refine wX ?_ | refine wY ?_ | refine wZ ?_))
  clear hF
  repeat refine evDone ?_
  try (show AW _ _ _ _ _)
  repeat refine AW.seq ?_
  refine AW.block ?_
  refine AW.loop (fun i : Nat => i ≤ xs.length ∧ ∀ j, j < i → ∀ x, xs[j]? = some x → p x = false) (fun i : Nat => mkS [(0, items xs), (1, .fn g caps), (7, .int .i64 xs.length), (8, .int .i64 i)] [] 0) (fun i => xs.length - i) 0 ⟨by omega, fun j hj => absurd hj (by omega)⟩ ?_ ?_
  · refine Fit.mk _ _ _ (by simp [conv2, newEmp, convs_refl, convs, conv]) (by simp [heapFit, newEmp, conv2s, conv2, convs_refl, convs, conv]) (by intro q hq; first | (simp at hq; done) | (simp at hq; omega) | (simp at hq; simp; omega))
  · rintro i ⟨hi, hno⟩
    repeat refine AW.seq ?_
    refine AW.reg ?_
    by_cases hlt : i < xs.length
    · obtain ⟨x, hx⟩ : ∃ x, xs[i]? = some x := ⟨_, List.getElem?_eq_getElem hlt⟩
      have he := elem_map (f := Item.av) hx
      have hxm : x ∈ xs := List.mem_of_getElem? hx
      have hpx' := hp x hxm
      simp only [Item.av] at he hpx'
      have hF := hlt
      repeat (first | refine wD1 ?_ | refine wD2 ?_ | refine wE1 ?_ | refine wE2 ?_ | (refine wE3 ?_; intro _) | (refine wE4 ?_; intro _) | refine wN ?_ | ((with_reducible show evIs _ (_ :: _) _ _); first | refine wQ ?_ | refine wF ?_ | refine wG ?_ | refine wT ?_ | refine wM ?_ | refine wS ?_ | refine wP ?_ | refine wJ ?_ | refine wX ?_ | refine wY ?_ | refine wZ ?_))
      clear hF
      repeat refine evDone ?_
      try (show AW _ _ _ _ _)
      repeat refine AW.seq ?_
      refine AW.condT (by simp []) (by simp []) ?_
      refine AW.skip ?_
      show AW _ _ _ _ _
      refine AW.seq (AW.block ?_)
      repeat refine AW.seq ?_
      refine AW.reg ?_
      have hF := hlt
      repeat (first | refine wD1 ?_ | refine wD2 ?_ | refine wE1 ?_ | refine wE2 ?_ | (refine wE3 ?_; intro _) | (refine wE4 ?_; intro _) | refine wN ?_ | ((with_reducible show evIs _ (_ :: _) _ _); first | refine wQ ?_ | refine wF ?_ | refine wG ?_ | refine wT ?_ | refine wM ?_ | refine wS ?_ | refine wP ?_ | refine wJ ?_ | refine wX ?_ | refine wY ?_ | refine wZ ?_))
      clear hF
      repeat refine evDone ?_
      try (show AW _ _ _ _ _)
      repeat refine AW.seq ?_
      refine AW.reg ?_
      have hF := And.intro (hlt) (he)
      repeat (first | refine wD1 ?_ | refine wD2 ?_ | refine wE1 ?_ | refine wE2 ?_ | (refine wE3 ?_; intro _) | (refine wE4 ?_; intro _) | refine wN ?_ | ((with_reducible show evIs _ (_ :: _) _ _); first | refine wQ ?_ | refine wF ?_ | refine wG ?_ | refine wT ?_ | refine wM ?_ | refine wS ?_ | refine wP ?_ | refine wJ ?_ | refine wX ?_ | refine wY ?_ | refine wZ ?_))
      clear hF
      repeat refine evDone ?_
      try (show AW _ _ _ _ _)
      have hF := And.intro (hcap) (hok)
      refine wV (hA := hpx') ?_
      clear hF
      have hF := True.intro
      repeat (first | refine wD1 ?_ | refine wD2 ?_ | refine wE1 ?_ | refine wE2 ?_ | (refine wE3 ?_; intro _) | (refine wE4 ?_; intro _) | refine wN ?_ | ((with_reducible show evIs _ (_ :: _) _ _); first | refine wQ ?_ | refine wF ?_ | refine wG ?_ | refine wT ?_ | refine wM ?_ | refine wS ?_ | refine wP ?_ | refine wJ ?_ | refine wX ?_ | refine wY ?_ | refine wZ ?_))
      clear hF
      repeat refine evDone ?_
      try (show AW _ _ _ _ _)
      cases hpx : p x
      · repeat refine AW.seq ?_
        refine AW.condF (by simp [hpx]) (by simp [hpx]) ?_
        refine AW.skip ?_
        show AW _ _ _ _ _
        refine AW.reg ?_
        have hw : IntKind.i64.wrap ((i : Int) + 1) = (i : Int) + 1 := i64_in _ ⟨by omega, by omega⟩
        have hF := hw
        repeat (first | refine wD1 ?_ | refine wD2 ?_ | refine wE1 ?_ | refine wE2 ?_ | (refine wE3 ?_; intro _) | (refine wE4 ?_; intro _) | refine wN ?_ | ((with_reducible show evIs _ (_ :: _) _ _); first | refine wQ ?_ | refine wF ?_ | refine wG ?_ | refine wT ?_ | refine wM ?_ | refine wS ?_ | refine wP ?_ | refine wJ ?_ | refine wX ?_ | refine wY ?_ | refine wZ ?_))
        clear hF
        repeat refine evDone ?_
        try (show AW _ _ _ _ _)
        refine ⟨i + 1, ⟨by omega, no_step hno hx hpx⟩, by omega, ?_⟩
        refine Fit.mk _ _ _ (by simp [hw, conv2, newEmp, convs_refl, convs, conv]) (by simp [hw, heapFit, newEmp, conv2s, conv2, convs_refl, convs, conv]) (by intro q hq; first | (simp at hq; done) | (simp at hq; omega) | (simp at hq; simp; omega))
      · repeat refine AW.seq ?_
        refine AW.condT (by simp [hpx]) (by simp [hpx]) ?_
        repeat refine AW.seq ?_
        refine AW.reg ?_
        have hF := True.intro
        repeat (first | refine wD1 ?_ | refine wD2 ?_ | refine wE1 ?_ | refine wE2 ?_ | (refine wE3 ?_; intro _) | (refine wE4 ?_; intro _) | refine wN ?_ | ((with_reducible show evIs _ (_ :: _) _ _); first | refine wQ ?_ | refine wF ?_ | refine wG ?_ | refine wT ?_ | refine wM ?_ | refine wS ?_ | refine wP ?_ | refine wJ ?_ | refine wX ?_ | refine wY ?_ | refine wZ ?_))
        clear hF
        repeat refine evDone ?_
        try (show AW _ _ _ _ _)
        refine AW.ret (retI rfl ?_)
        simp [idx, find_at hno hx hpx, a37_res, resOk, resP, resV, ARes.op, R2s, R2, R1s, R1, closeOk, closeV]
    · have hlt2 : ¬ (i : Int) < xs.length := by omega
      have hF := And.intro (hlt) (hlt2)
      repeat (first | refine wD1 ?_ | refine wD2 ?_ | refine wE1 ?_ | refine wE2 ?_ | (refine wE3 ?_; intro _) | (refine wE4 ?_; intro _) | refine wN ?_ | ((with_reducible show evIs _ (_ :: _) _ _); first | refine wQ ?_ | refine wF ?_ | refine wG ?_ | refine wT ?_ | refine wM ?_ | refine wS ?_ | refine wP ?_ | refine wJ ?_ | refine wX ?_ | refine wY ?_ | refine wZ ?_))
      clear hF
      repeat refine evDone ?_
      try (show AW _ _ _ _ _)
      repeat refine AW.seq ?_
      refine AW.condF (by simp []) (by simp []) ?_
      refine AW.exit ?_
      show AW _ _ _ _ _
      repeat refine AW.seq ?_
      refine AW.reg ?_
      have hF := True.intro
      repeat (first | refine wD1 ?_ | refine wD2 ?_ | refine wE1 ?_ | refine wE2 ?_ | (refine wE3 ?_; intro _) | (refine wE4 ?_; intro _) | refine wN ?_ | ((with_reducible show evIs _ (_ :: _) _ _); first | refine wQ ?_ | refine wF ?_ | refine wG ?_ | refine wT ?_ | refine wM ?_ | refine wS ?_ | refine wP ?_ | refine wJ ?_ | refine wX ?_ | refine wY ?_ | refine wZ ?_))
      clear hF
      repeat refine evDone ?_
      try (show AW _ _ _ _ _)
      refine AW.ret (retI rfl ?_)
      simp [idx, find_none (fun j hj => hno j (by omega)), a37_res, resOk, resP, resV, ARes.op, R2s, R2, R1s, R1, closeOk, closeV]

theorem f38 (x : Item) (id : Int) : ACall Try.prog 38 [x.av, .fptr (.int .i64 id) 0] (· = .bool (x.id == id)) := by
  obtain ⟨a, b⟩ := x
  simp only [Item.av]
  refine a38_of (by simp) ?_
  repeat refine AW.seq ?_
  refine AW.reg ?_
  have hF := True.intro
  repeat (first | refine wD1 ?_ | refine wD2 ?_ | refine wE1 ?_ | refine wE2 ?_ | (refine wE3 ?_; intro _) | (refine wE4 ?_; intro _) | refine wN ?_ | ((with_reducible show evIs _ (_ :: _) _ _); first | refine wQ ?_ | refine wF ?_ | refine wG ?_ | refine wT ?_ | refine wM ?_ | refine wS ?_ | refine wP ?_ | refine wJ ?_ | refine wX ?_ | refine wY ?_ | refine wZ ?_))
  clear hF
  repeat refine evDone ?_
  try (show AW _ _ _ _ _)
  repeat refine AW.seq ?_
  refine AW.reg ?_
  have hF := True.intro
  repeat (first | refine wD1 ?_ | refine wD2 ?_ | refine wE1 ?_ | refine wE2 ?_ | (refine wE3 ?_; intro _) | (refine wE4 ?_; intro _) | refine wN ?_ | ((with_reducible show evIs _ (_ :: _) _ _); first | refine wQ ?_ | refine wF ?_ | refine wG ?_ | refine wT ?_ | refine wM ?_ | refine wS ?_ | refine wP ?_ | refine wJ ?_ | refine wX ?_ | refine wY ?_ | refine wZ ?_))
  clear hF
  repeat refine evDone ?_
  try (show AW _ _ _ _ _)
  refine AW.ret (retI rfl ?_)
  simp [a38_res, resOk, resP, resV, ARes.op, R2s, R2, R1s, R1, closeOk, closeV]
/-- A queue that is read. -/
def qv (xs : List Item) (m : Bool) : AV := .fptr (.agg [items xs, .bool m]) 0
theorem items_cl (xs : List Item) : (xs.map Item.av).map clC = xs.map Item.av := by simp [Function.comp_def]
theorem f28 (xs : List Item) (m : Bool) : ACall Try.prog 28 [qv xs m] (· = .bool m) := by
  simp only [qv, items]
  refine a28_of (by simp) ?_
  repeat refine AW.seq ?_
  refine AW.reg ?_
  have hF := True.intro
  repeat (first | refine wD1 ?_ | refine wD2 ?_ | refine wE1 ?_ | refine wE2 ?_ | (refine wE3 ?_; intro _) | (refine wE4 ?_; intro _) | refine wN ?_ | ((with_reducible show evIs _ (_ :: _) _ _); first | refine wQ ?_ | refine wF ?_ | refine wG ?_ | refine wT ?_ | refine wM ?_ | refine wS ?_ | refine wP ?_ | refine wJ ?_ | refine wX ?_ | refine wY ?_ | refine wZ ?_))
  clear hF
  repeat refine evDone ?_
  try (show AW _ _ _ _ _)
  repeat refine AW.seq ?_
  refine AW.reg ?_
  have hF := True.intro
  repeat (first | refine wD1 ?_ | refine wD2 ?_ | refine wE1 ?_ | refine wE2 ?_ | (refine wE3 ?_; intro _) | (refine wE4 ?_; intro _) | refine wN ?_ | ((with_reducible show evIs _ (_ :: _) _ _); first | refine wQ ?_ | refine wF ?_ | refine wG ?_ | refine wT ?_ | refine wM ?_ | refine wS ?_ | refine wP ?_ | refine wJ ?_ | refine wX ?_ | refine wY ?_ | refine wZ ?_))
  clear hF
  repeat refine evDone ?_
  try (show AW _ _ _ _ _)
  refine AW.ret (retI rfl ?_)
  simp [a28_res, resOk, resP, resV, ARes.op, R2s, R2, R1s, R1, closeOk, closeV]
theorem f28n : ACall Try.prog 28 [.nilp] (· = .bool false) := by
  refine a28_of (by simp) ?_
  repeat refine AW.seq ?_
  refine AW.reg ?_
  have hF := True.intro
  repeat (first | refine wD1 ?_ | refine wD2 ?_ | refine wE1 ?_ | refine wE2 ?_ | (refine wE3 ?_; intro _) | (refine wE4 ?_; intro _) | refine wN ?_ | ((with_reducible show evIs _ (_ :: _) _ _); first | refine wQ ?_ | refine wF ?_ | refine wG ?_ | refine wT ?_ | refine wM ?_ | refine wS ?_ | refine wP ?_ | refine wJ ?_ | refine wX ?_ | refine wY ?_ | refine wZ ?_))
  clear hF
  repeat refine evDone ?_
  try (show AW _ _ _ _ _)
  repeat refine AW.seq ?_
  refine AW.reg ?_
  have hF := True.intro
  repeat (first | refine wD1 ?_ | refine wD2 ?_ | refine wE1 ?_ | refine wE2 ?_ | (refine wE3 ?_; intro _) | (refine wE4 ?_; intro _) | refine wN ?_ | ((with_reducible show evIs _ (_ :: _) _ _); first | refine wQ ?_ | refine wF ?_ | refine wG ?_ | refine wT ?_ | refine wM ?_ | refine wS ?_ | refine wP ?_ | refine wJ ?_ | refine wX ?_ | refine wY ?_ | refine wZ ?_))
  clear hF
  repeat refine evDone ?_
  try (show AW _ _ _ _ _)
  refine AW.ret (retI rfl ?_)
  simp [a28_res, resOk, resP, resV, ARes.op, R2s, R2, R1s, R1, closeOk, closeV]
theorem f29 (xs : List Item) (m : Bool) (id : Int) (hl : xs.length ≤ 8796093022208) : ACall Try.prog 29 [qv xs m, .int .i64 id] (· = .int .i64 (idx xs fun x => x.id == id)) := by
  have h37 := f37 xs (by omega) 38 [.fptr (.int .i64 id) 0] (fun x => x.id == id) (fun x _ => f38 x id) (by simp) (by simp)
  have hma : ∀ (fh fq : Nat → Nat → Nat → AV) (n : Int), mapA fh fq (.int .i64 n) = .int .i64 n := fun _ _ _ => by simp [mapA]
  simp only [qv, items] at h37 ⊢
  refine a29_of (by simp) ?_
  repeat refine AW.seq ?_
  refine AW.reg ?_
  have hF := True.intro
  repeat (first | refine wD1 ?_ | refine wD2 ?_ | refine wE1 ?_ | refine wE2 ?_ | (refine wE3 ?_; intro _) | (refine wE4 ?_; intro _) | refine wN ?_ | ((with_reducible show evIs _ (_ :: _) _ _); first | refine wQ ?_ | refine wF ?_ | refine wG ?_ | refine wT ?_ | refine wM ?_ | refine wS ?_ | refine wP ?_ | refine wJ ?_ | refine wX ?_ | refine wY ?_ | refine wZ ?_))
  clear hF
  repeat refine evDone ?_
  try (show AW _ _ _ _ _)
  repeat refine AW.seq ?_
  refine AW.reg ?_
  have hF := True.intro
  repeat (first | refine wD1 ?_ | refine wD2 ?_ | refine wE1 ?_ | refine wE2 ?_ | (refine wE3 ?_; intro _) | (refine wE4 ?_; intro _) | refine wN ?_ | ((with_reducible show evIs _ (_ :: _) _ _); first | refine wQ ?_ | refine wF ?_ | refine wG ?_ | refine wT ?_ | refine wM ?_ | refine wS ?_ | refine wP ?_ | refine wJ ?_ | refine wX ?_ | refine wY ?_ | refine wZ ?_))
  clear hF
  repeat refine evDone ?_
  try (show AW _ _ _ _ _)
  have hF := hma
  refine wC (hA := h37) ?_
  clear hF
  have hF := True.intro
  repeat (first | refine wD1 ?_ | refine wD2 ?_ | refine wE1 ?_ | refine wE2 ?_ | (refine wE3 ?_; intro _) | (refine wE4 ?_; intro _) | refine wN ?_ | ((with_reducible show evIs _ (_ :: _) _ _); first | refine wQ ?_ | refine wF ?_ | refine wG ?_ | refine wT ?_ | refine wM ?_ | refine wS ?_ | refine wP ?_ | refine wJ ?_ | refine wX ?_ | refine wY ?_ | refine wZ ?_))
  clear hF
  repeat refine evDone ?_
  try (show AW _ _ _ _ _)
  refine AW.ret (retI rfl ?_)
  simp [a29_res, resOk, resP, resV, ARes.op, R2s, R2, R1s, R1, closeOk, closeV]
end Go.Proofs.Ytljahaeachdjmaa

set_option linter.unusedSimpArgs false
set_option linter.unusedVariables false
set_option maxHeartbeats 8000000
namespace Go.Proofs.Ytljahaeachdjmaa
open Go Go.Amb Go.IntWalk

def cutF (xs : List Item) (i m : Nat) : List Item := (xs.set i (it xs m)).take m
def removeF (xs : List Item) (i m : Nat) : List Item := if i < m then downF (m - i) (upF (i + 1) (cutF xs i m) i) i else cutF xs i m
theorem cutF_len {xs : List Item} {m : Nat} (h : xs.length = m + 1) (i : Nat) : (cutF xs i m).length = m := by simp [cutF, h]
theorem removeF_len {xs : List Item} {m : Nat} (h : xs.length = m + 1) (i : Nat) : (removeF xs i m).length = m := by
  unfold removeF
  split
  · rw [downF_len, upF_len, cutF_len h]
  · exact cutF_len h i
theorem f30 (N B H : Nat) (hB : B < N) (hH : H < N) (hBH : B ≠ H) (xs : List Item) (i m : Nat) (hm : xs.length = m + 1) (hi : i ≤ m) (hl : xs.length ≤ 8796093022208) :
    BCall Try.prog 30 [(B, box H (m + 1)), (H, ⟨2, false, xs.map Item.av⟩)] N [.ptr B 0 0, .int .i64 i] (fun H1 n' v => H1 = [(B, box H m), (H, ⟨2, false, (removeF xs i m).map Item.av⟩)] ∧ n' = N + 1000 ∧ v = (it xs i).av) := by
  have hN : (B = H) = False ∧ (H = B) = False ∧ (B = N) = False ∧ (N = B) = False ∧ (H = N) = False ∧ (N = H) = False ∧ (∀ q, (B = N + q) = False) ∧ (∀ q, (N + q = B) = False) ∧ (∀ q, (H = N + q) = False) ∧ (∀ q, (N + q = H) = False) ∧ (∀ q, B < N + q) ∧ (∀ q, H < N + q) ∧ (∀ q, (N + q < N) = False) ∧ B < N ∧ H < N := by
    refine ⟨?_, ?_, ?_, ?_, ?_, ?_, ?_, ?_, ?_, ?_, ?_, ?_, ?_, ?_, ?_⟩ <;> first | exact eq_false (by omega) | exact fun q => eq_false (by omega) | exact fun q => by omega | omega
  have hR : removeF xs i m = removeF xs i m := rfl
  have he1 := it_av (xs := xs) (i := i) (by omega)
  have he2 := it_av (xs := xs) (i := m) (by omega)
  have hw : IntKind.i64.wrap (m : Int) = (m : Int) := i64_in _ ⟨by omega, by omega⟩
  have h1 : (0 : Int) ≤ i := by omega
  have h2 : (i : Int) < (m : Int) + 1 := by omega
  have h3 : (0 : Int) ≤ m := by omega
  have h4 : (m : Int) < (m : Int) + 1 := by omega
  have h5 : i < m + 1 := by omega
  have h6 : m < m + 1 := by omega
  have h7 : (m : Int) ≤ (m : Int) + 1 := by omega
  have h8 : m ≤ m + 1 := by omega
  simp only [box, Item.av]
  refine bcall_coded a30_ok (by simp) ?_
  repeat refine AW.seq ?_
  refine AW.reg ?_
  have hF := hN
  repeat (first | refine wD1 ?_ | refine wD2 ?_ | refine wE1 ?_ | refine wE2 ?_ | (refine wE3 ?_; intro _) | (refine wE4 ?_; intro _) | refine wN ?_ | ((with_reducible show evIs _ (_ :: _) _ _); first | refine wQ ?_ | refine wF ?_ | refine wG ?_ | refine wT ?_ | refine wM ?_ | refine wS ?_ | refine wP ?_ | refine wJ ?_ | refine wX ?_ | refine wY ?_ | refine wZ ?_))
  clear hF
  repeat refine evDone ?_
  try (show AW _ _ _ _ _)
  repeat refine AW.seq ?_
  refine AW.reg ?_
  have hF := And.intro (h1) (And.intro (h2) (And.intro (h5) (And.intro (he1) (And.intro (hm) (hN)))))
  repeat (first | refine wD1 ?_ | refine wD2 ?_ | refine wE1 ?_ | refine wE2 ?_ | (refine wE3 ?_; intro _) | (refine wE4 ?_; intro _) | refine wN ?_ | ((with_reducible show evIs _ (_ :: _) _ _); first | refine wQ ?_ | refine wF ?_ | refine wG ?_ | refine wT ?_ | refine wM ?_ | refine wS ?_ | refine wP ?_ | refine wJ ?_ | refine wX ?_ | refine wY ?_ | refine wZ ?_))
  clear hF
  repeat refine evDone ?_
  try (show AW _ _ _ _ _)
  repeat refine AW.seq ?_
  refine AW.reg ?_
  have hF := And.intro (hw) (hN)
  repeat (first | refine wD1 ?_ | refine wD2 ?_ | refine wE1 ?_ | refine wE2 ?_ | (refine wE3 ?_; intro _) | (refine wE4 ?_; intro _) | refine wN ?_ | ((with_reducible show evIs _ (_ :: _) _ _); first | refine wQ ?_ | refine wF ?_ | refine wG ?_ | refine wT ?_ | refine wM ?_ | refine wS ?_ | refine wP ?_ | refine wJ ?_ | refine wX ?_ | refine wY ?_ | refine wZ ?_))
  clear hF
  repeat refine evDone ?_
  try (show AW _ _ _ _ _)
  repeat refine AW.seq ?_
  refine AW.draw ?_
  have hF := And.intro (h1) (And.intro (h2) (And.intro (h3) (And.intro (h4) (And.intro (h5) (And.intro (h6) (And.intro (he1) (And.intro (he2) (And.intro (hm) (hN)))))))))
  repeat (first | refine wD1 ?_ | refine wD2 ?_ | refine wE1 ?_ | refine wE2 ?_ | (refine wE3 ?_; intro _) | (refine wE4 ?_; intro _) | refine wN ?_ | ((with_reducible show evIs _ (_ :: _) _ _); first | refine wQ ?_ | refine wF ?_ | refine wG ?_ | refine wT ?_ | refine wM ?_ | refine wS ?_ | refine wP ?_ | refine wJ ?_ | refine wX ?_ | refine wY ?_ | refine wZ ?_))
  clear hF
  repeat refine evDone ?_
  try (show AW _ _ _ _ _)
  repeat refine AW.seq ?_
  refine AW.reg ?_
  have hF := And.intro (h3) (And.intro (h7) (And.intro (h8) (And.intro (hm) (hN))))
  repeat (first | refine wD1 ?_ | refine wD2 ?_ | refine wE1 ?_ | refine wE2 ?_ | (refine wE3 ?_; intro _) | (refine wE4 ?_; intro _) | refine wN ?_ | ((with_reducible show evIs _ (_ :: _) _ _); first | refine wQ ?_ | refine wF ?_ | refine wG ?_ | refine wT ?_ | refine wM ?_ | refine wS ?_ | refine wP ?_ | refine wJ ?_ | refine wX ?_ | refine wY ?_ | refine wZ ?_))
  clear hF
  repeat refine evDone ?_
  try (show AW _ _ _ _ _)
  refine AW.fit (st' := mkS [(0, .ptr B 0 0), (1, .int .i64 i), (4, .ptr N 0 0), (5, .ptr (N + 8) 0 0), (6, .int .i64 m)] [(B, ⟨2, true, [.agg [.hdr H 0 m, .bool true]]⟩), (H, ⟨2, false, (xs.map Item.av).set i (.agg [.int .i64 (it xs m).due, .int .i64 (it xs m).id])⟩), (N, ⟨2, true, [.agg [.int .i64 0, .int .i64 0]]⟩), (N + 8, ⟨2, true, [.agg [.int .i64 (it xs i).due, .int .i64 (it xs i).id]]⟩)] (N + 100)) ?_ ?_
  · refine Fit.mk _ _ _ (by simp [hN, conv2, newEmp, convs_refl, convs, conv]) (by simp [hN, heapFit, newEmp, conv2s, conv2, convs_refl, convs, conv]) (by intro q hq; first | (simp at hq; done) | (simp at hq; omega) | (simp at hq; simp; omega))
  rw [mkS_eq]
  refine AW.fit (Fit.cutR (r := H) m (by simp [hN]; rfl)) ?_
  have hcut : ((xs.map Item.av).set i (.agg [.int .i64 (it xs m).due, .int .i64 (it xs m).id])).take m = (cutF xs i m).map Item.av := by
    rw [set_av, ← List.map_take]; rfl
  refine AW.fit (st' := mkS [(0, .ptr B 0 0), (1, .int .i64 i), (4, .ptr N 0 0), (5, .ptr (N + 8) 0 0), (6, .int .i64 m)] [(B, ⟨2, true, [.agg [.hdr H 0 m, .bool true]]⟩), (H, ⟨2, false, (cutF xs i m).map Item.av⟩), (N, ⟨2, true, [.agg [.int .i64 0, .int .i64 0]]⟩), (N + 8, ⟨2, true, [.agg [.int .i64 (it xs i).due, .int .i64 (it xs i).id]]⟩)] (N + 100)) ?_ ?_
  · refine Fit.mk _ _ _ (by simp [hupd, hcut, hN, conv2, newEmp, convs_refl, convs, conv]) (by simp [hupd, hcut, hN, heapFit, newEmp, conv2s, conv2, convs_refl, convs, conv]) (by intro q hq; first | (simp at hq; done) | (simp at hq; omega) | (simp at hq; simp; omega))
  have hcl := cutF_len hm i
  generalize hys : cutF xs i m = ys at *
  rw [mkS_eq]
  repeat refine AW.seq ?_
  refine AW.reg ?_
  have hF := hN
  repeat (first | refine wD1 ?_ | refine wD2 ?_ | refine wE1 ?_ | refine wE2 ?_ | (refine wE3 ?_; intro _) | (refine wE4 ?_; intro _) | refine wN ?_ | ((with_reducible show evIs _ (_ :: _) _ _); first | refine wQ ?_ | refine wF ?_ | refine wG ?_ | refine wT ?_ | refine wM ?_ | refine wS ?_ | refine wP ?_ | refine wJ ?_ | refine wX ?_ | refine wY ?_ | refine wZ ?_))
  clear hF
  repeat refine evDone ?_
  try (show AW _ _ _ _ _)
  repeat refine AW.seq ?_
  refine AW.reg ?_
  by_cases him : i < m
  · have hR : removeF xs i m = downF (m - i) (upF (i + 1) ys i) i := by simp [removeF, him, hys]
    have him' : (i : Int) < m := by omega
    have hul := upF_len (i + 1) ys i
    have hdl := downF_len (m - i) (upF (i + 1) ys i) i
    have h31 := f31 (N + 200) B H (by omega) (by omega) hBH ys i (by omega) (by omega)
    have h39 := f39 (N + 500) B H (by omega) (by omega) hBH (upF (i + 1) ys i) i (by omega) (by omega)
    rw [hcl] at h31
    rw [hul, hcl] at h39
    simp only [box] at h31 h39
    generalize upF (i + 1) ys i = y1 at *
    generalize downF (m - i) y1 i = y2 at *
    have hF := And.intro (him') (hN)
    repeat (first | refine wD1 ?_ | refine wD2 ?_ | refine wE1 ?_ | refine wE2 ?_ | (refine wE3 ?_; intro _) | (refine wE4 ?_; intro _) | refine wN ?_ | ((with_reducible show evIs _ (_ :: _) _ _); first | refine wQ ?_ | refine wF ?_ | refine wG ?_ | refine wT ?_ | refine wM ?_ | refine wS ?_ | refine wP ?_ | refine wJ ?_ | refine wX ?_ | refine wY ?_ | refine wZ ?_))
    clear hF
    repeat refine evDone ?_
    try (show AW _ _ _ _ _)
    repeat refine AW.seq ?_
    refine AW.condT (by simp [him']) (by simp [him']) ?_
    repeat refine AW.seq ?_
    refine AW.reg ?_
    have hF := hN
    repeat (first | refine wD1 ?_ | refine wD2 ?_ | refine wE1 ?_ | refine wE2 ?_ | (refine wE3 ?_; intro _) | (refine wE4 ?_; intro _) | refine wN ?_ | ((with_reducible show evIs _ (_ :: _) _ _); first | refine wQ ?_ | refine wF ?_ | refine wG ?_ | refine wT ?_ | refine wM ?_ | refine wS ?_ | refine wP ?_ | refine wJ ?_ | refine wX ?_ | refine wY ?_ | refine wZ ?_))
    clear hF
    repeat refine evDone ?_
    try (show AW _ _ _ _ _)
    repeat refine AW.seq ?_
    refine AW.block ?_
    refine AW.loop (fun q : Nat => q ≤ 2) (fun q => mkS [(0, .ptr B 0 0), (1, .int .i64 i), (4, .ptr N 0 0), (5, .ptr (N + 8) 0 0), (53, .sl .ext [.mfn 31 [.ptr B 0 0], .mfn 39 [.ptr B 0 0]]), (54, .int .i64 2), (55, .int .i64 q)] [(B, ⟨2, true, [.agg [.hdr H 0 m, .bool true]]⟩), (H, ⟨2, false, (if q = 0 then ys else if q = 1 then y1 else y2).map Item.av⟩), (N, ⟨2, true, [.agg [.int .i64 0, .int .i64 0]]⟩), (N + 8, ⟨2, true, [.agg [.int .i64 (it xs i).due, .int .i64 (it xs i).id]]⟩)] (N + 100 + 300 * q)) (fun q => 2 - q) 0 (by simp) ?_ ?_
    · refine Fit.mk _ _ _ (by simp [hN, conv2, newEmp, convs_refl, convs, conv]) (by simp [hN, heapFit, newEmp, conv2s, conv2, convs_refl, convs, conv]) (by intro q hq; first | (simp at hq; done) | (simp at hq; omega) | (simp at hq; simp; omega))
    intro q hq
    have hx : (∀ p q, B < N + p + q) ∧ (∀ p q, H < N + p + q) ∧ N < N + 100 + 300 ∧ N < N + 100 + 600 ∧ IntKind.i64.wrap 1 = 1 ∧ IntKind.i64.wrap 2 = 2 :=
      ⟨fun p q => by omega, fun p q => by omega, by omega, by omega, i64_in _ ⟨by omega, by omega⟩, i64_in _ ⟨by omega, by omega⟩⟩
    repeat refine AW.seq ?_
    refine AW.reg ?_
    rcases (show q = 0 ∨ q = 1 ∨ q = 2 by omega) with rfl | rfl | rfl
    · simp only [if_true]
      have hF := hN
      repeat (first | refine wD1 ?_ | refine wD2 ?_ | refine wE1 ?_ | refine wE2 ?_ | (refine wE3 ?_; intro _) | (refine wE4 ?_; intro _) | refine wN ?_ | ((with_reducible show evIs _ (_ :: _) _ _); first | refine wQ ?_ | refine wF ?_ | refine wG ?_ | refine wT ?_ | refine wM ?_ | refine wS ?_ | refine wP ?_ | refine wJ ?_ | refine wX ?_ | refine wY ?_ | refine wZ ?_))
      clear hF
      repeat refine evDone ?_
      try (show AW _ _ _ _ _)
      repeat refine AW.seq ?_
      refine AW.condT (by simp []) (by simp []) ?_
      refine AW.skip ?_
      show AW _ _ _ _ _
      refine AW.seq (AW.block ?_)
      repeat refine AW.seq ?_
      refine AW.reg ?_
      have hF := hN
      repeat (first | refine wD1 ?_ | refine wD2 ?_ | refine wE1 ?_ | refine wE2 ?_ | (refine wE3 ?_; intro _) | (refine wE4 ?_; intro _) | refine wN ?_ | ((with_reducible show evIs _ (_ :: _) _ _); first | refine wQ ?_ | refine wF ?_ | refine wG ?_ | refine wT ?_ | refine wM ?_ | refine wS ?_ | refine wP ?_ | refine wJ ?_ | refine wX ?_ | refine wY ?_ | refine wZ ?_))
      clear hF
      repeat refine evDone ?_
      try (show AW _ _ _ _ _)
      repeat refine AW.seq ?_
      refine AW.reg ?_
      have hF := hN
      repeat (first | refine wD1 ?_ | refine wD2 ?_ | refine wE1 ?_ | refine wE2 ?_ | (refine wE3 ?_; intro _) | (refine wE4 ?_; intro _) | refine wN ?_ | ((with_reducible show evIs _ (_ :: _) _ _); first | refine wQ ?_ | refine wF ?_ | refine wG ?_ | refine wT ?_ | refine wM ?_ | refine wS ?_ | refine wP ?_ | refine wJ ?_ | refine wX ?_ | refine wY ?_ | refine wZ ?_))
      clear hF
      repeat refine evDone ?_
      try (show AW _ _ _ _ _)
      have hF := hN
      refine wLm (hA := h31) ?_
      clear hF
      rintro _ _ _ ⟨rfl, rfl, rfl⟩
      have hF := hN
      repeat (first | refine wD1 ?_ | refine wD2 ?_ | refine wE1 ?_ | refine wE2 ?_ | (refine wE3 ?_; intro _) | (refine wE4 ?_; intro _) | refine wN ?_ | ((with_reducible show evIs _ (_ :: _) _ _); first | refine wQ ?_ | refine wF ?_ | refine wG ?_ | refine wT ?_ | refine wM ?_ | refine wS ?_ | refine wP ?_ | refine wJ ?_ | refine wX ?_ | refine wY ?_ | refine wZ ?_))
      clear hF
      repeat refine evDone ?_
      try (show AW _ _ _ _ _)
      refine AW.reg ?_
      have hF := hN
      repeat (first | refine wD1 ?_ | refine wD2 ?_ | refine wE1 ?_ | refine wE2 ?_ | (refine wE3 ?_; intro _) | (refine wE4 ?_; intro _) | refine wN ?_ | ((with_reducible show evIs _ (_ :: _) _ _); first | refine wQ ?_ | refine wF ?_ | refine wG ?_ | refine wT ?_ | refine wM ?_ | refine wS ?_ | refine wP ?_ | refine wJ ?_ | refine wX ?_ | refine wY ?_ | refine wZ ?_))
      clear hF
      repeat refine evDone ?_
      try (show AW _ _ _ _ _)
      refine ⟨1, by omega, by omega, ?_⟩
      refine Fit.mk _ _ _ (by simp [hx, hN, conv2, newEmp, convs_refl, convs, conv]) (by simp [hx, hN, heapFit, newEmp, conv2s, conv2, convs_refl, convs, conv]) (by intro q hq; first | (simp at hq; done) | (simp at hq; omega) | (simp at hq; simp; omega))
    · simp only [if_true, Nat.one_ne_zero, if_false]
      have hF := hN
      repeat (first | refine wD1 ?_ | refine wD2 ?_ | refine wE1 ?_ | refine wE2 ?_ | (refine wE3 ?_; intro _) | (refine wE4 ?_; intro _) | refine wN ?_ | ((with_reducible show evIs _ (_ :: _) _ _); first | refine wQ ?_ | refine wF ?_ | refine wG ?_ | refine wT ?_ | refine wM ?_ | refine wS ?_ | refine wP ?_ | refine wJ ?_ | refine wX ?_ | refine wY ?_ | refine wZ ?_))
      clear hF
      repeat refine evDone ?_
      try (show AW _ _ _ _ _)
      repeat refine AW.seq ?_
      refine AW.condT (by simp []) (by simp []) ?_
      refine AW.skip ?_
      show AW _ _ _ _ _
      refine AW.seq (AW.block ?_)
      repeat refine AW.seq ?_
      refine AW.reg ?_
      have hF := hN
      repeat (first | refine wD1 ?_ | refine wD2 ?_ | refine wE1 ?_ | refine wE2 ?_ | (refine wE3 ?_; intro _) | (refine wE4 ?_; intro _) | refine wN ?_ | ((with_reducible show evIs _ (_ :: _) _ _); first | refine wQ ?_ | refine wF ?_ | refine wG ?_ | refine wT ?_ | refine wM ?_ | refine wS ?_ | refine wP ?_ | refine wJ ?_ | refine wX ?_ | refine wY ?_ | refine wZ ?_))
      clear hF
      repeat refine evDone ?_
      try (show AW _ _ _ _ _)
      repeat refine AW.seq ?_
      refine AW.reg ?_
      have hF := hN
      repeat (first | refine wD1 ?_ | refine wD2 ?_ | refine wE1 ?_ | refine wE2 ?_ | (refine wE3 ?_; intro _) | (refine wE4 ?_; intro _) | refine wN ?_ | ((with_reducible show evIs _ (_ :: _) _ _); first | refine wQ ?_ | refine wF ?_ | refine wG ?_ | refine wT ?_ | refine wM ?_ | refine wS ?_ | refine wP ?_ | refine wJ ?_ | refine wX ?_ | refine wY ?_ | refine wZ ?_))
      clear hF
      repeat refine evDone ?_
      try (show AW _ _ _ _ _)
      have hF := hN
      refine wLm (hA := h39) ?_
      clear hF
      rintro _ _ _ ⟨rfl, rfl, rfl⟩
      have hF := hN
      repeat (first | refine wD1 ?_ | refine wD2 ?_ | refine wE1 ?_ | refine wE2 ?_ | (refine wE3 ?_; intro _) | (refine wE4 ?_; intro _) | refine wN ?_ | ((with_reducible show evIs _ (_ :: _) _ _); first | refine wQ ?_ | refine wF ?_ | refine wG ?_ | refine wT ?_ | refine wM ?_ | refine wS ?_ | refine wP ?_ | refine wJ ?_ | refine wX ?_ | refine wY ?_ | refine wZ ?_))
      clear hF
      repeat refine evDone ?_
      try (show AW _ _ _ _ _)
      refine AW.reg ?_
      have hF := hN
      repeat (first | refine wD1 ?_ | refine wD2 ?_ | refine wE1 ?_ | refine wE2 ?_ | (refine wE3 ?_; intro _) | (refine wE4 ?_; intro _) | refine wN ?_ | ((with_reducible show evIs _ (_ :: _) _ _); first | refine wQ ?_ | refine wF ?_ | refine wG ?_ | refine wT ?_ | refine wM ?_ | refine wS ?_ | refine wP ?_ | refine wJ ?_ | refine wX ?_ | refine wY ?_ | refine wZ ?_))
      clear hF
      repeat refine evDone ?_
      try (show AW _ _ _ _ _)
      refine ⟨2, by omega, by omega, ?_⟩
      refine Fit.mk _ _ _ (by simp [hx, hN, conv2, newEmp, convs_refl, convs, conv]) (by simp [hx, hN, heapFit, newEmp, conv2s, conv2, convs_refl, convs, conv]) (by intro q hq; first | (simp at hq; done) | (simp at hq; omega) | (simp at hq; simp; omega))
    · simp only [show ¬ (2 : Nat) = 0 by omega, show ¬ (2 : Nat) = 1 by omega, if_false]
      have hF := hN
      repeat (first | refine wD1 ?_ | refine wD2 ?_ | refine wE1 ?_ | refine wE2 ?_ | (refine wE3 ?_; intro _) | (refine wE4 ?_; intro _) | refine wN ?_ | ((with_reducible show evIs _ (_ :: _) _ _); first | refine wQ ?_ | refine wF ?_ | refine wG ?_ | refine wT ?_ | refine wM ?_ | refine wS ?_ | refine wP ?_ | refine wJ ?_ | refine wX ?_ | refine wY ?_ | refine wZ ?_))
      clear hF
      repeat refine evDone ?_
      try (show AW _ _ _ _ _)
      repeat refine AW.seq ?_
      refine AW.condF (by simp []) (by simp []) ?_
      refine AW.exit ?_
      show AW _ _ _ _ _
      repeat refine AW.seq ?_
      refine AW.reg ?_
      have hF := hN
      repeat (first | refine wD1 ?_ | refine wD2 ?_ | refine wE1 ?_ | refine wE2 ?_ | (refine wE3 ?_; intro _) | (refine wE4 ?_; intro _) | refine wN ?_ | ((with_reducible show evIs _ (_ :: _) _ _); first | refine wQ ?_ | refine wF ?_ | refine wG ?_ | refine wT ?_ | refine wM ?_ | refine wS ?_ | refine wP ?_ | refine wJ ?_ | refine wX ?_ | refine wY ?_ | refine wZ ?_))
      clear hF
      repeat refine evDone ?_
      try (show AW _ _ _ _ _)
      refine AW.ret ⟨by simp [resP, a30_res, ARes.op, hN], [(B, ⟨2, true, [.agg [.hdr H 0 m, .bool true]]⟩), (H, ⟨2, false, (y2).map Item.av⟩)], N + 1000, [.agg [.int .i64 (it xs i).due, .int .i64 (it xs i).id]], ⟨by rw [hR], rfl, rfl⟩, by omega, by simp [hN], rfl, by simp, ?_⟩
      simp only [resV, a30_res, List.map_cons, List.map_nil, ARes.op]
      refine Fit.mk _ _ _ (by simp [hN, conv2, newEmp, convs_refl, convs, conv]) (by simp [hN, heapFit, newEmp, conv2s, conv2, convs_refl, convs, conv]) (by intro q hq; first | (simp at hq; done) | (simp at hq; omega) | (simp at hq; simp; omega))
  · have hR : removeF xs i m = ys := by simp [removeF, him, hys]
    have him' : ¬ (i : Int) < m := by omega
    have hF := And.intro (him') (hN)
    repeat (first | refine wD1 ?_ | refine wD2 ?_ | refine wE1 ?_ | refine wE2 ?_ | (refine wE3 ?_; intro _) | (refine wE4 ?_; intro _) | refine wN ?_ | ((with_reducible show evIs _ (_ :: _) _ _); first | refine wQ ?_ | refine wF ?_ | refine wG ?_ | refine wT ?_ | refine wM ?_ | refine wS ?_ | refine wP ?_ | refine wJ ?_ | refine wX ?_ | refine wY ?_ | refine wZ ?_))
    clear hF
    repeat refine evDone ?_
    try (show AW _ _ _ _ _)
    repeat refine AW.seq ?_
    refine AW.condF (by simp [him']) (by simp [him']) ?_
    refine AW.skip ?_
    show AW _ _ _ _ _
    repeat refine AW.seq ?_
    refine AW.reg ?_
    have hF := hN
    repeat (first | refine wD1 ?_ | refine wD2 ?_ | refine wE1 ?_ | refine wE2 ?_ | (refine wE3 ?_; intro _) | (refine wE4 ?_; intro _) | refine wN ?_ | ((with_reducible show evIs _ (_ :: _) _ _); first | refine wQ ?_ | refine wF ?_ | refine wG ?_ | refine wT ?_ | refine wM ?_ | refine wS ?_ | refine wP ?_ | refine wJ ?_ | refine wX ?_ | refine wY ?_ | refine wZ ?_))
    clear hF
    repeat refine evDone ?_
    try (show AW _ _ _ _ _)
    refine AW.ret ⟨by simp [resP, a30_res, ARes.op, hN], [(B, ⟨2, true, [.agg [.hdr H 0 m, .bool true]]⟩), (H, ⟨2, false, (ys).map Item.av⟩)], N + 1000, [.agg [.int .i64 (it xs i).due, .int .i64 (it xs i).id]], ⟨by rw [hR], rfl, rfl⟩, by omega, by simp [hN], rfl, by simp, ?_⟩
    simp only [resV, a30_res, List.map_cons, List.map_nil, ARes.op]
    refine Fit.mk _ _ _ (by simp [hN, conv2, newEmp, convs_refl, convs, conv]) (by simp [hN, heapFit, newEmp, conv2s, conv2, convs_refl, convs, conv]) (by intro q hq; first | (simp at hq; done) | (simp at hq; omega) | (simp at hq; simp; omega))
end Go.Proofs.Ytljahaeachdjmaa

set_option linter.unusedSimpArgs false
set_option linter.unusedVariables false
set_option maxHeartbeats 8000000
namespace Go.Proofs.Ytljahaeachdjmaa
open Go Go.Amb Go.IntWalk

/-- The queue's roots. -/
def Qs (B H : Nat) (xs : List Item) : List (Nat × Blk) := [(B, box H xs.length), (H, ⟨2, false, xs.map Item.av⟩)]
/-- What a method that changes the queue leaves. -/
def QPost (N B H : Nat) (ys : List Item) (r : AV) : List (Nat × Blk) → Nat → AV → Prop := fun H1 n' v => ∃ H', (H' = H ∨ N ≤ H') ∧ H' < n' ∧ H' ≠ B ∧ H1 = Qs B H' ys ∧ n' = N + 1000 ∧ v = r
def addF (xs : List Item) (x : Item) : List Item × Int := if 0 ≤ idx xs (fun y => y.id == x.id) then (xs, 9) else (upF (xs.length + 1) (xs ++ [x]) xs.length, 0)
theorem it_snoc (xs : List Item) (x : Item) : (xs.map Item.av) ++ [.agg [.int .i64 x.due, .int .i64 x.id]] = (xs ++ [x]).map Item.av := by simp [Item.av]
theorem f10 (N : Nat) : BCall Try.prog 10 [] N [] (fun H1 n' v => H1 = Qs (N + 2) (N + 500) [] ∧ n' = N + 1000 ∧ v = .ptr (N + 2) 0 0) := by
  have hnl : ∀ k, (N + k < N) = False := fun k => eq_false (by omega)
  refine bcall_coded a10_ok (by simp) ?_
  repeat refine AW.seq ?_
  refine AW.reg ?_
  have hF := hnl
  repeat (first | refine wD1 ?_ | refine wD2 ?_ | refine wE1 ?_ | refine wE2 ?_ | (refine wE3 ?_; intro _) | (refine wE4 ?_; intro _) | refine wN ?_ | ((with_reducible show evIs _ (_ :: _) _ _); first | refine wQ ?_ | refine wF ?_ | refine wG ?_ | refine wT ?_ | refine wM ?_ | refine wS ?_ | refine wP ?_ | refine wJ ?_ | refine wX ?_ | refine wY ?_ | refine wZ ?_))
  clear hF
  repeat refine evDone ?_
  try (show AW _ _ _ _ _)
  repeat refine AW.seq ?_
  refine AW.reg ?_
  have hF := hnl
  repeat (first | refine wD1 ?_ | refine wD2 ?_ | refine wE1 ?_ | refine wE2 ?_ | (refine wE3 ?_; intro _) | (refine wE4 ?_; intro _) | refine wN ?_ | ((with_reducible show evIs _ (_ :: _) _ _); first | refine wQ ?_ | refine wF ?_ | refine wG ?_ | refine wT ?_ | refine wM ?_ | refine wS ?_ | refine wP ?_ | refine wJ ?_ | refine wX ?_ | refine wY ?_ | refine wZ ?_))
  clear hF
  repeat refine evDone ?_
  try (show AW _ _ _ _ _)
  refine AW.ret ⟨by simp [resP, a10_res, ARes.op, hnl], [(N + 2, ⟨2, true, [.agg [.hdr (N + 500) 0 0, .bool true]]⟩), (N + 500, ⟨2, false, []⟩)], N + 1000, [.ptr (N + 2) 0 0], ⟨rfl, rfl, rfl⟩, by omega, by simp, rfl, by simp, ?_⟩
  simp only [resV, a10_res, List.map_cons, List.map_nil, ARes.op]
  refine Fit.mk _ _ _ (by simp [hnl, conv2, newEmp, convs_refl, convs, conv]) (by simp [hnl, heapFit, newEmp, conv2s, conv2, convs_refl, convs, conv]) (by intro q hq; first | (simp at hq; done) | (simp at hq; omega) | (simp at hq; simp; omega))
theorem f17 (N B H : Nat) (hB : B < N) (hH : H < N) (hBH : B ≠ H) (xs : List Item) (x : Item) (hl : xs.length < 8796093022208) :
    BCall Try.prog 17 (Qs B H xs) N [.ptr B 0 0, x.av] (QPost N B H (addF xs x).1 (.int .i64 (addF xs x).2)) := by
  have hN : (B = H) = False ∧ (H = B) = False ∧ (B = N) = False ∧ (N = B) = False ∧ (H = N) = False ∧ (N = H) = False ∧ (∀ q, (B = N + q) = False) ∧ (∀ q, (N + q = B) = False) ∧ (∀ q, (H = N + q) = False) ∧ (∀ q, (N + q = H) = False) ∧ (∀ q, B < N + q) ∧ (∀ q, H < N + q) ∧ (∀ q, (N + q < N) = False) ∧ B < N ∧ H < N := by
    refine ⟨?_, ?_, ?_, ?_, ?_, ?_, ?_, ?_, ?_, ?_, ?_, ?_, ?_, ?_, ?_⟩ <;> first | exact eq_false (by omega) | exact fun q => eq_false (by omega) | exact fun q => by omega | omega
  have hma : (∀ (fh fq : Nat → Nat → Nat → AV) (cs : List AV), mapA fh fq (.agg cs) = .agg (cs.map (mapA fh fq))) ∧ (∀ (fh fq : Nat → Nat → Nat → AV) (r o n : Nat), mapA fh fq (.hdr r o n) = fh r o n) ∧ (∀ (fh fq : Nat → Nat → Nat → AV) (b : Bool), mapA fh fq (.bool b) = .bool b) := by
    refine ⟨?_, ?_, ?_⟩ <;> intros <;> simp [mapA, mapAs_eq]
  have htk : (xs.map Item.av).take xs.length = xs.map Item.av := List.take_of_length_le (by simp)
  have hic := items_cl xs
  have h28 := f28 xs true
  have h29 := f29 xs true x.id (by omega)
  have hby : (xs.length + 1) * 16 ≤ 140737488355328 := by omega
  have hby2 : xs.length + 1 ≤ 9223372036854775807 := by omega
  have hw : IntKind.i64.wrap (xs.length : Int) = (xs.length : Int) := i64_in _ ⟨by omega, by omega⟩
  have hix : 0 ≤ idx xs (fun y => y.id == x.id) ∨ idx xs (fun y => y.id == x.id) < 0 := by omega
  simp only [qv, items] at h28 h29
  simp only [Qs, box, Item.av]
  refine bcall_coded a17_ok (by simp) ?_
  repeat refine AW.seq ?_
  refine AW.reg ?_
  have hF := hN
  repeat (first | refine wD1 ?_ | refine wD2 ?_ | refine wE1 ?_ | refine wE2 ?_ | (refine wE3 ?_; intro _) | (refine wE4 ?_; intro _) | refine wN ?_ | ((with_reducible show evIs _ (_ :: _) _ _); first | refine wQ ?_ | refine wF ?_ | refine wG ?_ | refine wT ?_ | refine wM ?_ | refine wS ?_ | refine wP ?_ | refine wJ ?_ | refine wX ?_ | refine wY ?_ | refine wZ ?_))
  clear hF
  repeat refine evDone ?_
  try (show AW _ _ _ _ _)
  repeat refine AW.seq ?_
  refine AW.reg ?_
  have hF := hN
  repeat (first | refine wD1 ?_ | refine wD2 ?_ | refine wE1 ?_ | refine wE2 ?_ | (refine wE3 ?_; intro _) | (refine wE4 ?_; intro _) | refine wN ?_ | ((with_reducible show evIs _ (_ :: _) _ _); first | refine wQ ?_ | refine wF ?_ | refine wG ?_ | refine wT ?_ | refine wM ?_ | refine wS ?_ | refine wP ?_ | refine wJ ?_ | refine wX ?_ | refine wY ?_ | refine wZ ?_))
  clear hF
  repeat refine evDone ?_
  try (show AW _ _ _ _ _)
  have hF := And.intro (hma) (And.intro (htk) (And.intro (hic) (hN)))
  refine wC (hA := h28) ?_
  clear hF
  have hF := hN
  repeat (first | refine wD1 ?_ | refine wD2 ?_ | refine wE1 ?_ | refine wE2 ?_ | (refine wE3 ?_; intro _) | (refine wE4 ?_; intro _) | refine wN ?_ | ((with_reducible show evIs _ (_ :: _) _ _); first | refine wQ ?_ | refine wF ?_ | refine wG ?_ | refine wT ?_ | refine wM ?_ | refine wS ?_ | refine wP ?_ | refine wJ ?_ | refine wX ?_ | refine wY ?_ | refine wZ ?_))
  clear hF
  repeat refine evDone ?_
  try (show AW _ _ _ _ _)
  repeat refine AW.seq ?_
  refine AW.condF (by simp []) (by simp []) ?_
  refine AW.skip ?_
  show AW _ _ _ _ _
  repeat refine AW.seq ?_
  refine AW.reg ?_
  have hF := hN
  repeat (first | refine wD1 ?_ | refine wD2 ?_ | refine wE1 ?_ | refine wE2 ?_ | (refine wE3 ?_; intro _) | (refine wE4 ?_; intro _) | refine wN ?_ | ((with_reducible show evIs _ (_ :: _) _ _); first | refine wQ ?_ | refine wF ?_ | refine wG ?_ | refine wT ?_ | refine wM ?_ | refine wS ?_ | refine wP ?_ | refine wJ ?_ | refine wX ?_ | refine wY ?_ | refine wZ ?_))
  clear hF
  repeat refine evDone ?_
  try (show AW _ _ _ _ _)
  have hF := And.intro (hma) (And.intro (htk) (And.intro (hic) (hN)))
  refine wC (hA := h29) ?_
  clear hF
  rcases hix with hix | hix
  · have ha : addF xs x = (xs, 9) := by simp [addF, hix]
    rw [ha]
    have hF := And.intro (hix) (hN)
    repeat (first | refine wD1 ?_ | refine wD2 ?_ | refine wE1 ?_ | refine wE2 ?_ | (refine wE3 ?_; intro _) | (refine wE4 ?_; intro _) | refine wN ?_ | ((with_reducible show evIs _ (_ :: _) _ _); first | refine wQ ?_ | refine wF ?_ | refine wG ?_ | refine wT ?_ | refine wM ?_ | refine wS ?_ | refine wP ?_ | refine wJ ?_ | refine wX ?_ | refine wY ?_ | refine wZ ?_))
    clear hF
    repeat refine evDone ?_
    try (show AW _ _ _ _ _)
    repeat refine AW.seq ?_
    refine AW.condT (by simp [hix]) (by simp [hix]) ?_
    repeat refine AW.seq ?_
    refine AW.reg ?_
    have hF := hN
    repeat (first | refine wD1 ?_ | refine wD2 ?_ | refine wE1 ?_ | refine wE2 ?_ | (refine wE3 ?_; intro _) | (refine wE4 ?_; intro _) | refine wN ?_ | ((with_reducible show evIs _ (_ :: _) _ _); first | refine wQ ?_ | refine wF ?_ | refine wG ?_ | refine wT ?_ | refine wM ?_ | refine wS ?_ | refine wP ?_ | refine wJ ?_ | refine wX ?_ | refine wY ?_ | refine wZ ?_))
    clear hF
    repeat refine evDone ?_
    try (show AW _ _ _ _ _)
    refine AW.ret ⟨by simp [resP, a17_res, ARes.op, hN], [(B, ⟨2, true, [.agg [.hdr H 0 xs.length, .bool true]]⟩), (H, ⟨2, false, xs.map Item.av⟩)], N + 1000, [.int .i64 9], ⟨H, .inl rfl, by omega, hBH.symm, rfl, rfl, rfl⟩, by omega, (by intro p hp; simp at hp; rcases hp with rfl | rfl <;> first | (left; simp [hN]; done) | (right; dsimp only; omega)), rfl, by simp, ?_⟩
    simp only [resV, a17_res, List.map_cons, List.map_nil, ARes.op]
    refine Fit.mk _ _ _ (by simp [hN, conv2, newEmp, convs_refl, convs, conv]) (by simp [hN, heapFit, newEmp, conv2s, conv2, convs_refl, convs, conv]) (by intro q hq; first | (simp at hq; done) | (simp at hq; omega) | (simp at hq; simp; omega))
  · have ha : addF xs x = (upF (xs.length + 1) (xs ++ [x]) xs.length, 0) := by simp [addF, show ¬ 0 ≤ idx xs (fun y => y.id == x.id) by omega]
    have hix2 : ¬ 0 ≤ idx xs (fun y => y.id == x.id) := by omega
    rw [ha]
    have hul := upF_len (xs.length + 1) (xs ++ [x]) xs.length
    have hsn := it_snoc xs x
    have h31 := f31 (N + 200) B (N + 19) (by omega) (by omega) (by omega) (xs ++ [x]) xs.length (by simp) (by simp; omega)
    have hle : (xs ++ [x]).length = xs.length + 1 := by simp
    rw [hle] at h31
    simp only [box] at h31
    rw [← hsn] at h31
    have hF := And.intro (hix2) (hN)
    repeat (first | refine wD1 ?_ | refine wD2 ?_ | refine wE1 ?_ | refine wE2 ?_ | (refine wE3 ?_; intro _) | (refine wE4 ?_; intro _) | refine wN ?_ | ((with_reducible show evIs _ (_ :: _) _ _); first | refine wQ ?_ | refine wF ?_ | refine wG ?_ | refine wT ?_ | refine wM ?_ | refine wS ?_ | refine wP ?_ | refine wJ ?_ | refine wX ?_ | refine wY ?_ | refine wZ ?_))
    clear hF
    repeat refine evDone ?_
    try (show AW _ _ _ _ _)
    repeat refine AW.seq ?_
    refine AW.condF (by simp [hix2]) (by simp [hix2]) ?_
    refine AW.skip ?_
    show AW _ _ _ _ _
    repeat refine AW.seq ?_
    refine AW.draw ?_
    have hF := And.intro (hby) (And.intro (hby2) (hN))
    repeat (first | refine wD1 ?_ | refine wD2 ?_ | refine wE1 ?_ | refine wE2 ?_ | (refine wE3 ?_; intro _) | (refine wE4 ?_; intro _) | refine wN ?_ | ((with_reducible show evIs _ (_ :: _) _ _); first | refine wQ ?_ | refine wF ?_ | refine wG ?_ | refine wT ?_ | refine wM ?_ | refine wS ?_ | refine wP ?_ | refine wJ ?_ | refine wX ?_ | refine wY ?_ | refine wZ ?_))
    clear hF
    repeat refine evDone ?_
    try (show AW _ _ _ _ _)
    repeat refine AW.seq ?_
    refine AW.reg ?_
    have hF := And.intro (hw) (hN)
    repeat (first | refine wD1 ?_ | refine wD2 ?_ | refine wE1 ?_ | refine wE2 ?_ | (refine wE3 ?_; intro _) | (refine wE4 ?_; intro _) | refine wN ?_ | ((with_reducible show evIs _ (_ :: _) _ _); first | refine wQ ?_ | refine wF ?_ | refine wG ?_ | refine wT ?_ | refine wM ?_ | refine wS ?_ | refine wP ?_ | refine wJ ?_ | refine wX ?_ | refine wY ?_ | refine wZ ?_))
    clear hF
    repeat refine evDone ?_
    try (show AW _ _ _ _ _)
    have hF := hN
    refine wL (hA := h31) ?_
    clear hF
    rintro _ _ _ ⟨rfl, rfl, rfl⟩
    have hF := hN
    repeat (first | refine wD1 ?_ | refine wD2 ?_ | refine wE1 ?_ | refine wE2 ?_ | (refine wE3 ?_; intro _) | (refine wE4 ?_; intro _) | refine wN ?_ | ((with_reducible show evIs _ (_ :: _) _ _); first | refine wQ ?_ | refine wF ?_ | refine wG ?_ | refine wT ?_ | refine wM ?_ | refine wS ?_ | refine wP ?_ | refine wJ ?_ | refine wX ?_ | refine wY ?_ | refine wZ ?_))
    clear hF
    repeat refine evDone ?_
    try (show AW _ _ _ _ _)
    repeat refine AW.seq ?_
    refine AW.reg ?_
    have hF := hN
    repeat (first | refine wD1 ?_ | refine wD2 ?_ | refine wE1 ?_ | refine wE2 ?_ | (refine wE3 ?_; intro _) | (refine wE4 ?_; intro _) | refine wN ?_ | ((with_reducible show evIs _ (_ :: _) _ _); first | refine wQ ?_ | refine wF ?_ | refine wG ?_ | refine wT ?_ | refine wM ?_ | refine wS ?_ | refine wP ?_ | refine wJ ?_ | refine wX ?_ | refine wY ?_ | refine wZ ?_))
    clear hF
    repeat refine evDone ?_
    try (show AW _ _ _ _ _)
    refine AW.ret ⟨by simp [resP, a17_res, ARes.op, hN], [(B, ⟨2, true, [.agg [.hdr (N + 19) 0 (xs.length + 1), .bool true]]⟩), ((N + 19), ⟨2, false, (upF (xs.length + 1) (xs ++ [x]) xs.length).map Item.av⟩)], N + 1000, [.int .i64 0], ⟨N + 19, .inr (by omega), by omega, by omega, by simp [Qs, box, hul], rfl, rfl⟩, by omega, (by intro p hp; simp at hp; rcases hp with rfl | rfl <;> first | (left; simp [hN]; done) | (right; dsimp only; omega)), rfl, by simp, ?_⟩
    simp only [resV, a17_res, List.map_cons, List.map_nil, ARes.op]
    refine Fit.mk _ _ _ (by simp [hN, conv2, newEmp, convs_refl, convs, conv]) (by simp [hN, heapFit, newEmp, conv2s, conv2, convs_refl, convs, conv]) (by intro q hq; first | (simp at hq; done) | (simp at hq; omega) | (simp at hq; simp; omega))
end Go.Proofs.Ytljahaeachdjmaa

set_option linter.unusedSimpArgs false
set_option linter.unusedVariables false
set_option maxHeartbeats 8000000
namespace Go.Proofs.Ytljahaeachdjmaa
open Go Go.Amb Go.IntWalk

def cancelF (xs : List Item) (id : Int) : List Item × Bool :=
  match xs.findIdx? (fun y => y.id == id) with
  | none => (xs, false)
  | some k => (removeF xs k (xs.length - 1), true)
theorem f12 (N B H : Nat) (hB : B < N) (hH : H < N) (hBH : B ≠ H) (xs : List Item) (id : Int) (hl : xs.length ≤ 8796093022208) :
    BCall Try.prog 12 (Qs B H xs) N [.ptr B 0 0, .int .i64 id] (fun H1 n' v => H1 = Qs B H (cancelF xs id).1 ∧ n' = N + 3000 ∧ v = .bool (cancelF xs id).2) := by
  have hN : (B = H) = False ∧ (H = B) = False ∧ (B = N) = False ∧ (N = B) = False ∧ (H = N) = False ∧ (N = H) = False ∧ (∀ q, (B = N + q) = False) ∧ (∀ q, (N + q = B) = False) ∧ (∀ q, (H = N + q) = False) ∧ (∀ q, (N + q = H) = False) ∧ (∀ q, B < N + q) ∧ (∀ q, H < N + q) ∧ (∀ q, (N + q < N) = False) ∧ B < N ∧ H < N := by
    refine ⟨?_, ?_, ?_, ?_, ?_, ?_, ?_, ?_, ?_, ?_, ?_, ?_, ?_, ?_, ?_⟩ <;> first | exact eq_false (by omega) | exact fun q => eq_false (by omega) | exact fun q => by omega | omega
  have hma : (∀ (fh fq : Nat → Nat → Nat → AV) (cs : List AV), mapA fh fq (.agg cs) = .agg (cs.map (mapA fh fq))) ∧ (∀ (fh fq : Nat → Nat → Nat → AV) (r o n : Nat), mapA fh fq (.hdr r o n) = fh r o n) ∧ (∀ (fh fq : Nat → Nat → Nat → AV) (b : Bool), mapA fh fq (.bool b) = .bool b) := by
    refine ⟨?_, ?_, ?_⟩ <;> intros <;> simp [mapA, mapAs_eq]
  have htk : (xs.map Item.av).take xs.length = xs.map Item.av := List.take_of_length_le (by simp)
  have hic := items_cl xs
  have h28 := f28 xs true
  have h29 := f29 xs true id (by omega)
  simp only [qv, items] at h28 h29
  simp only [Qs, box]
  refine bcall_coded a12_ok (by simp) ?_
  repeat refine AW.seq ?_
  refine AW.reg ?_
  have hF := hN
  repeat (first | refine wD1 ?_ | refine wD2 ?_ | refine wE1 ?_ | refine wE2 ?_ | (refine wE3 ?_; intro _) | (refine wE4 ?_; intro _) | refine wN ?_ | ((with_reducible show evIs _ (_ :: _) _ _); first | refine wQ ?_ | refine wF ?_ | refine wG ?_ | refine wT ?_ | refine wM ?_ | refine wS ?_ | refine wP ?_ | refine wJ ?_ | refine wX ?_ | refine wY ?_ | refine wZ ?_))
  clear hF
  repeat refine evDone ?_
  try (show AW _ _ _ _ _)
  repeat refine AW.seq ?_
  refine AW.reg ?_
  have hF := hN
  repeat (first | refine wD1 ?_ | refine wD2 ?_ | refine wE1 ?_ | refine wE2 ?_ | (refine wE3 ?_; intro _) | (refine wE4 ?_; intro _) | refine wN ?_ | ((with_reducible show evIs _ (_ :: _) _ _); first | refine wQ ?_ | refine wF ?_ | refine wG ?_ | refine wT ?_ | refine wM ?_ | refine wS ?_ | refine wP ?_ | refine wJ ?_ | refine wX ?_ | refine wY ?_ | refine wZ ?_))
  clear hF
  repeat refine evDone ?_
  try (show AW _ _ _ _ _)
  have hF := And.intro (hma) (And.intro (htk) (And.intro (hic) (hN)))
  refine wC (hA := h28) ?_
  clear hF
  have hF := hN
  repeat (first | refine wD1 ?_ | refine wD2 ?_ | refine wE1 ?_ | refine wE2 ?_ | (refine wE3 ?_; intro _) | (refine wE4 ?_; intro _) | refine wN ?_ | ((with_reducible show evIs _ (_ :: _) _ _); first | refine wQ ?_ | refine wF ?_ | refine wG ?_ | refine wT ?_ | refine wM ?_ | refine wS ?_ | refine wP ?_ | refine wJ ?_ | refine wX ?_ | refine wY ?_ | refine wZ ?_))
  clear hF
  repeat refine evDone ?_
  try (show AW _ _ _ _ _)
  repeat refine AW.seq ?_
  refine AW.condF (by simp []) (by simp []) ?_
  refine AW.skip ?_
  show AW _ _ _ _ _
  repeat refine AW.seq ?_
  refine AW.reg ?_
  have hF := hN
  repeat (first | refine wD1 ?_ | refine wD2 ?_ | refine wE1 ?_ | refine wE2 ?_ | (refine wE3 ?_; intro _) | (refine wE4 ?_; intro _) | refine wN ?_ | ((with_reducible show evIs _ (_ :: _) _ _); first | refine wQ ?_ | refine wF ?_ | refine wG ?_ | refine wT ?_ | refine wM ?_ | refine wS ?_ | refine wP ?_ | refine wJ ?_ | refine wX ?_ | refine wY ?_ | refine wZ ?_))
  clear hF
  repeat refine evDone ?_
  try (show AW _ _ _ _ _)
  have hF := And.intro (hma) (And.intro (htk) (And.intro (hic) (hN)))
  refine wC (hA := h29) ?_
  clear hF
  rcases idx_cases xs (fun y => y.id == id) with ⟨h1, h2⟩ | ⟨k, x, h1, h2, h3, h4, h5⟩
  · rw [h1]
    have hc : cancelF xs id = (xs, false) := by simp [cancelF, h2]
    rw [hc]
    have hF := hN
    repeat (first | refine wD1 ?_ | refine wD2 ?_ | refine wE1 ?_ | refine wE2 ?_ | (refine wE3 ?_; intro _) | (refine wE4 ?_; intro _) | refine wN ?_ | ((with_reducible show evIs _ (_ :: _) _ _); first | refine wQ ?_ | refine wF ?_ | refine wG ?_ | refine wT ?_ | refine wM ?_ | refine wS ?_ | refine wP ?_ | refine wJ ?_ | refine wX ?_ | refine wY ?_ | refine wZ ?_))
    clear hF
    repeat refine evDone ?_
    try (show AW _ _ _ _ _)
    repeat refine AW.seq ?_
    refine AW.reg ?_
    have hF := hN
    repeat (first | refine wD1 ?_ | refine wD2 ?_ | refine wE1 ?_ | refine wE2 ?_ | (refine wE3 ?_; intro _) | (refine wE4 ?_; intro _) | refine wN ?_ | ((with_reducible show evIs _ (_ :: _) _ _); first | refine wQ ?_ | refine wF ?_ | refine wG ?_ | refine wT ?_ | refine wM ?_ | refine wS ?_ | refine wP ?_ | refine wJ ?_ | refine wX ?_ | refine wY ?_ | refine wZ ?_))
    clear hF
    repeat refine evDone ?_
    try (show AW _ _ _ _ _)
    repeat refine AW.seq ?_
    refine AW.condT (by simp []) (by simp []) ?_
    repeat refine AW.seq ?_
    refine AW.reg ?_
    have hF := hN
    repeat (first | refine wD1 ?_ | refine wD2 ?_ | refine wE1 ?_ | refine wE2 ?_ | (refine wE3 ?_; intro _) | (refine wE4 ?_; intro _) | refine wN ?_ | ((with_reducible show evIs _ (_ :: _) _ _); first | refine wQ ?_ | refine wF ?_ | refine wG ?_ | refine wT ?_ | refine wM ?_ | refine wS ?_ | refine wP ?_ | refine wJ ?_ | refine wX ?_ | refine wY ?_ | refine wZ ?_))
    clear hF
    repeat refine evDone ?_
    try (show AW _ _ _ _ _)
    refine AW.ret ⟨by simp [resP, a12_res, ARes.op, hN], [(B, ⟨2, true, [.agg [.hdr H 0 xs.length, .bool true]]⟩), (H, ⟨2, false, xs.map Item.av⟩)], N + 3000, [.bool false], ⟨rfl, rfl, rfl⟩, by omega, (by intro p hp; simp at hp; rcases hp with rfl | rfl <;> first | (left; simp [hN]; done) | (right; dsimp only; omega)), rfl, by simp, ?_⟩
    simp only [resV, a12_res, List.map_cons, List.map_nil, ARes.op]
    refine Fit.mk _ _ _ (by simp [hN, conv2, newEmp, convs_refl, convs, conv]) (by simp [hN, heapFit, newEmp, conv2s, conv2, convs_refl, convs, conv]) (by intro q hq; first | (simp at hq; done) | (simp at hq; omega) | (simp at hq; simp; omega))
  · rw [h1]
    have hc : cancelF xs id = (removeF xs k (xs.length - 1), true) := by simp [cancelF, h2]
    rw [hc]
    obtain ⟨m, hm⟩ : ∃ m, xs.length = m + 1 := ⟨xs.length - 1, by omega⟩
    have h30 := f30 (N + 500) B H (by omega) (by omega) hBH xs k m hm (by omega) hl
    have hrl := removeF_len hm k
    simp only [box] at h30
    rw [hm]
    simp only [Nat.add_sub_cancel]
    have hF := hN
    repeat (first | refine wD1 ?_ | refine wD2 ?_ | refine wE1 ?_ | refine wE2 ?_ | (refine wE3 ?_; intro _) | (refine wE4 ?_; intro _) | refine wN ?_ | ((with_reducible show evIs _ (_ :: _) _ _); first | refine wQ ?_ | refine wF ?_ | refine wG ?_ | refine wT ?_ | refine wM ?_ | refine wS ?_ | refine wP ?_ | refine wJ ?_ | refine wX ?_ | refine wY ?_ | refine wZ ?_))
    clear hF
    repeat refine evDone ?_
    try (show AW _ _ _ _ _)
    repeat refine AW.seq ?_
    refine AW.reg ?_
    have hF := hN
    repeat (first | refine wD1 ?_ | refine wD2 ?_ | refine wE1 ?_ | refine wE2 ?_ | (refine wE3 ?_; intro _) | (refine wE4 ?_; intro _) | refine wN ?_ | ((with_reducible show evIs _ (_ :: _) _ _); first | refine wQ ?_ | refine wF ?_ | refine wG ?_ | refine wT ?_ | refine wM ?_ | refine wS ?_ | refine wP ?_ | refine wJ ?_ | refine wX ?_ | refine wY ?_ | refine wZ ?_))
    clear hF
    repeat refine evDone ?_
    try (show AW _ _ _ _ _)
    repeat refine AW.seq ?_
    refine AW.condF (by simp []) (by simp []) ?_
    refine AW.skip ?_
    show AW _ _ _ _ _
    repeat refine AW.seq ?_
    refine AW.reg ?_
    have hF := hN
    repeat (first | refine wD1 ?_ | refine wD2 ?_ | refine wE1 ?_ | refine wE2 ?_ | (refine wE3 ?_; intro _) | (refine wE4 ?_; intro _) | refine wN ?_ | ((with_reducible show evIs _ (_ :: _) _ _); first | refine wQ ?_ | refine wF ?_ | refine wG ?_ | refine wT ?_ | refine wM ?_ | refine wS ?_ | refine wP ?_ | refine wJ ?_ | refine wX ?_ | refine wY ?_ | refine wZ ?_))
    clear hF
    repeat refine evDone ?_
    try (show AW _ _ _ _ _)
    have hF := And.intro (hN) (hm)
    refine wL (hA := h30) ?_
    clear hF
    rintro _ _ _ ⟨rfl, rfl, rfl⟩
    have hF := hN
    repeat (first | refine wD1 ?_ | refine wD2 ?_ | refine wE1 ?_ | refine wE2 ?_ | (refine wE3 ?_; intro _) | (refine wE4 ?_; intro _) | refine wN ?_ | ((with_reducible show evIs _ (_ :: _) _ _); first | refine wQ ?_ | refine wF ?_ | refine wG ?_ | refine wT ?_ | refine wM ?_ | refine wS ?_ | refine wP ?_ | refine wJ ?_ | refine wX ?_ | refine wY ?_ | refine wZ ?_))
    clear hF
    repeat refine evDone ?_
    try (show AW _ _ _ _ _)
    repeat refine AW.seq ?_
    refine AW.reg ?_
    have hF := hN
    repeat (first | refine wD1 ?_ | refine wD2 ?_ | refine wE1 ?_ | refine wE2 ?_ | (refine wE3 ?_; intro _) | (refine wE4 ?_; intro _) | refine wN ?_ | ((with_reducible show evIs _ (_ :: _) _ _); first | refine wQ ?_ | refine wF ?_ | refine wG ?_ | refine wT ?_ | refine wM ?_ | refine wS ?_ | refine wP ?_ | refine wJ ?_ | refine wX ?_ | refine wY ?_ | refine wZ ?_))
    clear hF
    repeat refine evDone ?_
    try (show AW _ _ _ _ _)
    refine AW.ret ⟨by simp [resP, a12_res, ARes.op, hN], [(B, ⟨2, true, [.agg [.hdr H 0 m, .bool true]]⟩), (H, ⟨2, false, (removeF xs k m).map Item.av⟩)], N + 3000, [.bool true], ⟨by rw [hrl], rfl, rfl⟩, by omega, (by intro p hp; simp at hp; rcases hp with rfl | rfl <;> first | (left; simp [hN]; done) | (right; dsimp only; omega)), rfl, by simp, ?_⟩
    simp only [resV, a12_res, List.map_cons, List.map_nil, ARes.op]
    refine Fit.mk _ _ _ (by simp [hN, conv2, newEmp, convs_refl, convs, conv]) (by simp [hN, heapFit, newEmp, conv2s, conv2, convs_refl, convs, conv]) (by intro q hq; first | (simp at hq; done) | (simp at hq; omega) | (simp at hq; simp; omega))
theorem f15 (xs : List Item) : ACall Try.prog 15 [qv xs true] (· = .int .i64 xs.length) := by
  have h28 := f28 xs true
  simp only [qv, items] at h28 ⊢
  refine a15_of (by simp) ?_
  repeat refine AW.seq ?_
  refine AW.reg ?_
  have hF := True.intro
  repeat (first | refine wD1 ?_ | refine wD2 ?_ | refine wE1 ?_ | refine wE2 ?_ | (refine wE3 ?_; intro _) | (refine wE4 ?_; intro _) | refine wN ?_ | ((with_reducible show evIs _ (_ :: _) _ _); first | refine wQ ?_ | refine wF ?_ | refine wG ?_ | refine wT ?_ | refine wM ?_ | refine wS ?_ | refine wP ?_ | refine wJ ?_ | refine wX ?_ | refine wY ?_ | refine wZ ?_))
  clear hF
  repeat refine evDone ?_
  try (show AW _ _ _ _ _)
  repeat refine AW.seq ?_
  refine AW.reg ?_
  have hF := True.intro
  repeat (first | refine wD1 ?_ | refine wD2 ?_ | refine wE1 ?_ | refine wE2 ?_ | (refine wE3 ?_; intro _) | (refine wE4 ?_; intro _) | refine wN ?_ | ((with_reducible show evIs _ (_ :: _) _ _); first | refine wQ ?_ | refine wF ?_ | refine wG ?_ | refine wT ?_ | refine wM ?_ | refine wS ?_ | refine wP ?_ | refine wJ ?_ | refine wX ?_ | refine wY ?_ | refine wZ ?_))
  clear hF
  repeat refine evDone ?_
  try (show AW _ _ _ _ _)
  have hF := True.intro
  refine wC (hA := h28) ?_
  clear hF
  have hF := True.intro
  repeat (first | refine wD1 ?_ | refine wD2 ?_ | refine wE1 ?_ | refine wE2 ?_ | (refine wE3 ?_; intro _) | (refine wE4 ?_; intro _) | refine wN ?_ | ((with_reducible show evIs _ (_ :: _) _ _); first | refine wQ ?_ | refine wF ?_ | refine wG ?_ | refine wT ?_ | refine wM ?_ | refine wS ?_ | refine wP ?_ | refine wJ ?_ | refine wX ?_ | refine wY ?_ | refine wZ ?_))
  clear hF
  repeat refine evDone ?_
  try (show AW _ _ _ _ _)
  repeat refine AW.seq ?_
  refine AW.condF (by simp []) (by simp []) ?_
  refine AW.skip ?_
  show AW _ _ _ _ _
  repeat refine AW.seq ?_
  refine AW.reg ?_
  have hF := True.intro
  repeat (first | refine wD1 ?_ | refine wD2 ?_ | refine wE1 ?_ | refine wE2 ?_ | (refine wE3 ?_; intro _) | (refine wE4 ?_; intro _) | refine wN ?_ | ((with_reducible show evIs _ (_ :: _) _ _); first | refine wQ ?_ | refine wF ?_ | refine wG ?_ | refine wT ?_ | refine wM ?_ | refine wS ?_ | refine wP ?_ | refine wJ ?_ | refine wX ?_ | refine wY ?_ | refine wZ ?_))
  clear hF
  repeat refine evDone ?_
  try (show AW _ _ _ _ _)
  refine AW.ret (retI rfl ?_)
  simp [a15_res, resOk, resP, resV, ARes.op, R2s, R2, R1s, R1, closeOk, closeV]
theorem f15z : ACall Try.prog 15 [qv [] false] (· = .int .i64 0) := by
  have h28 := f28 [] false
  simp only [qv, items, List.map_nil] at h28 ⊢
  refine a15_of (by simp) ?_
  repeat refine AW.seq ?_
  refine AW.reg ?_
  have hF := True.intro
  repeat (first | refine wD1 ?_ | refine wD2 ?_ | refine wE1 ?_ | refine wE2 ?_ | (refine wE3 ?_; intro _) | (refine wE4 ?_; intro _) | refine wN ?_ | ((with_reducible show evIs _ (_ :: _) _ _); first | refine wQ ?_ | refine wF ?_ | refine wG ?_ | refine wT ?_ | refine wM ?_ | refine wS ?_ | refine wP ?_ | refine wJ ?_ | refine wX ?_ | refine wY ?_ | refine wZ ?_))
  clear hF
  repeat refine evDone ?_
  try (show AW _ _ _ _ _)
  repeat refine AW.seq ?_
  refine AW.reg ?_
  have hF := True.intro
  repeat (first | refine wD1 ?_ | refine wD2 ?_ | refine wE1 ?_ | refine wE2 ?_ | (refine wE3 ?_; intro _) | (refine wE4 ?_; intro _) | refine wN ?_ | ((with_reducible show evIs _ (_ :: _) _ _); first | refine wQ ?_ | refine wF ?_ | refine wG ?_ | refine wT ?_ | refine wM ?_ | refine wS ?_ | refine wP ?_ | refine wJ ?_ | refine wX ?_ | refine wY ?_ | refine wZ ?_))
  clear hF
  repeat refine evDone ?_
  try (show AW _ _ _ _ _)
  have hF := True.intro
  refine wC (hA := h28) ?_
  clear hF
  have hF := True.intro
  repeat (first | refine wD1 ?_ | refine wD2 ?_ | refine wE1 ?_ | refine wE2 ?_ | (refine wE3 ?_; intro _) | (refine wE4 ?_; intro _) | refine wN ?_ | ((with_reducible show evIs _ (_ :: _) _ _); first | refine wQ ?_ | refine wF ?_ | refine wG ?_ | refine wT ?_ | refine wM ?_ | refine wS ?_ | refine wP ?_ | refine wJ ?_ | refine wX ?_ | refine wY ?_ | refine wZ ?_))
  clear hF
  repeat refine evDone ?_
  try (show AW _ _ _ _ _)
  repeat refine AW.seq ?_
  refine AW.condT (by simp []) (by simp []) ?_
  repeat refine AW.seq ?_
  refine AW.reg ?_
  have hF := True.intro
  repeat (first | refine wD1 ?_ | refine wD2 ?_ | refine wE1 ?_ | refine wE2 ?_ | (refine wE3 ?_; intro _) | (refine wE4 ?_; intro _) | refine wN ?_ | ((with_reducible show evIs _ (_ :: _) _ _); first | refine wQ ?_ | refine wF ?_ | refine wG ?_ | refine wT ?_ | refine wM ?_ | refine wS ?_ | refine wP ?_ | refine wJ ?_ | refine wX ?_ | refine wY ?_ | refine wZ ?_))
  clear hF
  repeat refine evDone ?_
  try (show AW _ _ _ _ _)
  refine AW.ret (retI rfl ?_)
  simp [a15_res, resOk, resP, resV, ARes.op, R2s, R2, R1s, R1, closeOk, closeV]
theorem f15n : ACall Try.prog 15 [.nilp] (· = .int .i64 0) := by
  have h28 := f28n
  refine a15_of (by simp) ?_
  repeat refine AW.seq ?_
  refine AW.reg ?_
  have hF := True.intro
  repeat (first | refine wD1 ?_ | refine wD2 ?_ | refine wE1 ?_ | refine wE2 ?_ | (refine wE3 ?_; intro _) | (refine wE4 ?_; intro _) | refine wN ?_ | ((with_reducible show evIs _ (_ :: _) _ _); first | refine wQ ?_ | refine wF ?_ | refine wG ?_ | refine wT ?_ | refine wM ?_ | refine wS ?_ | refine wP ?_ | refine wJ ?_ | refine wX ?_ | refine wY ?_ | refine wZ ?_))
  clear hF
  repeat refine evDone ?_
  try (show AW _ _ _ _ _)
  repeat refine AW.seq ?_
  refine AW.reg ?_
  have hF := True.intro
  repeat (first | refine wD1 ?_ | refine wD2 ?_ | refine wE1 ?_ | refine wE2 ?_ | (refine wE3 ?_; intro _) | (refine wE4 ?_; intro _) | refine wN ?_ | ((with_reducible show evIs _ (_ :: _) _ _); first | refine wQ ?_ | refine wF ?_ | refine wG ?_ | refine wT ?_ | refine wM ?_ | refine wS ?_ | refine wP ?_ | refine wJ ?_ | refine wX ?_ | refine wY ?_ | refine wZ ?_))
  clear hF
  repeat refine evDone ?_
  try (show AW _ _ _ _ _)
  have hF := True.intro
  refine wC (hA := h28) ?_
  clear hF
  have hF := True.intro
  repeat (first | refine wD1 ?_ | refine wD2 ?_ | refine wE1 ?_ | refine wE2 ?_ | (refine wE3 ?_; intro _) | (refine wE4 ?_; intro _) | refine wN ?_ | ((with_reducible show evIs _ (_ :: _) _ _); first | refine wQ ?_ | refine wF ?_ | refine wG ?_ | refine wT ?_ | refine wM ?_ | refine wS ?_ | refine wP ?_ | refine wJ ?_ | refine wX ?_ | refine wY ?_ | refine wZ ?_))
  clear hF
  repeat refine evDone ?_
  try (show AW _ _ _ _ _)
  repeat refine AW.seq ?_
  refine AW.condT (by simp []) (by simp []) ?_
  repeat refine AW.seq ?_
  refine AW.reg ?_
  have hF := True.intro
  repeat (first | refine wD1 ?_ | refine wD2 ?_ | refine wE1 ?_ | refine wE2 ?_ | (refine wE3 ?_; intro _) | (refine wE4 ?_; intro _) | refine wN ?_ | ((with_reducible show evIs _ (_ :: _) _ _); first | refine wQ ?_ | refine wF ?_ | refine wG ?_ | refine wT ?_ | refine wM ?_ | refine wS ?_ | refine wP ?_ | refine wJ ?_ | refine wX ?_ | refine wY ?_ | refine wZ ?_))
  clear hF
  repeat refine evDone ?_
  try (show AW _ _ _ _ _)
  refine AW.ret (retI rfl ?_)
  simp [a15_res, resOk, resP, resV, ARes.op, R2s, R2, R1s, R1, closeOk, closeV]
theorem f22 (x : Item) (xs : List Item) : ACall Try.prog 22 [qv (x :: xs) true] (· = .tup [x.av, .bool true]) := by
  have h28 := f28 (x :: xs) true
  obtain ⟨x1, x2⟩ := x
  have hp : ¬ (xs.length : Int) + 1 = 0 := by omega
  have hq : ((xs.length : Int) + 1 == 0) = false := by simp; omega
  have hr : (0 : Int) < (xs.length : Int) + 1 := by omega
  simp only [qv, items, List.map_cons, Item.av] at h28 ⊢
  refine a22_of (by simp) ?_
  repeat refine AW.seq ?_
  refine AW.reg ?_
  have hF := True.intro
  repeat (first | refine wD1 ?_ | refine wD2 ?_ | refine wE1 ?_ | refine wE2 ?_ | (refine wE3 ?_; intro _) | (refine wE4 ?_; intro _) | refine wN ?_ | ((with_reducible show evIs _ (_ :: _) _ _); first | refine wQ ?_ | refine wF ?_ | refine wG ?_ | refine wT ?_ | refine wM ?_ | refine wS ?_ | refine wP ?_ | refine wJ ?_ | refine wX ?_ | refine wY ?_ | refine wZ ?_))
  clear hF
  repeat refine evDone ?_
  try (show AW _ _ _ _ _)
  repeat refine AW.seq ?_
  refine AW.reg ?_
  have hF := True.intro
  repeat (first | refine wD1 ?_ | refine wD2 ?_ | refine wE1 ?_ | refine wE2 ?_ | (refine wE3 ?_; intro _) | (refine wE4 ?_; intro _) | refine wN ?_ | ((with_reducible show evIs _ (_ :: _) _ _); first | refine wQ ?_ | refine wF ?_ | refine wG ?_ | refine wT ?_ | refine wM ?_ | refine wS ?_ | refine wP ?_ | refine wJ ?_ | refine wX ?_ | refine wY ?_ | refine wZ ?_))
  clear hF
  repeat refine evDone ?_
  try (show AW _ _ _ _ _)
  have hF := True.intro
  refine wC (hA := h28) ?_
  clear hF
  have hF := And.intro (hp) (hq)
  repeat (first | refine wD1 ?_ | refine wD2 ?_ | refine wE1 ?_ | refine wE2 ?_ | (refine wE3 ?_; intro _) | (refine wE4 ?_; intro _) | refine wN ?_ | ((with_reducible show evIs _ (_ :: _) _ _); first | refine wQ ?_ | refine wF ?_ | refine wG ?_ | refine wT ?_ | refine wM ?_ | refine wS ?_ | refine wP ?_ | refine wJ ?_ | refine wX ?_ | refine wY ?_ | refine wZ ?_))
  clear hF
  repeat refine evDone ?_
  try (show AW _ _ _ _ _)
  repeat refine AW.seq ?_
  refine AW.condF (by simp [hp, hq]) (by simp [hp, hq]) ?_
  refine AW.skip ?_
  show AW _ _ _ _ _
  repeat refine AW.seq ?_
  refine AW.reg ?_
  have hF := And.intro (hr) (elemAt.eq_1)
  repeat (first | refine wD1 ?_ | refine wD2 ?_ | refine wE1 ?_ | refine wE2 ?_ | (refine wE3 ?_; intro _) | (refine wE4 ?_; intro _) | refine wN ?_ | ((with_reducible show evIs _ (_ :: _) _ _); first | refine wQ ?_ | refine wF ?_ | refine wG ?_ | refine wT ?_ | refine wM ?_ | refine wS ?_ | refine wP ?_ | refine wJ ?_ | refine wX ?_ | refine wY ?_ | refine wZ ?_))
  clear hF
  repeat refine evDone ?_
  try (show AW _ _ _ _ _)
  refine AW.ret (retI rfl ?_)
  simp [a22_res, resOk, resP, resV, ARes.op, R2s, R2, R1s, R1, closeOk, closeV]
end Go.Proofs.Ytljahaeachdjmaa
